import PyProof.Rows.All
import Wide.All
import OpenK.AllK
import Wide.FinOn
import HandS.ForMost
import HandS.ForExc
import KE.SortData
import HandS.ExcOwn
import HandS.IsInst
import HandS.ExcIs
import HandS.Lambda
import HandS.TupMul
import HandS.Wide
import HandS.TupLe
import KE.DataMinMax
import PyProof.MinMaxWalk
import HandS.TupAny
import HandS.Deep
import HandS.Text
import HandS.Comp
import HandS.Dict
import KE.GoesEnum
import HandS.Zip
import HandS.Iter
import HandS.TryOnly
import HandS.Style
import HandS.Conv
import HandS.TupSets
import HandS.SetFor
import HandS.SortInts
import KE.KRevSl
import HandS.WordsExc
import HandS.HotCalls
import HandS.Ends
import KE.KNest
import PySem.Challenge.RW_framecodes_k64_pulls_refused
set_option linter.all false
set_option maxRecDepth 100000
set_option Elab.async false
/-! Ev1: a small language of pure data, and what it does: data D, expressions E, statements S, functions FD. -/
namespace Fc
open PySem (Str PyData)
open L2 (Key)

/-! ### data -/
inductive D where
  | non | bl (b : Bool) | int (i : Int) | str (x : Str) | tup (xs : List D) | lst (xs : List D) | dic (ks : List Key) (vs : List D) | exv (c : Nat)
inductive R (α : Type) where
  | ok (a : α) | exc (c : Nat) | stk
namespace R
def bind {α β : Type} : R α → (α → R β) → R β
  | .ok a, f => f a
  | .exc c, _ => .exc c
  | .stk, _ => .stk
@[simp] theorem bind_ok {α β : Type} (a : α) (f : α → R β) : R.bind (.ok a) f = f a := rfl
@[simp] theorem bind_exc {α β : Type} (c : Nat) (f : α → R β) : R.bind (.exc c) f = .exc c := rfl
@[simp] theorem bind_stk {α β : Type} (f : α → R β) : R.bind .stk f = .stk := rfl
end R
def opt {α : Type} : Option α → R α
  | some a => .ok a
  | none => .stk
@[simp] theorem opt_some {α : Type} (a : α) : opt (some a) = .ok a := rfl
@[simp] theorem opt_none {α : Type} : opt (none : Option α) = .stk := rfl

mutual
def D.py : D → PyData
  | .non => .none
  | .bl b => .bool b
  | .int i => .int i
  | .str x => .str x
  | .tup xs => .tuple (D.pyL xs)
  | .lst xs => .list (D.pyL xs)
  | .dic _ _ => .dict []
  | .exv _ => .dict []
def D.pyL : List D → List PyData
  | [] => []
  | x :: xs => D.py x :: D.pyL xs
end
mutual
/-- plain data of at most n levels -/
def D.shp (n : Nat) : D → Bool
  | .non => true
  | .bl _ => true
  | .int _ => true
  | .str x => PyData.strOk x
  | .tup xs => match n with
    | 0 => false
    | m + 1 => D.shpL m xs
  | .lst xs => match n with
    | 0 => false
    | m + 1 => D.shpL m xs
  | .dic _ _ => false
  | .exv _ => false
def D.shpL (n : Nat) : List D → Bool
  | [] => true
  | x :: xs => D.shp n x && D.shpL n xs
end
mutual
/-- Python's == of plain data -/
def D.eqv : D → D → Bool
  | .non, .non => true
  | .bl a, .bl b => a == b
  | .bl a, .int j => (if a then 1 else 0) == j
  | .int i, .bl b => i == (if b then 1 else 0)
  | .int i, .int j => i == j
  | .str x, .str y => x == y
  | .lst xs, .lst ys => D.eqvL xs ys
  | .tup xs, .tup ys => D.eqvL xs ys
  | _, _ => false
def D.eqvL : List D → List D → Bool
  | [], [] => true
  | x :: xs, y :: ys => D.eqv x y && D.eqvL xs ys
  | _, _ => false
end
mutual
/-- of the same make: the order tells -/
def D.alk : D → D → Bool
  | .bl _, .bl _ => true
  | .int _, .int _ => true
  | .str _, .str _ => true
  | .tup xs, .tup ys => D.alkL xs ys
  | _, _ => false
def D.alkL : List D → List D → Bool
  | [], [] => true
  | x :: xs, y :: ys => D.alk x y && D.alkL xs ys
  | _, _ => false
end
mutual
/-- Python's < of data of the same make -/
def D.lt : D → D → Bool
  | .bl a, .bl b => !a && b
  | .int i, .int j => decide (i < j)
  | .str x, .str y => decide (x.cps.toList < y.cps.toList)
  | .tup xs, .tup ys => D.ltL xs ys
  | _, _ => false
def D.ltL : List D → List D → Bool
  | x :: xs, y :: ys => if D.eqv x y then D.ltL xs ys else D.lt x y
  | [], _ :: _ => true
  | _, _ => false
end
def sizeMax : Nat := 16777216

/-! ### operators -/
inductive BOp where
  | add | sub | mul | fdiv | mod | pow
inductive COp where
  | eq | ne | lt | le | gt | ge | isIn | notIn | is | isnot
inductive Ty where
  | int | bool | str | tup | lst | exc (c : Nat) | verr
inductive B1 where
  | len | all | any | sum | sorted | sortset | sortsetI | tuple | list | str | int | abs | max
inductive B2 where
  | min | max
inductive M1 where
  | join | split | count | index
inductive M2 where
  | replace | get

/-- a size that a product may have -/
def smallI (i : Int) : Bool := decide (i.natAbs.log2 < 64)
def mkL (xs : List D) : R D := if xs.length ≤ sizeMax then .ok (.lst xs) else .stk
def mkT (xs : List D) : R D := if xs.length ≤ sizeMax then .ok (.tup xs) else .stk
def mkS (x : Str) : R D := if x.length ≤ sizeMax then .ok (.str x) else .stk
def rep {α : Type} (xs : List α) (n : Nat) : List α := (List.replicate n xs).flatten

def binop : BOp → D → D → R D
  | .add, .int i, .int j => .ok (.int (i + j))
  | .add, .str x, .str y => if x.length + y.length ≤ sizeMax then .ok (.str (x ++ y)) else .stk
  | .add, .tup xs, .tup ys => if xs.length + ys.length ≤ sizeMax then .ok (.tup (xs ++ ys)) else .stk
  | .add, .lst xs, .lst ys => if xs.length + ys.length ≤ sizeMax then .ok (.lst (xs ++ ys)) else .stk
  | .sub, .int i, .int j => .ok (.int (i - j))
  | .mul, .int i, .int j => if smallI i || smallI j then .ok (.int (i * j)) else .stk
  | .mul, .lst xs, .int k => if xs.length * k.toNat ≤ sizeMax ∧ k.natAbs.log2 < 19 then .ok (.lst (rep xs k.toNat)) else .stk
  | .mul, .tup xs, .int k => if xs ≠ [] ∧ 2 ≤ k ∧ k ≤ 1000 ∧ xs.length ≤ 1000 then .ok (.tup (rep xs k.toNat)) else .stk
  | .mul, .str x, .int k => if x.length * k.toNat ≤ sizeMax ∧ k.natAbs.log2 < 19 then .ok (.str ⟨(rep x.cps.toList k.toNat).toArray⟩) else .stk
  | .fdiv, .int i, .int j => if j ≠ 0 ∧ j.natAbs < 1073741824 then .ok (.int (i.fdiv j)) else .stk
  | .mod, .int i, .int j => if j ≠ 0 then .ok (.int (i.fmod j)) else .stk
  | .pow, .int i, .int j => if 0 ≤ j ∧ j ≤ 1000 ∧ i.natAbs < 2 ^ 64 then .ok (.int (i ^ j.toNat)) else .stk
  | _, _, _ => .stk

def flatD : D → Bool
  | .non => true
  | .bl _ => true
  | .int _ => true
  | .str _ => true
  | _ => false
def keyOf : D → Option Key
  | .int i => some (.inl i)
  | .str x => some (.inr x)
  | _ => none
def dget : List Key → List D → Key → Option D
  | k :: ks, v :: vs, x => if k = x then some v else dget ks vs x
  | _, _, _ => none
/-- is x within -/
def memD (x : D) : D → R Bool
  | .lst xs => if D.shp 60 x && D.shp 60 (.lst xs) then .ok (xs.any fun y => D.eqv y x) else .stk
  | .tup xs => if D.shp 60 x && D.shp 60 (.tup xs) then .ok (xs.any fun y => D.eqv y x) else .stk
  | .str z => match x with
    | .str y => if y.cps.size = 1 then .ok (decide (y.cps.getD 0 0 ∈ z.cps.toList)) else .stk
    | _ => .stk
  | .dic ks vs => match keyOf x with
    | some k => .ok (dget ks vs k).isSome
    | none => .stk
  | _ => .stk
def isNon : D → Bool
  | .non => true
  | _ => false
/-- x is y, of None and truths alone -/
def isD : D → D → R Bool
  | x, .non => .ok (isNon x)
  | .bl a, .bl b => .ok (a == b)
  | .non, .bl _ => .ok false
  | .int _, .bl _ => .ok false
  | .str _, .bl _ => .ok false
  | .tup _, .bl _ => .ok false
  | .lst _, .bl _ => .ok false
  | _, _ => .stk
def cmpop : COp → D → D → R Bool
  | .eq, a, b => if D.shp 60 a && D.shp 60 b then .ok (D.eqv a b) else .stk
  | .ne, a, b => if D.shp 60 a && D.shp 60 b then .ok (!D.eqv a b) else .stk
  | .lt, a, b => if D.alk a b && D.shp 60 a && D.shp 60 b then .ok (D.lt a b) else .stk
  | .gt, a, b => if D.alk a b && D.shp 60 a && D.shp 60 b then .ok (D.lt b a) else .stk
  | .le, a, b => if D.alk a b && D.shp 60 a && D.shp 60 b then .ok (!D.lt b a) else .stk
  | .ge, a, b => if D.alk a b && D.shp 60 a && D.shp 60 b then .ok (!D.lt a b) else .stk
  | .isIn, a, b => memD a b
  | .notIn, a, b => (memD a b).bind fun r => .ok (!r)
  | .is, a, b => isD a b
  | .isnot, a, b => (isD a b).bind fun r => .ok (!r)

def allB : List D → Option (List Bool)
  | [] => some []
  | .bl b :: r => (allB r).map (b :: ·)
  | _ => none
def allI : List D → Option (List Int)
  | [] => some []
  | .int b :: r => (allI r).map (b :: ·)
  | _ => none
def allS : List D → Option (List Str)
  | [] => some []
  | .str b :: r => (allS r).map (b :: ·)
  | _ => none
/-- all of one make -/
def alkAll (xs : List D) : Bool := xs.all fun x => xs.all fun y => D.alk x y && D.shp 60 x
def sortD (xs : List D) : List D := xs.mergeSort fun a b => !D.lt b a
/-- what may be sorted: all of one make, no empty tuples -/
def sortable : D → Bool
  | .tup [] => false
  | _ => true
def canSort (xs : List D) : Bool := alkAll xs && xs.all sortable && decide (xs.length ≤ sizeMax)
def dedD : List D → List D
  | [] => []
  | x :: r => if r.any (D.eqv x) then dedD r else x :: dedD r
/-- codes: four numbers below 64 each -/
def cod4 : List Int → Int
  | [a, b, c, d] => ((a * 64 + b) * 64 + c) * 64 + d
  | _ => 0
def asC : D → Option (List Int)
  | .tup [.int a, .int b, .int c, .int d] => if 0 ≤ a ∧ a < 64 ∧ 0 ≤ b ∧ b < 64 ∧ 0 ≤ c ∧ c < 64 ∧ 0 ≤ d ∧ d < 64 then some [a, b, c, d] else none
  | _ => none
def asCs : List D → Option (List (List Int))
  | [] => some []
  | x :: r => match asC x, asCs r with
    | some c, some cs => some (c :: cs)
    | _, _ => none
/-- each once, rising -/
def insC (x : List Int) : List (List Int) → List (List Int)
  | [] => [x]
  | y :: r => if cod4 x < cod4 y then x :: y :: r else if cod4 x = cod4 y then y :: r else y :: insC x r
def sdC (l : List (List Int)) : List (List Int) := l.foldr insC []
/-- numbers, each once, rising -/
def insI (x : Int) : List Int → List Int
  | [] => [x]
  | y :: r => if x < y then x :: y :: r else if x = y then y :: r else y :: insI x r
def sdI (l : List Int) : List Int := l.foldr insI []
def b1 : B1 → D → R D
  | .len, .str x => if x.length ≤ sizeMax then .ok (.int x.length) else .stk
  | .len, .lst xs => .ok (.int xs.length)
  | .len, .tup xs => .ok (.int xs.length)
  | .all, .lst xs => (opt (allB xs)).bind fun bs => .ok (.bl (bs.all id))
  | .any, .lst xs => (opt (allB xs)).bind fun bs => .ok (.bl (bs.any id))
  | .sum, .lst xs => (opt (allI xs)).bind fun ns => .ok (.int ns.sum)
  | .max, .lst xs => (opt (allI xs)).bind fun ns => match ns with
    | [] => .stk
    | n :: r => .ok (.int (r.foldl max n))
  | .sorted, .lst xs => if canSort xs then .ok (.lst (sortD xs)) else .stk
  | .sortset, .lst xs => (opt (asCs xs)).bind fun cs => if cs.length < 64 then .ok (.lst ((sdC cs).map fun c => .tup (c.map .int))) else .stk
  | .sortsetI, .lst xs => (opt (allI xs)).bind fun ns => if ns.length < 4000 then .ok (.lst ((sdI ns).map .int)) else .stk
  | .tuple, .lst xs => .ok (.tup xs)
  | .tuple, .tup xs => .ok (.tup xs)
  | .list, .lst xs => .ok (.lst xs)
  | .list, .tup xs => .ok (.lst xs)
  | .str, .int i => if i.natAbs.log2 < 1920 then .ok (.str (toString i)) else .stk
  | .int, .str x => if x.length ≤ 640 then (opt (PySem.intText? x)).bind fun n => .ok (.int n) else .stk
  | .abs, .int i => .ok (.int (if i < 0 then -i else i))
  | _, _ => .stk
def b2 : B2 → D → D → R D
  | .min, .int i, .int j => .ok (.int (if j < i then j else i))
  | .max, .int i, .int j => .ok (.int (if j > i then j else i))
  | .min, .tup xs, .tup ys => if D.alk (.tup xs) (.tup ys) && D.shp 60 (.tup xs) && D.shp 60 (.tup ys) then .ok (if D.lt (.tup ys) (.tup xs) then .tup ys else .tup xs) else .stk
  | .max, .tup xs, .tup ys => if D.alk (.tup xs) (.tup ys) && D.shp 60 (.tup xs) && D.shp 60 (.tup ys) then .ok (if D.lt (.tup xs) (.tup ys) then .tup ys else .tup xs) else .stk
  | _, _, _ => .stk
/-- the first place of x -/
def findD (x : D) : List D → Option Nat
  | [] => none
  | y :: r => if D.eqv y x then some 0 else (findD x r).map (· + 1)
def m1 : M1 → D → D → R D
  | .join, .str s, .lst xs => (opt (allS xs)).bind fun ys => if (ys.map (·.length)).sum + ys.length * s.length ≤ sizeMax then .ok (.str (PySem.Txt.join s ys)) else .stk
  | .split, .str x, .str s => if s.length ≠ 0 ∧ x.length + 2 ≤ sizeMax then .ok (.lst ((PySem.Txt.split x s).map .str)) else .stk
  | .count, .lst xs, x => if flatD x && xs.all flatD then .ok (.int ((xs.filter fun y => D.eqv y x).length : Nat)) else .stk
  | .index, .lst xs, x => if flatD x && xs.all flatD then (opt (findD x xs)).bind fun i => .ok (.int (i : Nat)) else .stk
  | _, _, _ => .stk
def repl1 (a b : Nat) (z : List Nat) : List Nat := z.map fun c => if c = a then b else c
def m2 : M2 → D → D → D → R D
  | .replace, .str x, .str a, .str b => if x.length ≤ sizeMax ∧ a.cps.size = 1 ∧ b.cps.size = 1 then .ok (.str ⟨(repl1 (a.cps.getD 0 0) (b.cps.getD 0 0) x.cps.toList).toArray⟩) else .stk
  | .get, .dic ks vs, k, d => (opt (keyOf k)).bind fun k => .ok ((dget ks vs k).getD d)
  | _, _, _, _ => .stk
/-- what has the method -/
def rcv1 : M1 → D → Bool
  | .join, .str _ => true
  | .split, .str _ => true
  | .count, .lst _ => true
  | .index, .lst _ => true
  | _, _ => false
def rcv2 : M2 → D → Bool
  | .replace, .str _ => true
  | .get, .dic _ _ => true
  | _, _ => false
/-- is class c of the class d or below: 0 is CodeError, above all others -/
def subC (c d : Nat) : Bool := c == d || d == 0
def isTy : D → Ty → R Bool
  | .non, .int => .ok false | .non, .bool => .ok false | .non, .str => .ok false | .non, .tup => .ok false | .non, .lst => .ok false
  | .bl _, .int => .ok true | .bl _, .bool => .ok true | .bl _, .str => .ok false | .bl _, .tup => .ok false | .bl _, .lst => .ok false
  | .int _, .int => .ok true | .int _, .bool => .ok false | .int _, .str => .ok false | .int _, .tup => .ok false | .int _, .lst => .ok false
  | .str _, .int => .ok false | .str _, .bool => .ok false | .str _, .str => .ok true | .str _, .tup => .ok false | .str _, .lst => .ok false
  | .tup _, .int => .ok false | .tup _, .bool => .ok false | .tup _, .str => .ok false | .tup _, .tup => .ok true | .tup _, .lst => .ok false
  | .lst _, .int => .ok false | .lst _, .bool => .ok false | .lst _, .str => .ok false | .lst _, .tup => .ok false | .lst _, .lst => .ok true
  | .exv c, .exc d => .ok (subC c d)
  | .exv _, .verr => .ok true
  | _, _ => .stk
/-- a slice -/
def cut {α : Type} (xs : List α) (lo hi : Option Int) : List α := (xs.drop (HT.sIx xs.length 0 lo)).take (HT.sIx xs.length xs.length hi - HT.sIx xs.length 0 lo)
def sliceD : D → Option Int → Option Int → R D
  | .lst xs, lo, hi => .ok (.lst (cut xs lo hi))
  | .tup xs, lo, hi => .ok (.tup (cut xs lo hi))
  | .str x, lo, hi => if x.length ≤ sizeMax then .ok (.str ⟨(cut x.cps.toList lo hi).toArray⟩) else .stk
  | _, _, _ => .stk
def revD : D → R D
  | .lst xs => .ok (.lst xs.reverse)
  | .tup xs => .ok (.tup xs.reverse)
  | _ => .stk
def ixD : D → D → R D
  | .lst xs, .int i => opt (L2.atI xs i)
  | .tup xs, .int i => opt (L2.atI xs i)
  | .str x, .int i => if x.length ≤ sizeMax then (opt (L2.atI x.cps.toList i)).bind fun c => .ok (.str ⟨#[c]⟩) else .stk
  | .dic ks vs, k => (opt (keyOf k)).bind fun k => opt (dget ks vs k)
  | _, _ => .stk
def asB : D → R Bool
  | .bl b => .ok b
  | _ => .stk
def asI : D → R Int
  | .int i => .ok i
  | _ => .stk
def asL : D → R (List D)
  | .lst xs => .ok xs
  | _ => .stk
/-- a range -/
def rangeD (lo : Int) (n : Nat) : List D := (List.range n).map fun (k : Nat) => D.int (lo + (k : Int))
def midR (i : Int) : Bool := decide (i.natAbs.log2 < 61)
def enumD (n : Nat) : List D → List D
  | [] => []
  | x :: r => .tup [.int n, x] :: enumD (n + 1) r
def zip2 : List D → List D → List D
  | x :: xs, y :: ys => .tup [x, y] :: zip2 xs ys
  | _, _ => []
def zip3 : List D → List D → List D → List D
  | x :: xs, y :: ys, z :: zs => .tup [x, y, z] :: zip3 xs ys zs
  | _, _, _ => []

def zipD : D → D → R (List D)
  | .lst xs, .lst ys => .ok (zip2 xs ys)
  | .tup xs, .tup ys => .ok (zip2 xs ys)
  | .lst xs, .tup ys => .ok (zip2 xs ys)
  | .tup xs, .lst ys => .ok (zip2 xs ys)
  | _, _ => .stk
/-- what a for walks -/
def seqD : D → R (List D)
  | .lst xs => .ok xs
  | .tup xs => .ok xs
  | _ => .stk
def itemsD : D → R (List D)
  | .lst xs => .ok xs
  | .tup xs => .ok xs
  | .str z => .ok (z.cps.toList.map fun c => .str ⟨#[c]⟩)
  | _ => .stk

/-! ### slots: what a name holds -/
inductive Sl where
  | no | val (d : D) | own (xs : List D) | own2 (xss : List (List D)) | ownd (ks : List Key) (vs : List D)
def lk : List Sl → Nat → Sl
  | [], _ => .no
  | x :: _, 0 => x
  | _ :: r, n + 1 => lk r n
def st1 : List Sl → Nat → Sl → List Sl
  | [], _, _ => []
  | _ :: r, 0, v => v :: r
  | x :: r, n + 1, v => x :: st1 r n v
def Sl.rd : Sl → R D
  | .val d => .ok d
  | _ => .stk
def Sl.br : Sl → R D
  | .val d => .ok d
  | .own xs => .ok (.lst xs)
  | .ownd ks vs => .ok (.dic ks vs)
  | _ => .stk
def Sl.br2 : Sl → R D
  | .own2 xss => .ok (.lst (xss.map .lst))
  | .own xs => .ok (.lst xs)
  | _ => .stk

/-! ### the language -/
/-- targets: a name; a tuple of targets -/
inductive Tg where
  | nm (i : Nat) | tn | tc (a b : Tg)
mutual
inductive E where
  | var (i : Nat) | brw (i : Nat) | brw2 (i : Nat)
  | c (d : D)
  | gl (n : Nat)
  | bin (op : BOp) (a b : E)
  | neg (a : E)
  | cmp (op : COp) (a b : E)
  | chain (o1 o2 : COp) (a b c : E)
  | and (a b : E) | or (a b : E) | not (a : E)
  | ite (c a b : E)
  | call (f : Nat) (es : Es)
  | callix (fs : List Nat) (i : E) (es : Es)
  | b1 (f : B1) (a : E) | b2 (f : B2) (a b : E)
  | m1 (f : M1) (a b : E) | m2 (f : M2) (a b c : E)
  | isi (a : E) (t : Ty)
  | ix (a b : E)
  | ix2 (i : Nat) (a b : E)
  | sl (a : E) (lo hi : Option E)
  | rev (a : E)
  | lrg (a b : E)
  | lzip (a b : E)
  | told (t w : Nat) (e : E)
  | tup (es : Es) | lst (es : Es) | dct (ks : List Key) (es : Es)
  | lc (elt : E) (tg : Tg) (it : It) (cond : Option E)
inductive Es where
  | nil | cons (e : E) (r : Es)
/-- what a for walks: a list, a tuple, a text, ranges, pairs -/
inductive It where
  | e (a : E) | rg1 (e : E) | rg2 (a b : E) | zip (a b : E) | zip3 (a b c : E) | enum (e : E)
end
inductive S where
  | skip
  | seq (a b : S)
  | set (i : Nat) (e : E)
  | setO (i : Nat) (e : E)
  | frz (i : Nat)
  | unp (t : Tg) (e : E)
  | par (t : List Nat) (o : List Bool) (es : Es)
  | app (i : Nat) (e : E)
  | app2 (i : Nat) (es : Es)
  | ext (i : Nat) (e : E)
  | setIx (i : Nat) (ix e : E)
  | setIx2 (i : Nat) (a b e : E)
  | ifs (c : E) (a b : S)
  | for_ (t : Tg) (it : It) (b : S)
  | while_ (c : E) (b : S)
  | ret (e : E)
  | brk | cont
  | raise (c : Nat)
  | expr (e : E)
  /-- try: b; except c as i: j = i -/
  | tryK (b : S) (c i j : Nat)
  /-- try: b; except c: return d, or continue -/
  | tryC (b : S) (c : Nat) (h : Option D)
structure FD where
  np : Nat
  ns : Nat
  fresh : Bool
  body : S

/-! ### what it does -/
mutual
def asg : Tg → D → List Sl → R (List Sl)
  | .nm i, d, σ => .ok (st1 σ i (.val d))
  | .tn, d, σ => (seqD d).bind fun xs => match xs with
    | [] => .ok σ
    | _ => .stk
  | .tc a b, d, σ => (seqD d).bind fun xs => match xs with
    | x :: r => (asg a x σ).bind fun σ => asgL b r σ
    | [] => .stk
def asgL : Tg → List D → List Sl → R (List Sl)
  | .tn, [], σ => .ok σ
  | .tc a b, x :: r, σ => (asg a x σ).bind fun σ => asgL b r σ
  | _, _, _ => .stk
end
/-- the places of a target's names -/
def tgv : Tg → List Nat
  | .nm i => [i]
  | .tn => []
  | .tc a b => tgv a ++ tgv b
def wipeS (σ : List Sl) : List Nat → List Sl
  | [] => σ
  | v :: vs => st1 (wipeS σ vs) v .no
def mapR {α β : Type} (f : α → R β) : List α → R (List β)
  | [] => .ok []
  | x :: r => (f x).bind fun y => (mapR f r).bind fun ys => .ok (y :: ys)
def lcGo (f : D → R (List Sl)) (cond : List Sl → R Bool) (elt : List Sl → R D) : List D → R (List D)
  | [] => .ok []
  | x :: r => (f x).bind fun σ => (cond σ).bind fun b => match b with
    | false => lcGo f cond elt r
    | true => (elt σ).bind fun y => (lcGo f cond elt r).bind fun ys => .ok (y :: ys)
/-- inside of a comprehension nothing is raised -/
def noX {α : Type} : R α → R α
  | .ok a => .ok a
  | _ => .stk
section
variable (G : Nat → R D) (C : Nat → List D → R D)
mutual
def ev (σ : List Sl) : E → R D
  | .var i => (lk σ i).rd
  | .brw i => (lk σ i).br
  | .brw2 i => (lk σ i).br2
  | .c d => .ok d
  | .gl n => G n
  | .bin op a b => (ev σ a).bind fun x => (ev σ b).bind fun y => binop op x y
  | .neg a => (ev σ a).bind fun x => (asI x).bind fun i => .ok (.int (-i))
  | .cmp op a b => (ev σ a).bind fun x => (ev σ b).bind fun y => (cmpop op x y).bind fun r => .ok (.bl r)
  | .chain o1 o2 a b c => (ev σ a).bind fun x => (ev σ b).bind fun y => (cmpop o1 x y).bind fun r => match r with
    | true => (ev σ c).bind fun z => (cmpop o2 y z).bind fun r => .ok (.bl r)
    | false => .ok (.bl false)
  | .and a b => (ev σ a).bind fun x => (asB x).bind fun r => match r with
    | true => (ev σ b).bind fun y => (asB y).bind fun r => .ok (.bl r)
    | false => .ok (.bl false)
  | .or a b => (ev σ a).bind fun x => (asB x).bind fun r => match r with
    | true => .ok (.bl true)
    | false => (ev σ b).bind fun y => (asB y).bind fun r => .ok (.bl r)
  | .not a => (ev σ a).bind fun x => (asB x).bind fun r => .ok (.bl (!r))
  | .ite c a b => (ev σ c).bind fun x => (asB x).bind fun r => match r with
    | true => ev σ a
    | false => ev σ b
  | .call f es => (evs σ es).bind fun xs => C f xs
  | .callix fs i es => (ev σ i).bind fun x => (asI x).bind fun i => (opt (L2.atI fs i)).bind fun f => (evs σ es).bind fun xs => C f xs
  | .b1 f a => (ev σ a).bind fun x => b1 f x
  | .b2 f a b => (ev σ a).bind fun x => (ev σ b).bind fun y => b2 f x y
  | .m1 f a b => (ev σ a).bind fun x => if rcv1 f x then (ev σ b).bind fun y => m1 f x y else .stk
  | .m2 f a b c => (ev σ a).bind fun x => if rcv2 f x then (ev σ b).bind fun y => (ev σ c).bind fun z => m2 f x y z else .stk
  | .isi a t => (ev σ a).bind fun x => (isTy x t).bind fun r => .ok (.bl r)
  | .ix a b => (ev σ a).bind fun x => (ev σ b).bind fun y => ixD x y
  | .ix2 i a b => match lk σ i with
    | .own2 xss => (ev σ a).bind fun x => (asI x).bind fun k => (opt (L2.atI xss k)).bind fun xs => (ev σ b).bind fun y => (asI y).bind fun j => opt (L2.atI xs j)
    | _ => .stk
  | .sl a lo hi => (ev σ a).bind fun x => (evo σ lo).bind fun l => (evo σ hi).bind fun h => sliceD x l h
  | .rev a => (ev σ a).bind fun x => revD x
  | .lrg a b => (ev σ a).bind fun x => (ev σ b).bind fun y => (asI x).bind fun lo => (asI y).bind fun hi => if midR lo && midR hi && decide ((hi - lo).toNat ≤ 16777216) then .ok (.lst (rangeD lo (hi - lo).toNat)) else .stk
  | .lzip a b => (ev σ a).bind fun x => (ev σ b).bind fun y => (zipD x y).bind mkL
  | .told _ w e => match ev σ e with
    | .ok d => .ok d
    | .exc c => (match C w [.exv c] with
      | .ok (.str z) => .ok (.str z)
      | _ => .stk)
    | .stk => .stk
  | .tup es => (evs σ es).bind fun xs => mkT xs
  | .lst es => (evs σ es).bind fun xs => mkL xs
  | .dct ks es => (evs σ es).bind fun xs => if xs.length = ks.length ∧ ks.length ≤ 15 ∧ ks.Nodup then .ok (.dic ks xs) else .stk
  | .lc elt tg it cond => (evi σ it).bind fun xs => noX ((lcGo (fun x => asg tg x (wipeS σ (tgv tg))) (fun σ => evc σ cond) (fun σ => ev σ elt) xs).bind mkL)
def evs (σ : List Sl) : Es → R (List D)
  | .nil => .ok []
  | .cons e r => (ev σ e).bind fun x => (evs σ r).bind fun xs => .ok (x :: xs)
def evo (σ : List Sl) : Option E → R (Option Int)
  | none => .ok none
  | some e => (ev σ e).bind fun x => (asI x).bind fun i => .ok (some i)
def evc (σ : List Sl) : Option E → R Bool
  | none => .ok true
  | some e => (ev σ e).bind asB
def evi (σ : List Sl) : It → R (List D)
  | .e e => (ev σ e).bind fun x => itemsD x
  | .rg1 e => (ev σ e).bind fun x => (asI x).bind fun n => if midR n then .ok (rangeD 0 n.toNat) else .stk
  | .rg2 a b => (ev σ a).bind fun x => (ev σ b).bind fun y => (asI x).bind fun lo => (asI y).bind fun hi => if midR lo && midR hi then .ok (rangeD lo (hi - lo).toNat) else .stk
  | .zip a b => (ev σ a).bind fun x => (ev σ b).bind fun y => zipD x y
  | .zip3 a b c => (ev σ a).bind fun x => (ev σ b).bind fun y => (ev σ c).bind fun z => (seqD x).bind fun xs => (seqD y).bind fun ys => (seqD z).bind fun zs => .ok (zip3 xs ys zs)
  | .enum e => (ev σ e).bind fun x => (asL x).bind fun xs => .ok (enumD 0 xs)
end
end
/-- a statement's end -/
inductive O where
  | nx (σ : List Sl) | rt (d : D) | bk (σ : List Sl) | ct (σ : List Sl) | ex (c : Nat) (σ : List Sl) | stk
def O.ofR {α : Type} (σ : List Sl) : R α → (α → O) → O
  | .ok a, f => f a
  | .exc c, _ => .ex c σ
  | .stk, _ => .stk
@[simp] theorem ofR_ok {α : Type} (σ : List Sl) (a : α) (f : α → O) : O.ofR σ (.ok a) f = f a := rfl
@[simp] theorem ofR_exc {α : Type} (σ : List Sl) (c : Nat) (f : α → O) : O.ofR σ (.exc c) f = .ex c σ := rfl
@[simp] theorem ofR_stk {α : Type} (σ : List Sl) (f : α → O) : O.ofR σ .stk f = .stk := rfl
def O.thn : O → (List Sl → O) → O
  | .nx σ, f => f σ
  | o, _ => o
/-- a for's turns -/
def forGo (body : List Sl → O) (set : D → List Sl → R (List Sl)) : List D → List Sl → O
  | [], σ => .nx σ
  | x :: r, σ => O.ofR σ (set x σ) fun σ => match body σ with
    | .nx σ => forGo body set r σ
    | .ct σ => forGo body set r σ
    | .bk σ => .nx σ
    | o => o
/-- a while's turns, so many at the most -/
def whGo (test : List Sl → R Bool) (body : List Sl → O) : Nat → List Sl → O
  | 0, _ => .stk
  | n + 1, σ => O.ofR σ (test σ) fun b => match b with
    | false => .nx σ
    | true => match body σ with
      | .nx σ => whGo test body n σ
      | .ct σ => whGo test body n σ
      | .bk σ => .nx σ
      | o => o
def ownD : D → R Sl
  | .lst xs => .ok (.own xs)
  | .dic ks vs => .ok (.ownd ks vs)
  | _ => .stk
def stAll : List Sl → List Nat → List Bool → List D → R (List Sl)
  | σ, [], [], [] => .ok σ
  | σ, i :: is, o :: os, x :: xs => match o with
    | true => (ownD x).bind fun s => stAll (st1 σ i s) is os xs
    | false => stAll (st1 σ i (.val x)) is os xs
  | _, _, _, _ => .stk
def frzS : Sl → Sl
  | .own xs => .val (.lst xs)
  | .own2 xss => .val (.lst (xss.map .lst))
  | .ownd ks vs => .val (.dic ks vs)
  | s => s
section
variable (G : Nat → R D) (C : Nat → List D → R D) (F : Nat)
def evst (fresh : Bool) (σ : List Sl) : S → O
  | .skip => .nx σ
  | .seq a b => (evst fresh σ a).thn fun σ => evst fresh σ b
  | .set i e => O.ofR σ (ev G C σ e) fun d => .nx (st1 σ i (.val d))
  | .setO i e => O.ofR σ (ev G C σ e) fun d => O.ofR σ (ownD d) fun s => .nx (st1 σ i s)
  | .frz i => .nx (st1 σ i (frzS (lk σ i)))
  | .unp t e => O.ofR σ (ev G C σ e) fun d => O.ofR σ (asg t d σ) fun σ => .nx σ
  | .par t o es => O.ofR σ (evs G C σ es) fun xs => O.ofR σ (stAll σ t o xs) fun σ => .nx σ
  | .app i e => match lk σ i with
    | .own xs => O.ofR σ (ev G C σ e) fun d => if xs.length < sizeMax then .nx (st1 σ i (.own (xs ++ [d]))) else .stk
    | _ => .stk
  | .app2 i es => match lk σ i with
    | .own2 xss => O.ofR σ (evs G C σ es) fun ds => if xss.length < sizeMax ∧ ds.length ≤ sizeMax then .nx (st1 σ i (.own2 (xss ++ [ds]))) else .stk
    | .own xs => O.ofR σ (evs G C σ es) fun ds => match xs with
      | [] => if ds.length ≤ sizeMax then .nx (st1 σ i (.own2 [ds])) else .stk
      | _ => .stk
    | _ => .stk
  | .ext i e => match lk σ i with
    | .own xs => O.ofR σ (ev G C σ e) fun d => O.ofR σ (asL d) fun ds => if xs.length + ds.length ≤ sizeMax then .nx (st1 σ i (.own (xs ++ ds))) else .stk
    | _ => .stk
  | .setIx i a e => O.ofR σ (ev G C σ e) fun d => match lk σ i with
    | .own xs => O.ofR σ (ev G C σ a) fun k => O.ofR σ (asI k) fun k => O.ofR σ (opt (L2.ixN xs.length k)) fun j => .nx (st1 σ i (.own (xs.set j d)))
    | _ => .stk
  | .setIx2 i a b e => O.ofR σ (ev G C σ e) fun d => match lk σ i with
    | .own2 xss => O.ofR σ (ev G C σ a) fun k => O.ofR σ (asI k) fun k => O.ofR σ (opt (L2.ixN xss.length k)) fun j => O.ofR σ (opt xss[j]?) fun xs =>
      O.ofR σ (ev G C σ b) fun k => O.ofR σ (asI k) fun k => O.ofR σ (opt (L2.ixN xs.length k)) fun h => .nx (st1 σ i (.own2 (xss.set j (xs.set h d))))
    | _ => .stk
  | .ifs c a b => O.ofR σ (ev G C σ c) fun x => O.ofR σ (asB x) fun r => match r with
    | true => evst fresh σ a
    | false => evst fresh σ b
  | .for_ t it b => O.ofR σ (evi G C σ it) fun xs => forGo (fun σ => evst fresh σ b) (asg t) xs σ
  | .while_ c b => whGo (fun σ => (ev G C σ c).bind asB) (fun σ => evst fresh σ b) F σ
  | .ret e => match e with
    | .brw i => (match lk σ i with
      | .own xs => .rt (.lst xs)
      | _ => .stk)
    | e => O.ofR σ (ev G C σ e) fun d => .rt d
  | .brk => .bk σ
  | .cont => .ct σ
  | .raise c => .ex c σ
  | .expr e => O.ofR σ (ev G C σ e) fun _ => .nx σ
  | .tryK b c i j => match evst fresh σ b with
    | .ex k σ => (match subC k c with
      | true => .nx (st1 (st1 (st1 σ i (.val (.exv k))) j (.val (.exv k))) i .no)
      | false => .ex k σ)
    | o => o
  | .tryC b c h => match evst fresh σ b with
    | .ex k σ => (match subC k c with
      | true => (match h with
        | some d => .rt d
        | none => .ct σ)
      | false => .ex k σ)
    | o => o
end
abbrev Tab := Nat → Option FD
def body (G : Nat → R D) (C : Nat → List D → R D) (F : Nat) (fd : FD) (args : List D) : R D :=
  if args.length = fd.np then
    match evst G C F fd.fresh (args.map Sl.val ++ List.replicate (fd.ns - fd.np) Sl.no) fd.body with
    | .rt d => .ok d
    | .nx _ => if fd.fresh then .stk else .ok .non
    | .ex c _ => .exc c
    | _ => .stk
  else .stk
/-- a call of the function f, so many calls deep at the most; G the module's constants, F a bound of a while's turns -/
def callF (T : Tab) (G : Nat → R D) (F : Nat) : Nat → Nat → List D → R D
  | 0, _, _ => .stk
  | k + 1, f, args => match T f with
    | some fd => body G (callF T G F k) F fd args
    | none => .stk
end Fc
/-! Ev2a: how data stand in the abstract heap. -/
namespace Fc
open PySem PySem.Spec
open PyProof.Rows L2

/-- the written part, where the error classes stand, the module's own dicts -/
structure Mx where
  K : PySem.W.Frag
  ca : Nat → Addr
  tabs : List (Addr × Obj × List (Key × V))
  xc : Nat → Bool
  /-- the error that is handled -/
  hot : Option (Addr × Nat) := none

/-- an error object of class c -/
def ExF (m : Mx) (c : Nat) (a : Addr) : HO := .ext fun h => ∃ (oe : Obj) (vs : Array Value), h.get? a = some oe ∧ Zc (.ref (m.ca c)) none oe ∧ oe.data = .fields vs
/-- what never changes any more -/
def Fz : HO → Prop
  | .frz _ _ => True
  | .tup _ => True
  | .ext _ => True
  | _ => False
/-- the tables of code objects that lambdas are noted in: where, and the lambdas' name -/
class Tb where
  T : List (Addr × Str)
variable [Tb]
def isTbl : HO → Bool
  | .tbl _ => true
  | _ => false
theorem fz_tbl : ∀ {o : HO}, Fz o → isTbl o = false
  | .frz _ _, _ => rfl
  | .tup _, _ => rfl
  | .ext _, _ => rfl
/-- all that was there is as it was; but tables grow -/
structure Same (H H' : Hp) : Prop where
  k : ∀ a o, H a = some o → isTbl o = false → H' a = some o
  t : LamX.Tabs Tb.T H → LamX.Tabs Tb.T H'
theorem Same.refl (H : Hp) : Same H H := ⟨fun _ _ h _ => h, id⟩
theorem Same.trans {H H1 H2 : Hp} (x : Same H H1) (y : Same H1 H2) : Same H H2 := ⟨fun a o h f => y.k a o (x.k a o h f) f, fun t => y.t (x.t t)⟩
theorem Same.all {H H' : Hp} (e : ∀ a o, H a = some o → H' a = some o) : Same H H' := ⟨fun a o h _ => e a o h, fun t => t.ext e⟩
/-- nothing is there, or a table -/
def Un0 (H : Hp) (a : Addr) : Prop := ∀ o, H a = some o → isTbl o = true
theorem un0 {H : Hp} {a : Addr} (h : H a = none) : Un0 H a := fun o e => by rw [h] at e; cases e
theorem Same.free {H H' : Hp} (e : Same H H') {a : Addr} (n : Un0 H' a) : Un0 H a := fun o h => by
  cases c : isTbl o with
  | true => rfl
  | false => rw [n o (e.k a o h c)] at c; cases c
theorem ne_un {H : Hp} {a b : Addr} {o : HO} (h : H b = some o) (c : isTbl o = false) (n : Un0 H a) : b ≠ a := fun z => by
  rw [z] at h; rw [n o h] at c; cases c
structure FSame (H H' : Hp) : Prop where
  k : ∀ a o, H a = some o → Fz o → H' a = some o
  t : LamX.Tabs Tb.T H → LamX.Tabs Tb.T H'
theorem FSame.refl (H : Hp) : FSame H H := ⟨fun _ _ h _ => h, id⟩
theorem FSame.trans {H H1 H2 : Hp} (x : FSame H H1) (y : FSame H1 H2) : FSame H H2 := ⟨fun a o h f => y.k a o (x.k a o h f) f, fun t => y.t (x.t t)⟩
theorem FSame.of {H H' : Hp} (x : Same H H') : FSame H H' := ⟨fun a o h f => x.k a o h (fz_tbl f), x.t⟩
/-- a list or a dict is written: tables stay -/
theorem tabs_upd {T : List (Addr × Str)} {H : Hp} {a : Addr} {u o : HO} (h : H a = some u) (n : ¬ Fz u) (c : isTbl u = false) (t : LamX.Tabs T H) : LamX.Tabs T (upd H a o) := fun p hp => by
  obtain ⟨ps, h1, h2, h3⟩ := t p hp
  have n1 : p.1 ≠ a := fun z => by rw [z, h] at h1; cases h1; cases c
  refine ⟨ps, by rw [upd_ne n1]; exact h1, h2, fun pos cv hc => ?_⟩
  obtain ⟨b, e1, e2⟩ := h3 pos cv hc
  have n2 : b ≠ a := fun z => by rw [z, h] at e2; cases e2; exact n True.intro
  exact ⟨b, e1, by rw [upd_ne n2]; exact e2⟩
/-- a list that stands for ever -/
def FzL (H : Hp) (a : Addr) (xs : List V) : Prop := ∃ o, H a = some (.frz o (.lst xs))
theorem FzL.sq {K : PySem.W.Frag} {H : Hp} {a : Addr} {xs : List V} (h : FzL H a xs) : SqL K H a xs := .inl (.inr h)
theorem FzL.mono {H H' : Hp} {a : Addr} {xs : List V} (e : FSame H H') (h : FzL H a xs) : FzL H' a xs := by
  obtain ⟨o, h⟩ := h
  exact ⟨o, e.k _ _ h True.intro⟩
theorem sqT_mono {K : PySem.W.Frag} {H H' : Hp} {a : Addr} {xs : List V} (e : FSame H H') (h : SqT K H a xs) : SqT K H' a xs := by
  rcases h with (h | ⟨o, h⟩) | h
  · exact .inl (.inl (e.k _ _ h True.intro))
  · exact .inl (.inr ⟨o, e.k _ _ h True.intro⟩)
  · exact .inr h

mutual
/-- x is the datum d, and for ever so -/
inductive Rep (m : Mx) (H : Hp) : V → D → Prop
  | non : Rep m H .non .non
  | bl (b : Bool) : Rep m H (.bl b) (.bl b)
  | int (i : Int) : Rep m H (.int i) (.int i)
  | str (x : Str) : Rep m H (.str x) (.str x)
  | tup {a : Addr} {xs : List V} {ds : List D} : SqT m.K H a xs → RepL m H xs ds → Rep m H (.ref a) (.tup ds)
  | lst {a : Addr} {xs : List V} {ds : List D} : FzL H a xs → RepL m H xs ds → Rep m H (.ref a) (.lst ds)
  | dic {a : Addr} {o : Obj} {ks : List Key} {xs : List V} {ds : List D} : H a = some (.frz o (.dK (ks.zip xs))) → ks.length = xs.length → RepL m H xs ds → Rep m H (.ref a) (.dic ks ds)
  | exv {a : Addr} {c : Nat} : m.xc c = true → (H a = some (ExF m c a) ∨ m.hot = some (a, c)) → Rep m H (.ref a) (.exv c)
inductive RepL (m : Mx) (H : Hp) : List V → List D → Prop
  | nil : RepL m H [] []
  | cons {x : V} {xs : List V} {d : D} {ds : List D} : Rep m H x d → RepL m H xs ds → RepL m H (x :: xs) (d :: ds)
end
section
variable {m : Mx} {H H' : Hp}
mutual
theorem Rep.mono (e : FSame H H') : ∀ {d : D} {x : V}, Rep m H x d → Rep m H' x d
  | .non, _, h => by cases h; exact .non
  | .bl b, _, h => by cases h; exact .bl b
  | .int i, _, h => by cases h; exact .int i
  | .str x, _, h => by cases h; exact .str x
  | .tup ds, _, h => by cases h with | tup a b => exact .tup (sqT_mono e a) (RepL.mono e b)
  | .lst ds, _, h => by cases h with | lst a b => exact .lst (a.mono e) (RepL.mono e b)
  | .dic ks ds, _, h => by cases h with | dic a l b => exact .dic (e.k _ _ a True.intro) l (RepL.mono e b)
  | .exv c, _, h => by cases h with | exv x a => exact .exv x (a.imp (fun a => e.k _ _ a True.intro) id)
theorem RepL.mono (e : FSame H H') : ∀ {ds : List D} {xs : List V}, RepL m H xs ds → RepL m H' xs ds
  | [], _, h => by cases h; exact .nil
  | d :: ds, _, h => by cases h with | cons a b => exact .cons (Rep.mono e a) (RepL.mono e b)
end
/-- an error is handled now -/
abbrev Mx.hotAt (m : Mx) (a : Addr) (c : Nat) : Mx := { m with hot := some (a, c) }
mutual
theorem Rep.heat {a0 : Addr} {c0 : Nat} (n : m.hot = none) : ∀ {d : D} {x : V}, Rep m H x d → Rep (m.hotAt a0 c0) H x d
  | .non, _, h => by cases h; exact .non
  | .bl b, _, h => by cases h; exact .bl b
  | .int i, _, h => by cases h; exact .int i
  | .str x, _, h => by cases h; exact .str x
  | .tup ds, _, h => by cases h with | tup a b => exact .tup a (RepL.heat n b)
  | .lst ds, _, h => by cases h with | lst a b => exact .lst a (RepL.heat n b)
  | .dic ks ds, _, h => by cases h with | dic a l b => exact .dic a l (RepL.heat n b)
  | .exv c, _, h => by cases h with | exv x a => exact .exv x (a.imp id fun z => by rw [n] at z; cases z)
theorem RepL.heat {a0 : Addr} {c0 : Nat} (n : m.hot = none) : ∀ {ds : List D} {xs : List V}, RepL m H xs ds → RepL (m.hotAt a0 c0) H xs ds
  | [], _, h => by cases h; exact .nil
  | d :: ds, _, h => by cases h with | cons a b => exact .cons (Rep.heat n a) (RepL.heat n b)
end
theorem RepL.length : ∀ {ds : List D} {xs : List V}, RepL m H xs ds → xs.length = ds.length
  | [], _, h => by cases h; rfl
  | d :: ds, _, h => by cases h with | cons a b => simp [RepL.length b]
theorem RepL.get : ∀ {ds : List D} {xs : List V} {i : Nat} {x : V}, RepL m H xs ds → xs[i]? = some x → ∃ d, ds[i]? = some d ∧ Rep m H x d
  | [], _, _, _, h, e => by cases h; simp at e
  | d :: ds, _, 0, x, h, e => by
    cases h with | cons a b => simp at e; subst e; exact ⟨_, rfl, a⟩
  | d :: ds, _, i + 1, x, h, e => by
    cases h with
    | cons a b =>
      obtain ⟨d', h1, h2⟩ := RepL.get (i := i) (x := x) b (by simpa using e)
      exact ⟨d', by simpa using h1, h2⟩
theorem RepL.get' : ∀ {ds : List D} {xs : List V} {i : Nat} {d : D}, RepL m H xs ds → ds[i]? = some d → ∃ x, xs[i]? = some x ∧ Rep m H x d
  | [], _, _, _, h, e => by simp at e
  | d :: ds, _, 0, x, h, e => by
    cases h with | cons a b => simp at e; subst e; exact ⟨_, rfl, a⟩
  | d :: ds, _, i + 1, x, h, e => by
    cases h with
    | cons a b =>
      obtain ⟨d', h1, h2⟩ := RepL.get' (i := i) (d := x) b (by simpa using e)
      exact ⟨d', by simpa using h1, h2⟩
theorem RepL.append : ∀ {ds es : List D} {xs ys : List V}, RepL m H xs ds → RepL m H ys es → RepL m H (xs ++ ys) (ds ++ es)
  | [], _, _, _, h, k => by cases h; exact k
  | d :: ds, _, _, _, h, k => by cases h with | cons a b => exact .cons a (RepL.append b k)
theorem RepL.set {x : V} {d : D} (r : Rep m H x d) : ∀ {ds : List D} {xs : List V} (i : Nat), RepL m H xs ds → RepL m H (xs.set i x) (ds.set i d)
  | [], _, _, h => by cases h; exact .nil
  | _ :: _, _, 0, h => by cases h with | cons a b => exact .cons r b
  | _ :: _, _, i + 1, h => by cases h with | cons a b => exact .cons a (RepL.set r i b)
theorem RepL.take : ∀ {ds : List D} {xs : List V} (n : Nat), RepL m H xs ds → RepL m H (xs.take n) (ds.take n)
  | _, _, 0, _ => .nil
  | [], _, n + 1, h => by cases h; exact .nil
  | _ :: _, _, n + 1, h => by cases h with | cons a b => exact .cons a (RepL.take n b)
theorem RepL.drop : ∀ {ds : List D} {xs : List V} (n : Nat), RepL m H xs ds → RepL m H (xs.drop n) (ds.drop n)
  | _, _, 0, h => h
  | [], _, n + 1, h => by cases h; exact .nil
  | _ :: _, _, n + 1, h => by cases h with | cons a b => exact RepL.drop n b
theorem RepL.reverse : ∀ {ds : List D} {xs : List V}, RepL m H xs ds → RepL m H xs.reverse ds.reverse
  | [], _, h => by cases h; exact .nil
  | _ :: _, _, h => by cases h with | cons a b => rw [List.reverse_cons, List.reverse_cons]; exact (RepL.reverse b).append (.cons a .nil)
theorem RepL.rep {ds : List D} {xs : List V} (h : RepL m H xs ds) : ∀ n, RepL m H (rep xs n) (rep ds n)
  | 0 => .nil
  | n + 1 => by
    have e1 : Fc.rep xs (n + 1) = xs ++ Fc.rep xs n := by unfold Fc.rep; rw [List.replicate_succ, List.flatten_cons]
    have e2 : Fc.rep ds (n + 1) = ds ++ Fc.rep ds n := by unfold Fc.rep; rw [List.replicate_succ, List.flatten_cons]
    rw [e1, e2]; exact h.append (RepL.rep h n)
theorem RepL.ints : ∀ (ns : List Int), RepL m H (ns.map V.int) (ns.map D.int)
  | [] => .nil
  | n :: r => .cons (.int n) (RepL.ints r)
theorem RepL.strs : ∀ (ns : List Str), RepL m H (ns.map V.str) (ns.map D.str)
  | [] => .nil
  | n :: r => .cons (.str n) (RepL.strs r)
end

/-! ### to be read now -/
/-- frozen; or a list, a dict of one's own whose items are frozen -/
inductive RepR (m : Mx) (H : Hp) : V → D → Prop
  | fz {x : V} {d : D} : Rep m H x d → RepR m H x d
  | lst {a : Addr} {xs : List V} {ds : List D} : H a = some (.lst xs) → RepL m H xs ds → RepR m H (.ref a) (.lst ds)
  | dic {a : Addr} {ks : List Key} {xs : List V} {ds : List D} : H a = some (.dK (ks.zip xs)) → ks.length = xs.length → RepL m H xs ds → RepR m H (.ref a) (.dic ks ds)
/-- rows of one's own -/
inductive RepRows (m : Mx) (H : Hp) : List V → List (List D) → Prop
  | nil : RepRows m H [] []
  | cons {b : Addr} {xs : List V} {ds : List D} {bs : List V} {dss : List (List D)} : H b = some (.lst xs) → RepL m H xs ds → RepRows m H bs dss → RepRows m H (.ref b :: bs) (ds :: dss)
/-- .. or a list of such lists -/
inductive RepQ (m : Mx) (H : Hp) : V → D → Prop
  | rd {x : V} {d : D} : RepR m H x d → RepQ m H x d
  | rows {a : Addr} {bs : List V} {dss : List (List D)} : H a = some (.lst bs) → RepRows m H bs dss → RepQ m H (.ref a) (.lst (dss.map .lst))
section
variable {m : Mx} {H H' : Hp}
theorem RepR.same (e : Same H H') {x : V} {d : D} (h : RepR m H x d) : RepR m H' x d := by
  cases h with
  | fz h => exact .fz (h.mono (.of e))
  | lst h r => exact .lst (e.k _ _ h rfl) (r.mono (.of e))
  | dic h l r => exact .dic (e.k _ _ h rfl) l (r.mono (.of e))
theorem RepRows.same (e : Same H H') : ∀ {dss : List (List D)} {bs : List V}, RepRows m H bs dss → RepRows m H' bs dss
  | [], _, h => by cases h; exact .nil
  | _ :: _, _, h => by cases h with | cons a b c => exact .cons (e.k _ _ a rfl) (b.mono (.of e)) (RepRows.same e c)
theorem RepQ.same (e : Same H H') {x : V} {d : D} (h : RepQ m H x d) : RepQ m H' x d := by
  cases h with
  | rd h => exact .rd (h.same e)
  | rows h r => exact .rows (e.k _ _ h rfl) (r.same e)
/-- the list, to be read -/
theorem RepR.lstE {x : V} {ds : List D} (h : RepR m H x (.lst ds)) : ∃ a xs, x = .ref a ∧ Rd H a (.lst xs) ∧ RepL m H xs ds := by
  cases h with
  | fz h => cases h with | lst a b => exact ⟨_, _, rfl, .inr a, b⟩
  | lst h r => exact ⟨_, _, rfl, .inl h, r⟩
theorem RepR.tupE {x : V} {ds : List D} (h : RepR m H x (.tup ds)) : ∃ a xs, x = .ref a ∧ SqT m.K H a xs ∧ RepL m H xs ds := by
  cases h with | fz h => cases h with | tup a b => exact ⟨_, _, rfl, a, b⟩
theorem RepR.intE {x : V} {i : Int} (h : RepR m H x (.int i)) : x = .int i := by
  cases h with | fz h => cases h; rfl
theorem RepR.strE {x : V} {i : Str} (h : RepR m H x (.str i)) : x = .str i := by
  cases h with | fz h => cases h; rfl
theorem RepR.blE {x : V} {i : Bool} (h : RepR m H x (.bl i)) : x = .bl i := by
  cases h with | fz h => cases h; rfl
theorem RepR.nonE {x : V} (h : RepR m H x .non) : x = .non := by
  cases h with | fz h => cases h; rfl
theorem RepR.dicE {x : V} {ks : List Key} {ds : List D} (h : RepR m H x (.dic ks ds)) : ∃ a xs, x = .ref a ∧ Rd H a (.dK (ks.zip xs)) ∧ ks.length = xs.length ∧ RepL m H xs ds := by
  cases h with
  | fz h => cases h with | dic a l b => exact ⟨_, _, rfl, .inr ⟨_, a⟩, l, b⟩
  | dic h l r => exact ⟨_, _, rfl, .inl h, l, r⟩

/-! ### as plain data of the library -/
mutual
theorem Rep.dp : ∀ {d : D} {n : Nat} {x : V}, Rep m H x d → D.shp n d = true → Dp m.K H x d.py
  | .non, _, _, h, _ => by cases h; exact .non
  | .bl b, _, _, h, _ => by cases h; exact .bl b
  | .int i, _, _, h, _ => by cases h; exact .int i
  | .str x, _, _, h, _ => by cases h; exact .str x
  | .tup ds, 0, _, h, s => by simp [D.shp] at s
  | .tup ds, n + 1, _, h, s => by cases h with | tup a b => exact .tup a (RepL.dp b (by simpa [D.shp] using s))
  | .lst ds, 0, _, h, s => by simp [D.shp] at s
  | .lst ds, n + 1, _, h, s => by cases h with | lst a b => exact .lst a.sq (RepL.dp b (by simpa [D.shp] using s))
  | .dic ks ds, _, _, h, s => by simp [D.shp] at s
  | .exv c, _, _, h, s => by simp [D.shp] at s
theorem RepL.dp : ∀ {ds : List D} {n : Nat} {xs : List V}, RepL m H xs ds → D.shpL n ds = true → DpAll m.K H xs (D.pyL ds)
  | [], _, _, h, _ => by cases h; exact .nil
  | d :: ds, n, _, h, s => by
    cases h with
    | cons a b =>
      have s' : (D.shp n d && D.shpL n ds) = true := by simpa [D.shpL] using s
      obtain ⟨s1, s2⟩ := Bool.and_eq_true_iff.mp s'
      exact .cons (Rep.dp a s1) (RepL.dp b s2)
end
theorem RepR.dp {d : D} {n : Nat} {x : V} (h : RepR m H x d) (s : D.shp n d = true) : Dp m.K H x d.py := by
  cases h with
  | fz h => exact h.dp s
  | @lst a xs ds h r =>
    cases n with
    | zero => simp [D.shp] at s
    | succ n => exact .lst (.of h) (r.dp (by simpa [D.shp] using s))
  | dic h l r => simp [D.shp] at s
theorem RepRows.dp : ∀ {dss : List (List D)} {n : Nat} {bs : List V}, RepRows m H bs dss → D.shpL n (dss.map .lst) = true → DpAll m.K H bs (D.pyL (dss.map .lst))
  | [], _, _, h, _ => by cases h; exact .nil
  | ds :: dss, n, _, h, s => by
    cases h with
    | cons a b c =>
      have s' : (D.shp n (.lst ds) && D.shpL n (dss.map .lst)) = true := by simpa [D.shpL] using s
      obtain ⟨s1, s2⟩ := Bool.and_eq_true_iff.mp s'
      exact .cons ((RepR.lst a b).dp s1) (RepRows.dp c s2)
theorem RepQ.dp {d : D} {n : Nat} {x : V} (h : RepQ m H x d) (s : D.shp n d = true) : Dp m.K H x d.py := by
  cases h with
  | rd h => exact h.dp s
  | @rows a bs dss h r =>
    cases n with
    | zero => simp [D.shp] at s
    | succ n => exact .lst (.of h) (r.dp (by simpa [D.shp] using s))
mutual
theorem shp_can : ∀ (d : D) (n : Nat), D.shp n d = true → PyData.canLay0 d.py = true ∧ d.py.depth ≤ n
  | .non, _, _ => ⟨rfl, by simp [D.py, PyData.depth]⟩
  | .bl b, _, _ => ⟨rfl, by simp [D.py, PyData.depth]⟩
  | .int i, _, _ => ⟨rfl, by simp [D.py, PyData.depth]⟩
  | .str x, _, s => ⟨by simpa [D.shp, D.py, PyData.canLay0] using s, by simp [D.py, PyData.depth]⟩
  | .tup ds, 0, s => by simp [D.shp] at s
  | .tup ds, n + 1, s => by
    obtain ⟨a, b⟩ := shpL_can ds n (by simpa [D.shp] using s)
    exact ⟨by simpa [D.py, PyData.canLay0] using a, by simp only [D.py, PyData.depth]; omega⟩
  | .lst ds, 0, s => by simp [D.shp] at s
  | .lst ds, n + 1, s => by
    obtain ⟨a, b⟩ := shpL_can ds n (by simpa [D.shp] using s)
    exact ⟨by simpa [D.py, PyData.canLay0] using a, by simp only [D.py, PyData.depth]; omega⟩
  | .dic ks ds, _, s => by simp [D.shp] at s
  | .exv c, _, s => by simp [D.shp] at s
theorem shpL_can : ∀ (ds : List D) (n : Nat), D.shpL n ds = true → PyData.canLayAll0 (D.pyL ds) = true ∧ PyData.depthAll (D.pyL ds) ≤ n
  | [], _, _ => ⟨rfl, by simp [D.pyL, PyData.depthAll]⟩
  | d :: ds, n, s => by
    have s' : (D.shp n d && D.shpL n ds) = true := by simpa [D.shpL] using s
    obtain ⟨s1, s2⟩ := Bool.and_eq_true_iff.mp s'
    obtain ⟨a1, b1⟩ := shp_can d n s1
    obtain ⟨a2, b2⟩ := shpL_can ds n s2
    exact ⟨by simp [D.pyL, PyData.canLayAll0, a1, a2], by simp only [D.pyL, PyData.depthAll]; omega⟩
end
theorem shp_shaped {d : D} (s : D.shp 60 d = true) : SeqAt.shaped d.py = true := by
  obtain ⟨a, b⟩ := shp_can d 60 s
  unfold SeqAt.shaped
  rw [a, decide_eq_true (by omega : d.py.depth ≤ 64)] <;> rfl
mutual
theorem eqv_py : ∀ (d e : D) (n : Nat), D.shp n d = true → D.shp n e = true → PyData.eqv d.py e.py = D.eqv d e
  | .non, e, n, s, t => by cases e <;> first | rfl | (simp [D.shp] at t)
  | .bl b, e, n, s, t => by cases e <;> first | rfl | (simp [D.shp] at t)
  | .int i, e, n, s, t => by cases e <;> first | rfl | (simp [D.shp] at t)
  | .str x, e, n, s, t => by cases e <;> first | rfl | (simp [D.shp] at t)
  | .tup ds, e, 0, s, t => by simp [D.shp] at s
  | .lst ds, e, 0, s, t => by simp [D.shp] at s
  | .tup ds, e, n + 1, s, t => by
    cases e with
    | tup es =>
      have q := eqvL_py ds es n (by simpa [D.shp] using s) (by simpa [D.shp] using t)
      simp only [D.py, PyData.eqv, D.eqv]; exact q
    | dic _ _ => simp [D.shp] at t
    | exv _ => simp [D.shp] at t
    | _ => rfl
  | .lst ds, e, n + 1, s, t => by
    cases e with
    | lst es =>
      have q := eqvL_py ds es n (by simpa [D.shp] using s) (by simpa [D.shp] using t)
      simp only [D.py, PyData.eqv, D.eqv]; exact q
    | dic _ _ => simp [D.shp] at t
    | exv _ => simp [D.shp] at t
    | _ => rfl
  | .dic ks ds, _, _, s, _ => by simp [D.shp] at s
  | .exv c, _, _, s, _ => by simp [D.shp] at s
theorem eqvL_py : ∀ (ds es : List D) (n : Nat), D.shpL n ds = true → D.shpL n es = true → PyData.eqvAll (D.pyL ds) (D.pyL es) = D.eqvL ds es
  | [], [], _, _, _ => rfl
  | [], _ :: _, _, _, _ => rfl
  | _ :: _, [], _, _, _ => rfl
  | d :: ds, e :: es, n, s, t => by
    have s' : (D.shp n d && D.shpL n ds) = true := by simpa [D.shpL] using s
    have t' : (D.shp n e && D.shpL n es) = true := by simpa [D.shpL] using t
    obtain ⟨s1, s2⟩ := Bool.and_eq_true_iff.mp s'
    obtain ⟨t1, t2⟩ := Bool.and_eq_true_iff.mp t'
    simp only [D.pyL, PyData.eqvAll, D.eqvL, eqv_py d e n s1 t1, eqvL_py ds es n s2 t2]
end
end

/-! ### freezing -/
section
variable {X : Cx} {pins : List (Addr × Obj)} {σ : L2.St} {H : Hp} {s : Shared} {a : Addr} {u : HO}
/-- what may be frozen -/
def Icy : HO → Prop
  | .lst _ => True
  | .dK _ => True
  | _ => False
theorem inv_frz (I : Inv X pins σ H s) (h : H a = some u) (c : Icy u) : ∃ o, Inv X pins σ (upd H a (.frz o u)) s := by
  have ok := I.hok a u h
  obtain ⟨o, ho⟩ : ∃ o, s.heap.get? a = some o := by
    cases u with
    | lst xs => obtain ⟨_, _, _, _, e⟩ := ok; exact ⟨_, e⟩
    | dK kvs => obtain ⟨_, _, _, _, o, _, _, e, _⟩ := ok; exact ⟨o, e⟩
    | _ => exact c.elim
  refine ⟨o, ?_⟩
  have nn : ∀ b, H b = none → b ≠ a := fun b n z => by rw [z, h] at n; cases n
  have nt : ∀ b xs, H b = some (.tup xs) → b ≠ a := fun b xs e z => by
    rw [z, h] at e; cases e; exact c
  have nf : ∀ b ob x, H b = some (.frz ob x) → b ≠ a := fun b ob x e z => by
    rw [z, h] at e; cases e; exact c
  have nb : ∀ b ps, H b = some (.tbl ps) → b ≠ a := fun b ps e z => by
    rw [z, h] at e; cases e; exact c
  have no : ∀ b c', H b = some (.own c') → b ≠ a := fun b c' e z => by
    rw [z, h] at e; cases e; exact c
  refine I.un (h' := s.heap) (t' := s.toks) ⟨fun _ _ q _ _ _ => q, fun b ob q _ _ _ => ⟨ob.slots, q⟩, fun b ob q n _ => by rw [upd_ne (nn b n)]; exact n, fun b ob q _ => ⟨ob, q⟩, fun b xs e => by rw [upd_ne (nt b xs e)]; exact e,
    fun b ob x e => by rw [upd_ne (nf b ob x e)]; exact e, fun b ps e => ⟨#[], by rw [upd_ne (nb b ps e), e]; simp⟩⟩ ?_
  intro b v e
  by_cases hb : b = a
  · subst hb
    rw [upd_same] at e
    cases e
    exact ⟨ho, ok.stay (fun _ _ _ q => q) (fun c' q => by rw [upd_ne (no c' _ q)]; exact q) fun c' xs q => by rw [upd_ne (nt c' xs q)]; exact q⟩
  · rw [upd_ne hb] at e
    exact (I.hok b v e).stay (fun _ _ _ q => q) (fun c' q => by rw [upd_ne (no c' _ q)]; exact q) fun c' xs q => by rw [upd_ne (nt c' xs q)]; exact q
/-- a new thing, then frozen: all that was there is as it was -/
theorem same_upd {o : HO} (h : H a = none) : Same H (upd H a o) := .all fun b u e => by
  rw [upd_ne (ne_of_none e h)]; exact e
theorem same_upd2 {o o' : HO} (h : H a = none) : Same H (upd (upd H a o) a o') := by
  rw [upd_upd]; exact same_upd h
end
end Fc
/-! Ev2b: the operators keep to what Ev1 says of data. -/
namespace Fc
open PySem PySem.Spec
open PyProof.Rows L2
variable [Tb]

/-- no list, no dict -/
def notLD : D → Bool
  | .lst _ => false
  | .dic _ _ => false
  | _ => true
/-- what an operation hands back: a new list, a new dict; or what is none, frozen -/
inductive New (m : Mx) (H H' : Hp) : V → D → Prop
  | fz {x : V} {d : D} : notLD d = true → Rep m H' x d → New m H H' x d
  | lst {a : Addr} {xs : List V} {ds : List D} : Un0 H a → H' a = some (.lst xs) → RepL m H' xs ds → New m H H' (.ref a) (.lst ds)
  | dic {a : Addr} {ks : List Key} {xs : List V} {ds : List D} : Un0 H a → H' a = some (.dK (ks.zip xs)) → ks.length = xs.length → RepL m H' xs ds → New m H H' (.ref a) (.dic ks ds)
/-- the wish, for all that may come of a datum -/
def Yld (m : Mx) (H : Hp) (r : D) (Q : VK) : Prop := ∀ z H', Same H H' → New m H H' z r → Q z H'
/-- the wish, frozen; to be read -/
def YldF (m : Mx) (H : Hp) (r : D) (Q : VK) : Prop := ∀ z H', Same H H' → Rep m H' z r → Q z H'
def YldR (m : Mx) (H : Hp) (r : D) (Q : VK) : Prop := ∀ z H', Same H H' → RepR m H' z r → Q z H'
def YldQ (m : Mx) (H : Hp) (r : D) (Q : VK) : Prop := ∀ z H', Same H H' → RepQ m H' z r → Q z H'
section
variable {m : Mx} {H : Hp} {Q : VK}
theorem YldF.rep {x : V} {d : D} (q : YldF m H d Q) (r : Rep m H x d) : Q x H := q _ _ (.refl _) r
theorem YldF.up {H1 : Hp} {d : D} (h : YldF m H d Q) (e : Same H H1) : YldF m H1 d Q := fun z H' s n => h z H' (e.trans s) n
theorem Yld.int {i : Int} (q : Yld m H (.int i) Q) : Q (.int i) H := q _ _ (.refl _) (.fz rfl (.int i))
theorem Yld.bl {i : Bool} (q : Yld m H (.bl i) Q) : Q (.bl i) H := q _ _ (.refl _) (.fz rfl (.bl i))
theorem Yld.str {i : Str} (q : Yld m H (.str i) Q) : Q (.str i) H := q _ _ (.refl _) (.fz rfl (.str i))
theorem Yld.non (q : Yld m H .non Q) : Q .non H := q _ _ (.refl _) (.fz rfl .non)
theorem Yld.rep {x : V} {d : D} (q : Yld m H d Q) (n : notLD d = true) (r : Rep m H x d) : Q x H := q _ _ (.refl _) (.fz n r)
theorem Yld.tup {ds : List D} (q : Yld m H (.tup ds) Q) {p : Addr} {xs : List V} (hp : H p = none) (r : RepL m H xs ds) : Q (.ref p) (upd H p (.tup xs)) :=
  q _ _ (same_upd hp) (.fz rfl (.tup (.of upd_same) (r.mono (.of (same_upd hp)))))
theorem Yld.lst {ds : List D} (q : Yld m H (.lst ds) Q) {p : Addr} {xs : List V} (hp : H p = none) (r : RepL m H xs ds) : Q (.ref p) (upd H p (.lst xs)) :=
  q _ _ (same_upd hp) (.lst (un0 hp) upd_same (r.mono (.of (same_upd hp))))
theorem sizeMax_eq : sizeMax = sizeLine := sizeLine_eq.symm
end

/-- the library's operator -/
def BOp.op : BOp → Operator
  | .add => .Add | .sub => .Sub | .mul => .Mult | .fdiv => .FloorDiv | .mod => .Mod | .pow => .Pow
def rBin (m : Mx) (op : BOp) : R2 := fun x y H Q => ∃ d e r, RepR m H x d ∧ RepR m H y e ∧ binop op d e = .ok r ∧ Yld m H r Q
section
variable {X : Cx} {m : Mx}
theorem Inv.rdL {pins : List (Addr × Obj)} {σ : L2.St} {H : Hp} {s : Shared} {p : Addr} {xs : List V} (I : Inv X pins σ H s) (h : Rd H p (.lst xs)) :
    xs.length ≤ sizeLine ∧ ∃ (its : List Value) (n : Nat), Vals xs its ∧ s.heap.get? p = some { cls := .type "list", data := .seq its.toArray n } := by
  obtain ⟨z, its, n, r, e⟩ := h.ok I.hok
  exact ⟨z, its, n, r, e⟩
/-- list + list -/
theorem op_catR : OpR X (binaryOp .Add) (fun x y H Q => ∃ l b xs zs, x = .ref l ∧ y = .ref b ∧ Rd H l (.lst xs) ∧ Rd H b (.lst zs) ∧ xs.length + zs.length ≤ sizeLine ∧ ∀ p, H p = none → Q (.ref p) (upd H p (.lst (xs ++ zs)))) := by
  intro pins s σ H x y v u Q I rx ry h
  obtain ⟨l, b, xs, zs, rfl, rfl, hH, hB, hz, q⟩ := h
  cases rx
  cases ry
  obtain ⟨z, its, n, r, e⟩ := Inv.rdL I hH
  obtain ⟨z2, its2, n2, r2, e2⟩ := Inv.rdL I hB
  have hl := r.length
  have hl2 := r2.length
  refine PySem.P.add_list e e2 ?_ (by rw [List.size_toArray, List.size_toArray]; omega)
  have ea : its.toArray ++ its2.toArray = (its ++ its2).toArray := by simp
  rw [ea]
  exact ⟨.ref _, _, I.lnew (t' := s.toks) (r.append r2) (by rw [List.length_append]; omega), rfl, q _ I.fresh⟩
/-- () + tuple -/
theorem op_catT0 : OpR X (binaryOp .Add) (fun x y H Q => ∃ a b ys, x = .ref a ∧ y = .ref b ∧ SqT X.K H a [] ∧ SqT X.K H b ys ∧ Q (.ref b) H) := by
  intro pins s σ H x y v u Q I rx ry h
  obtain ⟨a, b, ys, rfl, rfl, ha, hb, q⟩ := h
  cases rx
  cases ry
  obtain ⟨its, r1, ⟨⟨cls, dd, data, sl⟩, ho, hc, n, hd⟩, _⟩ := I.tuple ha
  obtain ⟨its2, r2, ⟨⟨cls2, dd2, data2, sl2⟩, ho2, hc2, n2, hd2⟩, _⟩ := I.tuple hb
  simp only at hc hd hc2 hd2
  subst hc hd hc2 hd2
  cases r1
  exact concat_meets ⟨_, ho, rfl⟩ ⟨_, ho2, rfl⟩ noFill_tuple_add seq_tuple_add PySem.F.slot_tuple_add PySem.F.entry_tuple_add (PySem.F.args_tuple_add_2 _ _)
      (tuple_addW0 a b _ its2.toArray n n2 dd dd2 sl sl2 rfl) ⟨ho, ho2, ⟨.ref b, H, I, rfl, q⟩⟩
/-- text * int -/
theorem rep_arr (c : Array Nat) : ∀ n : Nat, (List.replicate n c).foldl (· ++ ·) #[] = (rep c.toList n).toArray := by
  intro n
  have key : ∀ (n : Nat) (acc : Array Nat), (List.replicate n c).foldl (· ++ ·) acc = acc ++ (rep c.toList n).toArray := by
    intro n
    induction n with
    | zero => intro acc; simp [rep]
    | succ n ih =>
      intro acc
      rw [List.replicate_succ, List.foldl_cons, ih]
      have e : rep c.toList (n + 1) = c.toList ++ rep c.toList n := by unfold rep; rw [List.replicate_succ, List.flatten_cons]
      rw [e]
      apply Array.ext'
      simp
  rw [key]; simp
theorem op_mulS : OpR X (binaryOp .Mult) (fun x y H Q => ∃ z k, x = .str z ∧ y = .int k ∧ z.length * k.toNat ≤ sizeLine ∧ k < 1000000 ∧ -1000000 < k ∧ Q (.str ⟨(rep z.cps.toList k.toNat).toArray⟩) H) := by
  intro pins s σ H x y v u Q I rx ry h
  obtain ⟨z, k, rfl, rfl, hz, h1, h2, q⟩ := h
  obtain ⟨t, rfl⟩ := rx
  obtain ⟨t', rfl⟩ := ry
  have hs : sizeLine = 16777216 := sizeLine_eq
  refine PySem.P.mul_str (by rw [decide_eq_false (by omega), decide_eq_false (by omega)] <;> rfl) (fun c1 c2 => ?_) (fun c1 c2 => ?_) ?_
  · have hk : 0 < k := by omega
    have hm : (z.length : Int) * k ≤ 16777216 := by
      have e : ((z.length * k.toNat : Nat) : Int) = (z.length : Int) * k := by
        rw [Int.natCast_mul, Int.toNat_of_nonneg (by omega)]
      rw [← e]
      omega
    have : (z.length : Int) ≤ (2 ^ 63 - 1) / k := (Int.le_ediv_iff_mul_le hk).mpr (by omega)
    omega
  · unfold Builtin.Str.tooLong
    exact decide_eq_false (by omega)
  · by_cases c : k < 1
    · rw [if_pos c]
      have e : rep z.cps.toList k.toNat = [] := by
        have : k.toNat = 0 := by omega
        rw [this]; rfl
      rw [e] at q
      exact ⟨by show 0 ≤ sizeLine; omega, ⟨.str _, H, I.tok _, ⟨_, rfl⟩, q⟩⟩
    · rw [if_neg c]
      by_cases c2 : (k == 1 || z.length == 0) = true
      · rw [if_pos c2]
        have e : (⟨(rep z.cps.toList k.toNat).toArray⟩ : Str) = z := by
          rcases Bool.or_eq_true_iff.mp c2 with h | h
          · have hk : k.toNat = 1 := by have := eq_of_beq h; omega
            rw [hk]; obtain ⟨c⟩ := z; simp [rep]
          · have hl : z.cps.toList = [] := by
              have := eq_of_beq h
              have e2 : z.cps.size = 0 := this
              exact Array.toList_eq_nil_iff.mpr (Array.eq_empty_of_size_eq_zero e2)
            rw [hl]
            obtain ⟨c⟩ := z
            have hc : c = #[] := Array.toList_eq_nil_iff.mp hl
            subst hc
            simp [rep]
        rw [e] at q
        exact ⟨.str z, H, I, ⟨_, rfl⟩, q⟩
      · rw [if_neg c2, rep_arr]
        refine ⟨?_, ⟨.str _, H, I.tok _, ⟨_, rfl⟩, q⟩⟩
        show (rep z.cps.toList k.toNat).toArray.size ≤ sizeLine
        rw [List.size_toArray]
        have e : (rep z.cps.toList k.toNat).length = z.length * k.toNat := by
          unfold rep
          rw [PyProof.Rows.lm_len_rep_flat]
          rw [Nat.mul_comm]; rfl
        omega
/-- list * int -/
theorem op_repR : OpR X (binaryOp .Mult) (fun x y H Q => ∃ l k xs, x = .ref l ∧ y = .int k ∧ Rd H l (.lst xs) ∧ -(2 ^ 63) ≤ k ∧ k < 2 ^ 63 ∧ xs.length * k.toNat ≤ sizeLine ∧ ∀ p, H p = none → Q (.ref p) (upd H p (.lst (rep xs k.toNat)))) := by
  intro pins s σ H x y v u Q I rx ry h
  obtain ⟨l, k, xs, rfl, rfl, hH, k1, k2, zz, q⟩ := h
  cases rx
  obtain ⟨tk, rfl⟩ := ry
  obtain ⟨z, its, n, r, ho⟩ := Inv.rdL I hH
  have ln := r.length
  have few : its.toArray.size * k.toNat ≤ sizeLine := by rw [List.size_toArray, ← ln]; exact zz
  have cap : ¬ its.toArray.size * k.toNat > (2 ^ 63 - 1) / 8 := by
    have : (sizeLine : Nat) ≤ (2 ^ 63 - 1) / 8 := by decide
    omega
  have c1 : ¬ (!Builtin.List.listFitsIndex k) = true := by
    rw [fitsIndex_both k1 k2]
    decide
  have c2 : ¬ Builtin.List.listTooLong (its.toArray.size * k.toNat) = true := by
    rw [notLongL few]
    decide
  have same : List.foldl (fun x1 x2 => x1 ++ x2) #[] (List.replicate (if its.toArray.isEmpty = true then 0 else k.toNat) its.toArray) = (List.replicate k.toNat its).flatten.toArray := by
    rw [size_rep]
    cases its with
    | nil => simp
    | cons a r' => rw [if_neg (by simp)]
  have tyL : s.TypeIs (.ref l) "list" := ⟨_, ho, rfl⟩
  have step2 := call_meets (prog := X.prog) (w := X.w) (A := X.A) (E := X.xe) (Q := EP X pins σ Q) (s := s) F.slot_list_mul tyL F.entry_list_mul (F.args_list_mul_2 _ _) (AutoListH.list___mul___list_int_3 l its.toArray n k tk c1 cap c2) ⟨ho, by
    rw [same]
    exact ⟨.ref _, _, I.lnew (t' := s.toks) (r.rep k.toNat) (by rw [PyProof.Rows.lm_len_rep_flat, Nat.mul_comm]; exact zz), rfl, q _ I.fresh⟩⟩
  exact wpAny_binaryOp_repeat_ref (T := "list") (U := "int") (by decide) ⟨_, ho, rfl⟩ (fun s' => typeIs_int s' k tk) noFill_list_mul F.fills_int_mul F.slot_int_rmul repeat_list F.slot_int_index.lookup
    (call_meets F.slot_int_rmul (typeIs_int s k tk) F.entry_int_rmul (F.args_int_rmul_2 _ _) (int___rmul___int_list k tk l its.toArray n) ⟨ho, rfl, ⟨_, ho, rfl⟩, step2⟩)
theorem log_lt {i : Int} {n : Nat} (h : i.natAbs.log2 < n) : i.natAbs < 2 ^ n := by
  by_cases z : i.natAbs = 0
  · rw [z]; exact Nat.two_pow_pos n
  · exact (Nat.log2_lt z).mp h
theorem smallI_ok {i : Int} (h : smallI i = true) : -(2 ^ 64) < i ∧ i < 2 ^ 64 := by
  have := log_lt (of_decide_eq_true h)
  have e : (2 : Nat) ^ 64 = 18446744073709551616 := by decide
  rw [e] at this
  omega
theorem op_bin (hm : m.K = X.K) (op : BOp) : OpR X (binaryOp op.op) (rBin m op) := by
  intro pins s σ H x y v u Q I rx ry h
  obtain ⟨d, e, r, hd, he, hr, q⟩ := h
  have hs : sizeMax = sizeLine := sizeMax_eq
  unfold binop at hr
  split at hr
  · cases hd.intE; cases he.intE; cases hr
    exact op_add pins s σ H _ _ v u Q I rx ry ⟨_, _, rfl, rfl, q.int⟩
  · cases hd.strE; cases he.strE
    split at hr
    · cases hr
      exact op_add_str pins s σ H _ _ v u Q I rx ry ⟨_, _, rfl, rfl, by omega, q.str⟩
    · cases hr
  · obtain ⟨a, xs, rfl, ha, ra⟩ := hd.tupE
    obtain ⟨b, ys, rfl, hb, rb⟩ := he.tupE
    rw [hm] at ha hb
    have l1 := ra.length
    have l2 := rb.length
    split at hr
    · cases hr
      by_cases hx : xs = []
      · subst hx
        refine op_catT0 pins s σ H _ _ v u Q I rx ry ⟨a, b, ys, rfl, rfl, ha, hb, ?_⟩
        cases ra
        exact q.rep rfl (.tup (by rw [hm]; exact hb) rb)
      · refine op_catT pins s σ H _ _ v u Q I rx ry ⟨a, b, xs, ys, rfl, rfl, ha, hb, hx, by omega, fun e => ?_, fun _ p hp => q.tup hp (ra.append rb)⟩
        subst e
        cases rb
        rw [List.append_nil] at q
        exact q.rep rfl (.tup (by rw [hm]; exact ha) ra)
    · cases hr
  · obtain ⟨a, xs, rfl, ha, ra⟩ := hd.lstE
    obtain ⟨b, ys, rfl, hb, rb⟩ := he.lstE
    have l1 := ra.length
    have l2 := rb.length
    split at hr
    · cases hr
      exact op_catR pins s σ H _ _ v u Q I rx ry ⟨a, b, xs, ys, rfl, rfl, ha, hb, by omega, fun p hp => q.lst hp (ra.append rb)⟩
    · cases hr
  · cases hd.intE; cases he.intE; cases hr
    exact op_sub pins s σ H _ _ v u Q I rx ry ⟨_, _, rfl, rfl, q.int⟩
  · cases hd.intE; cases he.intE
    split at hr
    · rename_i c
      cases hr
      refine op_mul pins s σ H _ _ v u Q I rx ry ⟨_, _, rfl, rfl, ?_, q.int⟩
      rcases Bool.or_eq_true_iff.mp c with c | c
      · exact .inl (smallI_ok c)
      · exact .inr (smallI_ok c)
    · cases hr
  · obtain ⟨a, xs, rfl, ha, ra⟩ := hd.lstE
    cases he.intE
    have l1 := ra.length
    split at hr
    · rename_i c
      cases hr
      have lg := log_lt c.2
      have e19 : (2 : Nat) ^ 19 = 524288 := by decide
      rw [e19] at lg
      exact op_repR pins s σ H _ _ v u Q I rx ry ⟨a, _, xs, rfl, rfl, ha, by omega, by omega, by rw [l1]; omega, fun p hp => q.lst hp (ra.rep _)⟩
    · cases hr
  · obtain ⟨a, xs, rfl, ha, ra⟩ := hd.tupE
    cases he.intE
    rw [hm] at ha
    have l1 := ra.length
    split at hr
    · rename_i c
      obtain ⟨c1, c2, c3, c4⟩ := c
      cases hr
      exact op_repT pins s σ H _ _ v u Q I rx ry ⟨a, _, xs, rfl, rfl, ha, fun e => by
        subst e; cases ra; exact c1 rfl, c2, c3, by omega, fun p hp => q.tup hp (ra.rep _)⟩
    · cases hr
  · cases hd.strE; cases he.intE
    split at hr
    · rename_i c
      cases hr
      have lg := log_lt c.2
      have e19 : (2 : Nat) ^ 19 = 524288 := by decide
      rw [e19] at lg
      exact op_mulS pins s σ H _ _ v u Q I rx ry ⟨_, _, rfl, rfl, by omega, by omega, by omega, q.str⟩
    · cases hr
  · cases hd.intE; cases he.intE
    split at hr
    · rename_i c
      cases hr
      exact op_fdivN pins s σ H _ _ v u Q I rx ry ⟨_, _, rfl, rfl, c, q.int⟩
    · cases hr
  · cases hd.intE; cases he.intE
    split at hr
    · rename_i c
      cases hr
      exact op_modN pins s σ H _ _ v u Q I rx ry ⟨_, _, rfl, rfl, c, q.int⟩
    · cases hr
  · cases hd.intE; cases he.intE
    split at hr
    · rename_i c
      cases hr
      exact op_pow pins s σ H _ _ v u Q I rx ry ⟨_, _, rfl, rfl, ⟨c.1, by omega, c.2.2⟩, q.int⟩
    · cases hr
  · cases hr
end
end Fc
/-! Ev2c: comparisons keep to what Ev1 says of data. -/
namespace Fc
open PySem PySem.Spec
open PyProof.Rows L2
variable [Tb]

/-! ### order -/
mutual
theorem eqv_comm : ∀ d e : D, D.eqv d e = D.eqv e d
  | .non, e => by cases e <;> rfl
  | .bl b, e => by cases e <;> first | rfl | (simp only [D.eqv]; exact Bool.beq_comm) | (simp only [D.eqv]; exact BEq.comm)
  | .int b, e => by cases e <;> first | rfl | (simp only [D.eqv]; exact BEq.comm)
  | .str b, e => by cases e <;> first | rfl | (simp only [D.eqv]; exact BEq.comm)
  | .tup ds, e => by cases e <;> first | rfl | (simp only [D.eqv]; exact eqvL_comm _ _)
  | .lst ds, e => by cases e <;> first | rfl | (simp only [D.eqv]; exact eqvL_comm _ _)
  | .dic _ _, e => by cases e <;> rfl
  | .exv _, e => by cases e <;> rfl
theorem eqvL_comm : ∀ ds es : List D, D.eqvL ds es = D.eqvL es ds
  | [], [] => rfl
  | [], _ :: _ => rfl
  | _ :: _, [] => rfl
  | d :: ds, e :: es => by simp only [D.eqvL, eqv_comm d e, eqvL_comm ds es]
end
inductive OOp where
  | lt | le | gt | ge
def OOp.op : OOp → CmpOp
  | .lt => .Lt | .le => .LtE | .gt => .Gt | .ge => .GtE
def ordB : OOp → D → D → Bool
  | .lt, d, e => D.lt d e
  | .le, d, e => !D.lt e d
  | .gt, d, e => D.lt e d
  | .ge, d, e => !D.lt d e
def ordL : OOp → List D → List D → Bool
  | .lt, d, e => D.ltL d e
  | .le, d, e => !D.ltL e d
  | .gt, d, e => D.ltL e d
  | .ge, d, e => !D.ltL d e
/-- what the lengths tell -/
def ordZ : OOp → Bool
  | .lt => false | .le => true | .gt => false | .ge => true
theorem ordL_nil (o : OOp) : ordL o [] [] = ordZ o := by cases o <;> rfl
theorem ordL_cons (o : OOp) (x y : D) (xs ys : List D) : ordL o (x :: xs) (y :: ys) = if D.eqv x y = true then ordL o xs ys else ordB o x y := by
  cases o with
  | lt => simp only [ordL, ordB, D.ltL]
  | le =>
    simp only [ordL, ordB, D.ltL, eqv_comm y x]
    by_cases h : D.eqv x y = true
    · rw [if_pos h, if_pos h]
    · rw [if_neg h, if_neg h]
  | gt => simp only [ordL, ordB, D.ltL, eqv_comm y x]
  | ge =>
    simp only [ordL, ordB, D.ltL]
    by_cases h : D.eqv x y = true
    · rw [if_pos h, if_pos h]
    · rw [if_neg h, if_neg h]
theorem lex_ord (o : OOp) : ∀ (k i : Nat) (xs ys : List D), xs.length = ys.length → xs.length = i + k →
    Ob.lexAt (fun j => D.eqv (xs.getD j .non) (ys.getD j .non)) (fun j => ordB o (xs.getD j .non) (ys.getD j .non)) (ordZ o) i k = ordL o (xs.drop i) (ys.drop i)
  | 0, i, xs, ys, h1, h2 => by
    rw [List.drop_of_length_le (by omega), List.drop_of_length_le (by omega), ordL_nil]; rfl
  | k + 1, i, xs, ys, h1, h2 => by
    have l1 : i < xs.length := by omega
    have l2 : i < ys.length := by omega
    rw [List.drop_eq_getElem_cons l1, List.drop_eq_getElem_cons l2, ordL_cons, Ob.lexAt_succ, lex_ord o k (i + 1) xs ys h1 (by omega)]
    have e1 : xs.getD i .non = xs[i] := by simp [l1]
    have e2 : ys.getD i .non = ys[i] := by simp [l2]
    rw [e1, e2]
theorem alkL_len : ∀ {xs ys : List D}, D.alkL xs ys = true → xs.length = ys.length
  | [], [], _ => rfl
  | [], _ :: _, h => by simp [D.alkL] at h
  | _ :: _, [], h => by simp [D.alkL] at h
  | x :: xs, y :: ys, h => by
    have h' : (D.alk x y && D.alkL xs ys) = true := by simpa [D.alkL] using h
    simp [alkL_len (Bool.and_eq_true_iff.mp h').2]
/-- the places of data -/
theorem pyL_get : ∀ (ds : List D) (j : Nat), (D.pyL ds)[j]? = ds[j]?.map D.py
  | [], _ => rfl
  | _ :: _, 0 => rfl
  | _ :: ds, j + 1 => by simp only [D.pyL, List.getElem?_cons_succ]; exact pyL_get ds j
theorem pyL_len : ∀ ds : List D, (D.pyL ds).length = ds.length
  | [] => rfl
  | _ :: ds => by simp [D.pyL, pyL_len ds]
theorem shpL_get {n : Nat} : ∀ {ds : List D} {j : Nat} {d : D}, D.shpL n ds = true → ds[j]? = some d → D.shp n d = true
  | [], _, _, _, h => by simp at h
  | x :: ds, 0, d, s, h => by
    have s' : (D.shp n x && D.shpL n ds) = true := by simpa [D.shpL] using s
    simp at h; subst h; exact (Bool.and_eq_true_iff.mp s').1
  | x :: ds, j + 1, d, s, h => by
    have s' : (D.shp n x && D.shpL n ds) = true := by simpa [D.shpL] using s
    exact shpL_get (j := j) (Bool.and_eq_true_iff.mp s').2 (by simpa using h)
theorem alkL_get : ∀ {ds es : List D} {j : Nat} {d e : D}, D.alkL ds es = true → ds[j]? = some d → es[j]? = some e → D.alk d e = true
  | [], _, _, _, _, _, h, _ => by simp at h
  | _ :: _, [], _, _, _, h, _, _ => by simp [D.alkL] at h
  | x :: ds, y :: es, 0, d, e, a, h1, h2 => by
    have a' : (D.alk x y && D.alkL ds es) = true := by simpa [D.alkL] using a
    simp at h1 h2; subst h1; subst h2; exact (Bool.and_eq_true_iff.mp a').1
  | x :: ds, y :: es, j + 1, d, e, a, h1, h2 => by
    have a' : (D.alk x y && D.alkL ds es) = true := by simpa [D.alkL] using a
    exact alkL_get (j := j) (Bool.and_eq_true_iff.mp a').2 (by simpa using h1) (by simpa using h2)

theorem reads_get {h : Heap} {vs : List Value} {ds : List D} {as : List Addr} (r : ReadsAll h vs (D.pyL ds) as) {j : Nat} (h1 : j < vs.length) : ∃ (d : D) (bs : List Addr), ds[j]? = some d ∧ ds.getD j .non = d ∧ Reads h vs[j] d.py bs := by
  obtain ⟨bs, q, hl, _, _⟩ := PySem.W.readsAll_at r j vs[j] (by simp [h1])
  rw [pyL_len] at hl
  have e : ds[j]? = some ds[j] := by simp [hl]
  refine ⟨ds[j], bs, e, by simp [hl], ?_⟩
  have e2 : (D.pyL ds).getD j .none = ds[j].py := by
    rw [List.getD_eq_getElem?_getD, pyL_get, e]; rfl
  rw [← e2]; exact q
theorem rc_bl (o : OOp) (p q : Bool) (A : Around) (s : Shared) : Ob.RcOp o.op A s (.bool p) (.bool q) (ordB o (.bl p) (.bl q)) := by
  intro prog w E Q hq
  cases o
  · exact PyProof.Rows.lt_bool (by revert hq; cases p <;> cases q <;> exact fun h => h)
  · exact PyProof.Rows.le_bool (by revert hq; cases p <;> cases q <;> exact fun h => h)
  · exact PyProof.Rows.gt_bool (by revert hq; cases p <;> cases q <;> exact fun h => h)
  · exact PyProof.Rows.ge_bool (by revert hq; cases p <;> cases q <;> exact fun h => h)
theorem rc_int (o : OOp) (p q : Int) (t u : Tok) (A : Around) (s : Shared) : Ob.RcOp o.op A s (.int p t) (.int q u) (ordB o (.int p) (.int q)) := by
  intro prog w E Q hq
  cases o
  · exact PyProof.Rows.lt_int hq
  · exact PyProof.Rows.le_int (by
      have e : decide (p ≤ q) = !decide (q < p) := by by_cases h : q < p <;> simp [h] <;> omega
      rw [e]; exact hq)
  · exact PyProof.Rows.gt_int hq
  · exact PyProof.Rows.ge_int (by
      have e : decide (q ≤ p) = !decide (p < q) := by by_cases h : p < q <;> simp [h] <;> omega
      rw [e]; exact hq)
theorem rc_str (o : OOp) (p q : Str) (t u : Tok) (A : Around) (s : Shared) : Ob.RcOp o.op A s (.str p t) (.str q u) (ordB o (.str p) (.str q)) := by
  intro prog w E Q hq
  cases o
  · exact PyProof.Rows.lt_str hq
  · exact PySem.P.le_str hq
  · exact PySem.P.gt_str hq
  · exact PySem.P.ge_str hq
theorem dec_sz {a b : Nat} (h : a = b) (o : OOp) : (match o with | .lt => decide (a < b) | .le => decide (a ≤ b) | .gt => decide (a > b) | .ge => decide (a ≥ b)) = ordZ o := by
  subst h
  cases o <;> simp [ordZ]
/-- comparisons by the library, of data of one make -/
theorem rc_ord (o : OOp) : ∀ (n : Nat) (d e : D), D.alk d e = true → D.shp n d = true → D.shp n e = true → ∀ (A : Around) (s : Shared) (v u : Value) (as bs : List Addr), Reads s.heap v d.py as → Reads s.heap u e.py bs → A.units + n < cLine →
    Ob.RcOp o.op A s v u (ordB o d e) := by
  intro n
  induction n with
  | zero =>
    intro d e ha sd se A s v u as bs rv ru hu
    cases d with
    | bl p => cases e with
      | bl q => cases rv; cases ru; exact rc_bl o p q A s
      | _ => simp [D.alk] at ha
    | int p => cases e with
      | int q => cases rv; cases ru; exact rc_int o p q _ _ A s
      | _ => simp [D.alk] at ha
    | str p => cases e with
      | str q => cases rv; cases ru; exact rc_str o p q _ _ A s
      | _ => simp [D.alk] at ha
    | tup ds => simp [D.shp] at sd
    | _ => cases e <;> simp [D.alk] at ha
  | succ n ih =>
    intro d e ha sd se A s v u as bs rv ru hu
    cases d with
    | bl p => cases e with
      | bl q => cases rv; cases ru; exact rc_bl o p q A s
      | _ => simp [D.alk] at ha
    | int p => cases e with
      | int q => cases rv; cases ru; exact rc_int o p q _ _ A s
      | _ => simp [D.alk] at ha
    | str p => cases e with
      | str q => cases rv; cases ru; exact rc_str o p q _ _ A s
      | _ => simp [D.alk] at ha
    | tup ds => cases e with
      | tup es =>
        have al : D.alkL ds es = true := by simpa [D.alk] using ha
        have s1 : D.shpL n ds = true := by simpa [D.shp] using sd
        have s2 : D.shpL n es = true := by simpa [D.shp] using se
        have hl := alkL_len al
        have rv' : Reads s.heap v (.tuple (D.pyL ds)) as := rv
        have ru' : Reads s.heap u (.tuple (D.pyL es)) bs := ru
        have c1 := shpL_can ds n s1
        have c2 := shpL_can es n s2
        cases rv' with
        | @tuple l ob its sz _ _ a1 a2 a3 a4 =>
          cases ru' with
          | @tuple l2 ob2 its2 sz2 _ _ b1 b2 b3 b4 =>
            have n1 : its.size = ds.length := by
              have := PySem.ReadsAll.lenAny a4
              rw [pyL_len] at this; simpa using this
            have n2 : its2.size = es.length := by
              have := PySem.ReadsAll.lenAny b4
              rw [pyL_len] at this; simpa using this
            have T1 : s.heap.IsTuple l its := ⟨ob, a1, a2, sz, a3⟩
            have T2 : s.heap.IsTuple l2 its2 := ⟨ob2, b1, b2, sz2, b3⟩
            have hE : ∀ j (h1 : j < its.size) (h2 : j < its2.size), SeqAt.EqAt A.in1 s its[j] its2[j] (D.eqv (ds.getD j .non) (es.getD j .non)) := fun j h1 h2 => by
              obtain ⟨d, ba, g1, g1', r1⟩ := reads_get a4 (j := j) (by simpa using h1)
              obtain ⟨e, bb, g2, g2', r2⟩ := reads_get b4 (j := j) (by simpa using h2)
              have sd := shpL_get s1 g1
              have se := shpL_get s2 g2
              obtain ⟨k1, k2⟩ := shp_can d n sd
              obtain ⟨k3, k4⟩ := shp_can e n se
              rw [g1', g2', ← eqv_py d e n sd se]
              exact SeqAt.eqAt_reads d.py e.py A.in1 s _ _ ba bb (by simpa using r1) (by simpa using r2) k1 k3 (by show A.units + 1 + _ < cLine; omega)
            have hR : ∀ j (h1 : j < its.size) (h2 : j < its2.size), D.eqv (ds.getD j .non) (es.getD j .non) = false → Ob.RcOp o.op A.in1 s its[j] its2[j] (ordB o (ds.getD j .non) (es.getD j .non)) := fun j h1 h2 _ => by
              obtain ⟨d, ba, g1, g1', r1⟩ := reads_get a4 (j := j) (by simpa using h1)
              obtain ⟨e, bb, g2, g2', r2⟩ := reads_get b4 (j := j) (by simpa using h2)
              rw [g1', g2']
              exact ih d e (alkL_get al g1 g2) (shpL_get s1 g1) (shpL_get s2 g2) A.in1 s _ _ ba bb (by simpa using r1) (by simpa using r2) (by show A.units + 1 + n < cLine; omega)
            have hz := lex_ord o (min its.size its2.size) 0 ds es hl (by omega)
            rw [List.drop_zero, List.drop_zero] at hz
            have key : ordB o (.tup ds) (.tup es) = ordL o ds es := by cases o <;> rfl
            rw [key, ← hz]
            have dz := dec_sz (show its.size = its2.size by omega) o
            cases o with
            | lt => have R := Ob.RcOp.tuples_lt T1 T2 (by omega) hE hR; rw [show decide (its.size < its2.size) = ordZ .lt from dz] at R; exact R
            | le => have R := Ob.RcOp.tuples_le T1 T2 (by omega) hE hR; rw [show decide (its.size ≤ its2.size) = ordZ .le from dz] at R; exact R
            | gt => have R := Ob.RcOp.tuples_gt T1 T2 (by omega) hE hR; rw [show decide (its.size > its2.size) = ordZ .gt from dz] at R; exact R
            | ge => have R := Ob.RcOp.tuples_ge T1 T2 (by omega) hE hR; rw [show decide (its.size ≥ its2.size) = ordZ .ge from dz] at R; exact R
      | _ => simp [D.alk] at ha
    | _ => cases e <;> simp [D.alk] at ha

mutual
theorem shp_up : ∀ (d : D) (n k : Nat), n ≤ k → D.shp n d = true → D.shp k d = true
  | .non, _, _, _, _ => rfl
  | .bl _, _, _, _, _ => rfl
  | .int _, _, _, _, _ => rfl
  | .str _, _, _, _, s => by simpa [D.shp] using s
  | .tup ds, 0, _, _, s => by simp [D.shp] at s
  | .tup ds, n + 1, 0, h, s => by omega
  | .tup ds, n + 1, k + 1, h, s => by
    have := shpL_up ds n k (by omega) (by simpa [D.shp] using s)
    simpa [D.shp] using this
  | .lst ds, 0, _, _, s => by simp [D.shp] at s
  | .lst ds, n + 1, 0, h, s => by omega
  | .lst ds, n + 1, k + 1, h, s => by
    have := shpL_up ds n k (by omega) (by simpa [D.shp] using s)
    simpa [D.shp] using this
  | .dic _ _, _, _, _, s => by simp [D.shp] at s
  | .exv _, _, _, _, s => by simp [D.shp] at s
theorem shpL_up : ∀ (ds : List D) (n k : Nat), n ≤ k → D.shpL n ds = true → D.shpL k ds = true
  | [], _, _, _, _ => rfl
  | d :: ds, n, k, h, s => by
    have s' : (D.shp n d && D.shpL n ds) = true := by simpa [D.shpL] using s
    obtain ⟨s1, s2⟩ := Bool.and_eq_true_iff.mp s'
    simp [D.shpL, shp_up d n k h s1, shpL_up ds n k h s2]
end
/-! ### comparisons by values -/
def COp.op : COp → CmpOp
  | .eq => .Eq | .ne => .NotEq | .lt => .Lt | .le => .LtE | .gt => .Gt | .ge => .GtE | .isIn => .In | .notIn => .NotIn | .is => .Is | .isnot => .IsNot
def rCmp (m : Mx) (op : COp) : R2 := fun x y H Q => ∃ d e r, RepQ m H x d ∧ RepQ m H y e ∧ cmpop op d e = .ok r ∧ Q (.bl r) H
section
variable {X : Cx} {m : Mx}
theorem ord_run (hm : m.K = X.K) (hu : X.A.units + 64 < cLine) (o : OOp) {pins : List (Addr × Obj)} {s : Shared} {σ : L2.St} {H : Hp} {x y : V} {v u : Value} {Q : VK} (I : Inv X pins σ H s) (rx : RelV x v) (ry : RelV y u) {d e : D}
    (hd : RepQ m H x d) (he : RepQ m H y e) (c : (D.alk d e && D.shp 60 d && D.shp 60 e) = true) (q : Q (.bl (ordB o d e)) H) : wpAny (model X.prog X.w) X.A (richCompare o.op v u) (EP X pins σ Q) X.xe s := by
  obtain ⟨c1, c3⟩ := Bool.and_eq_true_iff.mp c
  obtain ⟨c1, c2⟩ := Bool.and_eq_true_iff.mp c1
  have h1 := hd.dp c2
  have h2 := he.dp c3
  rw [hm] at h1 h2
  obtain ⟨as, r1⟩ := Dp.reads I _ _ _ h1 rx
  obtain ⟨bs, r2⟩ := Dp.reads I _ _ _ h2 ry
  exact rc_ord o 60 d e c1 c2 c3 X.A s v u as bs r1 r2 (by omega) X.prog X.w X.xe _ ⟨.bl _, H, I, rfl, q⟩
theorem pyL_any (d : D) (hd : D.shp 60 d = true) : ∀ (xs : List D) (n : Nat), n ≤ 60 → D.shpL n xs = true → ((D.pyL xs).any fun y => PyData.eqv y d.py) = xs.any fun y => D.eqv y d
  | [], _, _, _ => rfl
  | x :: xs, n, hn, s => by
    have s' : (D.shp n x && D.shpL n xs) = true := by simpa [D.shpL] using s
    obtain ⟨s1, s2⟩ := Bool.and_eq_true_iff.mp s'
    have up : D.shp 60 x = true := shp_up x n 60 hn s1
    simp only [D.pyL, List.any_cons, eqv_py x d 60 up hd, pyL_any d hd xs n hn s2]
theorem dget_val {H : Hp} (k : Key) : ∀ {ks : List Key} {xs : List V} {ds : List D}, ks.length = xs.length → RepL m H xs ds →
    (match valV (ks.zip xs) k, dget ks ds k with | some x, some d => Rep m H x d | none, none => True | _, _ => False)
  | [], [], _, _, h => by cases h; exact True.intro
  | k' :: ks, x :: xs, _, l, h => by
    cases h with
    | @cons _ _ d ds a b =>
      have ih := dget_val (H := H) k (ks := ks) (xs := xs) (ds := ds) (by simpa using l) b
      by_cases e : k' = k
      · rw [List.zip_cons_cons, valV_pos (p := (k', x)) e]
        simp only [dget, if_pos e]
        exact a
      · rw [List.zip_cons_cons, valV_neg (p := (k', x)) e]
        simp only [dget, if_neg e]
        exact ih
  | [], _ :: _, _, l, _ => by simp at l
  | _ :: _, [], _, l, _ => by simp at l
theorem keyOf_rel {H : Hp} {x : V} {d : D} {k : Key} (h : RepQ m H x d) (e : keyOf d = some k) : x = kV k := by
  cases d with
  | int i =>
    cases e
    cases h with | rd h => exact h.intE
  | str i =>
    cases e
    cases h with | rd h => exact h.strE
  | _ => cases e
theorem isNon_rel {H : Hp} {x : V} {d : D} (h : RepQ m H x d) : decide (x = .non) = isNon d := by
  cases h with
  | rd h =>
    cases h with
    | fz h => cases h <;> simp [isNon]
    | _ => simp [isNon]
  | rows _ _ => simp [isNon]
theorem op_isIn (hm : m.K = X.K) (hu : X.A.units + 66 < cLine) (neg : Bool) : OpR X (compareOp (if neg then .NotIn else .In)) (fun x y H Q => ∃ d e r, RepQ m H x d ∧ RepQ m H y e ∧ memD d e = .ok r ∧ Q (.bl (if neg then !r else r)) H) := by
  intro pins s σ H x y v u Q I rx ry h
  obtain ⟨d, e, r, hd, he, hr, q⟩ := h
  unfold memD at hr
  split at hr
  · rename_i xs
    split at hr
    · rename_i c
      obtain ⟨c1, c2⟩ := Bool.and_eq_true_iff.mp c
      have h1 := hd.dp c1
      have h2 := he.dp c2
      rw [hm] at h1 h2
      obtain ⟨as, r1⟩ := Dp.reads I _ _ _ h1 rx
      obtain ⟨bs, r2⟩ := Dp.reads I _ _ _ h2 ry
      have c2' : D.shpL 59 xs = true := by simpa [D.shp] using c2
      obtain ⟨k1, k2⟩ := shp_can d 60 c1
      obtain ⟨k3, k4⟩ := shpL_can xs 59 c2'
      have an := pyL_any d c1 xs 59 (by omega) c2'
      cases hr
      have r2' : Reads s.heap u (.list (D.pyL xs)) bs := r2
      cases neg with
      | false => exact SeqAt.in_list_reads r2' r1 k3 k1 (by omega) ⟨.bl _, H, I, by rw [an]; rfl, q⟩
      | true => exact SeqAt.notIn_list_reads r2' r1 k3 k1 (by omega) ⟨.bl _, H, I, by rw [an]; rfl, q⟩
    · cases hr
  · rename_i xs
    split at hr
    · rename_i c
      obtain ⟨c1, c2⟩ := Bool.and_eq_true_iff.mp c
      have h1 := hd.dp c1
      have h2 := he.dp c2
      rw [hm] at h1 h2
      obtain ⟨as, r1⟩ := Dp.reads I _ _ _ h1 rx
      obtain ⟨bs, r2⟩ := Dp.reads I _ _ _ h2 ry
      have c2' : D.shpL 59 xs = true := by simpa [D.shp] using c2
      obtain ⟨k1, k2⟩ := shp_can d 60 c1
      obtain ⟨k3, k4⟩ := shpL_can xs 59 c2'
      have an := pyL_any d c1 xs 59 (by omega) c2'
      cases hr
      have r2' : Reads s.heap u (.tuple (D.pyL xs)) bs := r2
      cases neg with
      | false => exact SeqAt.in_tuple_reads r2' r1 k3 k1 (by omega) ⟨.bl _, H, I, by rw [an]; rfl, q⟩
      | true => exact SeqAt.notIn_tuple_reads r2' r1 k3 k1 (by omega) ⟨.bl _, H, I, by rw [an]; rfl, q⟩
    · cases hr
  · rename_i z
    split at hr
    · rename_i y1
      split at hr
      · rename_i hc
        cases hr
        have e0 : y1 = ⟨#[y1.cps.getD 0 0]⟩ := by
          obtain ⟨a⟩ := y1
          have hc' : a.size = 1 := hc
          have : a = #[a.getD 0 0] := by
            apply Array.ext
            · simp [hc']
            · intro i h1 h2
              have : i = 0 := by omega
              subst this
              simp [Array.getD, hc']
          exact congrArg Str.mk this
        have e1 : x = .str ⟨#[y1.cps.getD 0 0]⟩ := by rw [← e0]; cases hd with | rd h => exact h.strE
        have e2 : y = .str z := by cases he with | rd h => exact h.strE
        cases neg with
        | false => exact op_in_sign pins s σ H _ _ v u Q I rx ry ⟨_, z, e1, e2, q⟩
        | true => exact op_notIn_sign pins s σ H _ _ v u Q I rx ry ⟨_, z, e1, e2, q⟩
      · cases hr
    · cases hr
  · rename_i ks vs
    split at hr
    · rename_i k hk
      cases hr
      have e1 := keyOf_rel hd hk
      obtain ⟨a, xs, e2, hH, hl, hv⟩ : ∃ a xs, y = .ref a ∧ Rd H a (.dK (ks.zip xs)) ∧ ks.length = xs.length ∧ RepL m H xs vs := by
        cases he with | rd h => exact h.dicE
      subst e1; subst e2
      cases (show u = Value.ref a from ry)
      have g : DGet H a (kV k) (valV (ks.zip xs) k) := .inl ⟨_, k, hH, rfl, rfl⟩
      have dv := dget_val (m := m) (H := H) k hl hv
      have same : (valV (ks.zip xs) k).isSome = (dget ks vs k).isSome := by
        revert dv
        cases valV (ks.zip xs) k <;> cases dget ks vs k <;> simp
      cases neg with
      | false => exact d_in (by omega) I g rx fun s' I' => ⟨.bl _, H, I', by rw [same]; rfl, q⟩
      | true => exact d_notIn (by omega) I g rx fun s' I' => ⟨.bl _, H, I', by rw [same]; rfl, q⟩
    · cases hr
  · cases hr
/-- a value is no truth -/
theorem rel_is (neg : Bool) {pins : List (Addr × Obj)} {s : Shared} {σ : L2.St} {H : Hp} {x : V} {v : Value} {b : Bool} {Q : VK} (I : Inv X pins σ H s) (rx : RelV x v) (nb : ∀ c, x ≠ .bl c) (q : Q (.bl neg) H) :
    wpAny (model X.prog X.w) X.A (compareOp (if neg then .IsNot else .Is) v (.bool b)) (EP X pins σ Q) X.xe s := by
  have key : plainIs v (.bool b) = true ∧ v ≠ .bool b := by
    cases x <;> first
      | (exact absurd rfl (nb _))
      | (cases rx; exact ⟨rfl, fun h => by cases h⟩)
      | (obtain ⟨t, rfl⟩ := rx; exact ⟨rfl, fun h => by cases h⟩)
  cases neg with
  | false => exact wpAny_is_other key.1 key.2 ⟨.bl false, H, I, rfl, q⟩
  | true => exact wpAny_isNot_other key.1 key.2 ⟨.bl true, H, I, rfl, q⟩
theorem repQ_nb {H : Hp} {x : V} {d : D} (h : RepQ m H x d) (n : ∀ c, d ≠ .bl c) : ∀ c, x ≠ .bl c := by
  intro c e
  subst e
  cases h with
  | rd h => cases h with
    | fz h => cases h; exact n _ rfl
theorem op_isD (neg : Bool) : OpR X (compareOp (if neg then .IsNot else .Is)) (fun x y H Q => ∃ d e r, RepQ m H x d ∧ RepQ m H y e ∧ isD d e = .ok r ∧ Q (.bl (if neg then !r else r)) H) := by
  intro pins s σ H x y v u Q I rx ry h
  obtain ⟨d, e, r, hd, he, hr, q⟩ := h
  have bl : ∀ c, e = .bl c → u = .bool c := fun c h => by
    subst h
    cases he with
    | rd h => rw [h.blE] at ry; exact ry
  have other : (∀ c, d ≠ .bl c) → r = false → (∃ c, e = .bl c) → wpAny (model X.prog X.w) X.A (compareOp (if neg then .IsNot else .Is) v u) (EP X pins σ Q) X.xe s := fun n e1 ⟨c, e2⟩ => by
    rw [bl c e2]
    subst e1
    exact rel_is neg I rx (repQ_nb hd n) (by cases neg <;> exact q)
  unfold isD at hr
  split at hr
  · have e1 : y = .non := by cases he with | rd h => exact h.nonE
    cases hr
    have e2 := isNon_rel hd
    cases neg with
    | false => exact op_isN pins s σ H _ _ v u Q I rx ry ⟨e1, by rw [e2]; exact q⟩
    | true => exact op_notN pins s σ H _ _ v u Q I rx ry ⟨e1, by rw [e2]; exact q⟩
  · rename_i a b
    cases hr
    have e1 : x = .bl a := by cases hd with | rd h => exact h.blE
    have e2 : y = .bl b := by cases he with | rd h => exact h.blE
    have e3 : decide (a = b) = (a == b) := by cases a <;> cases b <;> rfl
    cases neg with
    | false => exact op_is_bl pins s σ H _ _ v u Q I rx ry ⟨a, b, e1, e2, by rw [e3]; exact q⟩
    | true => exact op_isnot_bl pins s σ H _ _ v u Q I rx ry ⟨a, b, e1, e2, by rw [e3]; exact q⟩
  · cases hr; exact other (fun c h => by cases h) rfl ⟨_, rfl⟩
  · cases hr; exact other (fun c h => by cases h) rfl ⟨_, rfl⟩
  · cases hr; exact other (fun c h => by cases h) rfl ⟨_, rfl⟩
  · cases hr; exact other (fun c h => by cases h) rfl ⟨_, rfl⟩
  · cases hr; exact other (fun c h => by cases h) rfl ⟨_, rfl⟩
  · cases hr
theorem op_cmp (hm : m.K = X.K) (hu : X.A.units + 66 < cLine) (op : COp) : OpR X (compareOp op.op) (rCmp m op) := by
  intro pins s σ H x y v u Q I rx ry h
  obtain ⟨d, e, r, hd, he, hr, q⟩ := h
  cases op with
  | eq =>
    simp only [cmpop] at hr
    split at hr
    · rename_i c
      obtain ⟨c1, c2⟩ := Bool.and_eq_true_iff.mp c
      cases hr
      exact op_eqD (by omega) pins s σ H _ _ v u Q I rx ry ⟨_, _, hm ▸ hd.dp c1, hm ▸ he.dp c2, shp_shaped c1, shp_shaped c2, by rw [eqv_py d e 60 c1 c2]; exact q⟩
    · cases hr
  | ne =>
    simp only [cmpop] at hr
    split at hr
    · rename_i c
      obtain ⟨c1, c2⟩ := Bool.and_eq_true_iff.mp c
      cases hr
      exact op_neD (by omega) pins s σ H _ _ v u Q I rx ry ⟨_, _, hm ▸ hd.dp c1, hm ▸ he.dp c2, shp_shaped c1, shp_shaped c2, by rw [eqv_py d e 60 c1 c2]; exact q⟩
    · cases hr
  | lt =>
    simp only [cmpop] at hr
    split at hr
    · rename_i c
      cases hr
      exact ord_run hm (by omega) .lt I rx ry hd he c q
    · cases hr
  | gt =>
    simp only [cmpop] at hr
    split at hr
    · rename_i c
      cases hr
      exact ord_run hm (by omega) .gt I rx ry hd he c q
    · cases hr
  | le =>
    simp only [cmpop] at hr
    split at hr
    · rename_i c
      cases hr
      exact ord_run hm (by omega) .le I rx ry hd he c q
    · cases hr
  | ge =>
    simp only [cmpop] at hr
    split at hr
    · rename_i c
      cases hr
      exact ord_run hm (by omega) .ge I rx ry hd he c q
    · cases hr
  | isIn => exact op_isIn hm hu false pins s σ H _ _ v u Q I rx ry ⟨d, e, r, hd, he, hr, q⟩
  | notIn =>
    simp only [cmpop] at hr
    cases hmd : memD d e with
    | ok r' =>
      rw [hmd] at hr
      cases hr
      exact op_isIn hm hu true pins s σ H _ _ v u Q I rx ry ⟨d, e, r', hd, he, hmd, q⟩
    | exc c => rw [hmd] at hr; cases hr
    | stk => rw [hmd] at hr; cases hr
  | is => exact op_isD false pins s σ H _ _ v u Q I rx ry ⟨d, e, r, hd, he, hr, q⟩
  | isnot =>
    simp only [cmpop] at hr
    cases hmd : isD d e with
    | ok r' =>
      rw [hmd] at hr
      cases hr
      exact op_isD true pins s σ H _ _ v u Q I rx ry ⟨d, e, r', hd, he, hmd, q⟩
    | exc c => rw [hmd] at hr; cases hr
    | stk => rw [hmd] at hr; cases hr
end
end Fc
/-! Ev2x: min and max of two data of one make. -/
namespace Fc
open PySem PySem.Spec
open PyProof.Rows L2
mutual
theorem alk_left : ∀ d e : D, D.alk d e = true → D.alk d d = true
  | .bl _, _, _ => rfl
  | .int _, _, _ => rfl
  | .str _, _, _ => rfl
  | .tup xs, .tup ys, h => by
    simp only [D.alk] at h ⊢
    exact alkL_left xs ys h
  | .tup _, .non, h => by simp [D.alk] at h
  | .tup _, .bl _, h => by simp [D.alk] at h
  | .tup _, .int _, h => by simp [D.alk] at h
  | .tup _, .str _, h => by simp [D.alk] at h
  | .tup _, .lst _, h => by simp [D.alk] at h
  | .tup _, .dic _ _, h => by simp [D.alk] at h
  | .tup _, .exv _, h => by simp [D.alk] at h
  | .non, e, h => by cases e <;> simp [D.alk] at h
  | .lst _, e, h => by cases e <;> simp [D.alk] at h
  | .dic _ _, e, h => by cases e <;> simp [D.alk] at h
  | .exv _, e, h => by cases e <;> simp [D.alk] at h
theorem alkL_left : ∀ xs ys : List D, D.alkL xs ys = true → D.alkL xs xs = true
  | [], _, _ => rfl
  | x :: xs, [], h => by simp [D.alkL] at h
  | x :: xs, y :: ys, h => by
    simp only [D.alkL, Bool.and_eq_true] at h ⊢
    exact ⟨alk_left x y h.1, alkL_left xs ys h.2⟩
end
mutual
theorem alk_symm : ∀ d e : D, D.alk d e = true → D.alk e d = true
  | .bl _, e, h => by cases e <;> first | rfl | simp [D.alk] at h
  | .int _, e, h => by cases e <;> first | rfl | simp [D.alk] at h
  | .str _, e, h => by cases e <;> first | rfl | simp [D.alk] at h
  | .tup xs, .tup ys, h => by
    simp only [D.alk] at h ⊢
    exact alkL_symm xs ys h
  | .tup _, .non, h => by simp [D.alk] at h
  | .tup _, .bl _, h => by simp [D.alk] at h
  | .tup _, .int _, h => by simp [D.alk] at h
  | .tup _, .str _, h => by simp [D.alk] at h
  | .tup _, .lst _, h => by simp [D.alk] at h
  | .tup _, .dic _ _, h => by simp [D.alk] at h
  | .tup _, .exv _, h => by simp [D.alk] at h
  | .non, e, h => by cases e <;> simp [D.alk] at h
  | .lst _, e, h => by cases e <;> simp [D.alk] at h
  | .dic _ _, e, h => by cases e <;> simp [D.alk] at h
  | .exv _, e, h => by cases e <;> simp [D.alk] at h
theorem alkL_symm : ∀ xs ys : List D, D.alkL xs ys = true → D.alkL ys xs = true
  | [], [], _ => rfl
  | [], _ :: _, h => by simp [D.alkL] at h
  | x :: xs, [], h => by simp [D.alkL] at h
  | x :: xs, y :: ys, h => by
    simp only [D.alkL, Bool.and_eq_true] at h ⊢
    exact ⟨alk_symm x y h.1, alkL_symm xs ys h.2⟩
end
section
variable {prog : Program} {w : World} {A : Around} {E : Value → Shared → Prop} {s : Shared} {a b : Value} {d e : PyData} {as bs : List Addr} {Q : Value → Shared → Prop}
theorem two_alike (h1 : PySem.W.alike d e = true) (h3 : PySem.W.alike d d = true) (h4 : PySem.W.alike e e = true) (n1 : d ≠ .none) (n2 : e ≠ .none) : PySem.W.AlikeAll [d, e] := by
  have h2 : PySem.W.alike e d = true := by rw [← PySem.W.alike_comm]; exact h1
  refine ⟨fun x hx y hy => ?_, fun x hx => ?_⟩
  · rcases List.mem_cons.mp hx with rfl | hx
    · rcases List.mem_cons.mp hy with rfl | hy
      · exact h3
      · obtain rfl := List.mem_singleton.mp hy; exact h1
    · obtain rfl := List.mem_singleton.mp hx
      rcases List.mem_cons.mp hy with rfl | hy
      · exact h2
      · obtain rfl := List.mem_singleton.mp hy; exact h4
  · rcases List.mem_cons.mp hx with rfl | hx
    · exact n1
    · obtain rfl := List.mem_singleton.mp hx; exact n2
/-- max(a, b) of alike data -/
theorem max_two_data (hh : A.handled = none) (ra : Reads s.heap a d as) (rb : Reads s.heap b e bs) (al : PySem.W.AlikeAll [d, e]) (hu : A.in1.units + PyData.depthAll [d, e] < cLine)
    (h : ∀ h' tk, (∀ c o, s.heap.get? c = some o → h'.get? c = some o) → Q (if PySem.W.dataLt d e = true then b else a) { s with heap := h', toks := tk }) :
    wpAny (model prog w) A (call (.builtin "max") [a, b]) Q E s := by
  have hname : (toString "max" ++ toString ".loop" : String) = "max.loop" := by decide
  refine call_function_tree F.kind_max F.plain_max F.entry_max (F.args_max2 _ _) ?_
  show wpAny _ A.in1 (Builtin.Builtins.bindParams "max" ["key", "default"] 0 ⟨[], []⟩ >>= _) _ _ s
  refine wpAny_bind (wpAny_of_eq (show Builtin.Builtins.bindParams "max" ["key", "default"] 0 ⟨[], []⟩ = pure [none, none] from rfl) ?_)
  show wpAny _ A.in1 (newTuple [a, b] >>= _) _ _ s
  refine wpAny_bind (wpAny_newObj_type ?_)
  have k1 : ∀ c o, s.heap.get? c = some o → (s.heap.push { cls := .type "tuple", data := .seq #[a, b] }).get? c = some o := fun c o e => Heap.get?_push_of_some _ e
  have hT : (s.heap.push { cls := .type "tuple", data := .seq #[a, b] }).IsTuple s.heap.objs.size #[a, b] := ⟨_, Heap.get?_push_size _ rfl, rfl, 0, rfl⟩
  refine wpAny_bind (PySem.W.iter_tupleW (A := A.in1) (s := { s with heap := s.heap.push { cls := .type "tuple", data := .seq #[a, b] } }) hh hT fun s₂ e2 W hst hfp hw hkeep => ?_)
  have hr : ReadsAll (s.heap.push { cls := .type "tuple", data := .seq #[a, b] }) (#[a, b] : Array Value).toList [d, e] _ := .cons (PySem.W.reads_keeps k1 ra) (.cons (PySem.W.reads_keeps k1 rb) .nil)
  have cmp := PySem.W.cmpIn_gt (prog := prog) (w := w) (A := A.in1) (s := { s with heap := s.heap.push { cls := .type "tuple", data := .seq #[a, b] } }) hr al hu
  refine wpAny_bind (wpAny_newObj_type ?_)
  have hSf : s₂.heap.objs.size ∉ _ := fun hm => Nat.lt_irrefl _ (hfp _ hm)
  rw [hname]
  refine wpAny_pure ⟨plainId_quiet F.plain_max_loop _, codeAny_max_loop_firstH W _ hw _ cmp s₂.heap.objs.size hSf (fresh_in hkeep) _ (Nat.zero_lt_succ 1) (fun b o e => Heap.get?_push_of_some _ (hkeep b o e)) (W.frame 0 s₂ _ s₂.toks hst (Nat.le_refl _) fun b _ o e => Heap.get?_push_of_some _ e) (Heap.get?_push_size _ rfl) fun v s' hP hm => ?_⟩
  obtain ⟨h', tk, es, kp⟩ := PySem.W.moved_old (s := { s with heap := s.heap.push { cls := .type "tuple", data := .seq #[a, b] } }) e2 rfl (Moved.drop_new (tk := s₂.toks) hm (Nat.le_refl _))
  subst es
  have hv : v = if PySem.W.dataLt d e = true then b else a := by
    by_cases c : PySem.W.dataLt d e = true
    · have e1 : argBest (fun i j => PySem.W.dataLt ([d, e].getD j .none) ([d, e].getD i .none)) 1 = 1 := by simp [argBest, c]
      have hP : (#[a, b] : Array Value)[argBest (fun i j => PySem.W.dataLt ([d, e].getD j .none) ([d, e].getD i .none)) 1]? = some v := hP
      rw [e1] at hP
      rw [if_pos c]; simpa using hP.symm
    · have e1 : argBest (fun i j => PySem.W.dataLt ([d, e].getD j .none) ([d, e].getD i .none)) 1 = 0 := by simp [argBest, c]
      have hP : (#[a, b] : Array Value)[argBest (fun i j => PySem.W.dataLt ([d, e].getD j .none) ([d, e].getD i .none)) 1]? = some v := hP
      rw [e1] at hP
      rw [if_neg c]; simpa using hP.symm
  rw [hv]
  exact h h' tk fun c o e => kp c o (k1 c o e)
/-- min(a, b) of alike data -/
theorem min_two_data (hh : A.handled = none) (ra : Reads s.heap a d as) (rb : Reads s.heap b e bs) (al : PySem.W.AlikeAll [d, e]) (hu : A.in1.units + PyData.depthAll [d, e] < cLine)
    (h : ∀ h' tk, (∀ c o, s.heap.get? c = some o → h'.get? c = some o) → Q (if PySem.W.dataLt e d = true then b else a) { s with heap := h', toks := tk }) :
    wpAny (model prog w) A (call (.builtin "min") [a, b]) Q E s := by
  have hname : (toString "min" ++ toString ".loop" : String) = "min.loop" := by decide
  refine call_function_tree F.kind_min F.plain_min F.entry_min (F.args_min2 _ _) ?_
  show wpAny _ A.in1 (Builtin.Builtins.bindParams "min" ["key", "default"] 0 ⟨[], []⟩ >>= _) _ _ s
  refine wpAny_bind (wpAny_of_eq (show Builtin.Builtins.bindParams "min" ["key", "default"] 0 ⟨[], []⟩ = pure [none, none] from rfl) ?_)
  show wpAny _ A.in1 (newTuple [a, b] >>= _) _ _ s
  refine wpAny_bind (wpAny_newObj_type ?_)
  have k1 : ∀ c o, s.heap.get? c = some o → (s.heap.push { cls := .type "tuple", data := .seq #[a, b] }).get? c = some o := fun c o e => Heap.get?_push_of_some _ e
  have hT : (s.heap.push { cls := .type "tuple", data := .seq #[a, b] }).IsTuple s.heap.objs.size #[a, b] := ⟨_, Heap.get?_push_size _ rfl, rfl, 0, rfl⟩
  refine wpAny_bind (PySem.W.iter_tupleW (A := A.in1) (s := { s with heap := s.heap.push { cls := .type "tuple", data := .seq #[a, b] } }) hh hT fun s₂ e2 W hst hfp hw hkeep => ?_)
  have hr : ReadsAll (s.heap.push { cls := .type "tuple", data := .seq #[a, b] }) (#[a, b] : Array Value).toList [d, e] _ := .cons (PySem.W.reads_keeps k1 ra) (.cons (PySem.W.reads_keeps k1 rb) .nil)
  have cmp := PySem.W.cmpIn_lt (prog := prog) (w := w) (A := A.in1) (s := { s with heap := s.heap.push { cls := .type "tuple", data := .seq #[a, b] } }) hr al hu
  refine wpAny_bind (wpAny_newObj_type ?_)
  have hSf : s₂.heap.objs.size ∉ _ := fun hm => Nat.lt_irrefl _ (hfp _ hm)
  rw [hname]
  refine wpAny_pure ⟨plainId_quiet F.plain_min_loop _, codeAny_min_loop_firstH W _ hw _ cmp s₂.heap.objs.size hSf (fresh_in hkeep) _ (Nat.zero_lt_succ 1) (fun b o e => Heap.get?_push_of_some _ (hkeep b o e)) (W.frame 0 s₂ _ s₂.toks hst (Nat.le_refl _) fun b _ o e => Heap.get?_push_of_some _ e) (Heap.get?_push_size _ rfl) fun v s' hP hm => ?_⟩
  obtain ⟨h', tk, es, kp⟩ := PySem.W.moved_old (s := { s with heap := s.heap.push { cls := .type "tuple", data := .seq #[a, b] } }) e2 rfl (Moved.drop_new (tk := s₂.toks) hm (Nat.le_refl _))
  subst es
  have hv : v = if PySem.W.dataLt e d = true then b else a := by
    by_cases c : PySem.W.dataLt e d = true
    · have e1 : argBest (fun i j => PySem.W.dataLt ([d, e].getD i .none) ([d, e].getD j .none)) 1 = 1 := by simp [argBest, c]
      have hP : (#[a, b] : Array Value)[argBest (fun i j => PySem.W.dataLt ([d, e].getD i .none) ([d, e].getD j .none)) 1]? = some v := hP
      rw [e1] at hP
      rw [if_pos c]; simpa using hP.symm
    · have e1 : argBest (fun i j => PySem.W.dataLt ([d, e].getD i .none) ([d, e].getD j .none)) 1 = 0 := by simp [argBest, c]
      have hP : (#[a, b] : Array Value)[argBest (fun i j => PySem.W.dataLt ([d, e].getD i .none) ([d, e].getD j .none)) 1]? = some v := hP
      rw [e1] at hP
      rw [if_neg c]; simpa using hP.symm
  rw [hv]
  exact h h' tk fun c o e => kp c o (k1 c o e)
end
end Fc
/-! Ev2d: builtins, methods, items, slices keep to what Ev1 says of data. -/
namespace Fc
open PySem PySem.Spec
open PyProof.Rows L2
variable [Tb]

section
variable {m : Mx} {H : Hp}
theorem allB_rel : ∀ {ds : List D} {xs : List V} {bs : List Bool}, allB ds = some bs → RepL m H xs ds → xs = bs.map V.bl
  | [], _, _, e, h => by cases e; cases h; rfl
  | .bl b :: r, _, bs, e, h => by
    simp only [allB, Option.map_eq_some_iff] at e
    obtain ⟨cs, e1, rfl⟩ := e
    cases h with
    | cons a h => cases a; rw [allB_rel e1 h]; rfl
  | .non :: _, _, _, e, _ => by cases e
  | .int _ :: _, _, _, e, _ => by cases e
  | .str _ :: _, _, _, e, _ => by cases e
  | .tup _ :: _, _, _, e, _ => by cases e
  | .lst _ :: _, _, _, e, _ => by cases e
  | .dic _ _ :: _, _, _, e, _ => by cases e
  | .exv _ :: _, _, _, e, _ => by cases e
theorem allI_rel : ∀ {ds : List D} {xs : List V} {bs : List Int}, allI ds = some bs → RepL m H xs ds → xs = bs.map V.int
  | [], _, _, e, h => by cases e; cases h; rfl
  | .int b :: r, _, bs, e, h => by
    simp only [allI, Option.map_eq_some_iff] at e
    obtain ⟨cs, e1, rfl⟩ := e
    cases h with
    | cons a h => cases a; rw [allI_rel e1 h]; rfl
  | .non :: _, _, _, e, _ => by cases e
  | .bl _ :: _, _, _, e, _ => by cases e
  | .str _ :: _, _, _, e, _ => by cases e
  | .tup _ :: _, _, _, e, _ => by cases e
  | .lst _ :: _, _, _, e, _ => by cases e
  | .dic _ _ :: _, _, _, e, _ => by cases e
  | .exv _ :: _, _, _, e, _ => by cases e
theorem allS_rel : ∀ {ds : List D} {xs : List V} {bs : List Str}, allS ds = some bs → RepL m H xs ds → xs = bs.map V.str
  | [], _, _, e, h => by cases e; cases h; rfl
  | .str b :: r, _, bs, e, h => by
    simp only [allS, Option.map_eq_some_iff] at e
    obtain ⟨cs, e1, rfl⟩ := e
    cases h with
    | cons a h => cases a; rw [allS_rel e1 h]; rfl
  | .non :: _, _, _, e, _ => by cases e
  | .bl _ :: _, _, _, e, _ => by cases e
  | .int _ :: _, _, _, e, _ => by cases e
  | .tup _ :: _, _, _, e, _ => by cases e
  | .lst _ :: _, _, _, e, _ => by cases e
  | .dic _ _ :: _, _, _, e, _ => by cases e
  | .exv _ :: _, _, _, e, _ => by cases e
end

/-! ### the order, as the library's sorting has it -/
mutual
theorem alk_py : ∀ d e : D, D.alk d e = true → PySem.W.alike d.py e.py = true
  | .bl _, e, h => by cases e <;> first | rfl | (simp [D.alk] at h) | (simp [D.py, PySem.W.alike])
  | .int _, e, h => by cases e <;> first | rfl | (simp [D.alk] at h) | (simp [D.py, PySem.W.alike])
  | .str _, e, h => by cases e <;> first | rfl | (simp [D.alk] at h) | (simp [D.py, PySem.W.alike])
  | .tup ds, e, h => by
    cases e with
    | tup es =>
      have h' : D.alkL ds es = true := by simpa [D.alk] using h
      simp only [D.py, PySem.W.alike]; exact alkL_py ds es h'
    | _ => simp [D.alk] at h
  | .non, e, h => by cases e <;> simp [D.alk] at h
  | .lst _, e, h => by cases e <;> simp [D.alk] at h
  | .dic _ _, e, h => by cases e <;> simp [D.alk] at h
  | .exv _, e, h => by cases e <;> simp [D.alk] at h
theorem alkL_py : ∀ ds es : List D, D.alkL ds es = true → PySem.W.alikeAll (D.pyL ds) (D.pyL es) = true
  | [], [], _ => by simp [D.pyL, PySem.W.alikeAll]
  | [], _ :: _, h => by simp [D.alkL] at h
  | _ :: _, [], h => by simp [D.alkL] at h
  | d :: ds, e :: es, h => by
    have h' : (D.alk d e && D.alkL ds es) = true := by simpa [D.alkL] using h
    obtain ⟨h1, h2⟩ := Bool.and_eq_true_iff.mp h'
    simp [D.pyL, PySem.W.alikeAll, alk_py d e h1, alkL_py ds es h2]
end
mutual
theorem lt_py : ∀ (d e : D) (n : Nat), D.alk d e = true → D.shp n d = true → D.shp n e = true → PySem.W.dataLt d.py e.py = D.lt d e
  | .bl a, e, n, h, _, _ => by
    cases e with
    | bl b => rw [show (D.bl a).py = .bool a from rfl, show (D.bl b).py = .bool b from rfl, PySem.W.dataLt_bool]; cases a <;> cases b <;> rfl
    | _ => simp [D.alk] at h
  | .int a, e, n, h, _, _ => by
    cases e with
    | int b => exact PySem.W.dataLt_int a b
    | _ => simp [D.alk] at h
  | .str a, e, n, h, _, _ => by
    cases e with
    | str b => exact PySem.W.dataLt_str a b
    | _ => simp [D.alk] at h
  | .tup ds, e, 0, h, s, _ => by simp [D.shp] at s
  | .tup ds, e, n + 1, h, s, t => by
    cases e with
    | tup es =>
      have h' : D.alkL ds es = true := by simpa [D.alk] using h
      have q := ltL_py ds es n h' (by simpa [D.shp] using s) (by simpa [D.shp] using t)
      rw [show (D.tup ds).py = .tuple (D.pyL ds) from rfl, show (D.tup es).py = .tuple (D.pyL es) from rfl, PySem.W.dataLt_tuple]
      exact q
    | _ => simp [D.alk] at h
  | .non, e, _, h, _, _ => by cases e <;> simp [D.alk] at h
  | .lst _, e, _, h, _, _ => by cases e <;> simp [D.alk] at h
  | .dic _ _, e, _, h, _, _ => by cases e <;> simp [D.alk] at h
  | .exv _, e, _, h, _, _ => by cases e <;> simp [D.alk] at h
theorem ltL_py : ∀ (ds es : List D) (n : Nat), D.alkL ds es = true → D.shpL n ds = true → D.shpL n es = true →
    PyProof.Rows.lexLt itemOrd (PySem.W.keyToksAll (D.pyL ds)) (PySem.W.keyToksAll (D.pyL es)) = D.ltL ds es
  | [], [], _, _, _, _ => lex_irrefl _
  | [], _ :: _, _, h, _, _ => by simp [D.alkL] at h
  | _ :: _, [], _, h, _, _ => by simp [D.alkL] at h
  | d :: ds, e :: es, n, h, s, t => by
    have h' : (D.alk d e && D.alkL ds es) = true := by simpa [D.alkL] using h
    have s' : (D.shp n d && D.shpL n ds) = true := by simpa [D.shpL] using s
    have t' : (D.shp n e && D.shpL n es) = true := by simpa [D.shpL] using t
    obtain ⟨h1, h2⟩ := Bool.and_eq_true_iff.mp h'
    obtain ⟨s1, s2⟩ := Bool.and_eq_true_iff.mp s'
    obtain ⟨t1, t2⟩ := Bool.and_eq_true_iff.mp t'
    simp only [D.pyL, D.ltL]
    rw [PySem.W.dataLt_cons (alk_py d e h1), eqv_py d e n s1 t1, lt_py d e n h1 s1 t1, ltL_py ds es n h2 s2 t2]
end
theorem alkAll_get {xs : List D} (h : alkAll xs = true) : ∀ x ∈ xs, ∀ y ∈ xs, D.alk x y = true ∧ D.shp 60 x = true := fun x hx y hy => by
  have h1 := List.all_eq_true.mp h x hx
  have h2 := List.all_eq_true.mp h1 y hy
  exact Bool.and_eq_true_iff.mp h2

section
variable {m : Mx} {H : Hp}
theorem RepL.ofPairs : ∀ {L : List (D × V)}, (∀ p ∈ L, Rep m H p.2 p.1) → RepL m H (L.map (·.2)) (L.map (·.1))
  | [], _ => .nil
  | p :: r, h => .cons (h p (List.mem_cons_self ..)) (RepL.ofPairs fun q hq => h q (List.mem_cons_of_mem _ hq))
theorem RepL.zip : ∀ {ds : List D} {xs : List V}, RepL m H xs ds → (∀ p ∈ ds.zip xs, Rep m H p.2 p.1) ∧ (ds.zip xs).map (·.1) = ds ∧ (ds.zip xs).map (·.2) = xs
  | [], _, h => by cases h; exact ⟨fun p hp => (by simp at hp), rfl, rfl⟩
  | d :: ds, _, h => by
    cases h with
    | cons a b =>
      obtain ⟨h1, h2, h3⟩ := RepL.zip b
      refine ⟨fun p hp => ?_, by simp [h2], by simp [h3]⟩
      rw [List.zip_cons_cons] at hp
      rcases List.mem_cons.mp hp with rfl | hp
      · exact a
      · exact h1 p hp
theorem each_zip {R : Value → V → Prop} : ∀ {ds : List D} {xs : List V} {us : List Value}, ds.length = xs.length → Paired (fun x u => R u x) xs us → PySem.W.EachIs (fun v (b : D × V) => R v b.2) us (ds.zip xs)
  | [], [], _, _, h => by cases h; exact .nil
  | d :: ds, x :: xs, _, l, h => by
    cases h with
    | cons a b => exact .cons a (each_zip (by simpa using l) b)
  | [], _ :: _, _, l, _ => by simp at l
  | _ :: _, [], _, l, _ => by simp at l
theorem each_vals : ∀ {us : List Value} {bs : List (D × V)}, PySem.W.EachIs (fun v (b : D × V) => RelV b.2 v) us bs → Vals (bs.map (·.2)) us
  | _, _, .nil => .nil
  | _, _, .cons h t => .cons h (each_vals t)
end
theorem rdSq {K : PySem.W.Frag} {H : Hp} {a : Addr} {xs : List V} (h : Rd H a (.lst xs)) : SqL K H a xs := .inl h

section
variable {X : Cx} {m : Mx}
theorem each_reads {pins : List (Addr × Obj)} {s : Shared} {σ : L2.St} {H : Hp} (hm : m.K = X.K) (I : Inv X pins σ H s) : ∀ {us : List Value} {bs : List (D × V)}, PySem.W.EachIs (fun v (b : D × V) => RelV b.2 v) us bs →
    (∀ p ∈ bs, Rep m H p.2 p.1 ∧ D.shp 60 p.1 = true) → PySem.W.EachIs (fun v (b : D × V) => ∃ as, Reads s.heap v b.1.py as) us bs
  | _, _, .nil, _ => .nil
  | _, b :: _, .cons h t, k => by
    obtain ⟨k1, k2⟩ := k b (List.mem_cons_self ..)
    have d := k1.dp k2
    rw [hm] at d
    exact .cons (Dp.reads I _ _ _ d h) (each_reads hm I t fun p hp => k p (List.mem_cons_of_mem _ hp))
/-- sorted(xs) -/
theorem cr_sortedD (hm : m.K = X.K) (hu : X.A.units + 66 < cLine) {xs : List V} {ds : List D} {a : Addr} {pins : List (Addr × Obj)} {s : Shared} {σ : L2.St} {H : Hp} {Q : VK} (I : Inv X pins σ H s) (hH : Rd H a (.lst xs)) (r : RepL m H xs ds) (hc : canSort ds = true)
    (q : Yld m H (.lst (sortD ds)) Q) : wpAny (model X.prog X.w) X.A (call (.builtin "sorted") [.ref a]) (EP X pins σ Q) X.xe s := by
  obtain ⟨c1, c3⟩ := Bool.and_eq_true_iff.mp hc
  obtain ⟨c1, c2⟩ := Bool.and_eq_true_iff.mp c1
  have al := alkAll_get c1
  obtain ⟨z1, z2, z3⟩ := RepL.zip r
  obtain ⟨hz, its, n, rv, ho⟩ := Inv.rdL I hH
  have ln := r.length
  have mem1 : ∀ p ∈ ds.zip xs, p.1 ∈ ds := fun p hp => by rw [← z2]; exact List.mem_map.mpr ⟨p, hp, rfl⟩
  have e := each_zip (R := fun v x => RelV x v) (ds := ds) ln.symm rv
  have er := each_reads hm I e fun p hp => ⟨z1 p hp, (al _ (mem1 p hp) _ (mem1 p hp)).2⟩
  have hal : PySem.W.AllAlike ((ds.zip xs).map fun b => b.1.py) := fun d hd d' hd' => by
    obtain ⟨p, hp, rfl⟩ := List.mem_map.mp hd
    obtain ⟨p', hp', rfl⟩ := List.mem_map.mp hd'
    exact alk_py _ _ (al _ (mem1 p hp) _ (mem1 p' hp')).1
  have hk : PySem.W.Sortable ((ds.zip xs).map fun b => b.1.py) := by
    cases hq : ds with
    | nil => exact .inl fun d hd => by simp at hd
    | cons d0 ds' =>
      by_cases ht : ∃ es, d0 = .tup es
      · obtain ⟨es, rfl⟩ := ht
        refine .inl fun d hd => ?_
        rw [← hq] at hd
        obtain ⟨p, hp, rfl⟩ := List.mem_map.mp hd
        have a1 := (al (.tup es) (by rw [hq]; exact List.mem_cons_self ..) _ (mem1 p hp)).1
        have a2 := List.all_eq_true.mp c2 _ (mem1 p hp)
        revert a1 a2
        cases p.1 with
        | tup fs =>
          intro _ a2
          cases fs with
          | nil => simp [sortable] at a2
          | cons f fs => exact ⟨_, _, rfl⟩
        | _ => intro a1; simp [D.alk] at a1
      · refine .inr fun d hd => ?_
        rw [← hq] at hd
        obtain ⟨p, hp, rfl⟩ := List.mem_map.mp hd
        have a1 := (al d0 (by rw [hq]; exact List.mem_cons_self ..) _ (mem1 p hp)).1
        revert a1
        cases hp1 : p.1 with
        | tup fs =>
          intro a1
          cases d0 with
          | tup es => exact absurd ⟨es, rfl⟩ ht
          | _ => simp [D.alk] at a1
        | non => intro a1; cases d0 <;> simp [D.alk] at a1
        | lst _ => intro a1; cases d0 <;> simp [D.alk] at a1
        | dic _ _ => intro a1; cases d0 <;> simp [D.alk] at a1
        | exv _ => intro a1; cases d0 <;> simp [D.alk] at a1
        | _ => intro _; exact ⟨fun z => (by cases z), fun _ z => (by cases z)⟩
  have hs := sizeMax_eq
  have hl : (ds.zip xs).length ≤ sizeLine := by
    rw [List.length_zip]; omega
  refine PySem.W.sorted_data ⟨_, ho, rfl, n, rfl⟩ e er hal hk hl (fun p hp => ?_) fun out _ eo => ?_
  · have := (shp_can p.1 60 (al _ (mem1 p hp) _ (mem1 p hp)).2).2
    omega
  · obtain ⟨ep, he'⟩ := PyProof.Rows.sortedAll_at s.heap its out.toArray
    have vo := each_vals eo
    have hle : ((ds.zip xs).mergeSort (PySem.W.dataLe false fun b => b.1.py)).map (·.1) = sortD ds := by
      unfold sortD
      rw [List.map_mergeSort (s := fun a b => !D.lt b a) (f := (·.1)) (r := PySem.W.dataLe false fun (b : D × V) => b.1.py) (fun a ha b hb => ?_), z2]
      show (!PySem.W.dataLt b.1.py a.1.py) = _
      rw [lt_py b.1 a.1 60 (al _ (mem1 b hb) _ (mem1 a ha)).1 (al _ (mem1 b hb) _ (mem1 a ha)).2 (al _ (mem1 a ha) _ (mem1 b hb)).2]
    have rr : RepL m H (((ds.zip xs).mergeSort (PySem.W.dataLe false fun b => b.1.py)).map (·.2)) (sortD ds) := by
      rw [← hle]
      exact RepL.ofPairs fun p hp => z1 p ((List.mergeSort_perm _ _).mem_iff.mp hp)
    have hlen : (((ds.zip xs).mergeSort (PySem.W.dataLe false fun b => b.1.py)).map (·.2)).length ≤ sizeLine := by
      rw [List.length_map, List.length_mergeSort]; exact hl
    have I2 : Inv X pins σ (upd H (s.heap.objs.size + 1) (.lst (((ds.zip xs).mergeSort (PySem.W.dataLe false fun b => b.1.py)).map (·.2)))) { s with heap := sortedAll s.heap its out.toArray } :=
      I.laid (t' := s.toks) (fun _ _ => PyProof.Rows.sortedAll_old) (Nat.le_succ _) ⟨hlen, out, ep, vo, by rw [he']⟩
    exact ⟨.ref _, _, I2, rfl, q.lst (I.hok.fresh (Nat.le_succ _)) rr⟩

/-! ### calls of builtins -/
def B1.val : B1 → Value
  | .len => .builtin "len" | .all => .builtin "all" | .any => .builtin "any" | .sum => .builtin "sum" | .sorted => .builtin "sorted" | .sortset => .none | .sortsetI => .none
  | .tuple => .type "tuple" | .list => .type "list" | .str => .type "str" | .int => .type "int" | .abs => .builtin "abs" | .max => .builtin "max"
/-- what has been proved; cm: not within a suite of try -/
def B1.okc (cm : Bool) : B1 → Bool
  | .all | .any | .sum | .max => cm
  | .sortset => false
  | .sortsetI => false
  | _ => true
def rB1 (m : Mx) (f : B1) : List V → Hp → VK → Prop := fun xs H Q => ∃ x d r, xs = [x] ∧ RepR m H x d ∧ b1 f d = .ok r ∧ Yld m H r Q
theorem max_fold : ∀ (r : List Int) (n : Int), r.foldl max n ∈ n :: r ∧ ∀ y ∈ n :: r, y ≤ r.foldl max n
  | [], n => ⟨List.mem_cons_self .., fun y hy => by simp at hy; simp [hy]⟩
  | k :: r, n => by
    obtain ⟨h1, h2⟩ := max_fold r (max n k)
    rw [List.foldl_cons]
    constructor
    · rcases List.mem_cons.mp h1 with h | h
      · rw [h]
        rcases Int.le_total n k with q | q
        · rw [Int.max_eq_right q]; simp
        · rw [Int.max_eq_left q]; simp
      · exact List.mem_cons_of_mem _ (List.mem_cons_of_mem _ h)
    · intro y hy
      have h0 := h2 (max n k) (List.mem_cons_self ..)
      rcases List.mem_cons.mp hy with rfl | hy
      · omega
      · rcases List.mem_cons.mp hy with rfl | hy
        · omega
        · exact h2 y (List.mem_cons_of_mem _ hy)
theorem cr_b1 (hm : m.K = X.K) (hu : X.A.units + 66 < cLine) (f : B1) (ok : f.okc X.calm = true) : CallR X f.val (rB1 m f) := by
  intro pins s σ H xs us Q I rs h
  obtain ⟨x, d, r, rfl, hd, hr, q⟩ := h
  unfold b1 at hr
  split at hr
  · cases hd.strE
    split at hr
    · cases hr
      have hs := sizeMax_eq
      exact call_len_str pins s σ H _ us Q I rs ⟨_, rfl, by omega, q.int⟩
    · cases hr
  · obtain ⟨a, ys, rfl, hH, rl⟩ := hd.lstE
    cases hr
    rw [← rl.length] at q
    exact call_len_seq pins s σ H _ us Q I rs ⟨a, ys, rfl, .inl (rdSq hH), q.int⟩
  · obtain ⟨a, ys, rfl, hH, rl⟩ := hd.tupE
    cases hr
    rw [hm] at hH
    rw [← rl.length] at q
    exact call_len_seq pins s σ H _ us Q I rs ⟨a, ys, rfl, .inr hH, q.int⟩
  · rename_i ds
    obtain ⟨a, ys, rfl, hH, rl⟩ := hd.lstE
    cases hb : allB ds with
    | none => rw [hb] at hr; cases hr
    | some bs =>
      rw [hb] at hr; cases hr
      exact cr_all ok pins s σ H _ us Q I rs ⟨a, bs, rfl, by rw [← allB_rel hb rl]; exact (rdSq hH), q.bl⟩
  · rename_i ds
    obtain ⟨a, ys, rfl, hH, rl⟩ := hd.lstE
    cases hb : allB ds with
    | none => rw [hb] at hr; cases hr
    | some bs =>
      rw [hb] at hr; cases hr
      exact cr_any ok pins s σ H _ us Q I rs ⟨a, bs, rfl, by rw [← allB_rel hb rl]; exact (rdSq hH), q.bl⟩
  · rename_i ds
    obtain ⟨a, ys, rfl, hH, rl⟩ := hd.lstE
    cases hb : allI ds with
    | none => rw [hb] at hr; cases hr
    | some bs =>
      rw [hb] at hr; cases hr
      exact cr_sum ok pins s σ H _ us Q I rs ⟨a, bs, rfl, by rw [← allI_rel hb rl]; exact (rdSq hH), q.int⟩
  · rename_i ds
    obtain ⟨a, ys, rfl, hH, rl⟩ := hd.lstE
    cases hb : allI ds with
    | none => rw [hb] at hr; cases hr
    | some bs =>
      rw [hb] at hr
      cases bs with
      | nil => cases hr
      | cons n ns =>
        cases hr
        refine cr_max ok pins s σ H _ us Q I rs ⟨a, n :: ns, rfl, by rw [← allI_rel hb rl]; exact (rdSq hH), Nat.succ_pos _, fun M hM hle => ?_⟩
        obtain ⟨h1, h2⟩ := max_fold ns n
        have e : M = ns.foldl max n := Int.le_antisymm (h2 M hM) (hle _ h1)
        rw [e]
        exact q.int
  · rename_i ds
    obtain ⟨a, ys, rfl, hH, rl⟩ := hd.lstE
    split at hr
    · rename_i c
      cases hr
      obtain ⟨u, rfl, ru⟩ := vals1 rs
      cases (show u = Value.ref a from ru)
      exact cr_sortedD hm hu I hH rl c q
    · cases hr
  · cases ok
  · cases ok
  · rename_i ds
    obtain ⟨a, ys, rfl, hH, rl⟩ := hd.lstE
    cases hr
    exact call_tuple_of pins s σ H _ us Q I rs ⟨a, ys, rfl, .inl ⟨(rdSq hH), fun l hl => q.tup hl rl⟩⟩
  · rename_i ds
    obtain ⟨a, ys, rfl, hH, rl⟩ := hd.tupE
    cases hr
    have hH' := hH
    rw [hm] at hH'
    exact call_tuple_of pins s σ H _ us Q I rs ⟨a, ys, rfl, .inr ⟨hH', q.rep rfl (.tup hH rl)⟩⟩
  · rename_i ds
    obtain ⟨a, ys, rfl, hH, rl⟩ := hd.lstE
    cases hr
    exact call_list_of pins s σ H _ us Q I rs ⟨a, ys, rfl, .inl (rdSq hH), fun l hl => q.lst hl rl⟩
  · rename_i ds
    obtain ⟨a, ys, rfl, hH, rl⟩ := hd.tupE
    cases hr
    rw [hm] at hH
    exact call_list_of pins s σ H _ us Q I rs ⟨a, ys, rfl, .inr hH, fun l hl => q.lst hl rl⟩
  · cases hd.intE
    split at hr
    · rename_i c
      cases hr
      exact call_str_int pins s σ H _ us Q I rs ⟨_, rfl, c, q.str⟩
    · cases hr
  · rename_i z
    cases hd.strE
    split at hr
    · rename_i c
      cases ht : PySem.intText? z with
      | none => rw [ht] at hr; cases hr
      | some n =>
        rw [ht] at hr; cases hr
        exact call_int_str pins s σ H _ us Q I rs ⟨_, _, rfl, ht, c, q.int⟩
    · cases hr
  · cases hd.intE
    cases hr
    exact call_abs pins s σ H _ us Q I rs ⟨_, rfl, q.int⟩
  · cases hr
def B2.val : B2 → Value
  | .min => .builtin "min" | .max => .builtin "max"
def rB2 (m : Mx) (f : B2) : List V → Hp → VK → Prop := fun xs H Q => ∃ x y d e r, xs = [x, y] ∧ RepR m H x d ∧ RepR m H y e ∧ b2 f d e = .ok r ∧ Yld m H r Q
theorem cr_b2 (hm : m.K = X.K) (hu : X.A.units + 66 < cLine) (hc : X.calm = true) (f : B2) : CallR X f.val (rB2 m f) := by
  intro pins s σ H xs us Q I rs h
  obtain ⟨x, y, d, e, r, rfl, hd, he, hr, q⟩ := h
  have two : ∀ {d e : D}, RepR m H x d → RepR m H y e → (∀ es, d ≠ .lst es) → (∀ es, e ≠ .lst es) → (D.alk d e && D.shp 60 d && D.shp 60 e) = true → ∃ a b as bs, us = [a, b] ∧ RelV x a ∧ RelV y b ∧ Rep m H x d ∧ Rep m H y e ∧ Reads s.heap a d.py as ∧ Reads s.heap b e.py bs ∧ PySem.W.AlikeAll [d.py, e.py] ∧
      X.A.in1.units + PyData.depthAll [d.py, e.py] < cLine ∧ PySem.W.dataLt d.py e.py = D.lt d e ∧ PySem.W.dataLt e.py d.py = D.lt e d := fun {d e} hd he nd ne c => by
    obtain ⟨c, c3⟩ := Bool.and_eq_true_iff.mp c
    obtain ⟨c1, c2⟩ := Bool.and_eq_true_iff.mp c
    obtain ⟨a, b, rfl, ra, rb⟩ := vals2 rs
    have hd' : Rep m H x d := by
      cases hd with
      | fz h => exact h
      | lst _ _ => exact absurd rfl (nd _)
      | dic _ _ _ => simp [D.shp] at c2
    have he' : Rep m H y e := by
      cases he with
      | fz h => exact h
      | lst _ _ => exact absurd rfl (ne _)
      | dic _ _ _ => simp [D.shp] at c3
    obtain ⟨as, r1⟩ := Dp.reads I _ _ _ (hm ▸ hd'.dp c2) ra
    obtain ⟨bs, r2⟩ := Dp.reads I _ _ _ (hm ▸ he'.dp c3) rb
    have p1 := alk_py d e c1
    have c4 := alk_left d e c1
    have c5 : D.alk e d = true := alk_symm d e c1
    have c6 := alk_left e d c5
    have dn : ∀ z : D, D.alk z z = true → z.py ≠ .none := fun z hz q => by cases z <;> simp [D.alk, D.py] at hz q
    have d1 := (shp_can d 60 c2).2
    have d2 := (shp_can e 60 c3).2
    refine ⟨a, b, as, bs, rfl, ra, rb, hd', he', r1, r2, two_alike p1 (alk_py d d c4) (alk_py e e c6) (dn d c4) (dn e c6), ?_, lt_py d e 60 c1 c2 c3, lt_py e d 60 c5 c3 c2⟩
    show X.A.units + 1 + _ < _
    simp only [PyData.depthAll]
    omega
  unfold b2 at hr
  split at hr
  · cases hd.intE; cases he.intE; cases hr
    exact call_min2 hc pins s σ H _ us Q I rs ⟨_, _, rfl, q.int⟩
  · cases hd.intE; cases he.intE; cases hr
    exact call_max2 hc pins s σ H _ us Q I rs ⟨_, _, rfl, q.int⟩
  · split at hr
    · rename_i xs ys c
      obtain ⟨a, b, as, bs, rfl, ra, rb, hd', he', r1, r2, al, hz, l1, l2⟩ := two hd he (fun _ z => by cases z) (fun _ z => by cases z) c
      cases hr
      refine min_two_data (I.ok.hd hc) r1 r2 al hz fun h' tk k => ?_
      rw [l2]
      by_cases q2 : D.lt (.tup ys) (.tup xs) = true
      · rw [if_pos q2] at q ⊢
        exact ⟨y, H, I.kept k, rb, q.rep rfl he'⟩
      · rw [if_neg q2] at q ⊢
        exact ⟨x, H, I.kept k, ra, q.rep rfl hd'⟩
    · cases hr
  · split at hr
    · rename_i xs ys c
      obtain ⟨a, b, as, bs, rfl, ra, rb, hd', he', r1, r2, al, hz, l1, l2⟩ := two hd he (fun _ z => by cases z) (fun _ z => by cases z) c
      cases hr
      refine max_two_data (I.ok.hd hc) r1 r2 al hz fun h' tk k => ?_
      rw [l1]
      by_cases q2 : D.lt (.tup xs) (.tup ys) = true
      · rw [if_pos q2] at q ⊢
        exact ⟨y, H, I.kept k, rb, q.rep rfl he'⟩
      · rw [if_neg q2] at q ⊢
        exact ⟨x, H, I.kept k, ra, q.rep rfl hd'⟩
    · cases hr
  · cases hr

/-! ### methods -/
def M1.id : M1 → String
  | .join => "str.join" | .split => "str.split" | .count => "list.count" | .index => "list.index"
def M1.ty : M1 → String
  | .join => "str" | .split => "str" | .count => "list" | .index => "list"
def M1.okc : M1 → Bool
  | .count => true
  | _ => true
def rM1 (m : Mx) (f : M1) : V → List V → Hp → VK → Prop := fun x xs H Q => ∃ y d e r, xs = [y] ∧ RepR m H x d ∧ RepR m H y e ∧ m1 f d e = .ok r ∧ Yld m H r Q
theorem flat_rel {H : Hp} {x : V} {d : D} (h : RepR m H x d) (f : flatD d = true) : flatV x = true := by
  cases h with
  | fz h => cases h <;> first | rfl | (simp [flatD] at f)
  | lst _ _ => simp [flatD] at f
  | dic _ _ _ => simp [flatD] at f
theorem eq_rel {H : Hp} {x y : V} {d e : D} (h : RepR m H x d) (h' : RepR m H y e) (f : flatD d = true) (f' : flatD e = true) : eqV x y = D.eqv d e := by
  cases h with
  | fz h =>
    cases h' with
    | fz h' => cases h <;> cases h' <;> first | rfl | (simp [flatD] at f) | (simp [flatD] at f')
    | lst _ _ => simp [flatD] at f'
    | dic _ _ _ => simp [flatD] at f'
  | lst _ _ => simp [flatD] at f
  | dic _ _ _ => simp [flatD] at f
theorem flat_all {H : Hp} : ∀ {ds : List D} {xs : List V}, RepL m H xs ds → ds.all flatD = true → xs.all flatV = true
  | [], _, h, _ => by cases h; rfl
  | d :: ds, _, h, f => by
    cases h with
    | cons a b =>
      rw [List.all_cons] at f
      obtain ⟨f1, f2⟩ := Bool.and_eq_true_iff.mp f
      rw [List.all_cons, flat_rel (.fz a) f1, flat_all b f2]; rfl
theorem count_rel {H : Hp} {y : V} {e : D} (h' : RepR m H y e) (f' : flatD e = true) : ∀ {ds : List D} {xs : List V} {us : List Value}, RepL m H xs ds → Vals xs us → ds.all flatD = true →
    us.countP (eqU y) = (ds.filter fun d => D.eqv d e).length
  | [], _, _, h, r, _ => by cases h; cases r; rfl
  | d :: ds, _, _, h, r, f => by
    cases h with
    | cons a b =>
      cases r with
      | cons r1 r2 =>
        rw [List.all_cons] at f
        obtain ⟨f1, f2⟩ := Bool.and_eq_true_iff.mp f
        rw [List.countP_cons, List.filter_cons, count_rel h' f' b r2 f2, eqU_of r1 (flat_rel (.fz a) f1), eq_rel (.fz a) h' f1 f']
        cases D.eqv d e <;> simp
theorem find_rel {H : Hp} {y : V} {e : D} (h' : RepR m H y e) (f' : flatD e = true) : ∀ {ds : List D} {xs : List V} {j : Nat}, RepL m H xs ds → ds.all flatD = true → findD e ds = some j →
    ∃ z, xs[j]? = some z ∧ eqV z y = true ∧ ∀ (k : Nat) (z' : V), k < j → xs[k]? = some z' → eqV z' y = false
  | [], _, _, _, _, h => by simp [findD] at h
  | d :: ds, _, j, h, f, g => by
    cases h with
    | @cons x _ _ _ a b =>
      rw [List.all_cons] at f
      obtain ⟨f1, f2⟩ := Bool.and_eq_true_iff.mp f
      have ee := eq_rel (.fz a) h' f1 f'
      simp only [findD] at g
      by_cases c : D.eqv d e = true
      · rw [if_pos c] at g
        cases g
        exact ⟨x, rfl, by rw [ee]; exact c, fun k z' hk => absurd hk (Nat.not_lt_zero k)⟩
      · rw [if_neg c] at g
        obtain ⟨i, hi, rfl⟩ := Option.map_eq_some_iff.mp g
        obtain ⟨z, z1, z2, z3⟩ := find_rel h' f' b f2 hi
        refine ⟨z, by simpa using z1, z2, fun k z' hk hz => ?_⟩
        cases k with
        | zero =>
          simp at hz; subst hz
          rw [ee]; exact Bool.eq_false_iff.mpr c
        | succ k => exact z3 k z' (by omega) (by simpa using hz)
theorem mt_m1 (hm : m.K = X.K) (f : M1) : MtR X f.id (rM1 m f) := by
  intro pins s σ H x xs v us Q I rx rs h
  obtain ⟨y, d, e0, r, rfl, hd, he, hr, q⟩ := h
  have hs := sizeMax_eq
  unfold m1 at hr
  split at hr
  · rename_i z ds
    cases hd.strE
    obtain ⟨a, ys, rfl, hH, rl⟩ := he.lstE
    cases hb : allS ds with
    | none => rw [hb] at hr; cases hr
    | some bs =>
      rw [hb] at hr
      simp only [opt_some, R.bind_ok] at hr
      split at hr
      · rename_i c
        cases hr
        have hl := sizeLine_eq
        exact mt_join pins s σ H _ _ v us Q I rx rs ⟨z, a, bs, rfl, rfl, .inl (by rw [← allS_rel hb rl]; exact rdSq hH), by omega, q.str⟩
      · cases hr
  · rename_i z w
    cases hd.strE; cases he.strE
    split at hr
    · rename_i c
      cases hr
      refine mt_split pins s σ H _ _ v us Q I rx rs ⟨z, w, rfl, rfl, by simpa using c.1, by omega, fun p hp => q.lst hp ?_⟩
      exact RepL.strs _
    · cases hr
  · rename_i _ ds
    obtain ⟨a, ys, rfl, hH, rl⟩ := hd.lstE
    split at hr
    · rename_i c
      obtain ⟨c1, c2⟩ := Bool.and_eq_true_iff.mp c
      cases hr
      cases rx
      obtain ⟨u, rfl, ru⟩ := rs.one
      obtain ⟨its, rv, ⟨⟨cls, dd, data, sl⟩, n, ho, hc, hdn, hd'⟩, hlen⟩ := I.list (rdSq (K := X.K) hH)
      simp only at hc hd'
      subst hc hd'
      refine call_meets PySem.F.slot_list_count ⟨_, ho, rfl⟩ PySem.F.entry_list_count (PySem.F.args_list_count_2 _ _)
        (SeqAt.list_countAt a its.toArray n dd sl u (eqU y)) ⟨ho, fun u' hu' => mem_eqAt ru (flat_rel he c1) rv (flat_all rl c2) u' (by simpa using hu'), ?_⟩
      have ec : its.toArray.toList.countP (eqU y) = (ds.filter fun d => D.eqv d e0).length := count_rel he c1 rl rv c2
      refine ⟨.int ((ds.filter fun d => D.eqv d e0).length : Nat), H, I.tok _, ⟨s.toks, ?_⟩, q.int⟩
      show Value.int ((its.toArray.toList.countP (eqU y) : Nat) : Int) s.toks = _
      rw [ec]
    · cases hr
  · rename_i _ ds
    obtain ⟨a, ys, rfl, hH, rl⟩ := hd.lstE
    split at hr
    · rename_i c
      obtain ⟨c1, c2⟩ := Bool.and_eq_true_iff.mp c
      cases hf : findD e0 ds with
      | none => rw [hf] at hr; cases hr
      | some j =>
        rw [hf] at hr
        cases hr
        obtain ⟨z, z1, z2, z3⟩ := find_rel he c1 rl c2 hf
        exact mt_index pins s σ H _ _ v us Q I rx rs ⟨a, ys, y, j, z, rfl, rfl, rdSq hH, flat_rel he c1, flat_all rl c2, z1, z2, z3, q.int⟩
    · cases hr
  · cases hr

/-! ### items -/
def rIxD (m : Mx) : R2 := fun x y H Q => ∃ d e r, RepR m H x d ∧ RepR m H y e ∧ (∀ ks vs, d ≠ .dic ks vs) ∧ ixD d e = .ok r ∧ YldF m H r Q
theorem atI_rel {H : Hp} {ds : List D} {xs : List V} {i : Int} {d : D} (r : RepL m H xs ds) (e : atI ds i = some d) : ∃ x, atI xs i = some x ∧ Rep m H x d := by
  unfold atI at e ⊢
  rw [r.length]
  cases hq : ixN ds.length i with
  | none => rw [hq] at e; simp at e
  | some j =>
    rw [hq] at e
    simp only [Option.bind_some] at e ⊢
    obtain ⟨x, h1, h2⟩ := r.get' e
    exact ⟨x, h1, h2⟩
theorem ix_D (hm : m.K = X.K) : IxR X (rIxD m) := by
  intro value slice pins s σ H x y v u Q I rx ry h hs
  obtain ⟨d, e, r, hd, he, nd, hr, q⟩ := h
  unfold ixD at hr
  split at hr
  · rename_i ds i
    obtain ⟨a, ys, rfl, hH, rl⟩ := hd.lstE
    cases he.intE
    cases ha : atI ds i with
    | none => rw [ha] at hr; cases hr
    | some d =>
      rw [ha] at hr; cases hr
      obtain ⟨x, h1, h2⟩ := atI_rel rl ha
      exact ix_list value slice pins s σ H _ _ v u Q I rx ry ⟨a, ys, i, x, rfl, rfl, rdSq hH, h1, q.rep h2⟩ hs
  · rename_i ds i
    obtain ⟨a, ys, rfl, hH, rl⟩ := hd.tupE
    cases he.intE
    rw [hm] at hH
    cases ha : atI ds i with
    | none => rw [ha] at hr; cases hr
    | some d =>
      rw [ha] at hr; cases hr
      obtain ⟨x, h1, h2⟩ := atI_rel rl ha
      exact ix_tup value slice pins s σ H _ _ v u Q I rx ry ⟨a, ys, i, x, rfl, rfl, hH, h1, q.rep h2⟩ hs
  · rename_i z i
    cases hd.strE; cases he.intE
    split at hr
    · rename_i c
      have hz := sizeMax_eq
      cases ha : atI z.cps.toList i with
      | none => rw [ha] at hr; cases hr
      | some d =>
        rw [ha] at hr; cases hr
        exact ix_str value slice pins s σ H _ _ v u Q I rx ry ⟨z, i, d, rfl, rfl, by omega, ha, q.rep (.str _)⟩ hs
    · cases hr
  · exact absurd rfl (nd _ _)
  · cases hr
/-- slices -/
def rSlD (m : Mx) : V → Option Int → Option Int → Hp → VK → Prop := fun x lo hi H Q => ∃ d r, RepR m H x d ∧ sliceD d lo hi = .ok r ∧ Yld m H r Q
theorem cut_rel {H : Hp} {ds : List D} {xs : List V} (r : RepL m H xs ds) (lo hi : Option Int) : RepL m H (cutV xs lo hi) (cut ds lo hi) := by
  unfold cutV cut
  rw [r.length]
  exact RepL.take _ (RepL.drop _ r)
theorem cut_all {ds : List D} {lo hi : Option Int} (h : HT.sIx ds.length 0 lo = 0 ∧ HT.sIx ds.length ds.length hi = ds.length) : cut ds lo hi = ds := by
  unfold cut
  rw [h.1, h.2]
  simp
theorem sl_D (hm : m.K = X.K) : SlR X (rSlD m) := by
  intro pins s σ H x v vl vu lo hi sl Q I rx hs pl pu h
  obtain ⟨d, r, hd, hr, q⟩ := h
  unfold sliceD at hr
  split at hr
  · obtain ⟨a, ys, rfl, hH, rl⟩ := hd.lstE
    cases hr
    exact sl_list pins s σ H _ v vl vu _ _ sl Q I rx hs pl pu ⟨a, ys, rfl, rdSq hH, fun p hp => q.lst hp (cut_rel rl _ _)⟩
  · obtain ⟨a, ys, rfl, hH, rl⟩ := hd.tupE
    cases hr
    have hH' := hH
    rw [hm] at hH'
    refine sl_tupA pins s σ H _ v vl vu _ _ sl Q I rx hs pl pu ⟨a, ys, rfl, hH', fun e => ?_, fun _ p hp => q.tup hp (cut_rel rl _ _)⟩
    rw [rl.length] at e
    rw [cut_all e] at q
    exact q.rep rfl (.tup hH rl)
  · cases hd.strE
    split at hr
    · cases hr
      have hz := sizeMax_eq
      exact sl_str pins s σ H _ v vl vu _ _ sl Q I rx hs pl pu ⟨_, rfl, by omega, q.str⟩
    · cases hr
  · cases hr
end
end Fc
/-! Ev2e: where the names' data stand; what an expression's run comes to. -/
namespace Fc
open PySem PySem.Spec
open PyProof.Rows L2
variable [Tb]

/-! ### a run's outcome -/
/-- what is wanted of an outcome; XW: of an error, by its class -/
def Run {α : Type} (H : Hp) (XW : Nat → Hp → Prop) (r : R α) (k : α → Prop) : Prop := match r with
  | .ok a => k a
  | .exc c => ∀ H', Same H H' → XW c H'
  | .stk => False
section
variable {α β : Type} {H H' : Hp} {XW : Nat → Hp → Prop} {r : R α}
theorem Run.bind {f : α → R β} {k : β → Prop} (h : Run H XW (r.bind f) k) : Run H XW r fun a => Run H XW (f a) k := by
  cases r <;> exact h
theorem Run.same {k : α → Prop} (h : Run H XW r k) (e : Same H H') : Run H' XW r k := by
  cases r with
  | ok a => exact h
  | exc c => exact fun H2 e2 => h H2 (e.trans e2)
  | stk => exact h
theorem Run.imp {k k' : α → Prop} (h : Run H XW r k) (i : ∀ a, r = .ok a → k a → k' a) : Run H XW r k' := by
  cases r with
  | ok a => exact i a rfl h
  | exc c => exact h
  | stk => exact h
/-- an operation that raises nothing -/
theorem Run.pure {k : α → Prop} (h : Run H XW r k) (n : ∀ c, r ≠ .exc c) : ∃ a, r = .ok a ∧ k a := by
  cases r with
  | ok a => exact ⟨a, rfl, h⟩
  | exc c => exact absurd rfl (n c)
  | stk => exact h.elim
theorem Run.opt {o : Option α} {k : α → Prop} (h : Run H XW (opt o) k) : ∃ a, o = some a ∧ k a := by
  cases o with
  | none => exact h.elim
  | some a => exact ⟨a, rfl, h⟩
end
theorem asI_ok {d : D} {H : Hp} {XW : Nat → Hp → Prop} {k : Int → Prop} (h : Run H XW (asI d) k) : ∃ i, d = .int i ∧ k i := by
  cases d <;> first | exact h.elim | exact ⟨_, rfl, h⟩
theorem asB_ok {d : D} {H : Hp} {XW : Nat → Hp → Prop} {k : Bool → Prop} (h : Run H XW (asB d) k) : ∃ i, d = .bl i ∧ k i := by
  cases d <;> first | exact h.elim | exact ⟨_, rfl, h⟩
theorem asL_ok {d : D} {H : Hp} {XW : Nat → Hp → Prop} {k : List D → Prop} (h : Run H XW (asL d) k) : ∃ i, d = .lst i ∧ k i := by
  cases d <;> first | exact h.elim | exact ⟨_, rfl, h⟩

/-! ### operations raise nothing -/
theorem opt_nx {α : Type} (o : Option α) (c : Nat) : opt o ≠ .exc c := by cases o <;> simp [opt]
theorem binop_nx (op : BOp) (d e : D) (c : Nat) : binop op d e ≠ .exc c := by
  unfold binop; split <;> (try split) <;> simp
theorem memD_nx (d e : D) (c : Nat) : memD d e ≠ .exc c := by
  unfold memD; split <;> (try split) <;> (try split) <;> simp
theorem isD_nx (d e : D) (c : Nat) : isD d e ≠ .exc c := by
  unfold isD; split <;> simp
theorem bind_nx {α β : Type} {r : R α} {f : α → R β} (h : ∀ c, r ≠ .exc c) (k : ∀ a c, f a ≠ .exc c) : ∀ c, r.bind f ≠ .exc c := fun c => by
  cases r with
  | ok a => exact k a c
  | exc c => exact absurd rfl (h c)
  | stk => simp
theorem cmpop_nx (op : COp) (d e : D) (c : Nat) : cmpop op d e ≠ .exc c := by
  cases op <;> simp only [cmpop]
  case isIn => exact memD_nx _ _ _
  case is => exact isD_nx _ _ _
  case notIn => exact bind_nx (memD_nx _ _) (fun _ _ => by simp) c
  case isnot => exact bind_nx (isD_nx _ _) (fun _ _ => by simp) c
  all_goals (split <;> simp)
theorem b1_nx (f : B1) (d : D) : ∀ c, b1 f d ≠ .exc c := by
  intro c
  unfold b1
  split <;> first
    | exact bind_nx (opt_nx _) (fun _ _ => by first | (simp; done) | (split <;> simp)) c
    | (split <;> first | exact bind_nx (opt_nx _) (fun _ _ => by simp) c | (simp; done))
    | (simp; done)
theorem b2_nx (f : B2) (d e : D) : ∀ c, b2 f d e ≠ .exc c := by
  intro c; unfold b2; split <;> first | (simp; done) | (split <;> simp)
theorem m1_nx (f : M1) (d e : D) : ∀ c, m1 f d e ≠ .exc c := by
  intro c
  unfold m1
  split <;> first
    | exact bind_nx (opt_nx _) (fun _ _ => by first | (split <;> simp; done) | (simp; done)) c
    | (split <;> first | exact bind_nx (opt_nx _) (fun _ _ => by simp) c | (simp; done))
    | (simp; done)
theorem ixD_nx (d e : D) : ∀ c, ixD d e ≠ .exc c := by
  intro c
  unfold ixD
  split <;> first
    | exact opt_nx _ c
    | exact bind_nx (opt_nx _) (fun _ => opt_nx _) c
    | (split <;> first | exact bind_nx (opt_nx _) (fun _ _ => by simp) c | (simp; done))
    | (simp; done)
theorem sliceD_nx (d : D) (l h : Option Int) : ∀ c, sliceD d l h ≠ .exc c := by
  intro c; unfold sliceD; split <;> (try split) <;> simp
theorem isTy_nx (d : D) (t : Ty) : ∀ c, isTy d t ≠ .exc c := by
  intro c; unfold isTy; split <;> simp
theorem mkT_nx (xs : List D) : ∀ c, mkT xs ≠ .exc c := by intro c; unfold mkT; split <;> simp
theorem mkL_nx (xs : List D) : ∀ c, mkL xs ≠ .exc c := by intro c; unfold mkL; split <;> simp
theorem seqD_nx (d : D) : ∀ c, seqD d ≠ .exc c := by intro c; unfold seqD; split <;> simp
theorem itemsD_nx (d : D) : ∀ c, itemsD d ≠ .exc c := by intro c; unfold itemsD; split <;> simp

/-! ### slots -/
/-- what a slot's datum asks -/
def SlRel (m : Mx) (H0 H : Hp) (o : Option (Option V)) : Sl → Prop
  | .no => True
  | .val d => ∃ x, o = some (some x) ∧ Rep m H x d
  | .own xs => ∃ a vs, o = some (some (.ref a)) ∧ H a = some (.lst vs) ∧ RepL m H vs xs ∧ Un0 H0 a
  | .own2 xss => ∃ (a : Addr) (bs : List Addr), o = some (some (.ref a)) ∧ H a = some (.lst (bs.map V.ref)) ∧ RepRows m H (bs.map V.ref) xss ∧ bs.Nodup ∧ a ∉ bs ∧ Un0 H0 a ∧ ∀ b ∈ bs, Un0 H0 b
  | .ownd ks ds => ∃ a vs, o = some (some (.ref a)) ∧ H a = some (.dK (ks.zip vs)) ∧ ks.length = vs.length ∧ RepL m H vs ds ∧ Un0 H0 a
/-- what a slot owns -/
def Owns (H : Hp) (o : Option (Option V)) : Sl → Addr → Prop
  | .own _, a => o = some (some (.ref a))
  | .ownd _ _, a => o = some (some (.ref a))
  | .own2 _, a => ∃ c, o = some (some (.ref c)) ∧ (a = c ∨ ∃ vs, H c = some (.lst vs) ∧ V.ref a ∈ vs)
  | _, _ => False
/-- the module's dicts stand, and the tables of code objects -/
def TabsIn (m : Mx) (H : Hp) : Prop := (∀ p ∈ m.tabs, H p.1 = some (.frz p.2.1 (.dK p.2.2))) ∧ LamX.Tabs Tb.T H
structure Good (m : Mx) (H0 H : Hp) (σV : L2.St) (σ : List Sl) : Prop where
  len : σV.length = σ.length
  sl : ∀ i, SlRel m H0 H σV[i]? (lk σ i)
  apart : ∀ i j a, i ≠ j → Owns H σV[i]? (lk σ i) a → ¬ Owns H σV[j]? (lk σ j) a
  same : Same H0 H
  tabs : TabsIn m H
theorem TabsIn.mono {m : Mx} {H H' : Hp} (h : TabsIn m H) (e : FSame H H') : TabsIn m H' := ⟨fun p hp => e.k _ _ (h.1 p hp) True.intro, e.t h.2⟩
theorem lk_st1 : ∀ {σ : List Sl} {i : Nat} {v : Sl}, i < σ.length → lk (st1 σ i v) i = v
  | [], _, _, h => by simp at h
  | _ :: _, 0, _, _ => rfl
  | _ :: r, i + 1, v, h => lk_st1 (σ := r) (by simpa using h)
theorem lk_st1_ne : ∀ {σ : List Sl} {i j : Nat} {v : Sl}, i ≠ j → lk (st1 σ i v) j = lk σ j
  | [], _, _, _, _ => rfl
  | _ :: _, 0, 0, _, h => absurd rfl h
  | _ :: _, 0, j + 1, _, _ => rfl
  | _ :: _, i + 1, 0, _, _ => rfl
  | _ :: r, i + 1, j + 1, v, h => lk_st1_ne (σ := r) fun e => h (by rw [e])
theorem len_st1 : ∀ {σ : List Sl} {i : Nat} {v : Sl}, (st1 σ i v).length = σ.length
  | [], _, _ => rfl
  | _ :: _, 0, _ => rfl
  | _ :: r, i + 1, v => by simp [st1, len_st1 (σ := r)]
theorem lk_out : ∀ {σ : List Sl} {i : Nat}, σ.length ≤ i → lk σ i = .no
  | [], _, _ => rfl
  | _ :: _, 0, h => by simp at h
  | _ :: r, i + 1, h => lk_out (σ := r) (by simpa using h)
theorem lk_in {σ : List Sl} {i : Nat} (h : lk σ i ≠ .no) : i < σ.length := by
  by_cases q : i < σ.length
  · exact q
  · exact absurd (lk_out (by omega)) h

section
variable {m : Mx} {H0 H H' : Hp} {σV : L2.St} {σ : List Sl}
theorem SlRel.same {o : Option (Option V)} {s : Sl} (e : Same H H') (h : SlRel m H0 H o s) : SlRel m H0 H' o s := by
  cases s with
  | no => exact h
  | val d => obtain ⟨x, h1, h2⟩ := h; exact ⟨x, h1, h2.mono (.of e)⟩
  | own xs => obtain ⟨a, vs, h1, h2, h3, h4⟩ := h; exact ⟨a, vs, h1, e.k _ _ h2 rfl, h3.mono (.of e), h4⟩
  | own2 xss => obtain ⟨a, bs, h1, h2, h3, h4⟩ := h; exact ⟨a, bs, h1, e.k _ _ h2 rfl, h3.same e, h4⟩
  | ownd ks ds => obtain ⟨a, vs, h1, h2, h3, h4, h5⟩ := h; exact ⟨a, vs, h1, e.k _ _ h2 rfl, h3, h4.mono (.of e), h5⟩
/-- what the list of rows is, is known -/
theorem Owns.back {o : Option (Option V)} {s : Sl} {a : Addr} (h : SlRel m H0 H o s) (e : ∀ c vs, Owns H o s c → H c = some (.lst vs) → H' c = some (.lst vs)) (w : Owns H' o s a) : Owns H o s a := by
  cases s with
  | own2 xss =>
    obtain ⟨b, bs, h1, h2, _⟩ := h
    obtain ⟨c, w1, w2⟩ := w
    rw [h1] at w1
    cases w1
    refine ⟨b, h1, w2.imp id fun ⟨vs, w3, w4⟩ => ?_⟩
    rw [e b _ ⟨b, h1, .inl rfl⟩ h2] at w3
    cases w3
    exact ⟨_, h2, w4⟩
  | _ => exact w
theorem Good.of_same (g : Good m H0 H σV σ) (e : Same H H') : Good m H0 H' σV σ :=
  ⟨g.len, fun i => (g.sl i).same e, fun i j a hij w1 w2 => g.apart i j a hij (w1.back (g.sl i) fun c vs _ h => e.k _ _ h rfl) (w2.back (g.sl j) fun c vs _ h => e.k _ _ h rfl), g.same.trans e, g.tabs.mono (.of e)⟩
theorem rows_at : ∀ {bs : List Addr} {xss : List (List D)}, RepRows m H (bs.map V.ref) xss → ∀ b ∈ bs, ∃ vs, H b = some (.lst vs)
  | [], _, _, b, hb => by cases hb
  | c :: bs, [], h, b, hb => by cases h
  | c :: bs, ds :: xss, h, b, hb => by
    cases h with
    | cons h1 h2 h3 =>
      rcases List.mem_cons.mp hb with rfl | hb
      · exact ⟨_, h1⟩
      · exact rows_at h3 b hb
theorem mem_refs {bs : List Addr} {a : Addr} (h : V.ref a ∈ bs.map V.ref) : a ∈ bs := by
  obtain ⟨b, hb, e⟩ := List.mem_map.mp h
  cases e; exact hb
/-- what is owned stands in the heap, unfrozen, younger than the entry -/
theorem SlRel.owned {o : Option (Option V)} {s : Sl} {a : Addr} (h : SlRel m H0 H o s) (w : Owns H o s a) : Un0 H0 a ∧ ∃ u, H a = some u ∧ ¬ Fz u ∧ isTbl u = false := by
  cases s with
  | own xs =>
    obtain ⟨b, vs, h1, h2, h3, h4⟩ := h
    have w' : o = some (some (.ref a)) := w
    rw [h1] at w'
    cases w'
    exact ⟨h4, _, h2, fun z => z, rfl⟩
  | own2 xss =>
    obtain ⟨b, bs, h1, h2, h3, h4, h5, h6, h7⟩ := h
    obtain ⟨c, w1, w2⟩ := w
    rw [h1] at w1
    cases w1
    rcases w2 with rfl | ⟨vs, w3, w4⟩
    · exact ⟨h6, _, h2, fun z => z, rfl⟩
    · rw [h2] at w3
      cases w3
      have hm := mem_refs w4
      obtain ⟨vs, hv⟩ := rows_at h3 a hm
      exact ⟨h7 a hm, _, hv, fun z => z, rfl⟩
  | ownd ks ds =>
    obtain ⟨b, vs, h1, h2, h3, h4, h5⟩ := h
    have w' : o = some (some (.ref a)) := w
    rw [h1] at w'
    cases w'
    exact ⟨h5, _, h2, fun z => z, rfl⟩
  | _ => exact w.elim
theorem Good.set (g : Good m H0 H σV σ) (i : Nat) (x : V) (s : Sl) (h : SlRel m H0 H (some (some x)) s) (ap : ∀ a, Owns H (some (some x)) s a → ∀ j, j ≠ i → ¬ Owns H σV[j]? (lk σ j) a) :
    Good m H0 H (σV.set i (some x)) (st1 σ i s) := by
  refine ⟨by rw [List.length_set, len_st1, g.len], fun j => ?_, fun j k a hjk w1 w2 => ?_, g.same, g.tabs⟩
  · by_cases e : i = j
    · subst e
      by_cases hi : i < σ.length
      · rw [lk_st1 hi, List.getElem?_set_self (by rw [g.len]; exact hi)]; exact h
      · rw [lk_out (by rw [len_st1]; omega)]; exact True.intro
    · rw [lk_st1_ne e, List.getElem?_set_ne e]; exact g.sl j
  · by_cases hi : i < σ.length
    · by_cases e : i = j
      · subst e
        rw [lk_st1 hi, List.getElem?_set_self (by rw [g.len]; exact hi)] at w1
        rw [lk_st1_ne hjk, List.getElem?_set_ne hjk] at w2
        exact ap a w1 k (fun z => hjk z.symm) w2
      · by_cases e2 : i = k
        · subst e2
          rw [lk_st1 hi, List.getElem?_set_self (by rw [g.len]; exact hi)] at w2
          rw [lk_st1_ne e, List.getElem?_set_ne e] at w1
          exact ap a w2 j hjk w1
        · rw [lk_st1_ne e, List.getElem?_set_ne e] at w1
          rw [lk_st1_ne e2, List.getElem?_set_ne e2] at w2
          exact g.apart j k a hjk w1 w2
    · have ne : ∀ j, Owns H (σV.set i (some x))[j]? (lk (st1 σ i s) j) a → i ≠ j := fun j w e => by
        subst e
        rw [lk_out (by rw [len_st1]; omega)] at w
        exact w
      have n1 := ne j w1
      have n2 := ne k w2
      rw [lk_st1_ne n1, List.getElem?_set_ne n1] at w1
      rw [lk_st1_ne n2, List.getElem?_set_ne n2] at w2
      exact g.apart j k a hjk w1 w2
theorem Good.setVal (g : Good m H0 H σV σ) (i : Nat) {x : V} {d : D} (h : Rep m H x d) : Good m H0 H (σV.set i (some x)) (st1 σ i (.val d)) :=
  g.set i x _ ⟨x, rfl, h⟩ fun a w => w.elim
/-- what nobody owns yet -/
theorem Good.new (g : Good m H0 H σV σ) {a : Addr} (n : Un0 H a) (j : Nat) : ¬ Owns H σV[j]? (lk σ j) a := fun w => by
  obtain ⟨_, u, h1, _, h3⟩ := (g.sl j).owned w
  rw [n u h1] at h3; cases h3
/-- a new list of one's own -/
theorem Good.setOwn (g : Good m H0 H σV σ) (i : Nat) {a : Addr} {vs : List V} {ds : List D} (n : Un0 H a) (e : Same H H') (h : H' a = some (.lst vs)) (r : RepL m H' vs ds) : Good m H0 H' (σV.set i (some (.ref a))) (st1 σ i (.own ds)) := by
  refine (g.of_same e).set i _ _ ⟨a, vs, rfl, h, r, g.same.free n⟩ fun b w j _ wj => ?_
  have w' : (some (some (V.ref a)) : Option (Option V)) = some (some (.ref b)) := w
  cases w'
  exact g.new n j (wj.back (g.sl j) fun c vs _ h => e.k _ _ h rfl)
theorem Good.setOwnd (g : Good m H0 H σV σ) (i : Nat) {a : Addr} {ks : List Key} {vs : List V} {ds : List D} (n : Un0 H a) (e : Same H H') (h : H' a = some (.dK (ks.zip vs))) (l : ks.length = vs.length) (r : RepL m H' vs ds) :
    Good m H0 H' (σV.set i (some (.ref a))) (st1 σ i (.ownd ks ds)) := by
  refine (g.of_same e).set i _ _ ⟨a, vs, rfl, h, l, r, g.same.free n⟩ fun b w j _ wj => ?_
  have w' : (some (some (V.ref a)) : Option (Option V)) = some (some (.ref b)) := w
  cases w'
  exact g.new n j (wj.back (g.sl j) fun c vs _ h => e.k _ _ h rfl)
theorem fsame_upd {a : Addr} {u o : HO} (h : H a = some u) (n : ¬ Fz u) (c : isTbl u = false := by rfl) : FSame H (upd H a o) := ⟨fun b v e f => by
  by_cases c : b = a
  · subst c; rw [h] at e; cases e; exact absurd f n
  · rw [upd_ne c]; exact e, tabs_upd h n c⟩
theorem rows_upd (fs : FSame H H') : ∀ {bs : List Addr} {xss : List (List D)}, (∀ b ∈ bs, ∀ vs, H b = some (.lst vs) → H' b = some (.lst vs)) → RepRows m H (bs.map V.ref) xss → RepRows m H' (bs.map V.ref) xss
  | [], _, _, h => by cases h; exact .nil
  | c :: bs, [], _, h => by cases h
  | c :: bs, ds :: xss, k, h => by
    cases h with
    | cons h1 h2 h3 => exact .cons (k c (List.mem_cons_self ..) _ h1) (h2.mono fs) (rows_upd fs (fun b hb => k b (List.mem_cons_of_mem _ hb)) h3)
/-- what one slot owns is changed, and nothing else -/
theorem Good.upds (g : Good m H0 H σV σ) (i : Nat) (s : Sl) (out : ∀ c, ¬ Owns H σV[i]? (lk σ i) c → H' c = H c) (fs : FSame H H') (hs : SlRel m H0 H' σV[i]? s)
    (ow : ∀ b, Owns H' σV[i]? s b → Owns H σV[i]? (lk σ i) b ∨ ∀ j, ¬ Owns H σV[j]? (lk σ j) b) : Good m H0 H' σV (st1 σ i s) := by
  have oth : ∀ j, i ≠ j → ∀ c, Owns H σV[j]? (lk σ j) c → H' c = H c := fun j hj c w => out c fun z => g.apart i j c hj z w
  have bk : ∀ j, i ≠ j → ∀ b, Owns H' σV[j]? (lk σ j) b → Owns H σV[j]? (lk σ j) b := fun j hj b w => w.back (g.sl j) fun c vs w' h => by rw [oth j hj c w']; exact h
  refine ⟨by rw [len_st1, g.len], fun j => ?_, fun j k b hjk w1 w2 => ?_, ⟨fun b v e c => ?_, fun t => fs.t (g.same.t t)⟩, g.tabs.mono fs⟩
  · by_cases e : i = j
    · subst e
      by_cases hi' : i < σ.length
      · rw [lk_st1 hi']; exact hs
      · rw [lk_out (by rw [len_st1]; omega)]; exact True.intro
    · rw [lk_st1_ne e]
      have sj := g.sl j
      have na := oth j e
      revert sj na
      cases lk σ j with
      | no => exact fun _ _ => True.intro
      | val d => exact fun ⟨x, h1, h2⟩ _ => ⟨x, h1, h2.mono fs⟩
      | own xs => exact fun ⟨b, vs, h1, h2, h3, h4⟩ na => ⟨b, vs, h1, by rw [na b h1]; exact h2, h3.mono fs, h4⟩
      | own2 xss => exact fun ⟨b, bs, h1, h2, h3, h4⟩ na => ⟨b, bs, h1, by rw [na b ⟨b, h1, .inl rfl⟩]; exact h2, rows_upd fs (fun c hc vs hv => by rw [na c ⟨b, h1, .inr ⟨_, h2, List.mem_map.mpr ⟨c, hc, rfl⟩⟩⟩]; exact hv) h3, h4⟩
      | ownd ks ds => exact fun ⟨b, vs, h1, h2, h3, h4, h5⟩ na => ⟨b, vs, h1, by rw [na b h1]; exact h2, h3, h4.mono fs, h5⟩
  · have key : ∀ j b, Owns H' σV[j]? (lk (st1 σ i s) j) b → Owns H σV[j]? (lk σ j) b ∨ (i = j ∧ ∀ j, ¬ Owns H σV[j]? (lk σ j) b) := fun j b w => by
      by_cases e : i = j
      · subst e
        by_cases hi' : i < σ.length
        · rw [lk_st1 hi'] at w; exact (ow b w).imp id fun z => ⟨rfl, z⟩
        · rw [lk_out (by rw [len_st1]; omega)] at w; exact w.elim
      · rw [lk_st1_ne e] at w; exact .inl (bk j e b w)
    rcases key j b w1 with q1 | ⟨q1, q1'⟩ <;> rcases key k b w2 with q2 | ⟨q2, q2'⟩
    · exact g.apart j k b hjk q1 q2
    · exact q2' j q1
    · exact q1' k q2
    · exact hjk (q1.symm.trans q2)
  · have := g.same.k b v e c
    rw [out b fun w => ?_]; · exact this
    obtain ⟨n0, _⟩ := (g.sl i).owned w
    rw [n0 v e] at c; cases c
/-- a list of one's own, changed (or frozen) -/
theorem Good.updOwn (g : Good m H0 H σV σ) (i : Nat) {a : Addr} {u o : HO} (hi : Owns H σV[i]? (lk σ i) a) (h : H a = some u) (s : Sl) (hs : SlRel m H0 (upd H a o) σV[i]? s) (ow : ∀ b, Owns (upd H a o) σV[i]? s b → b = a) :
    Good m H0 (upd H a o) σV (st1 σ i s) := by
  obtain ⟨n0, u', hu', nf, nt⟩ := (g.sl i).owned hi
  rw [h] at hu'; cases hu'
  exact g.upds i s (fun c hc => upd_ne fun z => hc (z ▸ hi)) (fsame_upd h nf nt) hs fun b w => .inl ((ow b w) ▸ hi)
end

/-! ### an expression's reading -/
theorem New.up {m : Mx} {H H1 H' : Hp} {x : V} {d : D} (e : Same H H1) (h : New m H1 H' x d) : New m H H' x d := by
  cases h with
  | fz n h => exact .fz n h
  | lst n h r => exact .lst (e.free n) h r
  | dic n h l r => exact .dic (e.free n) h l r
theorem Yld.up {m : Mx} {H H1 : Hp} {d : D} {Q : VK} (h : Yld m H d Q) (e : Same H H1) : Yld m H1 d Q := fun z H' s n => h z H' (e.trans s) (n.up e)
/-- a new thing is frozen -/
theorem New.freeze {X : Cx} {pins : List (Addr × Obj)} {σ : L2.St} {s : Shared} {m : Mx} {H H' : Hp} {z : V} {d : D} (I : Inv X pins σ H' s) (e : Same H H') (h : New m H H' z d) : ∃ H2, Inv X pins σ H2 s ∧ Same H H2 ∧ Rep m H2 z d := by
  cases h with
  | fz _ h => exact ⟨H', I, e, h⟩
  | @lst a xs ds n h r =>
    obtain ⟨o, I2⟩ := inv_frz I h True.intro
    have fs : FSame H' (upd H' a (.frz o (.lst xs))) := fsame_upd h (fun z => z)
    exact ⟨_, I2, ⟨fun b u hb c => by rw [upd_ne (ne_un hb c n)]; exact e.k b u hb c, fun t => fs.t (e.t t)⟩, .lst ⟨o, upd_same⟩ (r.mono fs)⟩
  | @dic a ks xs ds n h l r =>
    obtain ⟨o, I2⟩ := inv_frz I h True.intro
    have fs : FSame H' (upd H' a (.frz o (.dK (ks.zip xs)))) := fsame_upd h (fun z => z)
    exact ⟨_, I2, ⟨fun b u hb c => by rw [upd_ne (ne_un hb c n)]; exact e.k b u hb c, fun t => fs.t (e.t t)⟩, .dic upd_same l (r.mono fs)⟩

/-- where an expression runs: the module's constants G, the functions C -/
structure Sem0 where
  G : Nat → R D
  C : Nat → List D → R D
section
variable (m : Mx) (Z : Sem0) (H0 : Hp) (W : WX)
/-- what is wanted of an error -/
abbrev XW (σV : L2.St) : Nat → Hp → Prop := fun c H' => m.xc c = true → W (.ref (m.ca c)) none σV H'
def tR {α : Type} (f : List Sl → R α) (k : Hp → α → Prop) (σV : L2.St) (H : Hp) : Prop := ∃ σ, Good m H0 H σV σ ∧ Run H (XW m W σV) (f σ) (k H)
def tN (e : E) : TE := fun σV H Q => tR m H0 W (fun σ => ev Z.G Z.C σ e) (fun H d => Yld m H d Q) σV H
def tF (e : E) : TE := fun σV H Q => tR m H0 W (fun σ => ev Z.G Z.C σ e) (fun H d => YldF m H d Q) σV H
def tRd (e : E) : TE := fun σV H Q => tR m H0 W (fun σ => ev Z.G Z.C σ e) (fun H d => YldR m H d Q) σV H
def tQ (e : E) : TE := fun σV H Q => tR m H0 W (fun σ => ev Z.G Z.C σ e) (fun H d => YldQ m H d Q) σV H
def tTT (e : E) : TT := fun σV H Q => tR m H0 W (fun σ => (ev Z.G Z.C σ e).bind asB) (fun H b => ∀ H', Same H H' → Q b H') σV H
def tAs (es : Es) : TA := fun σV H Q => tR m H0 W (fun σ => evs Z.G Z.C σ es) (fun H ds => ∀ vs H', Same H H' → RepL m H' vs ds → Q vs H') σV H
end
section
variable {m : Mx} {Z : Sem0} {H0 : Hp} {W : WX} {X : Cx} {x : Expr} {e : E}
theorem peImp {t t' : TE} (h : PE X x t) (i : ∀ σ H Q, t' σ H Q → t σ H Q) : PE X x t' := ⟨fun pins s σ H Q I q => h.run pins s σ H Q I (i σ H Q q)⟩
theorem ptImp {t t' : TT} (h : PT X x t) (i : ∀ σ H Q, t' σ H Q → t σ H Q) : PT X x t' := ⟨fun pins s σ H Q I q => h.run pins s σ H Q I (i σ H Q q)⟩
theorem pe_frozen (h : PE X x (tN m Z H0 W e)) : PE X x (tF m Z H0 W e) := by
  refine ⟨fun pins s σV H Q I ⟨σ, g, r⟩ => ?_⟩
  refine thn (h.run pins s σV H (fun z H' => ∃ d, Same H H' ∧ New m H H' z d ∧ YldF m H d Q) I ⟨σ, g, r.imp fun d _ k z H' e n => ⟨d, e, n, k⟩⟩) fun u s1 ⟨z, H1, I1, rz, d, e1, n, k⟩ => ?_
  obtain ⟨H2, I2, e2, rp⟩ := n.freeze I1 e1
  exact ⟨z, H2, I2, rz, k z H2 e2 rp⟩
theorem pe_rd (h : PE X x (tF m Z H0 W e)) : PE X x (tRd m Z H0 W e) := peImp h fun σV H Q ⟨σ, g, r⟩ => ⟨σ, g, r.imp fun d _ k z H' e n => k z H' e (.fz n)⟩
theorem pe_q (h : PE X x (tRd m Z H0 W e)) : PE X x (tQ m Z H0 W e) := peImp h fun σV H Q ⟨σ, g, r⟩ => ⟨σ, g, r.imp fun d _ k z H' e n => k z H' e (.rd n)⟩
/-- what comes behind a part -/
theorem tF_step {α : Type} {f : List Sl → D → R α} {k : Hp → α → Prop} {σV : L2.St} {H : Hp} {Q : VK} (h : tR m H0 W (fun σ => (ev Z.G Z.C σ e).bind (f σ)) k σV H) (kk : ∀ H' a, Same H H' → k H a → k H' a)
    (hk : ∀ d z H1, Same H H1 → Rep m H1 z d → tR m H0 W (fun σ => f σ d) k σV H1 → Q z H1) : tF m Z H0 W e σV H Q := by
  obtain ⟨σ, g, r⟩ := h
  exact ⟨σ, g, r.bind.imp fun d _ r1 z H1 e1 rp => hk d z H1 e1 rp ⟨σ, g.of_same e1, (r1.same e1).imp fun a _ => kk H1 a e1⟩⟩
theorem tRd_step {α : Type} {f : List Sl → D → R α} {k : Hp → α → Prop} {σV : L2.St} {H : Hp} {Q : VK} (h : tR m H0 W (fun σ => (ev Z.G Z.C σ e).bind (f σ)) k σV H) (kk : ∀ H' a, Same H H' → k H a → k H' a)
    (hk : ∀ d z H1, Same H H1 → RepR m H1 z d → tR m H0 W (fun σ => f σ d) k σV H1 → Q z H1) : tRd m Z H0 W e σV H Q := by
  obtain ⟨σ, g, r⟩ := h
  exact ⟨σ, g, r.bind.imp fun d _ r1 z H1 e1 rp => hk d z H1 e1 rp ⟨σ, g.of_same e1, (r1.same e1).imp fun a _ => kk H1 a e1⟩⟩
theorem tQ_step {α : Type} {f : List Sl → D → R α} {k : Hp → α → Prop} {σV : L2.St} {H : Hp} {Q : VK} (h : tR m H0 W (fun σ => (ev Z.G Z.C σ e).bind (f σ)) k σV H) (kk : ∀ H' a, Same H H' → k H a → k H' a)
    (hk : ∀ d z H1, Same H H1 → RepQ m H1 z d → tR m H0 W (fun σ => f σ d) k σV H1 → Q z H1) : tQ m Z H0 W e σV H Q := by
  obtain ⟨σ, g, r⟩ := h
  exact ⟨σ, g, r.bind.imp fun d _ r1 z H1 e1 rp => hk d z H1 e1 rp ⟨σ, g.of_same e1, (r1.same e1).imp fun a _ => kk H1 a e1⟩⟩
theorem tT_step {α : Type} {f : List Sl → Bool → R α} {k : Hp → α → Prop} {σV : L2.St} {H : Hp} {Q : Bool → Hp → Prop} (h : tR m H0 W (fun σ => ((ev Z.G Z.C σ e).bind asB).bind (f σ)) k σV H) (kk : ∀ H' a, Same H H' → k H a → k H' a)
    (hk : ∀ b H1, Same H H1 → tR m H0 W (fun σ => f σ b) k σV H1 → Q b H1) : tTT m Z H0 W e σV H Q := by
  obtain ⟨σ, g, r⟩ := h
  exact ⟨σ, g, r.bind.imp fun b _ r1 H1 e1 => hk b H1 e1 ⟨σ, g.of_same e1, (r1.same e1).imp fun a _ => kk H1 a e1⟩⟩
theorem tAs_step {α : Type} {es : Es} {f : List Sl → List D → R α} {k : Hp → α → Prop} {σV : L2.St} {H : Hp} {Q : List V → Hp → Prop} (h : tR m H0 W (fun σ => (evs Z.G Z.C σ es).bind (f σ)) k σV H) (kk : ∀ H' a, Same H H' → k H a → k H' a)
    (hk : ∀ ds vs H1, Same H H1 → RepL m H1 vs ds → tR m H0 W (fun σ => f σ ds) k σV H1 → Q vs H1) : tAs m Z H0 W es σV H Q := by
  obtain ⟨σ, g, r⟩ := h
  exact ⟨σ, g, r.bind.imp fun d _ r1 z H1 e1 rp => hk d z H1 e1 rp ⟨σ, g.of_same e1, (r1.same e1).imp fun a _ => kk H1 a e1⟩⟩
theorem yld_mono {Q : VK} {H H' : Hp} {d : D} (e : Same H H') (h : Yld m H d Q) : Yld m H' d Q := h.up e
theorem tst_mono {Q : Bool → Hp → Prop} {H H' : Hp} {b : Bool} (e : Same H H') (h : ∀ H1, Same H H1 → Q b H1) : ∀ H1, Same H' H1 → Q b H1 := fun H1 e1 => h H1 (e.trans e1)
end
end Fc
/-! Ev2f: expressions, one rule for each form. -/
namespace Fc
open PySem PySem.Spec
open PyProof.Rows L2
variable [Tb]

/-- the promise of a def: c tells what comes of the arguments' data -/
def spD (m : Mx) (n : Nat) (fr : Bool) (c : List D → R D) : Sp := fun vs H Q E => vs.length = n ∧ TabsIn m H ∧ ∃ ds, RepL m H vs ds ∧ Run H (fun c H' => m.xc c = true → E (.ref (m.ca c)) none H') (c ds) fun d => match fr with
  | true => Yld m H d Q
  | false => YldF m H d Q
/-- the names that the texts bear -/
structure Nms where
  t : Nat → Bool
  gt : Nat → Bool
  fr : Nat → Bool
  f : Nat → Str
  g : Nat → Str
  x : Nat → Str
  xc : Nat → Bool
  /-- t(lambda: e) tells what e tells, or what w tells of its error -/
  tl : Nat → Nat → Bool
  /-- lambdas are made there -/
  lm : Nat → Bool
def Nms.noL (nm : Nms) : Nms := { nm with tl := fun _ _ => false }
/-- a def stands ready -/
def FnQ (kk : Nat) (m : Mx) (X : Cx) (nm : Str) (fr : Bool) (c : List D → R D) : Prop := ∃ (k : Nat) (f : Addr) (fd : FuncData) (ps : List Str), k ≤ kk ∧ X.mg nm = some (.ref f) ∧ PySem.W.keepIn X.K (.ref f) = true ∧ Binds X.K fd ps [] ∧
  (∀ ds, c ds ≠ .stk → ds.length = ps.length) ∧ FnOk X.prog X.w X.K X.mg X.base (L2.CX X.prog X.w) k f fd ps (spD m ps.length fr c)
def FnP (m : Mx) (X : Cx) (nm : Str) (fr : Bool) (c : List D → R D) : Prop := ∃ (k : Nat) (f : Addr) (fd : FuncData) (ps : List Str), Room k X.A ∧ X.mg nm = some (.ref f) ∧ PySem.W.keepIn X.K (.ref f) = true ∧ Binds X.K fd ps [] ∧
  (∀ ds, c ds ≠ .stk → ds.length = ps.length) ∧ FnOk X.prog X.w X.K X.mg X.base (L2.CX X.prog X.w) k f fd ps (spD m ps.length fr c)
/-- no parameters -/
def noArgs (a : Arguments) : Bool := a.posonlyargs.isEmpty && a.args.isEmpty && a.vararg.isNone && a.kwonlyargs.isEmpty && a.kwarg.isNone && a.defaults.isEmpty && a.kw_defaults.isEmpty
/-- the wish for an error: its word is told -/
def EW (m : Mx) (word : Nat → R D) (Q : VK) : XK := fun cls d H' => ∃ c z, m.xc c = true ∧ cls = .ref (m.ca c) ∧ d = none ∧ word c = .ok (.str z) ∧ TabsIn m H' ∧ ∀ H2, Same H' H2 → Q (.str z) H2
/-- x(lambda: body), in X -/
def ToldR (m : Mx) (kk : Nat) (x : Str) (word : Nat → R D) (X : Cx) : Prop :=
  ∀ {params : Arguments} {body : Expr} {scope : Scope} {t : XK → TE} {p lpos pos : Pos}, Gl X x → (x == ("__debug__" : Str)) = false → LamX.LamS X.env.scope scope → noArgs params = true →
    (∀ (A : Around) (outer : List Env) (s : Shared) (H : Hp) (E : XK) (f c' : Addr), Room kk (A.deeper (LamX.lamEnv X scope s.heap.objs.size f c')) → PE (LamX.lamCx X A outer s H E scope f c') body (t E)) →
    PE X (.Call (.Name x p) [.Lambda params body scope lpos] [] pos) (fun σ H Q => LamX.Tabs Tb.T H ∧ ∀ H1, LamX.ExtN H H1 → LamX.Tabs Tb.T H1 → t (EW m word Q) σ H1 Q)
def ToldQ (P : Program) (w : World) (K : PySem.W.Frag) (mg : Str → Option Value) (base : Heap) (code : Value) (qual : Str) (m : Mx) (kk : Nat) (x : Str) (word : Nat → R D) : Prop :=
  ∀ X : Cx, X.prog = P → X.w = w → X.K = K → X.mg = mg → X.base = base → X.env.code = code → X.env.qual = qual → Room (kk + 2) X.A → ToldR m kk x word X
def isBi (x : Str) : Bool := x ∈ (["len", "all", "any", "sum", "sorted", "set", "tuple", "list", "str", "int", "bool", "abs", "max", "min", "isinstance", "range", "zip", "enumerate", "ValueError"] : List Str)
/-- where an expression stands -/
structure Okx (nm : Nms) (m : Mx) (Z : Sem0) (W : WX) (N : List Str) (sc : Scope) (cm : Bool) (X : Cx) : Prop where
  hm : m.K = X.K
  hu : X.A.units + 66 < cLine
  tk : Takes X W
  hN : X.N = N
  nod : N.Nodup
  hsc : X.env.scope = sc
  hc : cm = true → X.calm = true
  gl : ∀ n d, nm.gt n = true → Z.G n = .ok d → ∃ v u, X.mg (nm.g n) = some u ∧ RelV v u ∧ ∀ H, TabsIn m H → Rep m H v d
  glx : ∀ n c, Z.G n ≠ .exc c
  fn : ∀ f, nm.t f = true → cm = true → FnP m X (nm.f f) (nm.fr f) (Z.C f)
  bi : ∀ x, isBi x = true → X.mg x = none
  xcm : nm.xc = m.xc
  mgx : ∀ c, m.xc c = true → X.mg (nm.x c) = some (.ref (m.ca c))
  exm : ∀ k c, m.xc k = true → m.xc c = true → PySem.W.exmOne m.K (.ref (m.ca k)) (.ref (m.ca c)) = some (subC k c)
  kit : ∀ k c, m.xc k = true → m.xc c = true → PySem.W.kitOne m.K (.ref (m.ca k)) (.ref (m.ca c)) = some (subC k c)
  kitV : ∀ k, m.xc k = true → PySem.W.kitOne m.K (.ref (m.ca k)) (.type "ValueError") = some true
  exC : ∀ k, m.xc k = true → ExcC m.K (m.ca k)
  cool : cm = true → m.hot = none
  hot : ∀ a c, m.hot = some (a, c) → ∃ oe, (a, oe) ∈ X.pn ∧ Zc (.ref (m.ca c)) none oe ∧ ∃ vs, oe.data = .fields vs
  told : ∀ t w, nm.tl t w = true → cm = true → ∃ kk, Room (kk + 2) X.A ∧ (∀ f, nm.t f = true → FnQ kk m X (nm.f f) (nm.fr f) (Z.C f)) ∧ ToldQ X.prog X.w X.K X.mg X.base X.env.code X.env.qual m kk (nm.f t) fun c => Z.C w [.exv c]

/-! ### the texts -/
def eqS (x y : Str) : Bool := decide (x = y)
def okNm (x : Str) : Bool := !(x == ("__debug__" : Str)) && !(x == ("__classdict__" : Str))
/-- a name that may be read, at its place -/
def nameIs (N : List Str) (sc : Scope) (i : Nat) : Expr → Bool
  | .Name x _ => decide (N[i]? = some x) && okNm x && (match sc.names.lookup x with
    | some .local => true | some .cell => true | some .free => true | _ => false)
  | _ => false
def globIs (sc : Scope) (y : Str) : Expr → Bool
  | .Name x _ => eqS x y && okNm x && (match sc.names.lookup x with
    | some .globalImplicit => true | _ => false)
  | _ => false
def biIs (sc : Scope) (y : Str) : Expr → Bool
  | .Name x _ => eqS x y && isBi y && (match sc.names.lookup x with
    | some .globalImplicit => true | _ => false)
  | _ => false
def notStar : Expr → Bool
  | .Starred _ _ => false
  | _ => true
def notSlice : Expr → Bool
  | .Slice _ _ _ _ => false
  | _ => true
def notSet : Expr → Bool
  | .Set _ _ _ => false
  | _ => true
def plainBase : Expr → Bool
  | .Call (.Name _ _) [] [] _ => false
  | _ => true
def constIs : D → Const → Bool
  | .int i, .int j => decide (i = j)
  | .str x, .str y => eqS x y
  | .bl a, .bool b => a == b
  | .non, .none => true
  | _, _ => false

section
variable {nm : Nms} {m : Mx} {Z : Sem0} {H0 : Hp} {W : WX} {N : List Str} {sc : Scope} {cm : Bool} {X : Cx} {x y z w : Expr} {a b c : E} {pos : Pos}
theorem star_cons (h : notStar x = true) (r : List Expr) (env : Env) : starEach (x :: r) env = (false, eval x env) :: starEach r env := by
  cases x <;> first | rfl | cases h
theorem star_any {pos : Pos} {env : Env} : ∀ {r : List Expr}, r.all notStar = true → (backTo pos (starEach r env)).any (·.1) = false
  | [], _ => rfl
  | x :: r, h => by
    rw [List.all_cons] at h
    obtain ⟨h1, h2⟩ := Bool.and_eq_true_iff.mp h
    rw [star_cons h1]
    have := star_any (pos := pos) (env := env) h2
    show (false || (backTo pos (starEach r env)).any (·.1)) = false
    rw [this]; rfl
theorem star_all {pos : Pos} {env : Env} : ∀ {r : List Expr}, r.all notStar = true → (backTo pos (starEach r env)).all (fun x => !x.1) = true
  | [], _ => rfl
  | x :: r, h => by
    rw [List.all_cons] at h
    obtain ⟨h1, h2⟩ := Bool.and_eq_true_iff.mp h
    rw [star_cons h1]
    have := star_all (pos := pos) (env := env) h2
    show (true && (backTo pos (starEach r env)).all (fun x => !x.1)) = true
    rw [this]; rfl
theorem base_plain (h : plainBase x = true) (m : Str) (env : Env) : attributeBase x m env (eval x env) = eval x env := by
  unfold attributeBase
  split
  · simp [plainBase] at h
  · rfl
theorem ix_plain (h : notSlice x = true) : PlainIx x := by
  intro o i
  cases x <;> first | rfl | cases h
theorem behind_no (h : notSet x = true) (op : CmpOp) : behindInMarks op x = false := by
  cases x <;> first | rfl | cases h
theorem last_no {op op' : CmpOp} (h : notSet z = true) : lastMarks [op, op'] [y, z] = false := by
  show lastMarks [op'] [z] = false
  exact behind_no h op'
theorem eqS_eq {x y : Str} (h : eqS x y = true) : x = y := of_decide_eq_true h
theorem okNm1 {x : Str} (h : okNm x = true) : (x == ("__debug__" : Str)) = false ∧ (x == ("__classdict__" : Str)) = false := by
  unfold okNm at h
  revert h
  cases x == ("__debug__" : Str) <;> cases x == ("__classdict__" : Str) <;> simp

/-! ### names -/
theorem pe_nm {i : Nat} (o : Okx nm m Z W N sc cm X) (h : nameIs N sc i x = true) : PE X x (tVar i) := by
  cases x <;> try (cases h)
  rename_i nme pos
  simp only [nameIs, Bool.and_eq_true, decide_eq_true_eq] at h
  obtain ⟨⟨h1, h2⟩, h3⟩ := h
  obtain ⟨k1, k2⟩ := okNm1 h2
  refine pe_var (by rw [o.hN]; exact h1) ?_ k1 k2
  rw [o.hsc]
  revert h3
  split
  · exact fun _ => .inl (by assumption)
  · exact fun _ => .inr (.inl (by assumption))
  · exact fun _ => .inr (.inr (by assumption))
  · intro h; cases h
theorem gl_nm {y : Str} (o : Okx nm m Z W N sc cm X) (h : globIs sc y x = true) : ∃ pos, x = .Name y pos ∧ Gl X y ∧ (y == ("__debug__" : Str)) = false := by
  cases x <;> try (cases h)
  rename_i nme pos
  simp only [globIs, Bool.and_eq_true] at h
  obtain ⟨⟨h1, h2⟩, h3⟩ := h
  obtain rfl := eqS_eq h1
  refine ⟨pos, rfl, ?_, (okNm1 h2).1⟩
  show X.env.scope.names.lookup nme = some .globalImplicit
  rw [o.hsc]
  revert h3
  split
  · intro _; assumption
  · intro h; cases h
theorem bi_nm {y : Str} (o : Okx nm m Z W N sc cm X) (h : biIs sc y x = true) : ∃ pos, x = .Name y pos ∧ Gl X y ∧ X.mg y = none := by
  cases x <;> try (cases h)
  rename_i nme pos
  simp only [biIs, Bool.and_eq_true] at h
  obtain ⟨⟨h1, h2⟩, h3⟩ := h
  obtain rfl := eqS_eq h1
  refine ⟨pos, rfl, ?_, o.bi _ h2⟩
  show X.env.scope.names.lookup nme = some .globalImplicit
  rw [o.hsc]
  revert h3
  split
  · intro _; assumption
  · intro h; cases h
theorem r_var {i : Nat} (o : Okx nm m Z W N sc cm X) (h : nameIs N sc i x = true) : PE X x (tF m Z H0 W (.var i)) := by
  refine peImp (pe_nm o h) fun σV H Q ⟨σ, g, r⟩ => ?_
  have s := g.sl i
  simp only [ev] at r
  cases e : lk σ i with
  | val d =>
    rw [e] at r s
    obtain ⟨x, h1, h2⟩ := s
    exact ⟨x, h1, r x H (.refl _) h2⟩
  | _ => rw [e] at r; exact r.elim
theorem r_brw {i : Nat} (o : Okx nm m Z W N sc cm X) (h : nameIs N sc i x = true) : PE X x (tRd m Z H0 W (.brw i)) := by
  refine peImp (pe_nm o h) fun σV H Q ⟨σ, g, r⟩ => ?_
  have s := g.sl i
  simp only [ev] at r
  cases e : lk σ i with
  | val d =>
    rw [e] at r s
    obtain ⟨x, h1, h2⟩ := s
    exact ⟨x, h1, r x H (.refl _) (.fz h2)⟩
  | own xs =>
    rw [e] at r s
    obtain ⟨p, vs, h1, h2, h3, _⟩ := s
    exact ⟨_, h1, r _ H (.refl _) (.lst h2 h3)⟩
  | ownd ks ds =>
    rw [e] at r s
    obtain ⟨p, vs, h1, h2, h3, h4, _⟩ := s
    exact ⟨_, h1, r _ H (.refl _) (.dic h2 h3 h4)⟩
  | _ => rw [e] at r; exact r.elim
theorem r_brw2 {i : Nat} (o : Okx nm m Z W N sc cm X) (h : nameIs N sc i x = true) : PE X x (tQ m Z H0 W (.brw2 i)) := by
  refine peImp (pe_nm o h) fun σV H Q ⟨σ, g, r⟩ => ?_
  have s := g.sl i
  simp only [ev] at r
  cases e : lk σ i with
  | own xs =>
    rw [e] at r s
    obtain ⟨p, vs, h1, h2, h3, _⟩ := s
    exact ⟨_, h1, r _ H (.refl _) (.rd (.lst h2 h3))⟩
  | own2 xss =>
    rw [e] at r s
    obtain ⟨p, bs, h1, h2, h3, _⟩ := s
    exact ⟨_, h1, r _ H (.refl _) (.rows h2 h3)⟩
  | _ => rw [e] at r; exact r.elim
theorem r_c {d : D} {k : Const} {j : Nat} (h : constIs d k = true) : PE X (.Constant k j pos) (tN m Z H0 W (.c d)) := by
  have key : ∀ v, PE X (.Constant k j pos) (tC v) → notLD d = true → (∀ H, Rep m H v d) → PE X (.Constant k j pos) (tN m Z H0 W (.c d)) := fun v P n rp =>
    peImp P fun σV H Q ⟨σ, g, r⟩ => r v H (.refl _) (.fz n (rp H))
  unfold constIs at h
  split at h
  · obtain rfl := of_decide_eq_true h
    exact key _ pe_int rfl fun H => .int _
  · obtain rfl := eqS_eq h
    exact key _ pe_str rfl fun H => .str _
  · obtain rfl := eq_of_beq h
    exact key _ pe_bl rfl fun H => .bl _
  · exact key _ pe_non rfl fun H => .non
  · cases h
theorem r_gl {n : Nat} (o : Okx nm m Z W N sc cm X) (ht : nm.gt n = true) (h : globIs sc (nm.g n) x = true) : PE X x (tF m Z H0 W (.gl n)) := by
  obtain ⟨pos, rfl, hg, hd⟩ := gl_nm o h
  cases hG : Z.G n with
  | ok d =>
    obtain ⟨v, u, hm, rv, rp⟩ := o.gl n d ht hG
    refine peImp (pe_glob hg hm rv hd) fun σV H Q ⟨σ, g, r⟩ => ?_
    simp only [ev, hG] at r
    exact r v H (.refl _) (rp H g.tabs)
  | exc c => exact absurd hG (o.glx n c)
  | stk => exact ⟨fun pins s σV H Q I ⟨σ, g, r⟩ => by simp only [ev, hG] at r; exact r.elim⟩

/-! ### operators -/
theorem r_bin {op : BOp} (o : Okx nm m Z W N sc cm X) (ha : PE X x (tRd m Z H0 W a)) (hb : PE X y (tRd m Z H0 W b)) : PE X (.BinOp x op.op y pos) (tN m Z H0 W (.bin op a b)) := by
  refine peImp (pe_op (op_bin o.hm op) ha hb) fun σV H Q h => ?_
  refine tRd_step (f := fun σ d => (ev Z.G Z.C σ b).bind fun e => binop op d e) h (fun _ _ e k => k.up e) fun d z H1 e1 r1 h => ?_
  refine tRd_step (f := fun σ e => binop op d e) h (fun _ _ e k => k.up e) fun e z2 H2 e2 r2 ⟨σ, g, h⟩ => ?_
  obtain ⟨r, hr, q⟩ := h.pure (binop_nx _ _ _)
  exact ⟨d, e, r, r1.same e2, r2, hr, q⟩
theorem r_neg (ha : PE X x (tRd m Z H0 W a)) : PE X (.UnaryOp .USub x pos) (tN m Z H0 W (.neg a)) := by
  refine peImp (pe_un un_neg ha) fun σV H Q h => ?_
  refine tRd_step (f := fun σ d => (asI d).bind fun i => (.ok (D.int (-i)) : R D)) h (fun _ _ e k => k.up e) fun d z H1 e1 r1 ⟨σ, g, h⟩ => ?_
  obtain ⟨i, rfl, q⟩ := asI_ok h.bind
  exact ⟨i, r1.intE, (show Yld m H1 (.int (-i)) Q from q).int⟩
theorem tTT_N {e : E} {σV : L2.St} {H : Hp} {Q : Bool → Hp → Prop} (h : tTT m Z H0 W e σV H Q) : tN m Z H0 W e σV H fun x H' => ∃ k, x = .bl k ∧ Q k H' := by
  obtain ⟨σ, g, h⟩ := h
  refine ⟨σ, g, h.bind.imp fun d _ h => ?_⟩
  obtain ⟨i, rfl, q⟩ := asB_ok h
  intro z H' e n
  cases n with
  | fz _ n => cases n; exact ⟨_, rfl, q H' e⟩
theorem i_cmp {op : COp} {σV : L2.St} {H : Hp} {Q : VK} (h : tN m Z H0 W (.cmp op a b) σV H Q) : tOp (rCmp m op) (tQ m Z H0 W a) (tQ m Z H0 W b) σV H Q := by
  refine tQ_step (f := fun σ d => (ev Z.G Z.C σ b).bind fun e => (cmpop op d e).bind fun r => (.ok (D.bl r) : R D)) h (fun _ _ e k => k.up e) fun d z H1 e1 r1 h => ?_
  refine tQ_step (f := fun σ e => (cmpop op d e).bind fun r => (.ok (D.bl r) : R D)) h (fun _ _ e k => k.up e) fun e z2 H2 e2 r2 ⟨σ, g, h⟩ => ?_
  obtain ⟨r, hr, q⟩ := h.bind.pure (cmpop_nx _ _ _)
  exact ⟨d, e, r, r1.same e2, r2, hr, (show Yld m H2 (.bl r) Q from q).bl⟩
theorem r_cmp {op : COp} (o : Okx nm m Z W N sc cm X) (ha : PE X x (tQ m Z H0 W a)) (hb : PE X y (tQ m Z H0 W b)) (hs : notSet y = true) : PE X (.Compare x [op.op] [y] pos) (tN m Z H0 W (.cmp op a b)) :=
  peImp (pe_cmpR (op_cmp o.hm o.hu op) ha hb (behind_no hs _)) fun _ _ _ h => i_cmp h
theorem t_cmp {op : COp} (o : Okx nm m Z W N sc cm X) (ha : PE X x (tQ m Z H0 W a)) (hb : PE X y (tQ m Z H0 W b)) (hs : notSet y = true) : PT X (.Compare x [op.op] [y] pos) (tTT m Z H0 W (.cmp op a b)) :=
  ptImp (pt_cmpR (op_cmp o.hm o.hu op) ha hb (behind_no hs _)) fun _ _ _ h => i_cmp (tTT_N h)
theorem i_chain {o1 o2 : COp} {σV : L2.St} {H : Hp} {Q : VK} (h : tN m Z H0 W (.chain o1 o2 a b c) σV H Q) : tChain (rCmp m o1) (rCmp m o2) (tQ m Z H0 W a) (tQ m Z H0 W b) (tQ m Z H0 W c) σV H Q := by
  refine tQ_step (f := fun σ d => (ev Z.G Z.C σ b).bind fun e => (cmpop o1 d e).bind fun r => match r with
    | true => (ev Z.G Z.C σ c).bind fun z => (cmpop o2 e z).bind fun r => (.ok (D.bl r) : R D)
    | false => (.ok (D.bl false) : R D)) h (fun _ _ e k => k.up e) fun d z H1 e1 r1 h => ?_
  refine tQ_step (f := fun σ e => (cmpop o1 d e).bind fun r => match r with
    | true => (ev Z.G Z.C σ c).bind fun z => (cmpop o2 e z).bind fun r => (.ok (D.bl r) : R D)
    | false => (.ok (D.bl false) : R D)) h (fun _ _ e k => k.up e) fun e z2 H2 e2 r2 ⟨σ, g, h⟩ => ?_
  obtain ⟨r, hr, q⟩ := h.bind.pure (cmpop_nx _ _ _)
  refine ⟨d, e, r, r1.same e2, r2, hr, r, rfl, ?_⟩
  cases r with
  | true =>
    rw [if_pos rfl]
    have q : Run H2 (XW m W σV) ((ev Z.G Z.C σ c).bind fun z => (cmpop o2 e z).bind fun r => (.ok (D.bl r) : R D)) fun d => Yld m H2 d Q := q
    refine tQ_step (k := fun H d => Yld m H d Q) (f := fun σ z => (cmpop o2 e z).bind fun r => (.ok (D.bl r) : R D)) ⟨σ, g, q⟩ (fun _ _ e k => k.up e) fun e' z3 H3 e3 r3 ⟨σ', g', h'⟩ => ?_
    obtain ⟨r', hr', q'⟩ := h'.bind.pure (cmpop_nx _ _ _)
    exact ⟨e, e', r', r2.same e3, r3, hr', (show Yld m H3 (.bl r') Q from q').bl⟩
  | false =>
    rw [if_neg Bool.false_ne_true]
    exact (show Yld m H2 (.bl false) Q from q).bl
theorem r_chain {o1 o2 : COp} (o : Okx nm m Z W N sc cm X) (ha : PE X x (tQ m Z H0 W a)) (hb : PE X y (tQ m Z H0 W b)) (hc : PE X z (tQ m Z H0 W c)) (hs : notSet z = true) :
    PE X (.Compare x [o1.op, o2.op] [y, z] pos) (tN m Z H0 W (.chain o1 o2 a b c)) :=
  peImp (pe_chain (op_cmp o.hm o.hu o1) (op_cmp o.hm o.hu o2) ha hb hc (last_no hs)) fun _ _ _ h => i_chain h
theorem t_chain {o1 o2 : COp} (o : Okx nm m Z W N sc cm X) (ha : PE X x (tQ m Z H0 W a)) (hb : PE X y (tQ m Z H0 W b)) (hc : PE X z (tQ m Z H0 W c)) (hs : notSet z = true) :
    PT X (.Compare x [o1.op, o2.op] [y, z] pos) (tTT m Z H0 W (.chain o1 o2 a b c)) :=
  ptImp (pt_chain (op_cmp o.hm o.hu o1) (op_cmp o.hm o.hu o2) ha hb hc (last_no hs)) fun _ _ _ h => i_chain (tTT_N h)
theorem r_not (ha : PE X x (tRd m Z H0 W a)) : PE X (.UnaryOp .Not x pos) (tN m Z H0 W (.not a)) := by
  refine peImp (pe_not ha) fun σV H Q h => ?_
  refine tRd_step (f := fun σ d => (asB d).bind fun i => (.ok (D.bl (!i)) : R D)) h (fun _ _ e k => k.up e) fun d z H1 e1 r1 ⟨σ, g, h⟩ => ?_
  obtain ⟨i, rfl, q⟩ := asB_ok h.bind
  exact ⟨i, r1.blE, (show Yld m H1 (.bl (!i)) Q from q).bl⟩
theorem r_and {rest : List Expr} (ha : PE X x (tRd m Z H0 W a)) (hb : PE X (.BoolOp .And (y :: rest) pos) (tF m Z H0 W b)) : PE X (.BoolOp .And (x :: y :: rest) pos) (tN m Z H0 W (.and a b)) := by
  refine peImp (pe_and ha hb) fun σV H Q h => ?_
  refine tRd_step (f := fun σ d => (asB d).bind fun r => match r with
    | true => (ev Z.G Z.C σ b).bind fun y => (asB y).bind fun r => (.ok (D.bl r) : R D)
    | false => (.ok (D.bl false) : R D)) h (fun _ _ e k => k.up e) fun d z H1 e1 r1 ⟨σ, g, h⟩ => ?_
  obtain ⟨i, rfl, q⟩ := asB_ok h.bind
  refine ⟨i, r1.blE, ?_⟩
  cases i with
  | true =>
    rw [if_pos rfl]
    refine ⟨σ, g, ?_⟩
    have q : Run H1 (XW m W σV) ((ev Z.G Z.C σ b).bind fun y => (asB y).bind fun r => (.ok (D.bl r) : R D)) fun d => Yld m H1 d Q := q
    refine q.bind.imp fun d _ h => ?_
    obtain ⟨j, rfl, q⟩ := asB_ok h.bind
    intro z H' e n
    cases n
    exact (show Yld m H1 (.bl j) Q from q) _ _ e (.fz rfl (.bl _))
  | false =>
    rw [if_neg Bool.false_ne_true]
    exact (show Yld m H1 (.bl false) Q from q).bl
theorem r_or {rest : List Expr} (ha : PE X x (tRd m Z H0 W a)) (hb : PE X (.BoolOp .Or (y :: rest) pos) (tF m Z H0 W b)) : PE X (.BoolOp .Or (x :: y :: rest) pos) (tN m Z H0 W (.or a b)) := by
  refine peImp (pe_or ha hb) fun σV H Q h => ?_
  refine tRd_step (f := fun σ d => (asB d).bind fun r => match r with
    | true => (.ok (D.bl true) : R D)
    | false => (ev Z.G Z.C σ b).bind fun y => (asB y).bind fun r => (.ok (D.bl r) : R D)) h (fun _ _ e k => k.up e) fun d z H1 e1 r1 ⟨σ, g, h⟩ => ?_
  obtain ⟨i, rfl, q⟩ := asB_ok h.bind
  refine ⟨i, r1.blE, ?_⟩
  cases i with
  | false =>
    rw [if_neg Bool.false_ne_true]
    refine ⟨σ, g, ?_⟩
    have q : Run H1 (XW m W σV) ((ev Z.G Z.C σ b).bind fun y => (asB y).bind fun r => (.ok (D.bl r) : R D)) fun d => Yld m H1 d Q := q
    refine q.bind.imp fun d _ h => ?_
    obtain ⟨j, rfl, q⟩ := asB_ok h.bind
    intro z H' e n
    cases n
    exact (show Yld m H1 (.bl j) Q from q) _ _ e (.fz rfl (.bl _))
  | true =>
    rw [if_pos rfl]
    exact (show Yld m H1 (.bl true) Q from q).bl
theorem r_ite (hc : PT X z (tTT m Z H0 W c)) (ha : PE X x (tF m Z H0 W a)) (hb : PE X y (tF m Z H0 W b)) : PE X (.IfExp z x y pos) (tF m Z H0 W (.ite c a b)) := by
  refine peImp (pe_ifExp hc ha hb) fun σV H Q h => ?_
  have h : tR m H0 W (fun σ => ((ev Z.G Z.C σ c).bind asB).bind fun r => match r with
    | true => ev Z.G Z.C σ a
    | false => ev Z.G Z.C σ b) (fun H d => YldF m H d Q) σV H := by
    obtain ⟨σ, g, h⟩ := h
    refine ⟨σ, g, ?_⟩
    revert h
    simp only [ev]
    cases ev Z.G Z.C σ c <;> exact id
  refine tT_step (f := fun σ r => match r with
    | true => ev Z.G Z.C σ a
    | false => ev Z.G Z.C σ b) h (fun _ _ e k => k.up e) fun r H1 e1 h => ?_
  cases r with
  | true => rw [if_pos rfl]; exact h
  | false => rw [if_neg Bool.false_ne_true]; exact h

/-! ### tests -/
theorem tTT_F {e : E} {σV : L2.St} {H : Hp} {Q : Bool → Hp → Prop} (h : tTT m Z H0 W e σV H Q) : tF m Z H0 W e σV H fun x H' => ∃ k, x = .bl k ∧ Q k H' := by
  obtain ⟨σ, g, h⟩ := h
  refine ⟨σ, g, h.bind.imp fun d _ h => ?_⟩
  obtain ⟨i, rfl, q⟩ := asB_ok h
  intro z H' e n
  cases n
  exact ⟨_, rfl, q H' e⟩
theorem t_valF (h : PE X x (tF m Z H0 W a)) (he : ∀ whole, isTrue x X.env whole = (do let v ← whole; standAt x.pos; holding [v] (truthy v)) := by intro _; rfl) : PT X x (tTT m Z H0 W a) :=
  ptImp (pt_val h he) fun _ _ _ h => tTT_F h
theorem t_val (h : PE X x (tN m Z H0 W a)) (he : ∀ whole, isTrue x X.env whole = (do let v ← whole; standAt x.pos; holding [v] (truthy v)) := by intro _; rfl) : PT X x (tTT m Z H0 W a) :=
  ptImp (pt_val h he) fun _ _ _ h => tTT_N h
theorem t_not (h : PT X x (tTT m Z H0 W a)) : PT X (.UnaryOp .Not x pos) (tTT m Z H0 W (.not a)) := by
  refine ptImp (pt_not h) fun σV H Q ⟨σ, g, h⟩ => ⟨σ, g, ?_⟩
  revert h
  simp only [ev]
  cases ev Z.G Z.C σ a with
  | ok d => cases d <;> exact id
  | _ => exact id
theorem t_and {rest : List Expr} (ha : PT X x (tTT m Z H0 W a)) (hb : PW X (.BoolOp .And (y :: rest) pos) (tTT m Z H0 W b)) : PW X (.BoolOp .And (x :: y :: rest) pos) (tTT m Z H0 W (.and a b)) := by
  refine ⟨fun wh pins s σV H Q I ⟨σ, g, h⟩ => (pw_and ha hb).run wh pins s σV H Q I ?_⟩
  refine ⟨σ, g, ?_⟩
  revert h
  simp only [ev]
  cases ev Z.G Z.C σ a with
  | ok d =>
    cases d with
    | bl i =>
      intro h H1 e1
      cases i with
      | true =>
        rw [if_pos rfl]
        refine ⟨σ, g.of_same e1, ?_⟩
        have h := Run.same h e1
        revert h
        simp only [R.bind_ok, asB]
        cases ev Z.G Z.C σ b with
        | ok d => cases d with
          | bl j => exact fun h H2 e2 => h H2 (e1.trans e2)
          | _ => exact id
        | exc c => exact id
        | stk => exact id
      | false => rw [if_neg Bool.false_ne_true]; exact h H1 e1
    | _ => exact id
  | _ => exact id
theorem t_or {rest : List Expr} (ha : PT X x (tTT m Z H0 W a)) (hb : PW X (.BoolOp .Or (y :: rest) pos) (tTT m Z H0 W b)) : PW X (.BoolOp .Or (x :: y :: rest) pos) (tTT m Z H0 W (.or a b)) := by
  refine ⟨fun wh pins s σV H Q I ⟨σ, g, h⟩ => (pw_or ha hb).run wh pins s σV H Q I ?_⟩
  refine ⟨σ, g, ?_⟩
  revert h
  simp only [ev]
  cases ev Z.G Z.C σ a with
  | ok d =>
    cases d with
    | bl i =>
      intro h H1 e1
      cases i with
      | false =>
        rw [if_neg Bool.false_ne_true]
        refine ⟨σ, g.of_same e1, ?_⟩
        have h := Run.same h e1
        revert h
        simp only [R.bind_ok, asB]
        cases ev Z.G Z.C σ b with
        | ok d => cases d with
          | bl j => exact fun h H2 e2 => h H2 (e1.trans e2)
          | _ => exact id
        | exc c => exact id
        | stk => exact id
      | true => rw [if_pos rfl]; exact h H1 e1
    | _ => exact id
  | _ => exact id
end
end Fc
/-! Ev2g: arguments, displays, calls, items, slices. -/
namespace Fc
open PySem PySem.Spec
open PyProof.Rows L2
variable [Tb]

theorem paImp {X : Cx} {xs : List Expr} {t t' : TA} (h : PA X xs t) (i : ∀ σ H Q, t' σ H Q → t σ H Q) : PA X xs t' := ⟨fun pos pins s σ H Q I q => h.run pos pins s σ H Q I (i σ H Q q)⟩
def Ty.nm : Ty → Str
  | .int => "int" | .bool => "bool" | .str => "str" | .tup => "tuple" | .lst => "list" | .exc _ => "" | .verr => "ValueError"
def Ty.py : Ty → String
  | .int => "int" | .bool => "bool" | .str => "str" | .tup => "tuple" | .lst => "list" | .exc _ => "" | .verr => "ValueError"
def B1.nm : B1 → Str
  | .len => "len" | .all => "all" | .any => "any" | .sum => "sum" | .sorted => "sorted" | .sortset => "" | .sortsetI => "" | .tuple => "tuple" | .list => "list" | .str => "str" | .int => "int" | .abs => "abs" | .max => "max"
def B2.nm : B2 → Str
  | .min => "min" | .max => "max"
def M1.nm : M1 → Str
  | .join => "join" | .split => "split" | .count => "count" | .index => "index"
section
variable {nm : Nms} {m : Mx} {Z : Sem0} {H0 : Hp} {W : WX} {N : List Str} {sc : Scope} {cm : Bool} {X : Cx} {x y z w : Expr} {xs : List Expr} {a b c : E} {es : Es} {pos : Pos}
/-! ### arguments, displays -/
theorem r_nil : PA X [] (tAs m Z H0 W .nil) := paImp pa_nil fun σV H Q ⟨σ, g, r⟩ => (show ∀ vs H', Same H H' → RepL m H' vs [] → Q vs H' from r) [] H (.refl _) .nil
theorem r_cons (hs : notStar x = true) (ha : PE X x (tF m Z H0 W a)) (hr : PA X xs (tAs m Z H0 W es)) : PA X (x :: xs) (tAs m Z H0 W (.cons a es)) := by
  refine paImp (pa_cons ha hr (star_cons hs _ _)) fun σV H Q h => ?_
  have kk : ∀ H' (d : List D), Same H H' → (∀ vs H1, Same H H1 → RepL m H1 vs d → Q vs H1) → (∀ vs H1, Same H' H1 → RepL m H1 vs d → Q vs H1) := fun H' d e k vs H1 e1 r => k vs H1 (e.trans e1) r
  refine tF_step (k := fun H ds => ∀ vs H', Same H H' → RepL m H' vs ds → Q vs H') (f := fun σ d => (evs Z.G Z.C σ es).bind fun ds => (.ok (d :: ds) : R (List D))) h kk fun d z H1 e1 r1 h => ?_
  obtain ⟨σ, g, h⟩ := h
  refine ⟨σ, g, h.bind.imp fun ds _ k vs H2 e2 r2 => ?_⟩
  exact (show ∀ vs H', Same H1 H' → RepL m H' vs (d :: ds) → Q vs H' from k) (z :: vs) H2 e2 (.cons (r1.mono (.of e2)) r2)
theorem r_tup {k : Nat} (h : PA X xs (tAs m Z H0 W es)) : PE X (.Tuple xs k pos) (tN m Z H0 W (.tup es)) := by
  refine peImp (pe_tup h) fun σV H Q h => ?_
  refine tAs_step (f := fun σ ds => mkT ds) h (fun _ _ e k => k.up e) fun ds vs H1 e1 r1 ⟨σ, g, h⟩ => ?_
  obtain ⟨d, hd, q⟩ := h.pure (mkT_nx _)
  unfold mkT at hd
  split at hd
  · rename_i hl
    cases hd
    have hz := sizeMax_eq
    exact ⟨by rw [r1.length]; omega, fun p hp => (show Yld m H1 (.tup ds) Q from q).tup hp r1⟩
  · cases hd
theorem r_lst (h : PA X xs (tAs m Z H0 W es)) : PE X (.List xs pos) (tN m Z H0 W (.lst es)) := by
  refine peImp (pe_lst h) fun σV H Q h => ?_
  refine tAs_step (f := fun σ ds => mkL ds) h (fun _ _ e k => k.up e) fun ds vs H1 e1 r1 ⟨σ, g, h⟩ => ?_
  obtain ⟨d, hd, q⟩ := h.pure (mkL_nx _)
  unfold mkL at hd
  split at hd
  · rename_i hl
    cases hd
    have hz := sizeMax_eq
    exact ⟨by rw [r1.length]; omega, fun p hp => (show Yld m H1 (.lst ds) Q from q).lst hp r1⟩
  · cases hd

/-! ### dict displays -/
def keyIs : Key → Option Expr → Bool
  | .inr s, some (.Constant (.str x) _ _) => eqS x s
  | .inl i, some (.Constant (.int j) _ _) => decide (i = j)
  | _, _ => false
def keysAre : List Key → List (Option Expr) → Bool
  | [], [] => true
  | k :: ks, x :: xs => keyIs k x && keysAre ks xs
  | _, _ => false
def trsOf (m : Mx) (Z : Sem0) (H0 : Hp) (W : WX) : List Key → Es → List (TE × TE)
  | k :: ks, .cons e r => (tC (kV k), tF m Z H0 W e) :: trsOf m Z H0 W ks r
  | _, _ => []
theorem keysAre_len : ∀ {ks : List Key} {xs : List (Option Expr)}, keysAre ks xs = true → xs.length = ks.length
  | [], [], _ => rfl
  | [], _ :: _, h => by cases h
  | _ :: _, [], h => by cases h
  | k :: ks, x :: xs, h => by
    simp only [keysAre, Bool.and_eq_true] at h
    simp [keysAre_len h.2]
theorem keysAre_some : ∀ {ks : List Key} {xs : List (Option Expr)}, keysAre ks xs = true → xs.all (·.isSome) = true
  | [], [], _ => rfl
  | [], _ :: _, h => by cases h
  | _ :: _, [], h => by cases h
  | k :: ks, x :: xs, h => by
    simp only [keysAre, Bool.and_eq_true] at h
    rw [List.all_cons, keysAre_some h.2]
    cases x with
    | some _ => rfl
    | none => have := h.1; unfold keyIs at this; cases k <;> cases this
theorem key_pe {k : Key} {x : Option Expr} (h : keyIs k x = true) : ∃ e, x = some e ∧ PE X e (tC (kV k)) := by
  unfold keyIs at h
  split at h
  · obtain rfl := eqS_eq h
    exact ⟨_, rfl, pe_str⟩
  · obtain rfl := of_decide_eq_true h
    exact ⟨_, rfl, pe_int⟩
  · cases h
theorem mergeK_nodup : ∀ (more acc : List (Key × V)), ((acc ++ more).map (·.1)).Nodup → mergeK acc more = acc ++ more
  | [], acc, _ => by simp [mergeK]
  | p :: r, acc, nd => by
    have hn : valV acc p.1 = none := by
      have key : ∀ acc : List (Key × V), p.1 ∉ acc.map (·.1) → valV acc p.1 = none := by
        intro acc
        induction acc with
        | nil => intro _; rfl
        | cons q r ih =>
          intro h
          rw [List.map_cons, List.mem_cons, not_or] at h
          rw [valV_neg (fun e => h.1 e.symm)]
          exact ih h.2
      refine key acc fun hm => ?_
      rw [List.map_append, List.map_cons, List.nodup_append] at nd
      exact nd.2.2 p.1 hm p.1 (List.mem_cons_self ..) rfl
    show mergeK (putK acc p.1 p.2) r = _
    rw [putK_new _ hn, mergeK_nodup r (acc ++ [p]) (by simpa using nd)]
    simp
def esLen : Es → Nat
  | .nil => 0
  | .cons _ r => esLen r + 1
theorem pairs_imp : ∀ {ks : List Key} {es : Es} {σV : L2.St} {H : Hp} {Q : List (V × V) → Hp → Prop} {σ : List Sl}, esLen es = ks.length → Good m H0 H σV σ →
    Run H (XW m W σV) (evs Z.G Z.C σ es) (fun ds => ∀ vs H', Same H H' → RepL m H' vs ds → Q ((ks.zip vs).map fun p => (kV p.1, p.2)) H') → tPairs (trsOf m Z H0 W ks es) σV H Q
  | [], .nil, σV, H, Q, σ, _, g, r => (show ∀ vs H', Same H H' → RepL m H' vs [] → Q _ H' from r) [] H (.refl _) .nil
  | [], .cons e es, σV, H, Q, σ, hl, g, r => by simp [esLen] at hl
  | _ :: _, .nil, σV, H, Q, σ, hl, g, r => by simp [esLen] at hl
  | k :: ks, .cons e es, σV, H, Q, σ, hl, g, r => by
    have r : Run H (XW m W σV) ((ev Z.G Z.C σ e).bind fun x => (evs Z.G Z.C σ es).bind fun xs => (.ok (x :: xs) : R (List D))) _ := r
    refine ⟨σ, g, r.bind.imp fun d _ r1 z H1 e1 rp => ?_⟩
    refine pairs_imp (by simpa [esLen] using hl) (g.of_same e1) ((Run.same r1 e1).bind.imp fun ds _ r2 => ?_)
    have q : ∀ vs H', Same H H' → RepL m H' vs (d :: ds) → Q _ H' := r2
    exact fun vs H' e2 rl => q (z :: vs) H' (e1.trans e2) (.cons (rp.mono (.of e2)) rl)
theorem r_dct {ks : List Key} {keys : List (Option Expr)} {es : Es} (hk : keysAre ks keys = true) (hl : esLen es = ks.length) (hv : keys.length = xs.length) (h0 : keys ≠ []) (h15 : keys.length ≤ 15) (hp : PPs X pos keys xs (trsOf m Z H0 W ks es)) :
    PE X (.Dict keys xs pos) (tN m Z H0 W (.dct ks es)) := by
  refine peImp (pe_disp hp (keysAre_some hk) hv h0 h15) fun σV H Q ⟨σ, g, r⟩ p hp' => ?_
  have r : Run H (XW m W σV) ((evs Z.G Z.C σ es).bind fun ds => if ds.length = ks.length ∧ ks.length ≤ 15 ∧ ks.Nodup then (.ok (.dic ks ds) : R D) else .stk) fun d => Yld m H d Q := r
  have e1 : Same H (upd H p (.dK [])) := same_upd hp'
  refine pairs_imp hl (g.of_same e1) ((Run.same r e1).bind.imp fun ds _ r2 vs H2 e2 rl => ?_)
  by_cases c : ds.length = ks.length ∧ ks.length ≤ 15 ∧ ks.Nodup
  · rw [if_pos c] at r2
    obtain ⟨c1, c2, c3⟩ := c
    have hH2 : H2 p = some (.dK []) := e2.k _ _ upd_same rfl
    have lv := rl.length
    refine ⟨hH2, ks.zip vs, rfl, by rw [List.length_zip]; omega, ?_⟩
    have mk : mergeK [] (ks.zip vs) = ks.zip vs := by
      rw [mergeK_nodup _ [] (by
        rw [List.nil_append, List.map_fst_zip (by omega)]; exact c3), List.nil_append]
    rw [mk]
    have fs : FSame H2 (upd H2 p (.dK (ks.zip vs))) := fsame_upd hH2 fun z => z
    refine (show Yld m H (.dic ks ds) Q from r2) _ _ ⟨fun b u hb c => ?_, fun t => fs.t (e2.t (e1.t t))⟩ (.dic (un0 hp') upd_same (by omega) (rl.mono fs))
    have nb : b ≠ p := ne_of_none hb hp'
    rw [upd_ne nb]
    exact e2.k _ _ (e1.k _ _ hb c) c
  · rw [if_neg c] at r2; exact r2.elim

/-! ### builtins -/
theorem pa_one {t : TE} (hs : notStar x = true) (h : PE X x t) : PA X [x] (tCons t tNil) := pa_cons h pa_nil (star_cons hs _ _)
theorem pa_two {t u : TE} (hs : notStar x = true) (hs2 : notStar y = true) (h : PE X x t) (h2 : PE X y u) : PA X [x, y] (tCons t (tCons u tNil)) := pa_cons h (pa_one hs2 h2) (star_cons hs _ _)
theorem r_b1 {f : B1} (o : Okx nm m Z W N sc cm X) (ok : f.okc cm = true) (hn : biIs sc f.nm w = true) (hs : notStar x = true) (ha : PE X x (tRd m Z H0 W a)) : PE X (.Call w [x] [] pos) (tN m Z H0 W (.b1 f a)) := by
  obtain ⟨p, rfl, hg, hm⟩ := bi_nm o hn
  have okX : f.okc X.calm = true := by
    cases cm with
    | true => rw [o.hc rfl]; exact ok
    | false => revert ok; cases f <;> simp [B1.okc]
  have cr := cr_b1 o.hm o.hu f okX
  have P := pa_one hs ha
  have he := star_cons hs [] X.env
  have key : PE X (.Call (.Name f.nm p) [x] [] pos) (tCB (rB1 m f) (tCons (tRd m Z H0 W a) tNil)) := by
    cases f with
    | len => exact pe_callB cr hg hm boot_len P (by decide) (by decide) he rfl
    | all => exact pe_callB cr hg hm boot_all P (by decide) (by decide) he rfl
    | any => exact pe_callB cr hg hm boot_any P (by decide) (by decide) he rfl
    | sum => exact pe_callB cr hg hm boot_sum P (by decide) (by decide) he rfl
    | sorted => exact pe_callB cr hg hm boot_sorted P (by decide) (by decide) he rfl
    | sortset => cases ok
    | sortsetI => cases ok
    | tuple => exact pe_callTy cr hg hm boot_tuple P (by decide) (by decide) he rfl
    | list => exact pe_callTy cr hg hm boot_list P (by decide) (by decide) he rfl
    | str => exact pe_callTy cr hg hm boot_str P (by decide) (by decide) he rfl
    | int => exact pe_callTy cr hg hm boot_int P (by decide) (by decide) he rfl
    | abs => exact pe_callB cr hg hm boot_abs P (by decide) (by decide) he rfl
    | max => exact pe_callB cr hg hm boot_max P (by decide) (by decide) he rfl
  refine peImp key fun σV H Q h => ?_
  refine tRd_step (f := fun σ d => b1 f d) h (fun _ _ e k => k.up e) fun d z H1 e1 r1 ⟨σ, g, h⟩ => ?_
  obtain ⟨r, hr, q⟩ := h.pure (b1_nx _ _)
  exact ⟨z, d, r, rfl, r1, hr, q⟩
theorem r_b2 {f : B2} (o : Okx nm m Z W N sc cm X) (ok : cm = true) (hn : biIs sc f.nm w = true) (hs : notStar x = true) (hs2 : notStar y = true) (ha : PE X x (tRd m Z H0 W a)) (hb : PE X y (tRd m Z H0 W b)) : PE X (.Call w [x, y] [] pos) (tN m Z H0 W (.b2 f a b)) := by
  obtain ⟨p, rfl, hg, hm⟩ := bi_nm o hn
  have cr := cr_b2 (m := m) o.hm o.hu (o.hc ok) f
  have P := pa_two hs hs2 ha hb
  have he := star_cons hs [y] X.env
  have hy : (backTo pos (starEach [y] X.env)).any (·.1) = false := star_any (by simp [hs2])
  have key : PE X (.Call (.Name f.nm p) [x, y] [] pos) (tCB (rB2 m f) (tCons (tRd m Z H0 W a) (tCons (tRd m Z H0 W b) tNil))) := by
    cases f with
    | min => exact pe_callB cr hg hm boot_min P (by decide) (by decide) he hy
    | max => exact pe_callB cr hg hm boot_max P (by decide) (by decide) he hy
  refine peImp key fun σV H Q h => ?_
  refine tRd_step (f := fun σ d => (ev Z.G Z.C σ b).bind fun e => b2 f d e) h (fun _ _ e k => k.up e) fun d z H1 e1 r1 h => ?_
  refine tRd_step (f := fun σ e => b2 f d e) h (fun _ _ e k => k.up e) fun e z2 H2 e2 r2 ⟨σ, g, h⟩ => ?_
  obtain ⟨r, hr, q⟩ := h.pure (b2_nx _ _ _)
  exact ⟨z, z2, d, e, r, rfl, r1.same e2, r2, hr, q⟩
/-- a method of a text, of a list -/
theorem r_m1 {f : M1} {apos cpos : Pos} (o : Okx nm m Z W N sc cm X) (hb : plainBase x = true) (hl : (apos.endLine == cpos.line) = true) (hs : notStar y = true) (ha : PE X x (tRd m Z H0 W a)) (hy : PE X y (tRd m Z H0 W b)) :
    PE X (.Call (.Attribute x f.nm apos) [y] [] cpos) (tN m Z H0 W (.m1 f a b)) := by
  have mt := mt_m1 o.hm f
  have P := pa_one hs hy
  have he := star_cons hs [] X.env
  have hfew : ((backTo cpos (starEach [y] X.env)).all (fun x => !x.1) && (backToKw cpos (keywordEach [] X.env)).all (fun x => x.1.isSome)
      && decide (([y] : List Expr).length + ([] : List Keyword).length + (if ([] : List Keyword).isEmpty then 0 else 1) < 30)) = true := by
    rw [star_all (by simp [hs])]; rfl
  have key : PE X (.Call (.Attribute x f.nm apos) [y] [] cpos) (tBM X.K f.ty (rM1 m f) (tRd m Z H0 W a) (tCons (tRd m Z H0 W b) tNil)) := by
    cases f with
    | join => exact pe_bm PySem.F.plainAttrs_str PySem.F.slot_str_join PySem.F.type_str_join mt ha P (base_plain hb _ _) hfew hl he rfl
    | split => exact pe_bm PySem.F.plainAttrs_str PySem.F.slot_str_split PySem.F.type_str_split mt ha P (base_plain hb _ _) hfew hl he rfl
    | count => exact pe_bm PySem.F.plainAttrs_list PySem.F.slot_list_count PySem.F.type_list_count mt ha P (base_plain hb _ _) hfew hl he rfl
    | index => exact pe_bm PySem.F.plainAttrs_list PySem.F.slot_list_index PySem.F.type_list_index mt ha P (base_plain hb _ _) hfew hl he rfl
  refine peImp key fun σV H Q h => ?_
  refine tRd_step (f := fun σ d => if rcv1 f d then (ev Z.G Z.C σ b).bind fun e => m1 f d e else .stk) h (fun _ _ e k => k.up e) fun d z H1 e1 r1 h => ?_
  by_cases hv : rcv1 f d = true
  · refine ⟨?_, ?_⟩
    · unfold rcv1 at hv
      split at hv
      · rw [r1.strE]; rfl
      · rw [r1.strE]; rfl
      · obtain ⟨p, vs, rfl, hH, _⟩ := r1.lstE; exact .inl ⟨rfl, vs, rdSq hH⟩
      · obtain ⟨p, vs, rfl, hH, _⟩ := r1.lstE; exact .inl ⟨rfl, vs, rdSq hH⟩
      · cases hv
    · have h : tR m H0 W (fun σ => (ev Z.G Z.C σ b).bind fun e => m1 f d e) (fun H d => Yld m H d Q) σV H1 := by
        obtain ⟨σ, g, h⟩ := h
        refine ⟨σ, g, ?_⟩
        simp only [if_pos hv] at h
        exact h
      refine tRd_step (f := fun σ e => m1 f d e) h (fun _ _ e k => k.up e) fun e z2 H2 e2 r2 ⟨σ, g, h⟩ => ?_
      obtain ⟨r, hr, q⟩ := h.pure (m1_nx _ _ _)
      exact ⟨z2, d, e, r, rfl, r1.same e2, r2, hr, q⟩
  · obtain ⟨σ, g, h⟩ := h
    simp only [if_neg hv] at h
    exact h.elim
theorem RepR.isD {H : Hp} {v : V} {ks : List Key} {ds : List D} (h : RepR m H v (.dic ks ds)) : ∃ p, v = .ref p ∧ IsD H p := by
  obtain ⟨p, vs, rfl, hH, _⟩ := h.dicE
  exact ⟨p, rfl, .inl ⟨_, hH⟩⟩
theorem key_rel {H : Hp} {v : V} {d : D} {k : Key} (h : RepR m H v d) (e : keyOf d = some k) : v = kV k := keyOf_rel (.rd h) e
theorem r_get {apos cpos : Pos} (o : Okx nm m Z W N sc cm X) (hb : plainBase x = true) (hl : (apos.endLine == cpos.line) = true) (hs : notStar y = true) (hs2 : notStar z = true) (ha : PE X x (tRd m Z H0 W a)) (hy : PE X y (tRd m Z H0 W b)) (hz : PE X z (tF m Z H0 W c)) :
    PE X (.Call (.Attribute x "get" apos) [y, z] [] cpos) (tF m Z H0 W (.m2 .get a b c)) := by
  have he := star_cons hs [z] X.env
  have hu := o.hu
  have M : L2.M2 X x "get" apos y z cpos := ⟨base_plain hb _ _, by rw [star_all (by simp [hs, hs2])]; rfl, hl, by rw [star_cons hs, star_cons hs2]; rfl⟩
  refine peImp (pe_dget2 (by omega) ha hy hz M) fun σV H Q h => ?_
  refine tRd_step (f := fun σ d => if rcv2 .get d then (ev Z.G Z.C σ b).bind fun e => (ev Z.G Z.C σ c).bind fun z => m2 .get d e z else .stk) h (fun _ _ e k => k.up e) fun d v H1 e1 r1 h => ?_
  cases d with
  | dic ks ds =>
    obtain ⟨p, rfl, isd⟩ := r1.isD
    refine ⟨p, rfl, isd, ?_⟩
    have h : tR m H0 W (fun σ => (ev Z.G Z.C σ b).bind fun e => (ev Z.G Z.C σ c).bind fun z => m2 .get (.dic ks ds) e z) (fun H d => YldF m H d Q) σV H1 := h
    refine tRd_step (f := fun σ e => (ev Z.G Z.C σ c).bind fun z => m2 .get (.dic ks ds) e z) h (fun _ _ e k => k.up e) fun e v2 H2 e2 r2 h => ?_
    refine tF_step (f := fun σ z => m2 .get (.dic ks ds) e z) h (fun _ _ e k => k.up e) fun z v3 H3 e3 r3 ⟨σ, g, h⟩ => ?_
    have h : Run H3 (XW m W σV) ((opt (keyOf e)).bind fun k => (.ok ((dget ks ds k).getD z) : R D)) fun d => YldF m H3 d Q := h
    obtain ⟨k, hk, q⟩ := h.bind.opt
    have q : YldF m H3 ((dget ks ds k).getD z) Q := q
    obtain ⟨p', vs, ep, hH, hlen, rl⟩ := (r1.same (e2.trans e3)).dicE
    cases ep
    have dv := dget_val (m := m) (H := H3) k hlen rl
    refine ⟨valV (ks.zip vs) k, .inl ⟨_, k, hH, key_rel r2 hk, rfl⟩, ?_⟩
    revert dv q
    cases valV (ks.zip vs) k <;> cases dget ks ds k <;> intro q dv
    · exact q.rep r3
    · exact dv.elim
    · exact dv.elim
    · exact q.rep dv
  | _ => obtain ⟨σ, g, h⟩ := h; exact h.elim

/-! ### items, slices -/
theorem r_ix (o : Okx nm m Z W N sc cm X) (hs : notSlice y = true) (ha : PE X x (tRd m Z H0 W a)) (hb : PE X y (tRd m Z H0 W b)) : PE X (.Subscript x y pos) (tF m Z H0 W (.ix a b)) := by
  refine ⟨fun pins s σV H Q I h => ?_⟩
  obtain ⟨σ, g, r⟩ := h
  have r : Run H (XW m W σV) ((ev Z.G Z.C σ a).bind fun x => (ev Z.G Z.C σ b).bind fun y => ixD x y) fun d => YldF m H d Q := r
  have hu := o.hu
  by_cases hd : ∃ ks ds, ev Z.G Z.C σ a = .ok (.dic ks ds)
  · obtain ⟨ks, ds, hd⟩ := hd
    refine (pe_dget (by omega) ha hb (ix_plain hs)).run pins s σV H Q I ⟨σ, g, ?_⟩
    refine r.bind.imp fun d hd' r1 v H1 e1 rv => ?_
    rw [hd] at hd'
    cases hd'
    refine ⟨σ, g.of_same e1, (Run.same r1 e1).bind.imp fun e _ r2 v2 H2 e2 rv2 => ?_⟩
    obtain ⟨p, vs, rfl, hH, hlen, rl⟩ := (rv.same e2).dicE
    have r2 : Run H1 (XW m W σV) ((opt (keyOf e)).bind fun k => opt (dget ks ds k)) fun d => YldF m H d Q := r2
    obtain ⟨k, hk, r3⟩ := r2.bind.opt
    obtain ⟨d, hd2, q⟩ := r3.opt
    have dv := dget_val (m := m) (H := H2) k hlen rl
    rw [hd2] at dv
    cases hv : valV (ks.zip vs) k with
    | none => rw [hv] at dv; exact dv.elim
    | some v3 =>
      rw [hv] at dv
      exact ⟨p, v3, rfl, .inl ⟨_, k, hH, key_rel rv2 hk, hv.symm⟩, (q.up (e1.trans e2)).rep dv⟩
  · refine (pe_ix (ix_D o.hm) ha hb (ix_plain hs)).run pins s σV H Q I ⟨σ, g, ?_⟩
    refine r.bind.imp fun d hd' r1 v H1 e1 rv => ?_
    refine ⟨σ, g.of_same e1, (Run.same r1 e1).bind.imp fun e _ r2 v2 H2 e2 rv2 => ?_⟩
    obtain ⟨q0, hq, q⟩ := r2.pure (ixD_nx _ _)
    exact ⟨d, e, q0, rv.same e2, rv2, fun ks vs z => hd ⟨ks, vs, by rw [hd', z]⟩, hq, q.up (e1.trans e2)⟩
def tOm (m : Mx) (Z : Sem0) (H0 : Hp) (W : WX) (e : Option E) : TO := fun σV H Q => tR m H0 W (fun σ => evo Z.G Z.C σ e) (fun H i => ∀ H', Same H H' → Q i H') σV H
theorem poImp {X : Cx} {x : Option Expr} {t t' : TO} (h : PO X x t) (i : ∀ σ H Q, t' σ H Q → t σ H Q) : PO X x t' := ⟨fun pins s σ H Q I q => h.run pins s σ H Q I (i σ H Q q)⟩
theorem r_onone : PO X none (tOm m Z H0 W none) := poImp po_none fun σV H Q ⟨σ, g, r⟩ => (show ∀ H', Same H H' → Q none H' from r) H (.refl _)
theorem r_osome (ha : PE X x (tRd m Z H0 W a)) : PO X (some x) (tOm m Z H0 W (some a)) := by
  refine poImp (po_some ha) fun σV H Q h => ?_
  refine tRd_step (k := fun H i => ∀ H', Same H H' → Q i H') (f := fun σ d => (asI d).bind fun i => (.ok (some i) : R (Option Int))) h (fun _ _ e k H1 e1 => k H1 (e.trans e1)) fun d z H1 e1 r1 ⟨σ, g, h⟩ => ?_
  obtain ⟨i, rfl, q⟩ := asI_ok h.bind
  exact ⟨i, r1.intE, (show ∀ H', Same H1 H' → Q (some i) H' from q) H1 (.refl _)⟩
theorem r_sl {lo hi : Option Expr} {la ha' : Option E} {p2 : Pos} (o : Okx nm m Z W N sc cm X) (ha : PE X x (tRd m Z H0 W a)) (hl : PO X lo (tOm m Z H0 W la)) (hh : PO X hi (tOm m Z H0 W ha')) : PE X (.Subscript x (.Slice lo hi none p2) pos) (tN m Z H0 W (.sl a la ha')) := by
  refine peImp (pe_slice (sl_D o.hm) ha hl hh) fun σV H Q h => ?_
  refine tRd_step (f := fun σ d => (evo Z.G Z.C σ la).bind fun l => (evo Z.G Z.C σ ha').bind fun h => sliceD d l h) h (fun _ _ e k => k.up e) fun d z H1 e1 r1 ⟨σ, g, h⟩ => ?_
  refine ⟨σ, g, h.bind.imp fun l _ h2 H2 e2 => ⟨σ, g.of_same e2, (Run.same h2 e2).bind.imp fun u _ h3 H3 e3 => ?_⟩⟩
  obtain ⟨r, hr, q⟩ := h3.pure (sliceD_nx _ _ _)
  exact ⟨d, r, r1.same (e2.trans e3), hr, q.up (e2.trans e3)⟩

/-! ### isinstance -/
theorem tyx_of {H : Hp} {v : V} {d : D} (hm : m.K = X.K) (h : RepR m H v d) : ∀ n, (match d with | .non => n = "NoneType" | .bl _ => n = "bool" | .int _ => n = "int" | .str _ => n = "str" | .tup _ => n = "tuple" | .lst _ => n = "list" | _ => False) → TyX X.K H v (.type n) := by
  intro n hn
  cases h with
  | fz h =>
    cases h with
    | non => subst hn; exact .base .non
    | bl b => subst hn; exact .base (.bl b)
    | int i => subst hn; exact .base (.int i)
    | str s => subst hn; exact .base (.str s)
    | tup a b =>
      subst hn
      rw [hm] at a
      rcases a with (a | ⟨o, a⟩) | ⟨o, its, n, a, c, _⟩
      · exact .base (.tup a)
      · exact .fTuple a
      · exact .kTuple a c
    | lst a b =>
      subst hn
      obtain ⟨o, a⟩ := a
      exact .base (.frz a)
    | dic _ _ _ => exact hn.elim
    | exv _ => exact hn.elim
  | lst a b => subst hn; exact .base (.lst a)
  | dic _ _ _ => exact hn.elim
def Ty.plain : Ty → Bool
  | .int | .bool | .str | .tup | .lst => true
  | _ => false
theorem kitB_int : kitB "int" "int" = some true ∧ kitB "int" "bool" = some false ∧ kitB "int" "str" = some false ∧ kitB "int" "tuple" = some false ∧ kitB "int" "list" = some false := by decide +kernel
theorem kitB_bool : kitB "bool" "int" = some true ∧ kitB "bool" "bool" = some true ∧ kitB "bool" "str" = some false ∧ kitB "bool" "tuple" = some false ∧ kitB "bool" "list" = some false := by decide +kernel
theorem kitB_str : kitB "str" "int" = some false ∧ kitB "str" "bool" = some false ∧ kitB "str" "str" = some true ∧ kitB "str" "tuple" = some false ∧ kitB "str" "list" = some false := by decide +kernel
theorem kitB_tup : kitB "tuple" "int" = some false ∧ kitB "tuple" "bool" = some false ∧ kitB "tuple" "str" = some false ∧ kitB "tuple" "tuple" = some true ∧ kitB "tuple" "list" = some false := by decide +kernel
theorem kitB_lst : kitB "list" "int" = some false ∧ kitB "list" "bool" = some false ∧ kitB "list" "str" = some false ∧ kitB "list" "tuple" = some false ∧ kitB "list" "list" = some true := by decide +kernel
theorem kitB_non : kitB "NoneType" "int" = some false ∧ kitB "NoneType" "bool" = some false ∧ kitB "NoneType" "str" = some false ∧ kitB "NoneType" "tuple" = some false ∧ kitB "NoneType" "list" = some false := by decide +kernel
theorem isTy_kit {d : D} {t : Ty} {b : Bool} (h : isTy d t = .ok b) (hp : t.plain = true) : ∃ n, (match d with | .non => n = "NoneType" | .bl _ => n = "bool" | .int _ => n = "int" | .str _ => n = "str" | .tup _ => n = "tuple" | .lst _ => n = "list" | _ => False) ∧ kitB n t.py = some b := by
  unfold isTy at h
  split at h <;> first
    | (cases h; exact ⟨_, rfl, kitB_non.1⟩) | (cases h; exact ⟨_, rfl, kitB_non.2.1⟩) | (cases h; exact ⟨_, rfl, kitB_non.2.2.1⟩) | (cases h; exact ⟨_, rfl, kitB_non.2.2.2.1⟩) | (cases h; exact ⟨_, rfl, kitB_non.2.2.2.2⟩)
    | (cases h; exact ⟨_, rfl, kitB_bool.1⟩) | (cases h; exact ⟨_, rfl, kitB_bool.2.1⟩) | (cases h; exact ⟨_, rfl, kitB_bool.2.2.1⟩) | (cases h; exact ⟨_, rfl, kitB_bool.2.2.2.1⟩) | (cases h; exact ⟨_, rfl, kitB_bool.2.2.2.2⟩)
    | (cases h; exact ⟨_, rfl, kitB_int.1⟩) | (cases h; exact ⟨_, rfl, kitB_int.2.1⟩) | (cases h; exact ⟨_, rfl, kitB_int.2.2.1⟩) | (cases h; exact ⟨_, rfl, kitB_int.2.2.2.1⟩) | (cases h; exact ⟨_, rfl, kitB_int.2.2.2.2⟩)
    | (cases h; exact ⟨_, rfl, kitB_str.1⟩) | (cases h; exact ⟨_, rfl, kitB_str.2.1⟩) | (cases h; exact ⟨_, rfl, kitB_str.2.2.1⟩) | (cases h; exact ⟨_, rfl, kitB_str.2.2.2.1⟩) | (cases h; exact ⟨_, rfl, kitB_str.2.2.2.2⟩)
    | (cases h; exact ⟨_, rfl, kitB_tup.1⟩) | (cases h; exact ⟨_, rfl, kitB_tup.2.1⟩) | (cases h; exact ⟨_, rfl, kitB_tup.2.2.1⟩) | (cases h; exact ⟨_, rfl, kitB_tup.2.2.2.1⟩) | (cases h; exact ⟨_, rfl, kitB_tup.2.2.2.2⟩)
    | (cases h; exact ⟨_, rfl, kitB_lst.1⟩) | (cases h; exact ⟨_, rfl, kitB_lst.2.1⟩) | (cases h; exact ⟨_, rfl, kitB_lst.2.2.1⟩) | (cases h; exact ⟨_, rfl, kitB_lst.2.2.2.1⟩) | (cases h; exact ⟨_, rfl, kitB_lst.2.2.2.2⟩)
    | (cases h; done)
    | (cases h; cases hp)
theorem r_isi {t : Ty} {ty : Expr} (o : Okx nm m Z W N sc cm X) (hp : t.plain = true) (hn : biIs sc "isinstance" w = true) (ht : biIs sc t.nm ty = true) (hs : notStar x = true) (ha : PE X x (tRd m Z H0 W a)) : PE X (.Call w [x, ty] [] pos) (tN m Z H0 W (.isi a t)) := by
  obtain ⟨p, rfl, hg, hm⟩ := bi_nm o hn
  obtain ⟨p2, rfl, hg2, hm2⟩ := bi_nm o ht
  have hT : PE X (.Name t.nm p2) (tC (.ty t.py)) := by
    cases t with
    | int => exact pe_bltn hg2 hm2 boot_int rfl (by decide) (by decide)
    | bool => exact pe_bltn hg2 hm2 boot_bool rfl (by decide) (by decide)
    | str => exact pe_bltn hg2 hm2 boot_str rfl (by decide) (by decide)
    | tup => exact pe_bltn hg2 hm2 boot_tuple rfl (by decide) (by decide)
    | lst => exact pe_bltn hg2 hm2 boot_list rfl (by decide) (by decide)
    | exc c => cases hp
    | verr => cases hp
  refine peImp (pe_callB call_isi hg hm boot_isinstance (pa_two hs rfl ha hT) (by decide) (by decide) (star_cons hs _ _) rfl) fun σV H Q h => ?_
  refine tRd_step (f := fun σ d => (isTy d t).bind fun r => (.ok (D.bl r) : R D)) h (fun _ _ e k => k.up e) fun d z H1 e1 r1 ⟨σ, g, h⟩ => ?_
  obtain ⟨r, hr, q⟩ := h.bind.pure (isTy_nx _ _)
  obtain ⟨n, hn, hk⟩ := isTy_kit hr hp
  exact ⟨z, .ty t.py, .type n, .type t.py, r, rfl, .ty _, tyx_of o.hm r1 n hn, kit_ty hk, (show Yld m H1 (.bl r) Q from q).bl⟩


/-! ### isinstance of errors -/
/-- isinstance(e, c), e an error that is kept -/
def rIsX (m : Mx) (k : Nat) (cv : Value) (b : Bool) : List V → Hp → VK → Prop := fun xs H Q => ∃ a c, xs = [.ref a, c] ∧ (H a = some (ExF m k a) ∨ m.hot = some (a, k)) ∧ (∀ u, RelV c u → u = cv) ∧ Q (.bl b) H
theorem call_isX {k : Nat} {cv : Value} {b : Bool} (hm : m.K = X.K) (hot : ∀ a c, m.hot = some (a, c) → ∃ oe, (a, oe) ∈ X.pn ∧ Zc (.ref (m.ca c)) none oe ∧ ∃ vs, oe.data = .fields vs) (E : ExcC m.K (m.ca k)) (e : PySem.W.kitOne m.K (.ref (m.ca k)) cv = some b) : CallR X (.builtin "isinstance") (rIsX m k cv b) := by
  intro pins s σ H xs us Q I r h
  obtain ⟨a, c, rfl, ha, hc, q⟩ := h
  obtain ⟨u, v, rfl, ru, rv⟩ := vals2 r
  cases ru
  obtain rfl := hc _ rv
  obtain ⟨oe, vs, g, z, d⟩ : ∃ (oe : Obj) (vs : Array Value), s.heap.get? a = some oe ∧ Zc (.ref (m.ca k)) none oe ∧ oe.data = .fields vs := by
    rcases ha with ha | ha
    · obtain ⟨⟨oe, vs, g, z, d⟩, _, _⟩ := I.hok a _ ha
      exact ⟨oe, vs, g, z, d⟩
    · obtain ⟨oe, h1, h2, vs, h3⟩ := hot a k ha
      exact ⟨oe, vs, (I.pin (a, oe) (List.mem_append_left _ h1)).1, h2, h3⟩
  have J : PySem.W.InstAt s.heap a oe (m.ca k) none := by
    obtain ⟨oc, od, oda, osl⟩ := oe
    obtain ⟨h1, h2⟩ := z
    dsimp only at h1 h2 d
    subst h1 h2 d
    exact ⟨g, rfl, rfl, trivial⟩
  exact PySem.W.kia_one (PySem.W.handS_kitx_exc E.hg E.hk E.hs E.hd E.ha E.hn E.ht E.hm) (hm ▸ I.kIn) J e (fun z => nomatch z) fun tk => ⟨.bl b, H, I.kept (t' := tk) fun _ _ z => z, rfl, q⟩
theorem RepR.exvE {H : Hp} {v : V} {k : Nat} (h : RepR m H v (.exv k)) : ∃ p, v = .ref p ∧ m.xc k = true ∧ (H p = some (ExF m k p) ∨ m.hot = some (p, k)) := by
  cases h with | fz h => cases h with | exv x a => exact ⟨_, rfl, x, a⟩
theorem r_isx {t : Ty} {ty : Expr} {cv : Value} {c : V} (o : Okx nm m Z W N sc cm X) (hc : ∀ u, RelV c u → u = cv) (hk : ∀ k r, isTy (.exv k) t = .ok r → m.xc k = true → PySem.W.kitOne m.K (.ref (m.ca k)) cv = some r) (ht : ∀ d r, isTy d t = .ok r → ∃ k, d = .exv k) (hT : PE X ty (tC c)) (hn : biIs sc "isinstance" w = true) (hs : notStar x = true) (hs2 : notStar ty = true) (ha : PE X x (tRd m Z H0 W a)) :
    PE X (.Call w [x, ty] [] pos) (tN m Z H0 W (.isi a t)) := by
  obtain ⟨p, rfl, hg, hm⟩ := bi_nm o hn
  refine ⟨fun pins s σV H Q I ⟨σ, g, r⟩ => ?_⟩
  have r : Run H (XW m W σV) ((ev Z.G Z.C σ a).bind fun x => (isTy x t).bind fun r => (.ok (D.bl r) : R D)) fun d => Yld m H d Q := r
  cases hd : ev Z.G Z.C σ a with
  | ok d =>
    rw [hd] at r
    obtain ⟨b, hb, q⟩ := (show Run H (XW m W σV) ((isTy d t).bind fun r => (.ok (D.bl r) : R D)) fun d => Yld m H d Q from r).bind.pure (isTy_nx _ _)
    obtain ⟨k, rfl⟩ := ht d b hb
    by_cases hx : m.xc k = true
    · refine (pe_callB (call_isX o.hm o.hot (o.exC k hx) (hk k b hb hx)) hg hm boot_isinstance (pa_two hs hs2 ha hT) (by decide) (by decide) (star_cons hs _ _) (star_any (by simp [hs2]))).run pins s σV H Q I ⟨σ, g, ?_⟩
      show Run H (XW m W σV) (ev Z.G Z.C σ a) _
      rw [hd]
      intro z H1 e1 r1
      obtain ⟨p, rfl, _, hp⟩ := r1.exvE
      exact ⟨p, c, rfl, hp, hc, ((show Yld m H (.bl b) Q from q).up e1).bl⟩
    · refine (pe_callB (r := fun _ _ _ => False) (fun _ _ _ _ _ _ _ _ _ z => z.elim) hg hm boot_isinstance (pa_two hs hs2 ha hT) (by decide) (by decide) (star_cons hs _ _) (star_any (by simp [hs2]))).run pins s σV H Q I ⟨σ, g, ?_⟩
      show Run H (XW m W σV) (ev Z.G Z.C σ a) _
      rw [hd]
      intro z H1 e1 r1
      obtain ⟨p, rfl, hx', hp⟩ := r1.exvE
      exact absurd hx' hx
  | exc c' =>
    refine (pe_callB (r := fun _ _ _ => False) (fun _ _ _ _ _ _ _ _ _ z => z.elim) hg hm boot_isinstance (pa_two hs hs2 ha hT) (by decide) (by decide) (star_cons hs _ _) (star_any (by simp [hs2]))).run pins s σV H Q I ⟨σ, g, ?_⟩
    rw [hd] at r
    show Run H (XW m W σV) (ev Z.G Z.C σ a) _
    rw [hd]; exact r
  | stk => rw [hd] at r; exact r.elim
theorem subC_ty {k c : Nat} {r : Bool} (h : isTy (.exv k) (.exc c) = .ok r) : r = subC k c := by
  have h : R.ok (subC k c) = .ok r := h
  cases h; rfl
theorem r_isE {c : Nat} {ty : Expr} (o : Okx nm m Z W N sc cm X) (hx : nm.xc c = true) (hn : biIs sc "isinstance" w = true) (ht : globIs sc (nm.x c) ty = true) (hs : notStar x = true) (ha : PE X x (tRd m Z H0 W a)) : PE X (.Call w [x, ty] [] pos) (tN m Z H0 W (.isi a (.exc c))) := by
  have hx : m.xc c = true := by rw [← o.xcm]; exact hx
  obtain ⟨p2, rfl, hg2, hd⟩ := gl_nm o ht
  refine r_isx (c := .ref (m.ca c)) (cv := .ref (m.ca c)) o (fun u r => r) (fun k r h hk => ?_) (fun d r h => ?_) (pe_glob hg2 (o.mgx c hx) rfl hd) hn hs rfl ha
  · rw [subC_ty h]; exact o.kit k c hk hx
  · cases d <;> first | exact ⟨_, rfl⟩ | cases h
theorem r_isV {ty : Expr} (o : Okx nm m Z W N sc cm X) (hn : biIs sc "isinstance" w = true) (ht : biIs sc "ValueError" ty = true) (hs : notStar x = true) (ha : PE X x (tRd m Z H0 W a)) : PE X (.Call w [x, ty] [] pos) (tN m Z H0 W (.isi a .verr)) := by
  obtain ⟨p2, rfl, hg2, hm2⟩ := bi_nm o ht
  refine r_isx (c := .ty "ValueError") (cv := .type "ValueError") o (fun u r => r) (fun k r h hk => ?_) (fun d r h => ?_) (pe_bltn hg2 hm2 (by decide +kernel) rfl (by decide) (by decide)) hn hs rfl ha
  · have h : R.ok true = .ok r := h
    cases h; exact o.kitV k hk
  · cases d <;> first | exact ⟨_, rfl⟩ | cases h

/-! ### calls of defs -/
theorem pe_callS0 {CX : CXT} {k : Nat} {f : Addr} {fd : FuncData} {ps : List Str} {sp : Sp} {E : L2.St → XK} {x : Str} {p pos : Pos} (F : FnOk X.prog X.w X.K X.mg X.base CX k f fd ps sp) (hr : Room k X.A) (hg : Gl X x) (hm : X.mg x = some (.ref f)) (hk : PySem.W.keepIn X.K (.ref f) = true) (hb : Binds X.K fd ps []) (hx : ∀ σ, PassesAt CX X σ (E σ))
    (hdb : (x == ("__debug__" : Str)) = false) : PE X (.Call (.Name x p) [] [] pos) (tCallS sp E tNil) := by
  refine ⟨fun pins s σ H Q I h => ?_⟩
  refine wpAny_Call_Name_kw (ld_glob I hg hm ?_ hdb)
  exact PySem.W.callWith_K0 I.kIn hk (run_fnS (us := []) F hr hb (hx σ) I .nil h)
theorem r_callG {f : Nat} {k : Hp → D → Prop} (o : Okx nm m Z W N sc cm X) (hf : nm.t f = true) (hc : cm = true) (hn : globIs sc (nm.f f) w = true) (hs : xs.all notStar = true) (he : xs = [] → es = .nil) (ha : PA X xs (tAs m Z H0 W es))
    (i : VK → Hp → D → Prop) (hi : ∀ Q H H' d, Same H H' → i Q H d → i Q H' d) (hk : ∀ Q H d, i Q H d → match nm.fr f with | true => Yld m H d Q | false => YldF m H d Q) : PE X (.Call w xs [] pos) (fun σV H Q => tR m H0 W (fun σ => ev Z.G Z.C σ (.call f es)) (i Q) σV H) := by
  obtain ⟨p, rfl, hg, hd⟩ := gl_nm o hn
  obtain ⟨k, fa, fd, ps, hr, hm, hk', hb, hlen, F⟩ := o.fn f hf hc
  have key : PE X (.Call (.Name (nm.f f) p) xs [] pos) (tCallS (spD m ps.length (nm.fr f) (Z.C f)) (WE W) (tAs m Z H0 W es)) := by
    cases xs with
    | nil =>
      obtain rfl := he rfl
      refine peImp (pe_callS0 F hr hg hm hk' hb (passAt o.tk) hd) fun σV H Q ⟨σ, g, r⟩ => ?_
      exact (show ∀ vs H', Same H H' → RepL m H' vs [] → spD m ps.length (nm.fr f) (Z.C f) vs H' Q (WE W σV) from r) [] H (.refl _) .nil
    | cons x xs =>
      rw [List.all_cons] at hs
      obtain ⟨h1, h2⟩ := Bool.and_eq_true_iff.mp hs
      exact pe_callS F hr hg hm hk' hb (passAt o.tk) ha hd (star_cons h1 _ _) (star_any h2)
  refine peImp key fun σV H Q h => ?_
  refine tAs_step (k := i Q) (f := fun σ ds => Z.C f ds) h (fun H' a e k => hi Q _ _ a e k) fun ds vs H1 e1 r1 ⟨σ, g, h⟩ => ?_
  refine ⟨?_, g.tabs, ds, r1, h.imp fun d _ q => hk Q _ d q⟩
  rw [r1.length]
  refine hlen ds fun z => ?_
  simp only [z] at h
  exact h
theorem r_call {f : Nat} (o : Okx nm m Z W N sc cm X) (hf : nm.t f = true) (hr : nm.fr f = false) (hc : cm = true) (hn : globIs sc (nm.f f) w = true) (hs : xs.all notStar = true) (he : xs = [] → es = .nil) (ha : PA X xs (tAs m Z H0 W es)) : PE X (.Call w xs [] pos) (tF m Z H0 W (.call f es)) :=
  r_callG (k := fun _ _ => True) o hf hc hn hs he ha (fun Q H d => YldF m H d Q) (fun _ _ _ _ e k => k.up e) fun Q H d k => by rw [hr]; exact k
theorem r_callN {f : Nat} (o : Okx nm m Z W N sc cm X) (hf : nm.t f = true) (hr : nm.fr f = true) (hc : cm = true) (hn : globIs sc (nm.f f) w = true) (hs : xs.all notStar = true) (he : xs = [] → es = .nil) (ha : PA X xs (tAs m Z H0 W es)) : PE X (.Call w xs [] pos) (tN m Z H0 W (.call f es)) :=
  r_callG (k := fun _ _ => True) o hf hc hn hs he ha (fun Q H d => Yld m H d Q) (fun _ _ _ _ e k => k.up e) fun Q H d k => by rw [hr]; exact k

/-! ### one of some defs, called -/
def fnsAre (nm : Nms) (sc : Scope) : List Nat → List Expr → Bool
  | [], [] => true
  | f :: fs, x :: xs => nm.t f && !nm.fr f && globIs sc (nm.f f) x && fnsAre nm sc fs xs
  | _, _ => false
def adr (nm : Nms) (X : Cx) (f : Nat) : Addr := match X.mg (nm.f f) with
  | some (.ref a) => a
  | _ => 0
theorem fns_pa {fs : List Nat} {ns : List Expr} (o : Okx nm m Z W N sc cm X) (hc : cm = true) : ∀ {fs : List Nat} {ns : List Expr}, fnsAre nm sc fs ns = true → PA X ns (fun _ H Q => Q (fs.map fun f => .ref (adr nm X f)) H)
  | [], [], _ => paImp pa_nil fun _ _ _ h => h
  | [], _ :: _, h => by cases h
  | _ :: _, [], h => by cases h
  | f :: fs, x :: ns, h => by
    simp only [fnsAre, Bool.and_eq_true] at h
    obtain ⟨⟨⟨h1, h2⟩, h3⟩, h4⟩ := h
    obtain ⟨p, rfl, hg, hd⟩ := gl_nm o h3
    obtain ⟨k, fa, fd, ps, hr, hm, _⟩ := o.fn f h1 hc
    have ea : adr nm X f = fa := by unfold adr; rw [hm]
    have hm' : X.mg (nm.f f) = some (.ref (adr nm X f)) := by rw [ea]; exact hm
    exact paImp (pa_cons (pe_glob (v := .ref (adr nm X f)) hg hm' rfl hd) (fns_pa (fs := []) (ns := []) o hc h4) (star_cons rfl _ _)) fun _ _ _ h => h
theorem fnsAre_get : ∀ {fs : List Nat} {ns : List Expr}, fnsAre nm sc fs ns = true → ∀ f ∈ fs, nm.t f = true ∧ nm.fr f = false
  | [], _, _, _, h => by cases h
  | _ :: _, [], h, _, _ => by cases h
  | f :: fs, x :: ns, h, g, hg => by
    simp only [fnsAre, Bool.and_eq_true, Bool.not_eq_true'] at h
    rcases List.mem_cons.mp hg with rfl | hg
    · exact ⟨h.1.1.1, h.1.1.2⟩
    · exact fnsAre_get h.2 g hg
theorem atI_map {α β : Type} (f : α → β) (xs : List α) (i : Int) : L2.atI (xs.map f) i = (L2.atI xs i).map f := by
  unfold L2.atI
  rw [List.length_map]
  cases L2.ixN xs.length i with
  | none => rfl
  | some j => simp
theorem atI_mem {α : Type} {xs : List α} {i : Int} {x : α} (h : L2.atI xs i = some x) : x ∈ xs := by
  unfold L2.atI at h
  obtain ⟨j, _, h⟩ := Option.bind_eq_some_iff.mp h
  exact List.mem_of_getElem? h
theorem arm_sub (a b : Expr) (p pos : Pos) (args : List Expr) (env : Env) : eval (.Call (.Subscript a b p) args [] pos) env = (do
    let f ← eval (.Subscript a b p) env
    callWith pos f [] (backTo pos (starEach args env)) (backToKw pos (keywordEach [] env))) := rfl
theorem r_callix {fs : List Nat} {ns xs : List Expr} {ix : Expr} {p0 p1 : Pos} {es : Es} (o : Okx nm m Z W N sc cm X) (hc : cm = true) (hn : fnsAre nm sc fs ns = true) (hlen : fs.length ≤ 100) (hs1 : notSlice ix = true) (hi : PE X ix (tRd m Z H0 W a)) (hs : (x :: xs).all notStar = true) (ha : PA X (x :: xs) (tAs m Z H0 W es)) :
    PE X (.Call (.Subscript (.List ns p0) ix p1) (x :: xs) [] pos) (tF m Z H0 W (.callix fs a es)) := by
  rw [List.all_cons] at hs
  obtain ⟨h1, h2⟩ := Bool.and_eq_true_iff.mp hs
  refine ⟨fun pins s σV H Q I ⟨σ, g, r⟩ => ?_⟩
  have r : Run H (XW m W σV) ((ev Z.G Z.C σ a).bind fun x => (asI x).bind fun i => (opt (L2.atI fs i)).bind fun f => (evs Z.G Z.C σ es).bind fun xs => Z.C f xs) fun d => YldF m H d Q := r
  rw [arm_sub]
  have hz : (100 : Nat) ≤ sizeLine := by rw [sizeLine_eq]; decide
  have go := (pe_ix (pos := p1) ix_list (pe_lst (pos := p0) (fns_pa (fs := []) (ns := []) o hc hn)) hi (ix_plain hs1)).run pins s σV H
  cases hd : ev Z.G Z.C σ a with
  | stk => rw [hd] at r; exact r.elim
  | exc c =>
    rw [hd] at r
    refine wpAny_bind (thn (go (fun _ _ => False) I ⟨by rw [List.length_map]; omega, fun p hp => ⟨σ, g.of_same (same_upd hp), ?_⟩⟩) fun u s1 ⟨_, _, _, _, z⟩ => z.elim)
    show Run _ _ (ev Z.G Z.C σ a) _
    rw [hd]
    exact fun H' e => (show ∀ H', Same H H' → XW m W σV c H' from r) H' ((same_upd hp).trans e)
  | ok d =>
    rw [hd] at r
    obtain ⟨i, rfl, r1⟩ := asI_ok (show Run H (XW m W σV) ((asI d).bind fun i => (opt (L2.atI fs i)).bind fun f => (evs Z.G Z.C σ es).bind fun xs => Z.C f xs) _ from r).bind
    have r : Run H (XW m W σV) ((opt (L2.atI fs i)).bind fun f => (evs Z.G Z.C σ es).bind fun xs => Z.C f xs) fun d => YldF m H d Q := r
    obtain ⟨f, hf, r⟩ := r.bind.opt
    refine wpAny_bind (thn (go (fun v H1 => v = .ref (adr nm X f) ∧ Same H H1) I ⟨by rw [List.length_map]; omega, fun p hp => ⟨σ, g.of_same (same_upd hp), ?_⟩⟩) fun u s1 ⟨v, H1, I1, r1, hv, e1⟩ => ?_)
    · show Run _ _ (ev Z.G Z.C σ a) _
      rw [hd]
      intro z H2 e2 rz
      exact ⟨p, _, i, _, rfl, rz.intE, .inl (.inl (e2.k _ _ upd_same rfl)), by rw [atI_map, hf]; rfl, rfl, (same_upd hp).trans e2⟩
    · subst hv
      cases r1
      obtain ⟨ht, hfr⟩ := fnsAre_get hn f (atI_mem hf)
      obtain ⟨k, fa, fd, ps, hr, hm, hk', hb, hlen', F⟩ := o.fn f ht hc
      have ea : adr nm X f = fa := by unfold adr; rw [hm]
      rw [ea]
      refine PySem.W.callWith_K (h₀ := X.base) I.ok.mod.kin hk' (thn (ha.run pos pins s1 σV H1 (fun vs H2 => spD m ps.length (nm.fr f) (Z.C f) vs H2 Q (WE W σV)) I1 ⟨σ, g.of_same e1, (Run.same r e1).bind.imp fun ds _ r2 vs H2 e2 rl => ?_⟩) fun us s2 ⟨vs, H2, I2, rv, q⟩ => ⟨I2.kIn, run_fnS F hr hb (passAt o.tk σV) I2 rv q⟩) (star_cons h1 _ _) (star_any h2)
      have r2 : Run H2 (XW m W σV) (Z.C f ds) fun d => YldF m H d Q := Run.same r2 e2
      refine ⟨?_, (g.of_same (e1.trans e2)).tabs, ds, rl, r2.imp fun d _ q => ?_⟩
      · rw [rl.length]
        refine hlen' ds fun z => ?_
        rw [z] at r2; exact r2
      · rw [hfr]; exact q.up (e1.trans e2)
end
end Fc
/-! Ev2z: zip of two or three lists or tuples, of any mixture (printed by genz.py). -/
namespace Fc
open PySem PySem.Spec
open PyProof.Rows L2
/-- a list or a tuple -/
def SqS (K : PySem.W.Frag) (H : Hp) : Bool → Addr → List V → Prop
  | true, a, xs => SqT K H a xs
  | false, a, xs => SqL K H a xs
def SIt : Bool → Heap → Addr → Addr → Nat → Prop
  | true, h, it, a, i => h.IsTupleIter it a i
  | false, h, it, a, i => h.IsListIter it a i
def SIs : Bool → Heap → Addr → Array Value → Prop
  | true, h, a, v => h.IsTuple a v
  | false, h, a, v => h.IsList a v
def sob : Bool → Addr → Obj
  | true, a => { cls := .type "tuple_iterator", data := .fields #[.ref a, .int 0 0] }
  | false, a => { cls := .type "list_iterator", data := .fields #[.ref a, .int 0 0] }
section
variable {X : Cx} {pins : List (Addr × Obj)} {σ : L2.St} {H : Hp} {s : Shared} {a it : Addr} {b : Bool} {xs ys : List V} {h h' : Heap} {i : Nat} {v : Array Value}
theorem s_get (I : Inv X pins σ H s) (q : SqS X.K H b a xs) : ∃ its : List Value, Vals xs its ∧ SIs b s.heap a its.toArray := by
  cases b with
  | true => obtain ⟨its, r, p, _⟩ := I.tuple q; exact ⟨its, r, p⟩
  | false => obtain ⟨its, r, p, _⟩ := I.list q; exact ⟨its, r, p.isList⟩
theorem sq_inj (I : Inv X pins σ H s) (q : SqS X.K H b a xs) (q' : SqS X.K H b a ys) : xs = ys := by
  cases b with
  | true => exact I.tuple_inj q q'
  | false => exact I.list_inj q q'
theorem s_draws {prog : Program} {w : World} {A : Around} (hh : A.handled = none) (b : Bool) (it a : Addr) (hne : a ≠ it) (items : Array Value) :
    Draws prog w A it [it, a] items.size (fun i v => items[i]? = some v) (fun i h => SIt b h it a i ∧ SIs b h a items) := by
  cases b with
  | true => exact .tuple hh it a hne items
  | false => exact .list hh it a hne items
theorem s_begins (b : Bool) (a : Addr) (items : Array Value) : Begins (.ref a) (sob b a) fun h => SIs b h a items := by
  cases b with
  | true => exact begins_tuple a items
  | false => exact begins_list a items
theorem s_it0 (e : h.get? it = some (sob b a)) : SIt b h it a 0 := by
  cases b with
  | true => exact ⟨_, e, rfl, rfl⟩
  | false => exact ⟨_, e, rfl, rfl⟩
theorem SIt.at (q : SIt b h it a i) (k : ∀ o, h.get? it = some o → h'.get? it = some o) : SIt b h' it a i := by
  cases b with
  | true => exact Heap.IsTupleIter.at q k
  | false => exact Heap.IsListIter.at q k
theorem SIt.ob (q : SIt b h it a i) : ∃ o, h.get? it = some o ∧ ∀ v, o.data ≠ .cell v := by
  cases b with
  | true => obtain ⟨o, e, _, d⟩ := q; exact ⟨o, e, fun v q => by rw [d] at q; cases q⟩
  | false => obtain ⟨o, e, _, d⟩ := q; exact ⟨o, e, fun v q => by rw [d] at q; cases q⟩
theorem SIs.ob (q : SIs b h a v) : ∃ o, h.get? a = some o := by
  cases b with
  | true => obtain ⟨o, e, _⟩ := q; exact ⟨o, e⟩
  | false => obtain ⟨o, e, _⟩ := q; exact ⟨o, e⟩
theorem SIt.ne (q : SIt b h it a i) (p : SIs b h a v) : it ≠ a := by
  intro e
  subst e
  cases b with
  | true =>
    obtain ⟨o, e, c, d⟩ := q
    obtain ⟨o', e', c', n, d'⟩ := p
    rw [e] at e'; cases e'
    rw [d] at d'; cases d'
  | false =>
    obtain ⟨o, e, c, d⟩ := q
    obtain ⟨o', e', c', n, d'⟩ := p
    rw [e] at e'; cases e'
    rw [d] at d'; cases d'
theorem s_below (q : SIs b h a v) : ∀ c ∈ [a], c < h.objs.size := by
  intro c hc
  obtain ⟨o, e⟩ := q.ob
  rw [List.mem_singleton.mp hc]; exact Heap.lt_size e
end

/-- 2 sources, the items in new tuples -/
def Iz2 (K : PySem.W.Frag) (b1 b2 : Bool) (a1 a2 : Addr) : L2.It :=
  ⟨fun i H => ∃ (l1 l2 : List V) (x1 x2 : V), SqS K H b1 a1 l1 ∧ SqS K H b2 a2 l2 ∧ l1[i]? = some x1 ∧ l2[i]? = some x2,
    fun i H v H' => ∃ T x1 x2, v = .ref T ∧ H T = none ∧ H' = upd H T (.tup [x1, x2]) ∧ (∀ l, SqS K H b1 a1 l → l[i]? = some x1) ∧ (∀ l, SqS K H b2 a2 l → l[i]? = some x2),
    fun i H => ∃ l1 l2 : List V, SqS K H b1 a1 l1 ∧ SqS K H b2 a2 l2 ∧ (l1.length = i ∨ l2.length = i) ∧ i ≤ l1.length ∧ i ≤ l2.length⟩
theorem turn_z2 {P : Program} {w : World} {K : PySem.W.Frag} {elts : List Expr} {kk : Nat} {tpos : Pos} {b1 b2 : Bool} {a1 a2 z TI TO i1 i2 : Addr} (S : ZipSep2 z TI TO i1 i2 [i1, a1] [i2, a2]) :
    Turn P w K (.Tuple elts kk tpos) (Iz2 K b1 b2 a1 a2) [z, TI, TO, i1, i2] z (fun i h => IsZip h z TI TO .none ∧ IsTupOf2 h TI (.ref i1) (.ref i2) ∧ (∃ x1 x2, IsTupOf2 h TO x1 x2) ∧ SIt b1 h i1 a1 i ∧ SIt b2 h i2 a2 i) where
  mem := by simp
  obj := fun i h st c hc => by
    obtain ⟨hz, hTI, ⟨x1, x2, hTO⟩, h1, h2⟩ := st
    have e' : c = z ∨ c = TI ∨ c = TO ∨ c = i1 ∨ c = i2 := by simpa using hc
    rcases e' with q | q | q | q | q
    · rw [q]; exact ⟨_, hz, fun v q => nomatch q⟩
    · rw [q]; exact ⟨_, hTI, fun v q => nomatch q⟩
    · rw [q]; exact ⟨_, hTO, fun v q => nomatch q⟩
    · rw [q]; exact h1.ob
    · rw [q]; exact h2.ob
  keep := fun i h h' st k => by
    obtain ⟨hz, hTI, ⟨x1, x2, hTO⟩, h1, h2⟩ := st
    exact ⟨k z (by simp) _ hz, k TI (by simp) _ hTI, ⟨x1, x2, k TO (by simp) _ hTO⟩, h1.at fun o q => k i1 (by simp) o q, h2.at fun o q => k i2 (by simp) o q⟩
  item := by
    intro X hP hw hK hc i pins s σ H E I hf st hg
    subst hP hw hK
    obtain ⟨hz, hTI, ⟨y1, y2, hTO⟩, h1, h2⟩ := st
    obtain ⟨l1, l2, x1, x2, q1, q2, g1, g2⟩ := hg
    obtain ⟨t1, rv1, p1⟩ := s_get I q1
    obtain ⟨u1, hu1, ru1⟩ := rv1.get g1
    have n1 : a1 ≠ i1 := fun e => h1.ne p1 e.symm
    have m1 : i < t1.toArray.size := by
      have : i < t1.length := by
        rw [← rv1.length]; exact (List.getElem?_eq_some_iff.mp g1).1
      simpa using this
    have k1 : t1.toArray[i]? = some u1 := by simpa using hu1
    obtain ⟨t2, rv2, p2⟩ := s_get I q2
    obtain ⟨u2, hu2, ru2⟩ := rv2.get g2
    have n2 : a2 ≠ i2 := fun e => h2.ne p2 e.symm
    have m2 : i < t2.toArray.size := by
      have : i < t2.length := by
        rw [← rv2.length]; exact (List.getElem?_eq_some_iff.mp g2).1
      simpa using this
    have k2 : t2.toArray[i]? = some u2 := by simpa using hu2
    have hd : X.A.in1.handled = none := I.ok.hd hc
    have hzl : z < s.heap.objs.size := Heap.lt_size hz
    refine wpAny_pyNext_zipD2_item S (s_draws hd b1 i1 a1 n1 t1.toArray) (s_draws hd b2 i2 a2 n2 t2.toArray) hz hTI hTO ⟨h1, p1⟩ ⟨h2, p2⟩ m1 m2 fun w1 w2 h' tk e1 e2 z' TO' s1 s2 hT hsz hk => ?_
    rw [k1] at e1
    cases e1
    rw [k2] at e2
    cases e2
    refine ⟨_, rfl, wpAny_letOwnedTupleGo_zip (s := { s with heap := h', toks := tk }) z' fun h'' z'' sb => ?_⟩
    have hT2 : h''.get? s.heap.objs.size = some { cls := .type "tuple", data := .seq #[u1, u2] } := (sb.2 _ (Nat.ne_of_gt hzl)).trans hT
    have new : ObjOk X.prog X.w (upd H s.heap.objs.size (.tup [x1, x2])) h'' s.heap.objs.size (.tup [x1, x2]) :=
      ⟨by show 2 ≤ sizeLine; decide, [u1, u2], .cons ru1 (.cons ru2 (.nil)), ⟨_, hT2, rfl, _, rfl⟩⟩
    have I1 : Inv X pins σ (upd H s.heap.objs.size (.tup [x1, x2])) { s with heap := h'', toks := tk } :=
      I.turnedNew (t' := tk) (ch := [z, TI, TO, i1, i2]) (fun c o hb q => (sb.2 c (fun q' => hb (by simp [q']))).trans (hk c o (fun q' => hb (by simp [q'])) (fun q' => hb (by simp [q'])) (fun q' => hb (by simp [q'])) (fun q' => hb (by simp [q'])) q)) hf (Nat.le_refl _) new
    refine ⟨.ref s.heap.objs.size, _, I1, rfl, ⟨_, x1, x2, rfl, I.hok.fresh (Nat.le_refl _), rfl, fun l hl => by rw [sq_inj I hl q1]; exact g1, fun l hl => by rw [sq_inj I hl q2]; exact g2⟩, ⟨z'', ?_, ⟨u1, u2, ?_⟩, ?_, ?_⟩, fun c hcm => ?_⟩
    · exact (sb.2 _ S.TIz).trans (hk _ _ S.TIz S.TITO S.TIi1 S.TIi2 hTI)
    · exact (sb.2 _ S.TOz).trans TO'
    · exact s1.1.at fun o q => (sb.2 _ fun e => S.zf1 (by rw [← e]; exact S.mem1)).trans q
    · exact s2.1.at fun o q => (sb.2 _ fun e => S.zf2 (by rw [← e]; exact S.mem2)).trans q
    · have hlt : c < s.heap.objs.size := by
        have e' : c = z ∨ c = TI ∨ c = TO ∨ c = i1 ∨ c = i2 := by simpa using hcm
        rcases e' with q | q | q | q | q
        · rw [q]; exact hzl
        · rw [q]; exact Heap.lt_size hTI
        · rw [q]; exact Heap.lt_size hTO
        · rw [q]; obtain ⟨_, e, _⟩ := h1.ob; exact Heap.lt_size e
        · rw [q]; obtain ⟨_, e, _⟩ := h2.ob; exact Heap.lt_size e
      rw [upd_ne (Nat.ne_of_lt hlt)]
      exact (hf c hcm).1
  done := by
    intro X hP hw hK hc i pins s σ H E I hf st hg
    subst hP hw hK
    obtain ⟨hz, hTI, ⟨y1, y2, hTO⟩, h1, h2⟩ := st
    obtain ⟨l1, l2, q1, q2, he, g1, g2⟩ := hg
    obtain ⟨t1, rv1, p1⟩ := s_get I q1
    have n1 : a1 ≠ i1 := fun e => h1.ne p1 e.symm
    have m1 : t1.toArray.size = l1.length := by rw [rv1.length]; simp
    obtain ⟨t2, rv2, p2⟩ := s_get I q2
    have n2 : a2 ≠ i2 := fun e => h2.ne p2 e.symm
    have m2 : t2.toArray.size = l2.length := by rw [rv2.length]; simp
    have hd : X.A.in1.handled = none := I.ok.hd hc
    refine wpAny_pyNext_zipD2_end S (s_draws hd b1 i1 a1 n1 t1.toArray) (s_draws hd b2 i2 a2 n2 t2.toArray) hz hTI hTO ⟨h1, p1⟩ ⟨h2, p2⟩ (by omega) (by omega) (by omega) fun h' tk hk => ⟨rfl, I.turnedL (t' := tk) (ch := [z, TI, TO, i1, i2]) (fun c o hb q =>
      hk c o (fun q' => hb (by simp [q'])) (fun q' => hb (by simp [q'])) (fun q' => hb (by simp [q'])) (fun q' => hb (by simp [q'])) q) hf⟩
  self := fun A i s Q E st h => wpAny_pyIter_zip st.1 h
def iZ2 (K : PySem.W.Frag) (ta : TA) : TI := fun σ H R => ta σ H fun vs H1 => ∃ b1 b2 a1 a2 l1 l2, vs = [.ref a1, .ref a2] ∧ SqS K H1 b1 a1 l1 ∧ SqS K H1 b2 a2 l2 ∧ R (Iz2 K b1 b2 a1 a2) H1
theorem pi_z2 {X : Cx} {f1 f2 : Expr} {ta : TA} {p pos tpos : Pos} {elts : List Expr} {kk : Nat} (hg : Gl X "zip") (hm : X.mg "zip" = none) (ha : PA X [f1, f2] ta)
    (hs : starEach [f1, f2] X.env = (false, eval f1 X.env) :: starEach [f2] X.env) (hpl : (backTo pos (starEach [f2] X.env)).any (·.1) = false) :
    PI X (.Tuple elts kk tpos) (.Call (.Name "zip" p) [f1, f2] [] pos) (iZ2 X.K ta) := by
  refine ⟨fun pins s σ H R I h => ?_⟩
  refine Call_ (ld_blt I hg hm PyProof.Rows.boot_zip (PyProof.Rows.callWith_type1 (thn (ha.run pos pins s σ H _ I h) fun us s1 ⟨vs, H1, I1, r1, q1⟩ => ?_) hs hpl))
  obtain ⟨b1, b2, a1, a2, l1, l2, ex, q1, q2, q⟩ := q1
  subst ex
  obtain rfl : us = [.ref a1, .ref a2] := by
    cases r1 with | cons r2 r1 => cases r1 with | cons r3 r1 =>
    cases r1
    cases r2; cases r3
    rfl
  obtain ⟨t1, rv1, p1⟩ := s_get I1 q1
  obtain ⟨t2, rv2, p2⟩ := s_get I1 q2
  refine zip_begins2 (s_begins b1 a1 t1.toArray) (s_begins b2 a2 t2.toArray) p1 p2 fun h' hz hTI hTO o1 o2 hsz hk => wpAny_pyIter_zip hz ?_
  have I2 : Inv X pins σ H1 { s1 with heap := h' } := I1.kept (t' := s1.toks) hk
  refine ⟨s1.heap.objs.size + 4, [s1.heap.objs.size + 4, s1.heap.objs.size + 2, s1.heap.objs.size + 3, s1.heap.objs.size, s1.heap.objs.size + 1], _, _, H1, rfl, I2, turn_z2 (zip_sep2 (s_below p1) (s_below p2)), ⟨hz, hTI, ⟨_, _, hTO⟩, s_it0 o1, s_it0 o2⟩, fun c hcm => ?_, q⟩
  have hle : s1.heap.objs.size ≤ c := by
    have e' : c = s1.heap.objs.size + 4 ∨ c = s1.heap.objs.size + 2 ∨ c = s1.heap.objs.size + 3 ∨ c = s1.heap.objs.size ∨ c = s1.heap.objs.size + 1 := by simpa using hcm
    rcases e' with z | z | z | z | z <;> rw [z] <;> first | exact Nat.le_add_right _ _ | exact Nat.le_refl _
  exact I1.fpOk hle (I1.hok.fresh hle)

/-- 3 sources, the items in new tuples -/
def Iz3 (K : PySem.W.Frag) (b1 b2 b3 : Bool) (a1 a2 a3 : Addr) : L2.It :=
  ⟨fun i H => ∃ (l1 l2 l3 : List V) (x1 x2 x3 : V), SqS K H b1 a1 l1 ∧ SqS K H b2 a2 l2 ∧ SqS K H b3 a3 l3 ∧ l1[i]? = some x1 ∧ l2[i]? = some x2 ∧ l3[i]? = some x3,
    fun i H v H' => ∃ T x1 x2 x3, v = .ref T ∧ H T = none ∧ H' = upd H T (.tup [x1, x2, x3]) ∧ (∀ l, SqS K H b1 a1 l → l[i]? = some x1) ∧ (∀ l, SqS K H b2 a2 l → l[i]? = some x2) ∧ (∀ l, SqS K H b3 a3 l → l[i]? = some x3),
    fun i H => ∃ l1 l2 l3 : List V, SqS K H b1 a1 l1 ∧ SqS K H b2 a2 l2 ∧ SqS K H b3 a3 l3 ∧ (l1.length = i ∨ l2.length = i ∨ l3.length = i) ∧ i ≤ l1.length ∧ i ≤ l2.length ∧ i ≤ l3.length⟩
theorem turn_z3 {P : Program} {w : World} {K : PySem.W.Frag} {elts : List Expr} {kk : Nat} {tpos : Pos} {b1 b2 b3 : Bool} {a1 a2 a3 z TI TO i1 i2 i3 : Addr} (S : ZipSep3 z TI TO i1 i2 i3 [i1, a1] [i2, a2] [i3, a3]) :
    Turn P w K (.Tuple elts kk tpos) (Iz3 K b1 b2 b3 a1 a2 a3) [z, TI, TO, i1, i2, i3] z (fun i h => IsZip h z TI TO .none ∧ IsTupOf3 h TI (.ref i1) (.ref i2) (.ref i3) ∧ (∃ x1 x2 x3, IsTupOf3 h TO x1 x2 x3) ∧ SIt b1 h i1 a1 i ∧ SIt b2 h i2 a2 i ∧ SIt b3 h i3 a3 i) where
  mem := by simp
  obj := fun i h st c hc => by
    obtain ⟨hz, hTI, ⟨x1, x2, x3, hTO⟩, h1, h2, h3⟩ := st
    have e' : c = z ∨ c = TI ∨ c = TO ∨ c = i1 ∨ c = i2 ∨ c = i3 := by simpa using hc
    rcases e' with q | q | q | q | q | q
    · rw [q]; exact ⟨_, hz, fun v q => nomatch q⟩
    · rw [q]; exact ⟨_, hTI, fun v q => nomatch q⟩
    · rw [q]; exact ⟨_, hTO, fun v q => nomatch q⟩
    · rw [q]; exact h1.ob
    · rw [q]; exact h2.ob
    · rw [q]; exact h3.ob
  keep := fun i h h' st k => by
    obtain ⟨hz, hTI, ⟨x1, x2, x3, hTO⟩, h1, h2, h3⟩ := st
    exact ⟨k z (by simp) _ hz, k TI (by simp) _ hTI, ⟨x1, x2, x3, k TO (by simp) _ hTO⟩, h1.at fun o q => k i1 (by simp) o q, h2.at fun o q => k i2 (by simp) o q, h3.at fun o q => k i3 (by simp) o q⟩
  item := by
    intro X hP hw hK hc i pins s σ H E I hf st hg
    subst hP hw hK
    obtain ⟨hz, hTI, ⟨y1, y2, y3, hTO⟩, h1, h2, h3⟩ := st
    obtain ⟨l1, l2, l3, x1, x2, x3, q1, q2, q3, g1, g2, g3⟩ := hg
    obtain ⟨t1, rv1, p1⟩ := s_get I q1
    obtain ⟨u1, hu1, ru1⟩ := rv1.get g1
    have n1 : a1 ≠ i1 := fun e => h1.ne p1 e.symm
    have m1 : i < t1.toArray.size := by
      have : i < t1.length := by
        rw [← rv1.length]; exact (List.getElem?_eq_some_iff.mp g1).1
      simpa using this
    have k1 : t1.toArray[i]? = some u1 := by simpa using hu1
    obtain ⟨t2, rv2, p2⟩ := s_get I q2
    obtain ⟨u2, hu2, ru2⟩ := rv2.get g2
    have n2 : a2 ≠ i2 := fun e => h2.ne p2 e.symm
    have m2 : i < t2.toArray.size := by
      have : i < t2.length := by
        rw [← rv2.length]; exact (List.getElem?_eq_some_iff.mp g2).1
      simpa using this
    have k2 : t2.toArray[i]? = some u2 := by simpa using hu2
    obtain ⟨t3, rv3, p3⟩ := s_get I q3
    obtain ⟨u3, hu3, ru3⟩ := rv3.get g3
    have n3 : a3 ≠ i3 := fun e => h3.ne p3 e.symm
    have m3 : i < t3.toArray.size := by
      have : i < t3.length := by
        rw [← rv3.length]; exact (List.getElem?_eq_some_iff.mp g3).1
      simpa using this
    have k3 : t3.toArray[i]? = some u3 := by simpa using hu3
    have hd : X.A.in1.handled = none := I.ok.hd hc
    have hzl : z < s.heap.objs.size := Heap.lt_size hz
    refine wpAny_pyNext_zipD3_item S (s_draws hd b1 i1 a1 n1 t1.toArray) (s_draws hd b2 i2 a2 n2 t2.toArray) (s_draws hd b3 i3 a3 n3 t3.toArray) hz hTI hTO ⟨h1, p1⟩ ⟨h2, p2⟩ ⟨h3, p3⟩ m1 m2 m3 fun w1 w2 w3 h' tk e1 e2 e3 z' TO' s1 s2 s3 hT hsz hk => ?_
    rw [k1] at e1
    cases e1
    rw [k2] at e2
    cases e2
    rw [k3] at e3
    cases e3
    refine ⟨_, rfl, wpAny_letOwnedTupleGo_zip (s := { s with heap := h', toks := tk }) z' fun h'' z'' sb => ?_⟩
    have hT2 : h''.get? s.heap.objs.size = some { cls := .type "tuple", data := .seq #[u1, u2, u3] } := (sb.2 _ (Nat.ne_of_gt hzl)).trans hT
    have new : ObjOk X.prog X.w (upd H s.heap.objs.size (.tup [x1, x2, x3])) h'' s.heap.objs.size (.tup [x1, x2, x3]) :=
      ⟨by show 3 ≤ sizeLine; decide, [u1, u2, u3], .cons ru1 (.cons ru2 (.cons ru3 (.nil))), ⟨_, hT2, rfl, _, rfl⟩⟩
    have I1 : Inv X pins σ (upd H s.heap.objs.size (.tup [x1, x2, x3])) { s with heap := h'', toks := tk } :=
      I.turnedNew (t' := tk) (ch := [z, TI, TO, i1, i2, i3]) (fun c o hb q => (sb.2 c (fun q' => hb (by simp [q']))).trans (hk c o (fun q' => hb (by simp [q'])) (fun q' => hb (by simp [q'])) (fun q' => hb (by simp [q'])) (fun q' => hb (by simp [q'])) (fun q' => hb (by simp [q'])) q)) hf (Nat.le_refl _) new
    refine ⟨.ref s.heap.objs.size, _, I1, rfl, ⟨_, x1, x2, x3, rfl, I.hok.fresh (Nat.le_refl _), rfl, fun l hl => by rw [sq_inj I hl q1]; exact g1, fun l hl => by rw [sq_inj I hl q2]; exact g2, fun l hl => by rw [sq_inj I hl q3]; exact g3⟩, ⟨z'', ?_, ⟨u1, u2, u3, ?_⟩, ?_, ?_, ?_⟩, fun c hcm => ?_⟩
    · exact (sb.2 _ S.TIz).trans (hk _ _ S.TIz S.TITO S.TIi1 S.TIi2 S.TIi3 hTI)
    · exact (sb.2 _ S.TOz).trans TO'
    · exact s1.1.at fun o q => (sb.2 _ fun e => S.zf1 (by rw [← e]; exact S.mem1)).trans q
    · exact s2.1.at fun o q => (sb.2 _ fun e => S.zf2 (by rw [← e]; exact S.mem2)).trans q
    · exact s3.1.at fun o q => (sb.2 _ fun e => S.zf3 (by rw [← e]; exact S.mem3)).trans q
    · have hlt : c < s.heap.objs.size := by
        have e' : c = z ∨ c = TI ∨ c = TO ∨ c = i1 ∨ c = i2 ∨ c = i3 := by simpa using hcm
        rcases e' with q | q | q | q | q | q
        · rw [q]; exact hzl
        · rw [q]; exact Heap.lt_size hTI
        · rw [q]; exact Heap.lt_size hTO
        · rw [q]; obtain ⟨_, e, _⟩ := h1.ob; exact Heap.lt_size e
        · rw [q]; obtain ⟨_, e, _⟩ := h2.ob; exact Heap.lt_size e
        · rw [q]; obtain ⟨_, e, _⟩ := h3.ob; exact Heap.lt_size e
      rw [upd_ne (Nat.ne_of_lt hlt)]
      exact (hf c hcm).1
  done := by
    intro X hP hw hK hc i pins s σ H E I hf st hg
    subst hP hw hK
    obtain ⟨hz, hTI, ⟨y1, y2, y3, hTO⟩, h1, h2, h3⟩ := st
    obtain ⟨l1, l2, l3, q1, q2, q3, he, g1, g2, g3⟩ := hg
    obtain ⟨t1, rv1, p1⟩ := s_get I q1
    have n1 : a1 ≠ i1 := fun e => h1.ne p1 e.symm
    have m1 : t1.toArray.size = l1.length := by rw [rv1.length]; simp
    obtain ⟨t2, rv2, p2⟩ := s_get I q2
    have n2 : a2 ≠ i2 := fun e => h2.ne p2 e.symm
    have m2 : t2.toArray.size = l2.length := by rw [rv2.length]; simp
    obtain ⟨t3, rv3, p3⟩ := s_get I q3
    have n3 : a3 ≠ i3 := fun e => h3.ne p3 e.symm
    have m3 : t3.toArray.size = l3.length := by rw [rv3.length]; simp
    have hd : X.A.in1.handled = none := I.ok.hd hc
    refine wpAny_pyNext_zipD3_end S (s_draws hd b1 i1 a1 n1 t1.toArray) (s_draws hd b2 i2 a2 n2 t2.toArray) (s_draws hd b3 i3 a3 n3 t3.toArray) hz hTI hTO ⟨h1, p1⟩ ⟨h2, p2⟩ ⟨h3, p3⟩ (by omega) (by omega) (by omega) (by omega) fun h' tk hk => ⟨rfl, I.turnedL (t' := tk) (ch := [z, TI, TO, i1, i2, i3]) (fun c o hb q =>
      hk c o (fun q' => hb (by simp [q'])) (fun q' => hb (by simp [q'])) (fun q' => hb (by simp [q'])) (fun q' => hb (by simp [q'])) (fun q' => hb (by simp [q'])) q) hf⟩
  self := fun A i s Q E st h => wpAny_pyIter_zip st.1 h
def iZ3 (K : PySem.W.Frag) (ta : TA) : TI := fun σ H R => ta σ H fun vs H1 => ∃ b1 b2 b3 a1 a2 a3 l1 l2 l3, vs = [.ref a1, .ref a2, .ref a3] ∧ SqS K H1 b1 a1 l1 ∧ SqS K H1 b2 a2 l2 ∧ SqS K H1 b3 a3 l3 ∧ R (Iz3 K b1 b2 b3 a1 a2 a3) H1
theorem pi_z3 {X : Cx} {f1 f2 f3 : Expr} {ta : TA} {p pos tpos : Pos} {elts : List Expr} {kk : Nat} (hg : Gl X "zip") (hm : X.mg "zip" = none) (ha : PA X [f1, f2, f3] ta)
    (hs : starEach [f1, f2, f3] X.env = (false, eval f1 X.env) :: starEach [f2, f3] X.env) (hpl : (backTo pos (starEach [f2, f3] X.env)).any (·.1) = false) :
    PI X (.Tuple elts kk tpos) (.Call (.Name "zip" p) [f1, f2, f3] [] pos) (iZ3 X.K ta) := by
  refine ⟨fun pins s σ H R I h => ?_⟩
  refine Call_ (ld_blt I hg hm PyProof.Rows.boot_zip (PyProof.Rows.callWith_type1 (thn (ha.run pos pins s σ H _ I h) fun us s1 ⟨vs, H1, I1, r1, q1⟩ => ?_) hs hpl))
  obtain ⟨b1, b2, b3, a1, a2, a3, l1, l2, l3, ex, q1, q2, q3, q⟩ := q1
  subst ex
  obtain rfl : us = [.ref a1, .ref a2, .ref a3] := by
    cases r1 with | cons r2 r1 => cases r1 with | cons r3 r1 => cases r1 with | cons r4 r1 =>
    cases r1
    cases r2; cases r3; cases r4
    rfl
  obtain ⟨t1, rv1, p1⟩ := s_get I1 q1
  obtain ⟨t2, rv2, p2⟩ := s_get I1 q2
  obtain ⟨t3, rv3, p3⟩ := s_get I1 q3
  refine zip_begins3 (s_begins b1 a1 t1.toArray) (s_begins b2 a2 t2.toArray) (s_begins b3 a3 t3.toArray) p1 p2 p3 fun h' hz hTI hTO o1 o2 o3 hsz hk => wpAny_pyIter_zip hz ?_
  have I2 : Inv X pins σ H1 { s1 with heap := h' } := I1.kept (t' := s1.toks) hk
  refine ⟨s1.heap.objs.size + 5, [s1.heap.objs.size + 5, s1.heap.objs.size + 3, s1.heap.objs.size + 4, s1.heap.objs.size, s1.heap.objs.size + 1, s1.heap.objs.size + 2], _, _, H1, rfl, I2, turn_z3 (zip_sep3 (s_below p1) (s_below p2) (s_below p3)), ⟨hz, hTI, ⟨_, _, _, hTO⟩, s_it0 o1, s_it0 o2, s_it0 o3⟩, fun c hcm => ?_, q⟩
  have hle : s1.heap.objs.size ≤ c := by
    have e' : c = s1.heap.objs.size + 5 ∨ c = s1.heap.objs.size + 3 ∨ c = s1.heap.objs.size + 4 ∨ c = s1.heap.objs.size ∨ c = s1.heap.objs.size + 1 ∨ c = s1.heap.objs.size + 2 := by simpa using hcm
    rcases e' with z | z | z | z | z | z <;> rw [z] <;> first | exact Nat.le_add_right _ _ | exact Nat.le_refl _
  exact I1.fpOk hle (I1.hok.fresh hle)
end Fc
/-! Ev2h: targets, iterators, comprehensions. -/
namespace Fc
open PySem PySem.Spec
open PyProof.Rows L2
variable [Tb]

/-! ### targets -/
/-- only the slots vs may differ -/
def Keeps (vs : List Nat) (σV σV' : L2.St) : Prop := σV'.length = σV.length ∧ ∀ i, i ∉ vs → σV'[i]? = σV[i]?
theorem Keeps.refl (vs : List Nat) (σV : L2.St) : Keeps vs σV σV := ⟨rfl, fun _ _ => rfl⟩
theorem Keeps.trans {vs ws : List Nat} {a b c : L2.St} (h : Keeps vs a b) (k : Keeps ws b c) : Keeps (vs ++ ws) a c :=
  ⟨k.1.trans h.1, fun i hi => by
    rw [List.mem_append, not_or] at hi
    rw [k.2 i hi.2, h.2 i hi.1]⟩
def tTg (m : Mx) (H0 : Hp) (t : Tg) : TG := fun v σV H Q => ∃ σ d, Good m H0 H σV σ ∧ Rep m H v d ∧ ∃ σ', asg t d σ = .ok σ' ∧ ∀ σV', Good m H0 H σV' σ' → Keeps (tgv t) σV σV' → Q σV' H
def tTgs (m : Mx) (H0 : Hp) (t : Tg) : TGs := fun vs σV H Q => ∃ σ ds, Good m H0 H σV σ ∧ RepL m H vs ds ∧ ∃ σ', asgL t ds σ = .ok σ' ∧ ∀ σV', Good m H0 H σV' σ' → Keeps (tgv t) σV σV' → Q σV' H
def locIs (N : List Str) (sc : Scope) (fn : Str → Bool) (i : Nat) : Expr → Bool
  | .Name x _ => decide (N[i]? = some x) && (match sc.names.lookup x with
    | some .local => true | some .cell => fn x | _ => false)
  | _ => false
mutual
def okT (N : List Str) (sc : Scope) (fn : Str → Bool) : Tg → Expr → Bool
  | .nm i, x => locIs N sc fn i x
  | .tn, _ => false
  | .tc a b, .Tuple es _ _ => match es with
    | x :: r => okT N sc fn a x && okTs N sc fn b r
    | [] => false
  | .tc _ _, _ => false
def okTs (N : List Str) (sc : Scope) (fn : Str → Bool) : Tg → List Expr → Bool
  | .tn, [] => true
  | .tn, _ :: _ => false
  | .tc a b, x :: r => okT N sc fn a x && okTs N sc fn b r
  | .tc _ _, [] => false
  | .nm _, _ => false
end
section
variable {nm : Nms} {m : Mx} {Z : Sem0} {H0 : Hp} {W : WX} {N : List Str} {sc : Scope} {cm : Bool} {X : Cx} {x y z w : Expr} {xs : List Expr} {a b c : E} {es : Es} {pos : Pos} {fn : Str → Bool}
theorem okT_star : ∀ {t : Tg} {x : Expr}, okT N sc fn t x = true → notStar x = true
  | .nm i, x, h => by cases x <;> first | rfl | cases h
  | .tn, _, h => by simp [okT] at h
  | .tc a b, x, h => by cases x <;> first | rfl | (simp [okT] at h)
theorem each_cons {env : Env} {x : Expr} {r : List Expr} (h : notStar x = true) : assignEach (x :: r) env = (false, assign x env) :: assignEach r env := by
  cases x <;> first | rfl | cases h
theorem okTs_each {env : Env} : ∀ {t : Tg} {xs : List Expr}, okTs N sc fn t xs = true → (assignEach xs env).length = xs.length ∧ (assignEach xs env).findIdx? (·.1) = none
  | .tn, [], _ => ⟨rfl, rfl⟩
  | .tn, _ :: _, h => by simp [okTs] at h
  | .nm _, _, h => by simp [okTs] at h
  | .tc a b, [], h => by simp [okTs] at h
  | .tc a b, x :: r, h => by
    simp only [okTs, Bool.and_eq_true] at h
    obtain ⟨h1, h2⟩ := okTs_each (env := env) h.2
    rw [each_cons (okT_star h.1)]
    refine ⟨by simp [h1], ?_⟩
    rw [List.findIdx?_cons]
    simp [h2]
mutual
theorem r_tg (o : Okx nm m Z W N sc cm X) (hc : X.calm = true) (hfn : ∀ x, fn x = true → X.fn x = true) : ∀ (t : Tg) (x : Expr), okT N sc fn t x = true → PG X x (tTg m H0 t)
  | .nm i, x, h => by
    cases x <;> try (cases h)
    rename_i y pos
    simp only [okT, locIs, Bool.and_eq_true, decide_eq_true_eq] at h
    obtain ⟨h1, h2⟩ := h
    have hh : L2.Loc X.env.scope y ∧ (X.fn y = true ∨ X.env.scope.names.lookup y = some .local) := by
      rw [o.hsc]
      revert h2
      unfold L2.Loc
      split
      · rename_i e; intro _; exact ⟨.inl e, .inr e⟩
      · rename_i e; intro h; exact ⟨.inr e, .inl (hfn y h)⟩
      · intro h; cases h
    have P : PG X (.Name y pos) (gName i) := pg_name (by rw [o.hN]; exact o.nod) (by rw [o.hN]; exact h1) hh.1 hh.2
    refine ⟨fun pins s σV H v u Q I rv ⟨σ, d, g, r, σ', e, k⟩ => P.run pins s σV H v u Q I rv ?_⟩
    have e' : st1 σ i (.val d) = σ' := by simpa [asg] using e
    subst e'
    exact k _ (g.setVal i r) ⟨List.length_set, fun j hj => List.getElem?_set_ne fun z => hj (by rw [z]; simp [tgv])⟩
  | .tn, _, h => by simp [okT] at h
  | .tc a b, x, h => by
    cases x <;> try (simp [okT] at h; done)
    rename_i es kk pos
    cases es with
    | nil => simp [okT] at h
    | cons x r =>
      have hs : okTs N sc fn (.tc a b) (x :: r) = true := by simpa [okT, okTs] using h
      have P := r_tgs o hc hfn (.tc a b) (x :: r) hs
      obtain ⟨l1, l2⟩ := okTs_each (env := X.env) hs
      refine ⟨fun pins s σV H v u Q I rv ⟨σ, d, g, rp, σ', e, k⟩ => ?_⟩
      have lens : ∀ {t : Tg} {xs : List Expr} {ds : List D} {σ σ' : List Sl}, okTs N sc fn t xs = true → asgL t ds σ = .ok σ' → ds.length = xs.length := by
        intro t
        induction t with
        | nm i => intro xs ds σ σ' h; simp [okTs] at h
        | tn =>
          intro xs ds σ σ' h e
          cases xs with
          | nil => cases ds with
            | nil => rfl
            | cons _ _ => simp [asgL] at e
          | cons _ _ => simp [okTs] at h
        | tc a b _ ihb =>
          intro xs ds σ σ' h e
          cases xs with
          | nil => simp [okTs] at h
          | cons x r =>
            simp only [okTs, Bool.and_eq_true] at h
            cases ds with
            | nil => simp [asgL] at e
            | cons d ds =>
              simp only [asgL] at e
              cases ha : asg a d σ with
              | ok σ1 => rw [ha] at e; simp [ihb h.2 (by simpa using e)]
              | exc c => rw [ha] at e; simp at e
              | stk => rw [ha] at e; simp at e
      cases d with
      | tup ds =>
        cases rp with
        | tup hq rl =>
          rw [o.hm] at hq
          have e' : asgL (.tc a b) ds σ = .ok σ' := by
            revert e
            cases ds with
            | nil => simp [asg, seqD]
            | cons d0 dr => simp [asg, asgL, seqD]
          exact (pg_tup (n := (x :: r).length) hc P l1 l2).run pins s σV H _ u Q I rv ⟨_, _, rfl, hq, by rw [rl.length, lens hs e'], σ, ds, g, rl, σ', e', k⟩
      | lst ds =>
        cases rp with
        | lst hq rl =>
          have e' : asgL (.tc a b) ds σ = .ok σ' := by
            revert e
            cases ds with
            | nil => simp [asg, seqD]
            | cons d0 dr => simp [asg, asgL, seqD]
          exact (pg_lst (n := (x :: r).length) hc P l1 l2).run pins s σV H _ u Q I rv ⟨_, _, rfl, hq.sq, by rw [rl.length, lens hs e'], σ, ds, g, rl, σ', e', k⟩
      | _ => simp [asg, seqD] at e
theorem r_tgs (o : Okx nm m Z W N sc cm X) (hc : X.calm = true) (hfn : ∀ x, fn x = true → X.fn x = true) : ∀ (t : Tg) (xs : List Expr), okTs N sc fn t xs = true → PGs X xs (tTgs m H0 t)
  | .tn, [], _ => by
    refine ⟨fun pins s σV H vs us Q I rv ⟨σ, ds, g, rl, σ', e, k⟩ => ?_⟩
    cases ds with
    | nil =>
      cases rl
      have e' : σ = σ' := by simpa [asgL] using e
      subst e'
      exact pgs_nil.run pins s σV H _ us Q I rv ⟨rfl, k _ g (.refl _ _)⟩
    | cons _ _ => simp [asgL] at e
  | .tn, _ :: _, h => by simp [okTs] at h
  | .nm _, _, h => by simp [okTs] at h
  | .tc a b, [], h => by simp [okTs] at h
  | .tc a b, x :: r, h => by
    simp only [okTs, Bool.and_eq_true] at h
    have P1 := r_tg o hc hfn a x h.1
    have P2 := r_tgs o hc hfn b r h.2
    have P := pgs_cons P1 P2 (by rw [each_cons (okT_star h.1)]; rfl)
    refine ⟨fun pins s σV H vs us Q I rv ⟨σ, ds, g, rl, σ', e, k⟩ => P.run pins s σV H vs us Q I rv ?_⟩
    cases ds with
    | nil => simp [asgL] at e
    | cons d dr =>
      cases rl with
      | @cons v vr _ _ r1 r2 =>
        refine ⟨v, vr, rfl, σ, d, g, r1, ?_⟩
        simp only [asgL] at e
        cases ha : asg a d σ with
        | ok σ1 =>
          rw [ha] at e
          exact ⟨σ1, rfl, fun σV1 g1 k1 => ⟨σ1, dr, g1, r2, σ', by simpa using e, fun σV2 g2 k2 => k σV2 g2 (k1.trans k2)⟩⟩
        | exc c => rw [ha] at e; simp at e
        | stk => rw [ha] at e; simp at e
end

mutual
theorem asg_nx : ∀ (t : Tg) (d : D) (σ : List Sl) (c : Nat), asg t d σ ≠ .exc c
  | .nm i, d, σ, c => by simp [asg]
  | .tn, d, σ, c => by
    cases d <;> simp [asg, seqD] <;> (split <;> simp)
  | .tc a b, d, σ, c => by
    have key : ∀ xs : List D, (match xs with
      | x :: r => (asg a x σ).bind fun σ => asgL b r σ
      | [] => .stk) ≠ .exc c := fun xs => by
      cases xs with
      | nil => simp
      | cons x r => exact bind_nx (asg_nx a x σ) (fun σ c => asgL_nx b r σ c) c
    cases d with
    | tup xs => simp only [asg, seqD, R.bind_ok]; exact key xs
    | lst xs => simp only [asg, seqD, R.bind_ok]; exact key xs
    | _ => simp [asg, seqD]
theorem asgL_nx : ∀ (t : Tg) (ds : List D) (σ : List Sl) (c : Nat), asgL t ds σ ≠ .exc c
  | .tn, [], σ, c => by simp [asgL]
  | .tn, _ :: _, σ, c => by simp [asgL]
  | .nm _, _, σ, c => by simp [asgL]
  | .tc a b, [], σ, c => by simp [asgL]
  | .tc a b, x :: r, σ, c => by
    simp only [asgL]
    exact bind_nx (asg_nx a x σ) (fun σ c => asgL_nx b r σ c) c
end
/-! ### iterators -/
/-- the iterator yields the data ds, one after another -/
def Walks (m : Mx) (H1 : Hp) (J : L2.It) (ds : List D) : Prop := ∀ i H, FSame H1 H → (i < ds.length → J.go i H ∧ ∀ x H', J.yld i H x H' → ∃ d, ds[i]? = some d ∧ Same H H' ∧ Rep m H' x d) ∧ (i = ds.length → J.stop i H)
def tI (m : Mx) (Z : Sem0) (H0 : Hp) (W : WX) (it : It) : TI := fun σV H R => tR m H0 W (fun σ => evi Z.G Z.C σ it) (fun H ds => ∀ J H1, Same H H1 → Walks m H1 J ds → R J H1) σV H
theorem walks_list {K : PySem.W.Frag} {H1 : Hp} {p : Addr} {vs : List V} {ds : List D} (hH : FzL H1 p vs) (rl : RepL m H1 vs ds) : Walks m H1 (Itl K p) ds := by
  intro i H e
  have hS := (hH.mono e).sq (K := K)
  have rl' := rl.mono e
  refine ⟨fun hi => ?_, fun hi => ⟨vs, hS, by rw [rl'.length]; omega⟩⟩
  obtain ⟨x, hx, rx⟩ := rl'.get' (i := i) (d := ds[i]) (by simp [hi])
  refine ⟨⟨vs, x, hS, hx⟩, fun y H' ⟨e1, e2⟩ => ?_⟩
  subst e1
  have := e2 vs hS
  rw [hx] at this
  cases this
  exact ⟨ds[i], by simp [hi], .refl _, rx⟩
theorem walks_tup {H1 : Hp} {p : Addr} {vs : List V} {ds : List D} (hm : m.K = X.K) (hH : SqT m.K H1 p vs) (rl : RepL m H1 vs ds) : Walks m H1 (Itt X.K p) ds := by
  intro i H e
  have hS := sqT_mono e hH
  rw [hm] at hS
  have rl' := rl.mono e
  refine ⟨fun hi => ?_, fun hi => ⟨vs, hS, by rw [rl'.length]; omega⟩⟩
  obtain ⟨x, hx, rx⟩ := rl'.get' (i := i) (d := ds[i]) (by simp [hi])
  refine ⟨⟨vs, x, hS, hx⟩, fun y H' ⟨e1, e2⟩ => ?_⟩
  subst e1
  have := e2 vs hS
  rw [hx] at this
  cases this
  exact ⟨ds[i], by simp [hi], .refl _, rx⟩
theorem walks_str {H1 : Hp} {z : Str} : Walks m H1 (Its z) (z.cps.toList.map fun c => .str ⟨#[c]⟩) := by
  intro i H e
  refine ⟨fun hi => ?_, fun hi => ?_⟩
  · rw [List.length_map, Array.length_toList] at hi
    refine ⟨hi, fun y H' ⟨e1, c, e2, e3⟩ => ?_⟩
    subst e1 e3
    exact ⟨.str ⟨#[c]⟩, by simp [e2], .refl _, .str _⟩
  · rw [List.length_map, Array.length_toList] at hi
    exact Nat.le_of_eq hi.symm
theorem walks_rng {H1 : Hp} {lo : Int} {n : Nat} : Walks m H1 (Itr lo n) (rangeD lo n) := by
  intro i H e
  have hl : (rangeD lo n).length = n := by simp [rangeD]
  rw [hl]
  refine ⟨fun hi => ⟨hi, fun y H' ⟨e1, e2⟩ => ?_⟩, fun hi => Nat.le_of_eq hi.symm⟩
  subst e1 e2
  exact ⟨.int (lo + i), by simp [rangeD, hi], .refl _, .int _⟩
theorem zip2_len : ∀ (xs ys : List D), (zip2 xs ys).length = min xs.length ys.length
  | [], _ => by simp [zip2]
  | _ :: _, [] => by simp [zip2]
  | x :: xs, y :: ys => by rw [zip2, List.length_cons, zip2_len xs ys, List.length_cons, List.length_cons]; omega
theorem zip2_get : ∀ {xs ys : List D} {i : Nat} {a b : D}, xs[i]? = some a → ys[i]? = some b → (zip2 xs ys)[i]? = some (.tup [a, b])
  | [], _, _, _, _, h, _ => by simp at h
  | _ :: _, [], _, _, _, _, h => by simp at h
  | x :: xs, y :: ys, 0, a, b, h, k => by simp at h k; simp [zip2, h, k]
  | x :: xs, y :: ys, i + 1, a, b, h, k => by
    have := zip2_get (xs := xs) (ys := ys) (i := i) (a := a) (b := b) (by simpa using h) (by simpa using k)
    simpa [zip2] using this
theorem zip3_len : ∀ (xs ys zs : List D), (zip3 xs ys zs).length = min (min xs.length ys.length) zs.length
  | [], _, _ => by simp [zip3]
  | _ :: _, [], _ => by simp [zip3]
  | _ :: _, _ :: _, [] => by simp [zip3]
  | x :: xs, y :: ys, z :: zs => by rw [zip3, List.length_cons, zip3_len xs ys zs, List.length_cons, List.length_cons, List.length_cons]; omega
theorem zip3_get : ∀ {xs ys zs : List D} {i : Nat} {a b c : D}, xs[i]? = some a → ys[i]? = some b → zs[i]? = some c → (zip3 xs ys zs)[i]? = some (.tup [a, b, c])
  | [], _, _, _, _, _, _, h, _, _ => by simp at h
  | _ :: _, [], _, _, _, _, _, _, h, _ => by simp at h
  | _ :: _, _ :: _, [], _, _, _, _, _, _, h => by simp at h
  | x :: xs, y :: ys, z :: zs, 0, a, b, c, h, k, l => by simp at h k l; simp [zip3, h, k, l]
  | x :: xs, y :: ys, z :: zs, i + 1, a, b, c, h, k, l => by
    have := zip3_get (xs := xs) (ys := ys) (zs := zs) (i := i) (a := a) (b := b) (c := c) (by simpa using h) (by simpa using k) (by simpa using l)
    simpa [zip3] using this
/-- it stays what it is -/
def SqF (m : Mx) (K : PySem.W.Frag) (H1 : Hp) (b : Bool) (p : Addr) (vs : List V) : Prop := ∀ H, FSame H1 H → SqS K H b p vs
theorem walks_z2 {K : PySem.W.Frag} {H1 : Hp} {b c : Bool} {p q : Addr} {vs us : List V} {ds es : List D} (hH : SqF m K H1 b p vs) (hH2 : SqF m K H1 c q us) (rl : RepL m H1 vs ds) (rl2 : RepL m H1 us es) : Walks m H1 (Iz2 K b c p q) (zip2 ds es) := by
  intro i H e
  have hS := hH H e
  have hS2 := hH2 H e
  have r1 := rl.mono e
  have r2 := rl2.mono e
  rw [zip2_len]
  have n1 := r1.length
  have n2 := r2.length
  refine ⟨fun hi => ?_, fun hi => ⟨vs, us, hS, hS2, by omega, by omega, by omega⟩⟩
  have h1 : i < ds.length := by omega
  have h2 : i < es.length := by omega
  obtain ⟨x, hx, rx⟩ := r1.get' (i := i) (d := ds[i]) (by simp [h1])
  obtain ⟨y, hy, ry⟩ := r2.get' (i := i) (d := es[i]) (by simp [h2])
  refine ⟨⟨vs, us, x, y, hS, hS2, hx, hy⟩, fun v H' ⟨T, x', y', e0, hT, e1, e2, e3⟩ => ?_⟩
  subst e0 e1
  have q1 := e2 vs hS
  have q2 := e3 us hS2
  rw [hx] at q1; rw [hy] at q2
  cases q1; cases q2
  have sm : Same H (upd H T (.tup [x, y])) := same_upd hT
  exact ⟨_, zip2_get (a := ds[i]) (b := es[i]) (by simp [h1]) (by simp [h2]), sm, .tup (.inl (.inl upd_same)) (.cons (rx.mono (.of sm)) (.cons (ry.mono (.of sm)) .nil))⟩
theorem walks_z3 {K : PySem.W.Frag} {H1 : Hp} {b c d : Bool} {p q r : Addr} {vs us ws : List V} {ds es fs : List D} (hH : SqF m K H1 b p vs) (hH2 : SqF m K H1 c q us) (hH3 : SqF m K H1 d r ws) (rl : RepL m H1 vs ds) (rl2 : RepL m H1 us es) (rl3 : RepL m H1 ws fs) : Walks m H1 (Iz3 K b c d p q r) (zip3 ds es fs) := by
  intro i H e
  have hS := hH H e
  have hS2 := hH2 H e
  have hS3 := hH3 H e
  have r1 := rl.mono e
  have r2 := rl2.mono e
  have r3 := rl3.mono e
  rw [zip3_len]
  have n1 := r1.length
  have n2 := r2.length
  have n3 := r3.length
  refine ⟨fun hi => ?_, fun hi => ⟨vs, us, ws, hS, hS2, hS3, by omega, by omega, by omega, by omega⟩⟩
  have h1 : i < ds.length := by omega
  have h2 : i < es.length := by omega
  have h3 : i < fs.length := by omega
  obtain ⟨x, hx, rx⟩ := r1.get' (i := i) (d := ds[i]) (by simp [h1])
  obtain ⟨y, hy, ry⟩ := r2.get' (i := i) (d := es[i]) (by simp [h2])
  obtain ⟨z, hz, rz⟩ := r3.get' (i := i) (d := fs[i]) (by simp [h3])
  refine ⟨⟨vs, us, ws, x, y, z, hS, hS2, hS3, hx, hy, hz⟩, fun v H' ⟨T, x', y', z', e0, hT, e1, e2, e3, e4⟩ => ?_⟩
  subst e0 e1
  have q1 := e2 vs hS
  have q2 := e3 us hS2
  have q3 := e4 ws hS3
  rw [hx] at q1; rw [hy] at q2; rw [hz] at q3
  cases q1; cases q2; cases q3
  have sm : Same H (upd H T (.tup [x, y, z])) := same_upd hT
  exact ⟨_, zip3_get (a := ds[i]) (b := es[i]) (c := fs[i]) (by simp [h1]) (by simp [h2]) (by simp [h3]), sm, .tup (.inl (.inl upd_same)) (.cons (rx.mono (.of sm)) (.cons (ry.mono (.of sm)) (.cons (rz.mono (.of sm)) .nil)))⟩
theorem enumD_len : ∀ (n : Nat) (xs : List D), (enumD n xs).length = xs.length
  | _, [] => rfl
  | n, x :: r => by simp [enumD, enumD_len (n + 1) r]
theorem enumD_get : ∀ {xs : List D} {n i : Nat} {a : D}, xs[i]? = some a → (enumD n xs)[i]? = some (.tup [.int ((n + i : Nat) : Int), a])
  | [], _, _, _, h => by simp at h
  | x :: xs, n, 0, a, h => by simp at h; simp [enumD, h]
  | x :: xs, n, i + 1, a, h => by
    have := enumD_get (xs := xs) (n := n + 1) (i := i) (a := a) (by simpa using h)
    rw [show n + (i + 1) = n + 1 + i by omega]
    simpa [enumD] using this
theorem walks_enum {K : PySem.W.Frag} {H1 : Hp} {p : Addr} {vs : List V} {ds : List D} (hH : FzL H1 p vs) (rl : RepL m H1 vs ds) : Walks m H1 (Ite K p) (enumD 0 ds) := by
  intro i H e
  have hS := (hH.mono e).sq (K := K)
  have r1 := rl.mono e
  rw [enumD_len]
  refine ⟨fun hi => ?_, fun hi => ⟨vs, hS, by rw [r1.length]; omega⟩⟩
  obtain ⟨x, hx, rx⟩ := r1.get' (i := i) (d := ds[i]) (by simp [hi])
  refine ⟨⟨vs, x, hS, hx⟩, fun v H' ⟨T, x', e0, hT, e1, e2⟩ => ?_⟩
  subst e0 e1
  have q1 := e2 vs hS
  rw [hx] at q1
  cases q1
  have sm : Same H (upd H T (.tup [.int (i : Nat), x])) := same_upd hT
  refine ⟨_, enumD_get (a := ds[i]) (n := 0) (by simp [hi]), sm, ?_⟩
  rw [Nat.zero_add]
  exact .tup (.inl (.inl upd_same)) (.cons (.int _) (.cons (rx.mono (.of sm)) .nil))
end
section
variable {nm : Nms} {m : Mx} {Z : Sem0} {H0 : Hp} {W : WX} {N : List Str} {sc : Scope} {cm : Bool} {X : Cx} {x y z w tg : Expr} {a b c : E} {pos : Pos}
theorem piImp {t t' : TI} (h : PI X tg x t) (i : ∀ σ H R, t' σ H R → t σ H R) : PI X tg x t' := ⟨fun pins s σ H R I q => h.run pins s σ H R I (i σ H R q)⟩
theorem r_it_e (o : Okx nm m Z W N sc cm X) (ha : PE X x (tF m Z H0 W a)) : PI X tg x (tI m Z H0 W (.e a)) := by
  refine ⟨fun pins s σV H R I ⟨σ, g, r⟩ => ?_⟩
  have r : Run H (XW m W σV) ((ev Z.G Z.C σ a).bind fun x => itemsD x) fun ds => ∀ J H1, Same H H1 → Walks m H1 J ds → R J H1 := r
  cases hd : ev Z.G Z.C σ a with
  | ok d =>
    have go : (∃ xs, d = .lst xs) ∨ (∃ xs, d = .tup xs) ∨ (∃ xs, d = .str xs) := by
      rw [hd] at r
      have r : Run H (XW m W σV) (itemsD d) fun ds => ∀ J H1, Same H H1 → Walks m H1 J ds → R J H1 := r
      cases d with
      | lst xs => exact .inl ⟨_, rfl⟩
      | tup xs => exact .inr (.inl ⟨_, rfl⟩)
      | str xs => exact .inr (.inr ⟨_, rfl⟩)
      | _ => exact r.elim
    rcases go with ⟨xs, rfl⟩ | ⟨xs, rfl⟩ | ⟨xs, rfl⟩
    · refine (pi_list ha).run pins s σV H R I ⟨σ, g, r.bind.imp fun d hd' r1 v H1 e1 rv => ?_⟩
      rw [hd] at hd'; cases hd'
      cases rv with
      | lst hH rl => exact ⟨_, rfl, ⟨_, hH.sq⟩, (show ∀ J H1, Same H H1 → Walks m H1 J xs → R J H1 from r1) _ _ e1 (walks_list hH rl)⟩
    · refine (pi_tup ha).run pins s σV H R I ⟨σ, g, r.bind.imp fun d hd' r1 v H1 e1 rv => ?_⟩
      rw [hd] at hd'; cases hd'
      cases rv with
      | tup hH rl => exact ⟨_, rfl, ⟨_, o.hm ▸ hH⟩, (show ∀ J H1, Same H H1 → Walks m H1 J xs → R J H1 from r1) _ _ e1 (walks_tup o.hm hH rl)⟩
    · refine (pi_str ha).run pins s σV H R I ⟨σ, g, r.bind.imp fun d hd' r1 v H1 e1 rv => ?_⟩
      rw [hd] at hd'; cases hd'
      cases rv with
      | str => exact ⟨_, rfl, (show ∀ J H1, Same H H1 → Walks m H1 J _ → R J H1 from r1) _ _ e1 walks_str⟩
  | exc c => exact (pi_list ha).run pins s σV H R I ⟨σ, g, r.bind.imp fun d hd' _ => by rw [hd] at hd'; cases hd'⟩
  | stk => rw [hd] at r; exact r.elim
theorem midR_ok {i : Int} (h : midR i = true) : -(2 ^ 62) ≤ i ∧ i < 2 ^ 62 := by
  have := log_lt (of_decide_eq_true h)
  have e : (2 : Nat) ^ 61 = 2305843009213693952 := by decide
  rw [e] at this
  omega
theorem r_it_rg1 (o : Okx nm m Z W N sc cm X) (hn : biIs sc "range" w = true) (hs : notStar x = true) (ha : PE X x (tRd m Z H0 W a)) : PI X tg (.Call w [x] [] pos) (tI m Z H0 W (.rg1 a)) := by
  obtain ⟨p, rfl, hg, hm⟩ := bi_nm o hn
  refine piImp (pi_range1 hg hm (pa_one hs ha) (star_cons hs _ _)) fun σV H R ⟨σ, g, r⟩ => ?_
  have r : Run H (XW m W σV) ((ev Z.G Z.C σ a).bind fun x => (asI x).bind fun n => if midR n then .ok (rangeD 0 n.toNat) else .stk) fun ds => ∀ J H1, Same H H1 → Walks m H1 J ds → R J H1 := r
  refine ⟨σ, g, r.bind.imp fun d _ r1 v H1 e1 rv => ?_⟩
  obtain ⟨i, rfl, r2⟩ := asI_ok r1.bind
  by_cases c : midR i = true
  · rw [if_pos c] at r2
    obtain ⟨m1, m2⟩ := midR_ok c
    exact ⟨i, by rw [rv.intE], m1, m2, (show ∀ J H1, Same H H1 → Walks m H1 J (rangeD 0 i.toNat) → R J H1 from r2) _ _ e1 walks_rng⟩
  · rw [if_neg c] at r2; exact r2.elim
theorem r_it_rg2 (o : Okx nm m Z W N sc cm X) (hn : biIs sc "range" w = true) (hs : notStar x = true) (hs2 : notStar y = true) (ha : PE X x (tRd m Z H0 W a)) (hb : PE X y (tRd m Z H0 W b)) : PI X tg (.Call w [x, y] [] pos) (tI m Z H0 W (.rg2 a b)) := by
  obtain ⟨p, rfl, hg, hm⟩ := bi_nm o hn
  refine piImp (pi_range2 hg hm (pa_two hs hs2 ha hb) (by rw [star_cons hs, star_cons hs2]; rfl) (star_cons hs2 _ _)) fun σV H R ⟨σ, g, r⟩ => ?_
  have r : Run H (XW m W σV) ((ev Z.G Z.C σ a).bind fun x => (ev Z.G Z.C σ b).bind fun y => (asI x).bind fun lo => (asI y).bind fun hi => if midR lo && midR hi then .ok (rangeD lo (hi - lo).toNat) else .stk) fun ds => ∀ J H1, Same H H1 → Walks m H1 J ds → R J H1 := r
  refine ⟨σ, g, r.bind.imp fun d _ r1 v H1 e1 rv => ⟨σ, g.of_same e1, (Run.same r1 e1).bind.imp fun e _ r2 v2 H2 e2 rv2 => ?_⟩⟩
  obtain ⟨i, rfl, r3⟩ := asI_ok r2.bind
  obtain ⟨j, rfl, r4⟩ := asI_ok r3.bind
  by_cases c : (midR i && midR j) = true
  · rw [if_pos c] at r4
    obtain ⟨c1, c2⟩ := Bool.and_eq_true_iff.mp c
    obtain ⟨m1, m2⟩ := midR_ok c1
    obtain ⟨m3, m4⟩ := midR_ok c2
    exact ⟨i, j, by rw [rv.intE, rv2.intE], ⟨m1, m2, m3, m4⟩, (show ∀ J H1, Same H H1 → Walks m H1 J (rangeD i (j - i).toNat) → R J H1 from r4) _ _ (e1.trans e2) walks_rng⟩
  · rw [if_neg c] at r4; exact r4.elim
theorem zipD_nx (d e : D) : ∀ c, zipD d e ≠ .exc c := by intro c; unfold zipD; split <;> simp
/-- a list or a tuple, as it is told -/
theorem rep_seq {H : Hp} {v : V} {d : D} {ds : List D} (o : Okx nm m Z W N sc cm X) (rv : Rep m H v d) (h : seqD d = .ok ds) : ∃ b p vs, v = .ref p ∧ SqF m X.K H b p vs ∧ RepL m H vs ds := by
  unfold seqD at h
  split at h
  · cases h
    cases rv with
    | lst h1 l1 => exact ⟨false, _, _, rfl, fun H' e => (h1.mono e).sq (K := X.K), l1⟩
  · cases h
    cases rv with
    | tup h1 l1 => exact ⟨true, _, _, rfl, fun H' e => by
        have := sqT_mono e h1
        rw [o.hm] at this
        exact this, l1⟩
  · cases h
theorem zipD_seq {d e : D} {ds : List D} (h : zipD d e = .ok ds) : ∃ xs ys, seqD d = .ok xs ∧ seqD e = .ok ys ∧ ds = zip2 xs ys := by
  unfold zipD at h
  split at h <;> cases h <;> exact ⟨_, _, rfl, rfl, rfl⟩
theorem r_it_zip {elts : List Expr} {kk : Nat} {tpos : Pos} (o : Okx nm m Z W N sc cm X) (hn : biIs sc "zip" w = true) (hs : notStar x = true) (hs2 : notStar y = true) (ha : PE X x (tF m Z H0 W a)) (hb : PE X y (tF m Z H0 W b)) :
    PI X (.Tuple elts kk tpos) (.Call w [x, y] [] pos) (tI m Z H0 W (.zip a b)) := by
  obtain ⟨p, rfl, hg, hm⟩ := bi_nm o hn
  refine piImp (pi_z2 hg hm (pa_two hs hs2 ha hb) (star_cons hs _ _) (star_any (by simp [hs2]))) fun σV H R ⟨σ, g, r⟩ => ?_
  have r : Run H (XW m W σV) ((ev Z.G Z.C σ a).bind fun x => (ev Z.G Z.C σ b).bind fun y => zipD x y) fun ds => ∀ J H1, Same H H1 → Walks m H1 J ds → R J H1 := r
  refine ⟨σ, g, r.bind.imp fun d _ r1 v H1 e1 rv => ⟨σ, g.of_same e1, (Run.same r1 e1).bind.imp fun e _ r2 v2 H2 e2 rv2 => ?_⟩⟩
  obtain ⟨ds, hds, q⟩ := r2.pure (zipD_nx _ _)
  have rv := rv.mono (.of e2)
  obtain ⟨xs, ys, h1, h2, rfl⟩ := zipD_seq hds
  obtain ⟨b1, p1, vs1, rfl, f1, l1⟩ := rep_seq o rv h1
  obtain ⟨b2, p2, vs2, rfl, f2, l2⟩ := rep_seq o rv2 h2
  exact ⟨b1, b2, p1, p2, vs1, vs2, rfl, f1 _ (.refl _), f2 _ (.refl _), q _ _ (e1.trans e2) (walks_z2 f1 f2 l1 l2)⟩
theorem r_it_zip3 {elts : List Expr} {kk : Nat} {tpos : Pos} (o : Okx nm m Z W N sc cm X) (hn : biIs sc "zip" w = true) (hs : notStar x = true) (hs2 : notStar y = true) (hs3 : notStar z = true) (ha : PE X x (tF m Z H0 W a)) (hb : PE X y (tF m Z H0 W b)) (hc : PE X z (tF m Z H0 W c)) :
    PI X (.Tuple elts kk tpos) (.Call w [x, y, z] [] pos) (tI m Z H0 W (.zip3 a b c)) := by
  obtain ⟨p, rfl, hg, hm⟩ := bi_nm o hn
  refine piImp (pi_z3 hg hm (pa_cons ha (pa_two hs2 hs3 hb hc) (star_cons hs _ _)) (star_cons hs _ _) (star_any (by simp [hs2, hs3]))) fun σV H R ⟨σ, g, r⟩ => ?_
  have r : Run H (XW m W σV) ((ev Z.G Z.C σ a).bind fun x => (ev Z.G Z.C σ b).bind fun y => (ev Z.G Z.C σ c).bind fun z => (seqD x).bind fun xs => (seqD y).bind fun ys => (seqD z).bind fun zs => .ok (zip3 xs ys zs)) fun ds => ∀ J H1, Same H H1 → Walks m H1 J ds → R J H1 := r
  refine ⟨σ, g, r.bind.imp fun d _ r1 v H1 e1 rv => ⟨σ, g.of_same e1, (Run.same r1 e1).bind.imp fun e _ r2 v2 H2 e2 rv2 => ⟨σ, g.of_same (e1.trans e2), (Run.same r2 e2).bind.imp fun f _ r3 v3 H3 e3 rv3 => ?_⟩⟩⟩
  obtain ⟨xs, h1, r4⟩ := r3.bind.pure (seqD_nx _)
  obtain ⟨ys, h2, r5⟩ := (show Run _ _ ((seqD e).bind _) _ from r4).bind.pure (seqD_nx _)
  obtain ⟨zs, h3, q⟩ := (show Run _ _ ((seqD f).bind _) _ from r5).bind.pure (seqD_nx _)
  have rv := rv.mono (.of (e2.trans e3))
  have rv2 := rv2.mono (.of e3)
  obtain ⟨b1, p1, vs1, rfl, f1, l1⟩ := rep_seq o rv h1
  obtain ⟨b2, p2, vs2, rfl, f2, l2⟩ := rep_seq o rv2 h2
  obtain ⟨b3, p3, vs3, rfl, f3, l3⟩ := rep_seq o rv3 h3
  exact ⟨b1, b2, b3, p1, p2, p3, vs1, vs2, vs3, rfl, f1 _ (.refl _), f2 _ (.refl _), f3 _ (.refl _), (show ∀ J H1, Same H H1 → Walks m H1 J (zip3 xs ys zs) → R J H1 from q) _ _ (e1.trans (e2.trans e3)) (walks_z3 f1 f2 f3 l1 l2 l3)⟩
theorem r_it_enum {elts : List Expr} {kk : Nat} {tpos : Pos} (o : Okx nm m Z W N sc cm X) (hn : biIs sc "enumerate" w = true) (hs : notStar x = true) (ha : PE X x (tF m Z H0 W a)) :
    PI X (.Tuple elts kk tpos) (.Call w [x] [] pos) (tI m Z H0 W (.enum a)) := by
  obtain ⟨p, rfl, hg, hm⟩ := bi_nm o hn
  refine piImp (pi_enum hg hm (pa_one hs ha) (star_cons hs _ _)) fun σV H R ⟨σ, g, r⟩ => ?_
  have r : Run H (XW m W σV) ((ev Z.G Z.C σ a).bind fun x => (asL x).bind fun xs => .ok (enumD 0 xs)) fun ds => ∀ J H1, Same H H1 → Walks m H1 J ds → R J H1 := r
  refine ⟨σ, g, r.bind.imp fun d _ r1 v H1 e1 rv => ?_⟩
  obtain ⟨ds, rfl, r2⟩ := asL_ok r1.bind
  cases rv with
  | lst h1 l1 => exact ⟨_, _, rfl, h1.sq, (show ∀ J H1, Same H H1 → Walks m H1 J (enumD 0 ds) → R J H1 from r2) _ _ e1 (walks_enum h1 l1)⟩

/-! ### comprehensions -/
theorem wipe_get {σV : L2.St} {i : Nat} : ∀ {vs : List Nat}, (wipe σV vs)[i]? = if i ∈ vs then (if i < σV.length then some none else none) else σV[i]?
  | [] => by simp [wipe]
  | v :: vs => by
    unfold wipe
    have ih := wipe_get (σV := σV) (i := i) (vs := vs)
    by_cases h : v = i
    · subst h
      rw [if_pos (List.mem_cons_self ..)]
      by_cases hl : v < σV.length
      · rw [List.getElem?_set_self (by rw [wipe_length]; exact hl), if_pos hl]
      · rw [List.getElem?_eq_none (by rw [List.length_set, wipe_length]; omega), if_neg hl]
    · rw [List.getElem?_set_ne h, ih]
      by_cases h2 : i ∈ vs
      · rw [if_pos h2, if_pos (List.mem_cons_of_mem _ h2)]
      · rw [if_neg h2, if_neg (by simp [Ne.symm h, h2])]
theorem wipe_keep {vs : List Nat} {σV σV' : L2.St} (k : Keeps vs (wipe σV vs) σV') : wipe σV' vs = wipe σV vs := by
  obtain ⟨k1, k2⟩ := k
  rw [wipe_length] at k1
  refine List.ext_getElem? fun i => ?_
  rw [wipe_get, wipe_get]
  by_cases h : i ∈ vs
  · rw [if_pos h, if_pos h, k1]
  · rw [if_neg h, if_neg h, k2 i h, wipe_get, if_neg h]
theorem wipeS_len {σ : List Sl} : ∀ {vs : List Nat}, (wipeS σ vs).length = σ.length
  | [] => rfl
  | v :: vs => by unfold wipeS; rw [len_st1, wipeS_len]
theorem wipeS_lk {σ : List Sl} {i : Nat} : ∀ {vs : List Nat}, lk (wipeS σ vs) i = if i ∈ vs then .no else lk σ i
  | [] => by simp [wipeS]
  | v :: vs => by
    unfold wipeS
    have ih := wipeS_lk (σ := σ) (i := i) (vs := vs)
    by_cases h : v = i
    · subst h
      rw [if_pos (List.mem_cons_self ..)]
      by_cases hl : v < (wipeS σ vs).length
      · rw [lk_st1 hl]
      · rw [lk_out (by rw [len_st1]; omega)]
    · rw [lk_st1_ne h, ih]
      by_cases h2 : i ∈ vs
      · rw [if_pos h2, if_pos (List.mem_cons_of_mem _ h2)]
      · rw [if_neg h2, if_neg (by simp [Ne.symm h, h2])]
theorem Good.wipe {H : Hp} {σV : L2.St} {σ : List Sl} (g : Good m H0 H σV σ) (vs : List Nat) : Good m H0 H (wipe σV vs) (wipeS σ vs) := by
  have ow : ∀ j a, Owns H (L2.wipe σV vs)[j]? (lk (wipeS σ vs) j) a → Owns H σV[j]? (lk σ j) a := fun j a w => by
    rw [wipeS_lk, wipe_get] at w
    by_cases h : j ∈ vs
    · simp only [if_pos h] at w; exact w.elim
    · simp only [if_neg h] at w; exact w
  refine ⟨by rw [wipe_length, wipeS_len, g.len], fun i => ?_, fun i j a hij w1 w2 => g.apart i j a hij (ow i a w1) (ow j a w2), g.same, g.tabs⟩
  rw [wipeS_lk, wipe_get]
  by_cases h : i ∈ vs
  · simp only [if_pos h]; exact True.intro
  · simp only [if_neg h]; exact g.sl i
def tTc (m : Mx) (Z : Sem0) (H0 : Hp) (W : WX) (e : Option E) : TT := fun σV H Q => tR m H0 W (fun σ => evc Z.G Z.C σ e) (fun H b => ∀ H', Same H H' → Q b H') σV H
theorem r_cnone : PTs X [] (tTc m Z H0 W none) := ⟨fun pins s σV H Q I ⟨σ, g, r⟩ => pts_nil.run pins s σV H Q I ((show ∀ H', Same H H' → Q true H' from r) H (.refl _))⟩
theorem r_csome (h : PT X x (tTT m Z H0 W a)) : PTs X [x] (tTc m Z H0 W (some a)) := ⟨fun pins s σV H Q I q => (pts_one h).run pins s σV H Q I q⟩
/-- nothing is raised -/
abbrev W0 : WX := fun _ _ _ _ => False
theorem Okx.blk {s : Shared} {H : Hp} {scope : Scope} {C : Addr} {cl : List (Str × Addr)} {fp : List Addr} (o : Okx nm m Z W N sc cm X) (hc' : cm = true) : Okx nm m Z W0 N (relS scope sc) cm (X.blk s H scope (compEnvC scope cl C X.env) fp) where
  hm := o.hm
  hu := o.hu
  tk := fun u s' ⟨_, _, _, _, _, _, _, _, _, _, _, _, _, _, _, _, w⟩ => w.elim
  hN := o.hN
  nod := o.nod
  hsc := by rw [← o.hsc]; rfl
  hc := o.hc
  gl := o.gl
  glx := o.glx
  fn := o.fn
  bi := o.bi
  xcm := o.xcm
  mgx := o.mgx
  exm := o.exm
  kit := o.kit
  kitV := o.kitV
  exC := o.exC
  cool := o.cool
  hot := fun a c z => by rw [o.cool hc'] at z; cases z
  told := o.told
theorem noX_ok {α : Type} {H : Hp} {XW : Nat → Hp → Prop} {r : R α} {k : α → Prop} (h : Run H XW (noX r) k) : ∃ a, r = .ok a ∧ k a := by
  cases r with
  | ok a => exact ⟨a, rfl, h⟩
  | exc c => exact h.elim
  | stk => exact h.elim
theorem bind_ok_iff {α β : Type} {r : R α} {f : α → R β} {b : β} (h : r.bind f = .ok b) : ∃ a, r = .ok a ∧ f a = .ok b := by
  cases r with
  | ok a => exact ⟨a, rfl, h⟩
  | exc c => cases h
  | stk => cases h
theorem i_lc {elt : E} {tg : Tg} {it : It} {cond : Option E} {σV : L2.St} {H : Hp} {Q : VK} (h : tN m Z H0 W (.lc elt tg it cond) σV H Q) :
    tLc (tI m Z H0 W it) (tTg m H0 tg) (tTc m Z H0 W0 cond) (tF m Z H0 W0 elt) (tgv tg) σV H Q := by
  obtain ⟨σ, g, r⟩ := h
  have r : Run H (XW m W σV) ((evi Z.G Z.C σ it).bind fun xs => noX ((lcGo (fun x => asg tg x (wipeS σ (tgv tg))) (fun σ => evc Z.G Z.C σ cond) (fun σ => ev Z.G Z.C σ elt) xs).bind mkL)) fun d => Yld m H d Q := r
  refine ⟨σ, g, r.bind.imp fun ds _ r1 J H1 e1 wk D hD => ?_⟩
  obtain ⟨d, hd, q⟩ := noX_ok r1
  obtain ⟨ys, hy, hd⟩ := bind_ok_iff hd
  unfold mkL at hd
  split at hd
  case isFalse => cases hd
  rename_i hlen
  cases hd
  have hz := sizeMax_eq
  have g1 := g.of_same e1
  refine ⟨fun i mm H2 => mm = ds.length - i ∧ i ≤ ds.length ∧ ∃ acc ya yb, H2 D = some (.lst acc) ∧ RepL m H2 acc ya ∧ lcGo (fun x => asg tg x (wipeS σ (tgv tg))) (fun σ => evc Z.G Z.C σ cond) (fun σ => ev Z.G Z.C σ elt) (ds.drop i) = .ok yb ∧ ya ++ yb = ys ∧ Same H1 H2,
    ⟨ds.length, by simp, Nat.zero_le _, [], [], ys, upd_same, .nil, by simpa using hy, rfl, same_upd hD⟩, ?_⟩
  rintro i mm H2 ⟨rfl, hi, acc, ya, yb, hacc, rl, hgo, hsum, sm⟩
  by_cases hlt : i < ds.length
  · obtain ⟨w1, _⟩ := wk i H2 (.of sm)
    obtain ⟨hgo1, hy1⟩ := w1 hlt
    refine .inr ⟨hgo1, fun H' => ∃ acc ya yb, H' D = some (.lst acc) ∧ RepL m H' acc ya ∧ lcGo (fun x => asg tg x (wipeS σ (tgv tg))) (fun σ => evc Z.G Z.C σ cond) (fun σ => ev Z.G Z.C σ elt) (ds.drop (i + 1)) = .ok yb ∧ ya ++ yb = ys ∧ Same H1 H',
      fun H' nx => ⟨ds.length - (i + 1), by omega, rfl, hlt, nx⟩, fun x H' yl => ?_⟩
    obtain ⟨d, hd, s2, rd⟩ := hy1 x H' yl
    have hdrop : ds.drop i = d :: ds.drop (i + 1) := by
      rw [List.drop_eq_getElem_cons hlt]
      rw [List.getElem?_eq_getElem hlt] at hd
      cases hd; rfl
    rw [hdrop] at hgo
    simp only [lcGo] at hgo
    obtain ⟨σ1, ha, hgo⟩ := bind_ok_iff hgo
    obtain ⟨bb, hb, hgo⟩ := bind_ok_iff hgo
    have gw : Good m H0 H' (L2.wipe σV (tgv tg)) (wipeS σ (tgv tg)) := (g1.of_same (sm.trans s2)).wipe _
    refine ⟨_, d, gw, rd, σ1, ha, fun σV' g' k' => ⟨wipe_keep k', σ1, g', ?_⟩⟩
    show Run _ _ (evc Z.G Z.C σ1 cond) _
    rw [hb]
    intro H3 e3
    cases bb with
    | false =>
      rw [if_neg Bool.false_ne_true]
      exact ⟨acc, ya, yb, e3.k _ _ (s2.k _ _ hacc rfl) rfl, rl.mono (.of (s2.trans e3)), hgo, hsum, sm.trans (s2.trans e3)⟩
    | true =>
      rw [if_pos rfl]
      obtain ⟨y, hy2, hgo⟩ := bind_ok_iff hgo
      obtain ⟨yr, hyr, hgo⟩ := bind_ok_iff hgo
      cases hgo
      refine ⟨σ1, g'.of_same e3, ?_⟩
      show Run _ _ (ev Z.G Z.C σ1 elt) _
      rw [hy2]
      intro z H4 e4 rz
      have hD4 : H4 D = some (.lst acc) := e4.k _ _ (e3.k _ _ (s2.k _ _ hacc rfl) rfl) rfl
      have fs : FSame H4 (upd H4 D (.lst (acc ++ [z]))) := fsame_upd hD4 fun z => z
      have rl4 : RepL m H4 acc ya := rl.mono (.of (s2.trans (e3.trans e4)))
      refine ⟨acc, hD4, ?_, acc ++ [z], ya ++ [y], yr, upd_same, (rl4.append (.cons rz .nil)).mono fs, hyr, by rw [List.append_assoc]; exact hsum, ?_⟩
      · have l1 := rl.length
        have l2 : ya.length + (y :: yr).length = ys.length := by rw [← hsum, List.length_append]
        rw [List.length_cons] at l2
        omega
      · refine ⟨fun b u hb c => ?_, fun t => fs.t (e4.t (e3.t (s2.t (sm.t t))))⟩
        have : b ≠ D := ne_of_none hb hD
        rw [upd_ne this]
        exact e4.k _ _ (e3.k _ _ (s2.k _ _ (sm.k _ _ hb c) c) c) c
  · have e : i = ds.length := by omega
    subst e
    rw [List.drop_length] at hgo
    cases hgo
    rw [List.append_nil] at hsum
    subst hsum
    exact .inl ⟨(wk _ H2 (.of sm)).2 rfl, q _ _ (e1.trans sm) (.lst (e1.free (un0 hD)) hacc rl)⟩
theorem folded_no (h : notSet x = true) (env : Env) : ∀ v, foldedSetIterable x env v = pure v := by
  intro v
  cases x <;> first | rfl | cases h
theorem r_lc {elt : E} {tg : Tg} {it : It} {cond : Option E} {xelt xtg xit : Expr} {ifs : List Expr} {scope : Scope} {own : List (Str × Nat)} (o : Okx nm m Z W N sc cm X) (hc : cm = true) (hown : blkC N sc scope own = true) (hov : own.map (·.2) = tgv tg)
    (hT : okT N (relS scope sc) (fun x => scope.names.lookup x == some .cell) tg xtg = true) (hset : notSet xit = true) (hI : PI X xtg xit (tI m Z H0 W it))
    (hcond : ∀ X', Okx nm m Z W0 N (relS scope sc) cm X' → PTs X' ifs (tTc m Z H0 W0 cond)) (helt : ∀ X', Okx nm m Z W0 N (relS scope sc) cm X' → PE X' xelt (tF m Z H0 W0 elt)) :
    PE X (.ListComp xelt [⟨xtg, xit, ifs, 0⟩] scope pos) (tN m Z H0 W (.lc elt tg it cond)) := by
  have ok : BlkOk X.N X.env.scope scope own := by rw [o.hN, o.hsc]; exact blkOk_by hown
  refine peImp (pe_lc (o.hc hc) (by rw [o.hN]; exact o.nod) hI ok (fun s H C cl fp => r_tg (H0 := H0) (o.blk hc (s := s) (H := H) (scope := scope) (C := C) (cl := cl) (fp := fp)) (o.hc hc) (fun x h => h) tg xtg hT)
    (fun s H C cl fp => hcond _ (o.blk hc)) (fun s H C cl fp => helt _ (o.blk hc)) (folded_no hset _)) fun σV H Q h => ?_
  rw [hov]
  exact i_lc h
end
end Fc
/-! Ev2t: an error that was caught is kept as a value. -/
namespace Fc
open PySem PySem.Spec
open PyProof.Rows L2
variable [Tb]

section
variable {X : Cx} {pins : List (Addr × Obj)} {σ : L2.St} {H : Hp} {s : Shared}
/-- a thing that is there, but was not told of, is told of from now on -/
theorem inv_adopt {a : Addr} {o : HO} (I : Inv X pins σ H s) (na : H a = none) (hx : X.ex = []) (new : X.s_0.heap.get? a = none) (nL : a ≠ X.env.locals) (nc : ∀ x c, X.env.cells.lookup x = some c → c ≠ a)
    (np : ∀ p ∈ X.pn ++ pins, p.1 ≠ a) (ok : ObjOk X.prog X.w (upd H a o) s.heap a o) : Inv X pins σ (upd H a o) s := by
  have ne : ∀ {b : Addr} {u : HO}, H b = some u → b ≠ a := fun e => ne_of_none e na
  refine ⟨I.ok, I.os, I.bare, ⟨I.base.keep, I.base.slot, fun b ob e n hb => ?_, I.base.there, fun b xs e => ?_, fun b ob u e => ?_, fun b ps e => ?_⟩, I.loc, I.cell, ?_, fun x c e => ?_, fun p hp => ?_, fun b u e => ?_, I.len⟩
  · have : b ≠ a := fun z => by rw [z, new] at e; cases e
    rw [upd_ne this]; exact I.base.free b ob e n hb
  · have q := I.base.tups b xs e
    rw [upd_ne (ne q)]; exact q
  · have q := I.base.frzs b ob u e
    rw [upd_ne (ne q)]; exact q
  · obtain ⟨more, q⟩ := I.base.tbls b ps e
    exact ⟨more, by rw [upd_ne (ne q)]; exact q⟩
  · rw [upd_ne (fun z => nL z.symm)]; exact I.free
  · rw [upd_ne (nc x c e)]; exact I.freeC x c e
  · obtain ⟨p1, p2, p3, p4, p5⟩ := I.pin p hp
    exact ⟨p1, by rw [upd_ne (np p hp)]; exact p2, p3, p4, p5⟩
  · by_cases hb : b = a
    · subst hb
      rw [upd_same] at e
      cases e
      exact ok
    · rw [upd_ne hb] at e
      exact (I.hok b u e).stay (fun _ _ _ q => q) (fun c q => by rw [upd_ne (ne q)]; exact q) fun c xs q => by rw [upd_ne (ne q)]; exact q
theorem exF_ok {m : Mx} {P : Program} {w : World} {H' : Hp} {h : Heap} {a : Addr} {k : Nat} {oe : Obj} {vs : Array Value} (e : h.get? a = some oe) (z : Zc (.ref (m.ca k)) none oe) (d : oe.data = .fields vs) : ObjOk P w H' h a (ExF m k a) :=
  ⟨⟨oe, vs, e, z, d⟩, ⟨oe, e⟩, fun h1 h2 ⟨oe, vs, e, z, d⟩ st => ⟨oe, vs, st _ e, z, d⟩⟩
end
/-- the wish: of a class below c the error is kept -/
def wKept (m : Mx) (c : Value) (i j : Nat) (Wout : WX) (D : Ends) : WX := fun cls d σ H =>
  ∃ b, PySem.W.exmOne m.K cls c = some b ∧ (b = true → ∃ k, cls = .ref (m.ca k) ∧ d = none ∧ ∀ a, H a = none → D.nx (((σ.set i (some (.ref a))).set j (some (.ref a))).set i none) (upd H a (ExF m k a))) ∧ (b = false → Wout cls d σ H)
section
variable {m : Mx} {X : Cx} {x n kt : Str} {c : Value} {i j : Nat} {body : List Stmt} {np p1 p2 p3 pos pos' : Pos} {tb : WX → TS} {Wout : WX}
theorem ps_tryK (hm : m.K = X.K) (hs : X.stack = X.env :: X.outer) (hf : X.env.frame = some X.env.locals) (hx : X.ex = []) (hN : X.N.Nodup) (hi : X.N[i]? = some n) (hj : X.N[j]? = some kt) (hln : X.env.kindOf n = some .local) (hlk : L2.Loc X.env.scope kt) (hfn : X.fn kt = true ∨ X.env.scope.names.lookup kt = some .local)
    (hv : Vis X.env.scope n) (hd1 : (n == ("__debug__" : Str)) = false) (hd2 : (n == ("__classdict__" : Str)) = false) (hc : Names X x c) (tk : Takes X Wout)
    (hb : ∀ (W : WX) (pn : List (Addr × Obj)) (xe : Value → Shared → Prop), Takes (X.tr pn xe) W → PassesOwn (model X.prog X.w) X.A X.env xe → PSs (X.tr pn xe) body (tb W)) :
    PS X (.Try body [.ExceptHandler (some (.Name x np)) (some n) [.Assign [.Name kt p1] (.Name n p2) p3] pos'] [] [] pos) (fun D σ H => tb (wKept m c i j Wout D) D σ H) := by
  refine ⟨fun pins s σ H D I h => ?_⟩
  have good := I.ok
  have frm : X.A.frames = some (X.env :: X.outer) := by rw [good.frames, hs]
  let hdl : List ExceptHandler := [.ExceptHandler (some (.Name x np)) (some n) [.Assign [.Name kt p1] (.Name n p2) p3] pos']
  let air : Value → Shared → Prop := fun e t1 => wpAny (model X.prog X.w) X.A (noteFrame e X.env) (fun _ t2 => wpAny (model X.prog X.w) X.A (setFlight e none) (fun _ t3 => wpAny (model X.prog X.w) X.A (handleBy e X.env hdl) (SP X pins D) X.xe t3) X.xe t2) X.xe t1
  have caught : Takes (X.tr (X.pn ++ pins) air) (wKept m c i j Wout D) := by
    intro u t xx
    obtain ⟨a, B, sI, pins', σ', H', cls, d, rfl, J', nb, up, sky, na, os, ag, b, eb, yes, no⟩ := xx
    have J := J'.ofTry good
    have sky : Sky B (X.env :: X.outer) a (Zc cls d) X.env.locals t.heap := by rw [← hs]; exact sky
    show wpAny (model X.prog X.w) X.A (noteFrame (.ref a) X.env) _ _ _
    refine Sky.land Zc.steady frm hf sky fun g3 f3 u3 => ?_
    have J3 := J.landed (s' := { t with heap := g3 }) nb f3.1 (up.trans u3) os ag
    obtain ⟨o3, v3, q3, z3, w3⟩ := f3.there
    have out : a ∉ frs (X.env :: X.outer) := fun hm => by
      obtain ⟨_, o', e', nf⟩ := f3.2.2.1.mem hm
      rw [q3] at e'; cases e'
      exact nf _ w3
    have nL : a ≠ X.env.locals := fun z => out (List.mem_filterMap.mpr ⟨_, List.mem_cons_self, by rw [hf, z]⟩)
    have nF : a ∉ X.fs := fun hm => out (by
      obtain ⟨e, he, q⟩ := List.mem_filterMap.mp hm
      exact List.mem_filterMap.mpr ⟨e, List.mem_cons_of_mem _ he, q⟩)
    have young : sI.heap.get? a = none := by
      cases e : sI.heap.get? a with
      | none => rfl
      | some o =>
        have := nb a o e (by rw [hs]; exact out)
        rw [f3.2.1] at this; cases this
    have young0 : X.s_0.heap.get? a = none := by
      cases e : X.s_0.heap.get? a with
      | none => rfl
      | some o =>
        obtain ⟨o', e'⟩ := J.base.there a o e (by rw [hx]; exact List.not_mem_nil)
        rw [young] at e'; cases e'
    have nc : ∀ y c', X.env.cells.lookup y = some c' → c' ≠ a := fun y c' e z => by
      obtain ⟨v, o, ho, _⟩ := J.cell y c' e
      rw [z, young] at ho; cases ho
    have npn : ∀ p ∈ X.pn ++ pins, p.1 ≠ a := fun p hp z => by
      have := (J.pin p hp).1
      rw [z, young] at this; cases this
    have S3 := J3.suite q3 w3 na nL nF
    have looksT : PySem.W.Looks (model X.prog X.w) g3 (typeOf (.ref a)) cls := fun A Q E s k q => wpAny_typeOf_ref (k _ _ q3) (by rw [z3.1]; exact q)
    have looksE := PySem.W.exm_one (M := model X.prog X.w) J3.kIn looksT (hm ▸ eb)
    have name : ∀ {Q E : Value → Shared → Prop}, Q c { t with heap := g3 } → wpAny (model X.prog X.w) (X.A.mark (some (.ref a))) (eval (.Name x np) X.env) Q E { t with heap := g3 } := fun {Q E} q => by
      obtain ⟨k1, k2, k3 | ⟨k3, k4, k5⟩⟩ := hc
      · exact ld_glob (X := X.suite a ((a, o3) :: (X.pn ++ pins))) S3 k1 k3 q k2
      · exact ld_blt (X := X.suite a ((a, o3) :: (X.pn ++ pins))) S3 k1 k3 k4 q k5 k2
    refine wpAny_handleBy_cons (codeAny_handlers_test (name (looksE.here ?_))) (by intro q; cases q)
    cases b with
    | true =>
      obtain ⟨k, rfl, rfl, wish⟩ := yes rfl
      refine codeAny_handlers_suite_as (HandSPX.lands_againZ f3 fun g4 f4 u4 => ?_)
      have J4 := J.landed (s' := { t with heap := g4 }) nb f4.1 ((up.trans u3).trans u4) os ag
      obtain ⟨o4, v4, q4, z4, w4⟩ := f4.there
      have S4 := J4.suite q4 w4 na nL nF
      refine store_ok (X := X.suite a ((a, o4) :: (X.pn ++ pins))) (v := .ref a) S4 hN hi (.inl hln) rfl (fun s5 S5 => ?_) (.inr hln)
      have keep : PSs (X.suite a ((a, o4) :: (X.pn ++ pins))) [.Assign [.Name kt p1] (.Name n p2) p3] _ := pss_one (ps_set (i := j) hN hj hlk (pe_var (X := X.suite a ((a, o4) :: (X.pn ++ pins))) (i := i) (pos := p2) hi hv hd1 hd2) rfl hfn)
      have hil : i < σ'.length := by rw [J4.len]; exact (List.getElem?_eq_some_iff.mp hi).1
      refine wpAny_mono (keep.run [] s5 _ H' ⟨fun σ6 H6 => σ6 = (σ'.set i (some (.ref a))).set j (some (.ref a)) ∧ H6 = H', fun _ _ => False, fun _ _ => False, fun _ _ => False⟩ S5 ⟨.ref a, by simp [hil], rfl, rfl⟩) (fun f s6 r6 => ?_) (fun _ _ z => z.elim)
      cases f with
      | next =>
        obtain ⟨σ6, H6, S6, rfl, rfl⟩ := r6
        have at6 := (S6.pin (a, o4) (List.mem_append_left _ (List.mem_cons_self ..))).1
        have I6 := inv_adopt (o := ExF m k a) (S6.unsuite good) na hx young0 nL nc npn (exF_ok at6 z4 w4)
        exact gone_ok I6 hN hi hln fun s7 J7 => ⟨_, _, J7, wish a na⟩
      | brk => obtain ⟨_, _, _, z⟩ := r6; exact z.elim
      | cont => obtain ⟨_, _, _, z⟩ := r6; exact z.elim
      | ret u => obtain ⟨_, _, _, _, _, z⟩ := r6; exact z.elim
    | false =>
      show wpAny _ X.A (handleBy (.ref a) X.env []) _ _ _
      refine wpAny_handleBy_nil ?_
      obtain ⟨_, _, _, oe, vs, T, oT, ts', he, hz, hd, h1, hr⟩ := id f3
      unfold PySem.passOn
      refine wpAny_bind (wpAny_field he hd h1 ?_)
      rw [if_neg (by simp)]
      have again : wpAny (model X.prog X.w) X.A (setFlight (.ref a) X.env.frame) (fun _ t4 => wpAny (model X.prog X.w) X.A (throw (.ref a) : Sem Flow) (SP X pins D) X.xe t4) X.xe { t with heap := g3 } := by
        rw [hf]
        refine HandSPX.setFlight_upZ f3 fun g4 k4 u4 => wpAny_throw (tk _ _ ⟨a, B, sI, pins, σ', H', cls, d, rfl, J, nb, (up.trans u3).trans u4, .inr (.inr (by rw [hs]; exact k4)), na, os, ag, no rfl⟩)
      first
        | exact wpAny_bind (wpAny_pure (wpAny_bind again))
        | exact wpAny_bind again
  refine wpAny_Try_except (wpAny_mono ((hb (wKept m c i j Wout D) (X.pn ++ pins) air caught PassesOwn.looking).run [] s σ H D (I.toTry _) h) (fun f s1 r1 => ?_) (fun _ _ q => q))
  cases f with
  | next => obtain ⟨σ', H', J', q⟩ := r1; exact wpAny_execs_nil ⟨σ', H', J'.ofTry good, q⟩
  | brk => obtain ⟨σ', H', J', q⟩ := r1; exact ⟨σ', H', J'.ofTry good, q⟩
  | cont => obtain ⟨σ', H', J', q⟩ := r1; exact ⟨σ', H', J'.ofTry good, q⟩
  | ret u => obtain ⟨v, σ', H', J', r, q⟩ := r1; exact ⟨v, σ', H', J'.ofTry good, r, q⟩
end
end Fc
/-! Ev2s: lists turned about, lists of ranges, codes each once and rising. -/
namespace Fc
open PySem PySem.Spec
open PyProof.Rows L2
variable [Tb]

/-! ### codes in a row -/
theorem row_uniq {α : Type} (f : α → Int) : ∀ {l1 l2 : List α}, l1.Pairwise (fun a b => f a < f b) → l2.Pairwise (fun a b => f a < f b) → (∀ x, x ∈ l1 ↔ x ∈ l2) → l1 = l2
  | [], [], _, _, _ => rfl
  | [], b :: l2, _, _, h => by have := (h b).mpr (List.mem_cons_self ..); cases this
  | a :: l1, [], _, _, h => by have := (h a).mp (List.mem_cons_self ..); cases this
  | a :: l1, b :: l2, p, q, h => by
    obtain ⟨p1, p2⟩ := List.pairwise_cons.mp p
    obtain ⟨q1, q2⟩ := List.pairwise_cons.mp q
    have ab : a = b := by
      rcases List.mem_cons.mp ((h a).mp (List.mem_cons_self ..)) with e | e
      · exact e
      · rcases List.mem_cons.mp ((h b).mpr (List.mem_cons_self ..)) with e' | e'
        · exact e'.symm
        · have := q1 _ e
          have := p1 _ e'
          omega
    subst ab
    congr 1
    refine row_uniq f p2 q2 fun x => ⟨fun hx => ?_, fun hx => ?_⟩
    · rcases List.mem_cons.mp ((h x).mp (List.mem_cons_of_mem _ hx)) with e | e
      · subst e; exact absurd (p1 _ hx) (Int.lt_irrefl _)
      · exact e
    · rcases List.mem_cons.mp ((h x).mpr (List.mem_cons_of_mem _ hx)) with e | e
      · subst e; exact absurd (q1 _ hx) (Int.lt_irrefl _)
      · exact e
def Is4 (c : List Int) : Prop := c.length = 4 ∧ TS.Bd 64 c
theorem Is4.ex {c : List Int} (h : Is4 c) : ∃ x y z w : Int, c = [x, y, z, w] ∧ 0 ≤ x ∧ x < 64 ∧ 0 ≤ y ∧ y < 64 ∧ 0 ≤ z ∧ z < 64 ∧ 0 ≤ w ∧ w < 64 := by
  obtain ⟨l, b⟩ := h
  rcases c with _ | ⟨x, _ | ⟨y, _ | ⟨z, _ | ⟨w, _ | ⟨v, r⟩⟩⟩⟩⟩ <;> simp at l
  have b1 := b x (by simp)
  have b2 := b y (by simp)
  have b3 := b z (by simp)
  have b4 := b w (by simp)
  exact ⟨x, y, z, w, rfl, b1.1, b1.2, b2.1, b2.2, b3.1, b3.2, b4.1, b4.2⟩
theorem cod_code {c : List Int} (h : Is4 c) : TS.code 64 c = cod4 c := by
  obtain ⟨x, y, z, w, rfl, _⟩ := h.ex
  have e3 : (64 : Int) ^ 3 = 262144 := by decide
  have e2 : (64 : Int) ^ 2 = 4096 := by decide
  have e1 : (64 : Int) ^ 1 = 64 := by decide
  have e0 : (64 : Int) ^ 0 = 1 := by decide
  show x * 64 ^ 3 + (y * 64 ^ 2 + (z * 64 ^ 1 + (w * 64 ^ 0 + 0))) = ((x * 64 + y) * 64 + z) * 64 + w
  rw [e3, e2, e1, e0]
  omega
theorem cod_inj {c d : List Int} (h : Is4 c) (k : Is4 d) (e : cod4 c = cod4 d) : c = d := by
  obtain ⟨x, y, z, w, rfl, _⟩ := h.ex
  obtain ⟨x', y', z', w', rfl, _⟩ := k.ex
  have e : ((x * 64 + y) * 64 + z) * 64 + w = ((x' * 64 + y') * 64 + z') * 64 + w' := e
  have e1 : x = x' := by omega
  have e2 : y = y' := by omega
  have e3 : z = z' := by omega
  have e4 : w = w' := by omega
  rw [e1, e2, e3, e4]
theorem insC_mem {x : List Int} (hx : Is4 x) : ∀ {l : List (List Int)}, (∀ c ∈ l, Is4 c) → ∀ y, y ∈ insC x l ↔ y = x ∨ y ∈ l
  | [], _, y => by simp [insC]
  | z :: l, h, y => by
    unfold insC
    split
    · simp
    · split
      · rename_i _ e
        have := cod_inj hx (h z (List.mem_cons_self ..)) e
        subst this
        simp
      · have ih := insC_mem hx (fun c hc => h c (List.mem_cons_of_mem _ hc)) y
        rw [List.mem_cons, ih, List.mem_cons]
        constructor
        · rintro (a | a | a)
          · exact .inr (.inl a)
          · exact .inl a
          · exact .inr (.inr a)
        · rintro (a | a | a)
          · exact .inr (.inl a)
          · exact .inl a
          · exact .inr (.inr a)
theorem insC_row {x : List Int} (hx : Is4 x) : ∀ {l : List (List Int)}, (∀ c ∈ l, Is4 c) → l.Pairwise (fun a b => cod4 a < cod4 b) → (insC x l).Pairwise (fun a b => cod4 a < cod4 b)
  | [], _, _ => by simp [insC]
  | z :: l, h, p => by
    obtain ⟨p1, p2⟩ := List.pairwise_cons.mp p
    unfold insC
    split
    · rename_i c
      refine List.pairwise_cons.mpr ⟨fun y hy => ?_, p⟩
      rcases List.mem_cons.mp hy with e | e
      · rw [e]; exact c
      · have := p1 y e; omega
    · split
      · exact p
      · refine List.pairwise_cons.mpr ⟨fun y hy => ?_, insC_row hx (fun c hc => h c (List.mem_cons_of_mem _ hc)) p2⟩
        rcases (insC_mem hx (fun c hc => h c (List.mem_cons_of_mem _ hc)) y).mp hy with e | e
        · rw [e]; omega
        · exact p1 y e
theorem sdC_all : ∀ {l : List (List Int)}, (∀ c ∈ l, Is4 c) → (∀ y, y ∈ sdC l ↔ y ∈ l) ∧ (sdC l).Pairwise (fun a b => cod4 a < cod4 b)
  | [], _ => ⟨fun y => Iff.rfl, .nil⟩
  | x :: l, h => by
    obtain ⟨i1, i2⟩ := sdC_all (l := l) fun c hc => h c (List.mem_cons_of_mem _ hc)
    have g : ∀ c ∈ sdC l, Is4 c := fun c hc => h c (List.mem_cons_of_mem _ ((i1 c).mp hc))
    have hx := h x (List.mem_cons_self ..)
    refine ⟨fun y => ?_, insC_row hx g i2⟩
    show y ∈ insC x (sdC l) ↔ _
    rw [insC_mem hx g, i1, List.mem_cons]
theorem asC_4 {d : D} {c : List Int} (h : asC d = some c) : d = .tup (c.map .int) ∧ Is4 c := by
  unfold asC at h
  split at h
  · split at h
    · cases h
      refine ⟨rfl, rfl, fun m hm => ?_⟩
      simp at hm
      omega
    · cases h
  · cases h
theorem asCs_4 : ∀ {ds : List D} {cs : List (List Int)}, asCs ds = some cs → ds = cs.map (fun c => .tup (c.map .int)) ∧ ∀ c ∈ cs, Is4 c
  | [], _, h => by cases h; exact ⟨rfl, by simp⟩
  | d :: ds, _, h => by
    unfold asCs at h
    split at h
    · cases h
      rename_i c cs h1 h2
      obtain ⟨a1, a2⟩ := asC_4 h1
      obtain ⟨b1, b2⟩ := asCs_4 h2
      refine ⟨by rw [a1, b1]; rfl, fun x hx => ?_⟩
      rcases List.mem_cons.mp hx with e | e
      · rw [e]; exact a2
      · exact b2 x e
    · cases h
section
variable {m : Mx} {H : Hp}
theorem rep_ints : ∀ {ns : List Int} {vs : List V}, RepL m H vs (ns.map .int) → vs = ns.map V.int
  | [], _, h => by cases h; rfl
  | n :: ns, _, h => by
    cases h with
    | cons a b =>
      rw [rep_ints b]
      cases a
      rfl
theorem ints_rep : ∀ (ns : List Int), RepL m H (ns.map V.int) (ns.map .int)
  | [] => .nil
  | n :: ns => .cons (.int n) (ints_rep ns)
theorem rep_codes : ∀ {cs : List (List Int)} {vs : List V}, RepL m H vs (cs.map fun c => .tup (c.map .int)) → ∃ ks : List (Addr × List Int), vs = ks.map (fun p => V.ref p.1) ∧ cs = ks.map (·.2) ∧ ∀ p ∈ ks, SqT m.K H p.1 (p.2.map V.int)
  | [], _, h => by cases h; exact ⟨[], rfl, rfl, by simp⟩
  | c :: cs, _, h => by
    cases h with
    | cons a b =>
      obtain ⟨ks, e1, e2, e3⟩ := rep_codes b
      cases a with
      | tup q r =>
        rename_i ad xs
        have := rep_ints r
        subst this
        refine ⟨(ad, c) :: ks, by rw [e1]; rfl, by rw [e2]; rfl, fun p hp => ?_⟩
        rcases List.mem_cons.mp hp with e | e
        · rw [e]; exact q
        · exact e3 p e
theorem codes_rep : ∀ {ks : List (Addr × List Int)}, (∀ p ∈ ks, SqT m.K H p.1 (p.2.map V.int)) → RepL m H (ks.map fun p => V.ref p.1) ((ks.map (·.2)).map fun c => .tup (c.map .int))
  | [], _ => .nil
  | p :: ks, h => .cons (.tup (h p (List.mem_cons_self ..)) (ints_rep _)) (codes_rep fun q hq => h q (List.mem_cons_of_mem _ hq))
theorem range_rep (lo : Int) : ∀ (l : List Nat), RepL m H (l.map fun i => V.int (lo + (i : Nat))) (l.map fun k => D.int (lo + (k : Nat)))
  | [] => .nil
  | n :: l => .cons (.int _) (range_rep lo l)
end
section
variable {nm : Nms} {m : Mx} {Z : Sem0} {H0 : Hp} {W : WX} {N : List Str} {sc : Scope} {cm : Bool} {X : Cx} {x y z w w2 tg : Expr} {a b c : E} {pos q : Pos}
theorem r_lrg {p2 : Pos} (o : Okx nm m Z W N sc cm X) (hc : cm = true) (hn : biIs sc "list" w = true) (hn2 : biIs sc "range" w2 = true) (hs : notStar x = true) (hs2 : notStar y = true) (ha : PE X x (tRd m Z H0 W a)) (hb : PE X y (tRd m Z H0 W b)) :
    PE X (.Call w [.Call w2 [x, y] [] p2] [] pos) (tN m Z H0 W (.lrg a b)) := by
  obtain ⟨p, rfl, hg, hm⟩ := bi_nm o hn
  obtain ⟨p', rfl, hg2, hm2⟩ := bi_nm o hn2
  refine peImp (pe_listRg (o.hc hc) hg hm (prg_2 hg2 hm2 ha hb (star_cons hs _ _) (star_cons hs2 _ _) (star_any (by simp [hs2]))) (star_cons rfl _ _)) fun σV H Q ⟨σ, g, r⟩ => ?_
  have r : Run H (XW m W σV) ((ev Z.G Z.C σ a).bind fun x => (ev Z.G Z.C σ b).bind fun y => (asI x).bind fun lo => (asI y).bind fun hi => if midR lo && midR hi && decide ((hi - lo).toNat ≤ 16777216) then .ok (.lst (rangeD lo (hi - lo).toNat)) else .stk) fun d => Yld m H d Q := r
  refine ⟨σ, g, r.bind.imp fun d _ r1 v H1 e1 rv => ⟨σ, g.of_same e1, (Run.same r1 e1).bind.imp fun e _ r2 v2 H2 e2 rv2 => ?_⟩⟩
  obtain ⟨i, rfl, r3⟩ := asI_ok r2.bind
  obtain ⟨j, rfl, r4⟩ := asI_ok r3.bind
  by_cases c : (midR i && midR j && decide ((j - i).toNat ≤ 16777216)) = true
  · rw [if_pos c] at r4
    obtain ⟨c1, c3⟩ := Bool.and_eq_true_iff.mp c
    obtain ⟨c1, c2⟩ := Bool.and_eq_true_iff.mp c1
    obtain ⟨m1, m2⟩ := midR_ok c1
    obtain ⟨m3, m4⟩ := midR_ok c2
    have c3 := of_decide_eq_true c3
    refine ⟨i, j, by rw [rv.intE], by rw [rv2.intE], ⟨m1, m2, m3, m4, c3⟩, fun q hq => ?_⟩
    have r4 : Yld m H (.lst (rangeD i (j - i).toNat)) Q := r4
    exact (r4.up (e1.trans e2)).lst hq (range_rep i _)
  · rw [if_neg c] at r4; exact r4.elim
theorem r_sortset {p2 : Pos} (o : Okx nm m Z W N sc cm X) (hc : cm = true) (hn : biIs sc "sorted" w = true) (hn2 : biIs sc "set" w2 = true) (hs : notStar x = true) (ha : PE X x (tRd m Z H0 W a)) :
    PE X (.Call w [.Call w2 [x] [] p2] [] pos) (tN m Z H0 W (.b1 .sortset a)) := by
  obtain ⟨p, rfl, hg, hm⟩ := bi_nm o hn
  obtain ⟨p', rfl, hg2, hm2⟩ := bi_nm o hn2
  have hu := o.hu
  have k1 : PE X (.Call (.Name "set" p') [x] [] p2) (tCB (rSetOfT X.K X.prog X.w) (tCons (tRd m Z H0 W a) tNil)) :=
    pe_callTy (cr_setOfT (o.hc hc) (by omega)) hg2 hm2 boot_set (pa_one hs ha) (by decide) (by decide) (star_cons hs [] X.env) rfl
  have k2 : PE X (.Call (.Name "sorted" p) [.Call (.Name "set" p') [x] [] p2] [] pos) (tCB (rSortedT X.K X.prog X.w) (tCons (tCB (rSetOfT X.K X.prog X.w) (tCons (tRd m Z H0 W a) tNil)) tNil)) :=
    pe_callB (cr_sortedT (o.hc hc)) hg hm boot_sorted (pa_one rfl k1) (by decide) (by decide) (star_cons rfl [] X.env) rfl
  refine peImp k2 fun σV H Q h => ?_
  refine tRd_step (f := fun σ d => b1 .sortset d) h (fun _ _ e k => k.up e) fun d z H1 e1 r1 ⟨σ, g, h⟩ => ?_
  obtain ⟨r, hr, yl⟩ := h.pure (b1_nx _ _)
  have go : ∃ ds cs, d = .lst ds ∧ asCs ds = some cs ∧ cs.length < 64 ∧ r = .lst ((sdC cs).map fun c => .tup (c.map .int)) := by
    cases d with
    | lst ds =>
      have hr : (opt (asCs ds)).bind (fun cs => if cs.length < 64 then R.ok (.lst ((sdC cs).map fun c => .tup (c.map .int))) else .stk) = .ok r := hr
      cases e : asCs ds with
      | none => rw [e] at hr; cases hr
      | some cs =>
        rw [e] at hr
        have hr : (if cs.length < 64 then R.ok (.lst ((sdC cs).map fun c => .tup (c.map .int))) else .stk) = .ok r := hr
        split at hr
        · cases hr; exact ⟨ds, cs, rfl, e, by assumption, rfl⟩
        · cases hr
    | _ => cases hr
  obtain ⟨ds, cs, rfl, hcs, hlen, rfl⟩ := go
  obtain ⟨l, ys, rfl, hH, rl⟩ := r1.lstE
  obtain ⟨e2, h4⟩ := asCs_4 hcs
  subst e2
  obtain ⟨ks, rfl, rfl, hk⟩ := rep_codes rl
  rw [o.hm] at hk
  have l64 : ks.length < 64 := by simpa using hlen
  obtain ⟨s1, s2⟩ := sdC_all h4
  refine ⟨l, ks, rfl, rdSq hH, hk, l64, fun ad L ha sub sup => ?_⟩
  have sm : Same H1 (upd H1 ad (SetTO X.prog X.w ad L)) := same_upd ha
  have hL : ∀ q ∈ L, SqT X.K (upd H1 ad (SetTO X.prog X.w ad L)) q.1 (q.2.map V.int) := fun q hq => sqT_mono (.of sm) (hk q (sub q hq))
  have b4 : ∀ q ∈ L, Is4 q.2 := fun q hq => h4 q.2 (List.mem_map.mpr ⟨q, sub q hq, rfl⟩)
  refine ⟨ad, L, 4, 64, rfl, upd_same, hL, by omega, b4, fun L' p pm nd len pw hp => ?_⟩
  have hpa : p ≠ ad := fun e => by rw [e, upd_same] at hp; cases hp
  have hp1 : H1 p = none := by rw [upd_ne hpa] at hp; exact hp
  have sm2 : Same (upd H1 ad (SetTO X.prog X.w ad L)) (upd (upd H1 ad (SetTO X.prog X.w ad L)) p (.lst (L'.map fun q => V.ref q.1))) := same_upd hp
  have b4' : ∀ q ∈ L', Is4 q.2 := fun q hq => b4 q (pm.mem_iff.mp hq)
  have key : L'.map (·.2) = sdC (ks.map (·.2)) := by
    refine row_uniq cod4 ?_ s2 fun c => ?_
    · have : (L'.map (·.2)).Pairwise (fun a b => cod4 a ≤ cod4 b) := by
        rw [List.pairwise_map]
        refine List.Pairwise.imp_of_mem (fun {q r} hq hr hle => ?_) pw
        rw [← cod_code (b4' q hq), ← cod_code (b4' r hr)]
        exact hle
      refine List.Pairwise.imp_of_mem (fun {q r} hq hr hle => ?_) (this.and nd)
      obtain ⟨q', hq', e1⟩ := List.mem_map.mp hq
      obtain ⟨r', hr', e2⟩ := List.mem_map.mp hr
      have q4 : Is4 q := e1 ▸ b4' q' hq'
      have r4 : Is4 r := e2 ▸ b4' r' hr'
      have ne : cod4 q ≠ cod4 r := fun e => hle.2 (cod_inj q4 r4 e)
      have := hle.1
      omega
    · rw [s1]
      constructor
      · intro hc
        obtain ⟨q, hq, rfl⟩ := List.mem_map.mp hc
        exact List.mem_map.mpr ⟨q, sub q (pm.mem_iff.mp hq), rfl⟩
      · intro hc
        obtain ⟨q, hq, rfl⟩ := List.mem_map.mp hc
        obtain ⟨q', hq', e⟩ := List.mem_map.mp (sup q hq)
        exact List.mem_map.mpr ⟨q', pm.mem_iff.mpr hq', e⟩
  rw [← key] at yl
  refine yl _ _ (sm.trans sm2) (.lst (un0 hp1) upd_same ?_)
  refine codes_rep fun q hq => ?_
  rw [o.hm]
  exact sqT_mono (.of sm2) (hL q (pm.mem_iff.mp hq))
end
end Fc
/-! Ev2n: sets of numbers, of any size. -/
namespace Fc
open PySem PySem.Spec
open PyProof.Rows L2

/-! ### sorted(set(xs)), numbers -/
section
variable {P : Program} {w : World} {A : Around} {E : Value → Shared → Prop} {s : Shared}
set_option maxHeartbeats 3200000 in
theorem set_of_ints {l : Addr} {items : Array Value} (ns : List Int) {Q : Value → Shared → Prop} (hh : A.handled = none) (hl : s.heap.IsList l items) (hit : IntsAre items.toList ns) (hb : ns.length + 1 < scanBound)
    (h : ∀ (h' : Heap) (tk c : Nat), SetR w h' s.heap.objs.size (fun j => decide (j ∈ ns)) c → c ≤ ns.length → (∀ b o, s.heap.get? b = some o → h'.get? b = some o) → Q (.ref s.heap.objs.size) { s with heap := h', toks := tk }) :
    wpAny (model P w) A (call (.type "set") [.ref l]) Q E s := by
  have hisz : items.size = ns.length := by
    have q := IntsAre.length hit
    rw [Array.length_toList] at q
    exact q
  obtain ⟨c, tl, hmro⟩ := F.called_set.mro
  have hmade := F.called_set.made
  have hsub := F.called_set.sub
  refine wpAny_call (codeAny_of_tree ?_)
  show wpAny _ _ (callAny (.type "set") _) _ _ _
  refine wpAny_pure ⟨Code.quiet_builtin _ (by decide +kernel), codeAny_builtin F.entry_type_call ?_⟩
  rw [Around.under_plain (weight_type_call_type "set" [.ref l] []) rfl]
  have h1 := F.called_set.notType
  have h2 := F.called_set.canCreate
  have hct := F.typeCall_set_1 (.ref l)
  repeat (any_goals (first | assumption | wp_step))
  refine codeAny_mono (code_set_led1 (.ref l) (E := E) (Q₁ := fun obj s₁ => obj = .ref s.heap.objs.size ∧ s₁ = { s with heap := s.heap.push { cls := .type "set", dict := none, data := .set #[] 0 (.fresh 0 0 (!w.params.followText "set-order")) } }) ⟨rfl, rfl⟩) fun r s₁ hr => ?_
  cases r with
  | error e => exact hr
  | ok fl =>
    cases fl with
    | ret obj =>
      obtain ⟨rfl, rfl⟩ := hr
      have hS : (s.heap.push { cls := .type "set", dict := none, data := .set #[] 0 (.fresh 0 0 (!w.params.followText "set-order")) }).get? s.heap.objs.size = some { cls := .type "set", dict := none, data := .set #[] 0 (.fresh 0 0 (!w.params.followText "set-order")) } := Heap.get?_push_size _ rfl
      have hT : Shared.TypeIs { s with heap := s.heap.push { cls := .type "set", dict := none, data := .set #[] 0 (.fresh 0 0 (!w.params.followText "set-order")) } } (.ref s.heap.objs.size) "set" := ⟨_, hS, rfl⟩
      have hli := F.called_set.init.lookup
      have hbi := F.called_set.init.bind (.ref s.heap.objs.size)
      repeat (any_goals (first | assumption | wp_step))
      refine codeAny_mono (codeAny_call_builtin (R := wants (fun r s₂ => r = .none ∧ ∃ h' tk c, s₂ = { s with heap := h', toks := tk } ∧ SetR w h' s.heap.objs.size (fun j => decide (j ∈ ns)) c ∧ c ≤ ns.length ∧
          (∀ b o, s.heap.get? b = some o → h'.get? b = some o)) E) F.called_set.init.plain F.entry_set_init (check_set_init_1 hT ?_)) fun r₂ s₂ hr₂ => ?_
      · obtain ⟨ol, hol, hcl, nl, hdl⟩ := hl
        obtain ⟨ocls, odict, odata, oslots⟩ := ol
        simp only at hcl hdl
        subst hcl; subst hdl
        have hol' : (s.heap.push { cls := .type "set", dict := none, data := .set #[] 0 (.fresh 0 0 (!w.params.followText "set-order")) }).get? l = some { cls := .type "list", dict := odict, data := .seq items nl, slots := oslots } := Heap.get?_push_of_some _ hol
        have hsls := F.sub_list_set
        have hslf := F.sub_list_frozenset
        have hne : (Value.type "list" == Value.type "dict") = false := by decide
        have hl1 : (s.heap.push { cls := .type "set", dict := none, data := .set #[] 0 (.fresh 0 0 (!w.params.followText "set-order")) }).IsList l items := ⟨_, hol', rfl, nl, rfl⟩
        unfold Builtin.«set.__init__» noKeywords Builtin.Frozenset.updateFrom
        generalize hPI : pyIter = PI
        wp_walk
        subst hPI
        refine wpAny_pyIter_list hl1 ?_
        refine wpAny_bind (wpAny_runValue ?_)
        have hlS : l < s.heap.objs.size := Heap.lt_size hol
        have hh3 : A.in1.in1.in1.handled = none := by simp [hh]
        have hneI : l ≠ (s.heap.push { cls := .type "set", dict := none, data := .set #[] 0 (.fresh 0 0 (!w.params.followText "set-order")) }).objs.size := by
          rw [Heap.size_push]; exact Nat.ne_of_lt (Nat.lt_succ_of_lt hlS)
        have hSf : s.heap.objs.size ∉ [(s.heap.push { cls := .type "set", dict := none, data := .set #[] 0 (.fresh 0 0 (!w.params.followText "set-order")) }).objs.size, l] := by
          rw [Heap.size_push]; simp only [List.mem_cons, List.mem_singleton, List.not_mem_nil, or_false, not_or]
          exact ⟨Nat.ne_of_lt (Nat.lt_succ_self _), Nat.ne_of_gt hlS⟩
        have hval : ∀ (i : Nat) (v : Value), items[i]? = some v → ∃ k t, ns[i]? = some k ∧ v = .int k t := fun i v hv => by
          have hi : i < ns.length := by rw [← hisz]; exact (Array.getElem?_eq_some_iff.mp hv).1
          obtain ⟨t, e⟩ := PyProof.Rows.IntsAre.int_at hit i v (by rw [Array.getElem?_toList]; exact hv)
          refine ⟨ns[i], t, List.getElem?_eq_getElem hi, ?_⟩
          rw [e, List.getD_eq_getElem?_getD, List.getElem?_eq_getElem hi] <;> rfl
        refine set_update_ints ((Walks.list hh3 _ l hneI items).toS) s.heap.objs.size
          hSf ns hisz hb hval (items.size - 0) 0 _ (by omega) (Nat.zero_le _)
          ⟨⟨_, Heap.get?_push_size _ rfl, rfl, rfl⟩, (hl1.push _)⟩ ?hS0 ?hR
        case hS0 =>
          refine ⟨0, Nat.le_refl 0, setR_new_at ?_⟩
          exact Heap.get?_push_of_some _ hS
        case hR =>
          intro s' c' hm hc' hS'
          obtain ⟨h', g2, d', tk', os'⟩ := s'
          have eg : g2 = s.gens := hm.gens
          have ed : d' = s.drawn := hm.drawn
          have eo : os' = s.os := hm.os
          subst eg; subst ed; subst eo
          show wpAny _ _ _ _ _ _
          refine wpAny_pure ?_
          show wpAny _ _ (ret Value.none) _ _ _
          rw [hisz] at hc'
          refine wpAny_pure ⟨rfl, h', tk', c', rfl, hS', hc', fun b o e => ?_⟩
          have hb0 : b < s.heap.objs.size := Heap.lt_size e
          have hb1 : b ≠ s.heap.objs.size := Nat.ne_of_lt hb0
          have hb2 : b ≠ (s.heap.push { cls := .type "set", dict := none, data := .set #[] 0 (.fresh 0 0 (!w.params.followText "set-order")) }).objs.size := by
            rw [Heap.size_push]; exact Nat.ne_of_lt (Nat.lt_succ_of_lt hb0)
          exact hm.heap b o (by simp only [List.mem_cons, List.mem_singleton, List.not_mem_nil, or_false, not_or]; exact ⟨hb1, hb2⟩) (Heap.get?_push_of_some _ (Heap.get?_push_of_some _ e))
      · cases r₂ with
        | error e => exact hr₂
        | ok fl₂ =>
          cases fl₂ with
          | ret r =>
            obtain ⟨rfl, h', tk, c', rfl, hS', hc', hk'⟩ := hr₂
            repeat (any_goals (first | assumption | wp_step))
            exact h _ _ _ hS' hc' hk'
          | _ => exact hr₂.elim
    | _ => exact hr.elim
/-- sorted(s), any number of members -/
theorem sorted_of_set {a : Addr} {S : Int → Bool} {n : Nat} {Q : Value → Shared → Prop} (R : SetR w s.heap a S n) (hh : A.handled = none)
    (hQ : ∀ s' p (out : Array Value) (c : Nat) (ns : List Int), (∀ b o, s.heap.get? b = some o → s'.heap.get? b = some o) → s'.gens = s.gens → s'.os = s.os → s.heap.objs.size ≤ p →
      s'.heap.get? p = some (seqObj "list" out c) → IntsAre out.toList ns → ns.Pairwise (· < ·) → (∀ k, k ∈ ns ↔ S k = true) → ns.length = n → Q (.ref p) s') :
    wpAny (model P w) A (call (.builtin "sorted") [.ref a]) Q E s := by
  obtain ⟨o, es, ep, t, ho, hex, hd, g, nd, hm, hb, hf, hn, hr, hl⟩ := R
  refine Calls.call_function_entry kind_sorted plain_sorted entry_sorted (args_sorted1 _) ?_
  unfold Builtin.«sorted»
  refine wpAny_bind (m := checkCount "sorted" 1 1 _) (wpAny_pure ?_)
  refine wpAny_bind (collect_set (A := A.in1) hh ⟨o, ho, hex.1, hd⟩ hf hb hr hl fun s1 vs k1 hz g1 o1 pm => ?_)
  have hvl : vs.length = n := by rw [pm.length_eq, List.length_map, Array.length_toList]; exact hn
  have hvz : vs.length ≤ sizeLine := by
    rw [hvl, sizeLine_eq, ← hn]
    have : scanBound = 4096 := rfl
    omega
  have hI : IntsAre vs (vs.map Builtin.Re.reRawOf) := ints_of vs fun v hv => by
    obtain ⟨e, he, q⟩ := List.mem_map.mp (pm.mem_iff.mp hv)
    obtain ⟨k, tk, h1, _⟩ := g e he
    exact ⟨k, tk, by rw [← q]; exact h1⟩
  have pk : (vs.map Builtin.Re.reRawOf).Perm (es.toList.map L2.keyOf) := by
    have q := pm.map Builtin.Re.reRawOf
    rw [List.map_map] at q
    exact q
  refine wpAny_bind (wpAny_newList ?_ hvz)
  have hoL : (s1.heap.push (seqObj "list" vs.toArray 0)).get? s1.heap.objs.size = some (seqObj "list" vs.toArray 0) := Heap.get?_push_size _ rfl
  refine wpAny_bind (wpAny_holding (wpAny_call_entry slot_list_sort ⟨_, hoL, rfl⟩ entry_list_sort (SrtO.list_sort_ord SrtO.swo_int hoL hvz (fun h2 => SrtO.ints_sortable hI h2) fun out h1 h2 => ⟨_, rfl, ?_⟩) (args_list_sort _)))
  obtain ⟨a1, a2, a3⟩ := SrtO.ints_out hI h1 h2
  obtain ⟨c, hc⟩ := sortedHeap_at (vs := vs) (out := out.toArray) hoL
  have pn : (out.map SrtO.iv).Perm (es.toList.map L2.keyOf) := a2.trans pk
  refine wpAny_pure ⟨_, rfl, hQ _ s1.heap.objs.size out.toArray c _ (fun b u e => ?_) g1 o1 hz hc a1 (lt_of_le_nodup _ a3 (pn.nodup_iff.mpr nd)) (fun k => by rw [pn.mem_iff, ← hm k]) ?_⟩
  · have q := k1 b u e
    have hlt := Heap.lt_size q
    show (sortedHeap (s1.heap.push (seqObj "list" vs.toArray 0)) s1.heap.objs.size vs out.toArray).get? b = some u
    rw [sortedHeap_old (Nat.ne_of_lt hlt) (by rw [size_push']; exact Nat.lt_succ_of_lt hlt)]
    exact Heap.get?_push_of_some _ q
  · rw [pn.length_eq, List.length_map, Array.length_toList]; exact hn
end
end Fc
/-! Ev2w: numbers each once and rising. -/
namespace Fc
open PySem PySem.Spec
open PyProof.Rows L2
variable [Tb]

/-! ### numbers in a row -/
theorem insI_mem {x : Int} : ∀ {l : List Int} (y : Int), y ∈ insI x l ↔ y = x ∨ y ∈ l
  | [], y => by simp [insI]
  | z :: l, y => by
    unfold insI
    split
    · simp
    · split
      · rename_i _ e; subst e; simp
      · rw [List.mem_cons, insI_mem y, List.mem_cons]
        constructor
        · rintro (a | a | a)
          · exact .inr (.inl a)
          · exact .inl a
          · exact .inr (.inr a)
        · rintro (a | a | a)
          · exact .inr (.inl a)
          · exact .inl a
          · exact .inr (.inr a)
theorem insI_row {x : Int} : ∀ {l : List Int}, l.Pairwise (· < ·) → (insI x l).Pairwise (· < ·)
  | [], _ => by simp [insI]
  | z :: l, p => by
    obtain ⟨p1, p2⟩ := List.pairwise_cons.mp p
    unfold insI
    split
    · rename_i c
      refine List.pairwise_cons.mpr ⟨fun y hy => ?_, p⟩
      rcases List.mem_cons.mp hy with e | e
      · rw [e]; exact c
      · have := p1 y e; omega
    · split
      · exact p
      · refine List.pairwise_cons.mpr ⟨fun y hy => ?_, insI_row p2⟩
        rcases (insI_mem y).mp hy with e | e
        · rw [e]; omega
        · exact p1 y e
theorem sdI_all : ∀ {l : List Int}, (∀ y, y ∈ sdI l ↔ y ∈ l) ∧ (sdI l).Pairwise (· < ·)
  | [] => ⟨fun y => Iff.rfl, .nil⟩
  | x :: l => by
    obtain ⟨i1, i2⟩ := sdI_all (l := l)
    refine ⟨fun y => ?_, insI_row i2⟩
    show y ∈ insI x (sdI l) ↔ _
    rw [insI_mem, i1, List.mem_cons]
/-- a row is told by its members -/
theorem rowI_uniq {l1 l2 : List Int} (p : l1.Pairwise (· < ·)) (q : l2.Pairwise (· < ·)) (h : ∀ x, x ∈ l1 ↔ x ∈ l2) : l1 = l2 := row_uniq (fun x => x) p q h
section
variable {nm : Nms} {m : Mx} {Z : Sem0} {H0 : Hp} {W : WX} {N : List Str} {sc : Scope} {cm : Bool} {X : Cx} {x y z w w2 tg : Expr} {a b c : E} {pos q : Pos}
def tSetI (K : PySem.W.Frag) (te : TE) : TE := fun σ H Q => te σ H fun x H1 => ∃ (l : Addr) (ns : List Int), x = V.ref l ∧ SqL K H1 l (ns.map V.int) ∧ ns.length < 4000 ∧ ∀ p, H1 p = none → Q (.ref p) (upd H1 p (.lst ((sdI ns).map V.int)))
theorem sdI_len (l : List Int) : (sdI l).length ≤ l.length := by
  have key : ∀ (x : Int) (l : List Int), (insI x l).length ≤ l.length + 1 := by
    intro x l
    induction l with
    | nil => simp [insI]
    | cons y r ih =>
      unfold insI
      split
      · simp
      · split
        · simp
        · rw [List.length_cons, List.length_cons]; omega
  induction l with
  | nil => simp [sdI]
  | cons x l ih =>
    have := key x (sdI l)
    show (insI x (sdI l)).length ≤ _
    rw [List.length_cons]; omega
theorem pe_setI {te : TE} {p p' p2 pos : Pos} (hc : X.calm = true) (hg : Gl X "sorted") (hm : X.mg "sorted" = none) (hg2 : Gl X "set") (hm2 : X.mg "set" = none) (ha : PE X x te) (na : starEach [x] X.env = (false, eval x X.env) :: starEach [] X.env) :
    PE X (.Call (.Name "sorted" p) [.Call (.Name "set" p') [x] [] p2] [] pos) (tSetI X.K te) := by
  refine ⟨fun pins s σ H Q I h => ?_⟩
  refine Call_ (ld_blt I hg hm boot_sorted ?_)
  refine PyProof.Rows.callWith_builtin1 (PyProof.Rows.args_cons ?_ rfl) rfl rfl
  refine Call_ (ld_blt I hg2 hm2 PyProof.Rows.boot_set ?_)
  refine PyProof.Rows.callWith_type1 (PyProof.Rows.args_cons (thn (ha.run pins s σ H _ I h) fun v s1 ⟨x, H1, I1, r1, q1⟩ => PyProof.Rows.args_nil ?_) na) na rfl
  obtain ⟨l, ns, rfl, hq, hl, q⟩ := q1
  cases r1
  obtain ⟨its, r, pl, hz⟩ := I1.list hq
  have hb : ns.length + 1 < scanBound := by
    have : scanBound = 4096 := rfl
    omega
  refine set_of_ints (I1.ok.hd hc) pl.isList (ns := ns) (by simpa using r.ints) hb fun h' tk c hS hc' k => ?_
  refine PyProof.Rows.args_nil ?_
  have I2 : Inv X pins σ H1 { s1 with heap := h', toks := tk } := I1.kept k
  refine sorted_of_set hS (I2.ok.hd hc) fun s' p out c2 ns' k2 g2 o2 hp e1 e2 e3 e4 e5 => ?_
  have en : ns' = sdI ns := rowI_uniq e3 sdI_all.2 fun x => by rw [e4, sdI_all.1]; simp
  subst en
  have hlen : ((sdI ns).map V.int).length ≤ sizeLine := by
    have := sdI_len ns
    rw [List.length_map, sizeLine_eq]; omega
  have hn : H1 p = none := I2.hok.fresh hp
  have J : Inv X pins σ (upd H1 p (.lst ((sdI ns).map V.int))) { ({ s1 with heap := h', toks := tk } : Shared) with heap := s'.heap, gens := s'.gens, drawn := s'.drawn, toks := s'.toks } :=
    I2.call (ch := []) (Un.laid k2 hp hn) (I2.hok.laid k2 hp ⟨hlen, out.toList, c2, vals_of_ints e2, e1⟩) (by rw [g2]; exact I2.bare) (fun _ z => nomatch z)
  have e : s' = { s1 with heap := s'.heap, gens := s'.gens, drawn := s'.drawn, toks := s'.toks } := by
    cases s'
    cases s1
    cases o2
    rfl
  rw [e]
  exact ⟨.ref p, _, J, rfl, q _ hn⟩
theorem rep_allI {H : Hp} {vs : List V} {ds : List D} {ns : List Int} (r : RepL m H vs ds) (h : allI ds = some ns) : vs = ns.map V.int := by
  induction ds generalizing vs ns with
  | nil => cases h; cases r; rfl
  | cons d ds ih =>
    cases r with
    | cons a b =>
      cases d with
      | int i =>
        have h : (allI ds).map (i :: ·) = some ns := h
        obtain ⟨ns', h1, rfl⟩ := Option.map_eq_some_iff.mp h
        rw [ih b h1]
        cases a
        rfl
      | _ => cases h
theorem r_sortsetI {p2 : Pos} (o : Okx nm m Z W N sc cm X) (hc : cm = true) (hn : biIs sc "sorted" w = true) (hn2 : biIs sc "set" w2 = true) (hs : notStar x = true) (ha : PE X x (tRd m Z H0 W a)) :
    PE X (.Call w [.Call w2 [x] [] p2] [] pos) (tN m Z H0 W (.b1 .sortsetI a)) := by
  obtain ⟨p, rfl, hg, hm⟩ := bi_nm o hn
  obtain ⟨p', rfl, hg2, hm2⟩ := bi_nm o hn2
  refine peImp (pe_setI (o.hc hc) hg hm hg2 hm2 ha (star_cons hs [] X.env)) fun σV H Q h => ?_
  refine tRd_step (f := fun σ d => b1 .sortsetI d) h (fun _ _ e k => k.up e) fun d z H1 e1 r1 ⟨σ, g, h⟩ => ?_
  obtain ⟨r, hr, yl⟩ := h.pure (b1_nx _ _)
  have go : ∃ ds ns, d = .lst ds ∧ allI ds = some ns ∧ ns.length < 4000 ∧ r = .lst ((sdI ns).map .int) := by
    cases d with
    | lst ds =>
      have hr : (opt (allI ds)).bind (fun ns => if ns.length < 4000 then R.ok (.lst ((sdI ns).map .int)) else .stk) = .ok r := hr
      cases e : allI ds with
      | none => rw [e] at hr; cases hr
      | some ns =>
        rw [e] at hr
        have hr : (if ns.length < 4000 then R.ok (.lst ((sdI ns).map .int)) else .stk) = .ok r := hr
        split at hr
        · cases hr; exact ⟨ds, ns, rfl, e, by assumption, rfl⟩
        · cases hr
    | _ => cases hr
  obtain ⟨ds, ns, rfl, hns, hlen, rfl⟩ := go
  obtain ⟨l, ys, rfl, hH, rl⟩ := r1.lstE
  have := rep_allI rl hns
  subst this
  exact ⟨l, ns, rfl, rdSq hH, hlen, fun p hp => yl.lst hp (ints_rep _)⟩
end
end Fc
/-! Ev2u: tuples turned about; numbers each once and rising; lists of pairs. -/
namespace Fc
open PySem PySem.Spec
open PyProof.Rows L2
variable [Tb]

/-! ### t[::-1] -/
section
variable {P : Program} {w : World} {A : Around} {E : Value → Shared → Prop} {s : Shared}
theorem places_back (n : Nat) : Builtin.Slice.slicePlaces ((n : Int) - 1) (-1) (-1) = n := by
  unfold Builtin.Slice.slicePlaces
  rw [if_neg (by decide)]
  by_cases h : (n : Int) - 1 > -1
  · rw [if_pos h]
    have : ((n : Int) - 1 - -1 - 1) / (- -1) = (n : Int) - 1 := by
      rw [show (- -1 : Int) = 1 by decide, Int.ediv_one]; omega
    rw [this]; omega
  · rw [if_neg h]; omega
theorem pick_back (xs : Array Value) : ((List.range xs.size).filterMap fun (m : Nat) => xs[(((xs.size : Int) - 1) + (m : Int) * -1).toNat]?).toArray = xs.toList.reverse.toArray := by
  have e : (List.range xs.size).filterMap (fun (m : Nat) => xs[(((xs.size : Int) - 1) + (m : Int) * -1).toNat]?) = ((List.range xs.size).map fun k => xs.size - 1 - k).filterMap (xs[·]?) := by
    rw [List.filterMap_map]
    have key : ∀ l : List Nat, (∀ m ∈ l, m < xs.size) → l.filterMap (fun (m : Nat) => xs[(((xs.size : Int) - 1) + (m : Int) * -1).toNat]?) = l.filterMap ((fun i : Nat => xs[i]?) ∘ fun k => xs.size - 1 - k) := by
      intro l
      induction l with
      | nil => intro _; rfl
      | cons m l ih =>
        intro h
        have := h m (List.mem_cons_self ..)
        have e2 : (((xs.size : Int) - 1) + (m : Int) * -1).toNat = xs.size - 1 - m := by omega
        rw [List.filterMap_cons, List.filterMap_cons, ih fun m hm => h m (List.mem_cons_of_mem _ hm)]
        simp only [Function.comp, e2]
    exact key _ fun m hm => List.mem_range.mp hm
  rw [e, PySem.W.krv_range, List.filterMap_reverse, PySem.W.krv_all]
theorem applied_back {sl : Addr} {vs : Value} {n : Nat} {Q : Int × Int × Nat → Shared → Prop} (hs : s.heap.IsSliceOf sl .none .none vs) (ps : IsPart vs (some (-1))) (h : Q (((n : Int) - 1), -1, n) s) :
    wpAny (model P w) A (Builtin.Slice.sliceApplied (.ref sl) (pure (n : Int))) Q E s := by
  obtain ⟨os, hos, hcs, hds⟩ := id hs
  unfold Builtin.Slice.sliceApplied Builtin.Slice.sliceFields
  refine wpAny_bind (wpAny_bind (wpAny_field hos hds (x := .none) rfl (wpAny_bind (wpAny_field hos hds (x := .none) rfl (wpAny_bind (wpAny_field hos hds (x := vs) rfl (wpAny_pure ?_)))))))
  refine wpAny_bind (HT.slicePart_ ps ?_)
  show wpAny _ _ (if ((-1 : Int) == 0) = true then _ else _) _ _ s
  rw [if_neg (by decide)]
  refine wpAny_bind (HT.slicePart_ .none (wpAny_bind (HT.slicePart_ .none (wpAny_bind (wpAny_pure ?_)))))
  show wpAny _ _ (pure (((n : Int) - 1), (-1 : Int), Builtin.Slice.slicePlaces ((n : Int) - 1) (-1) (-1))) _ _ s
  rw [places_back]
  exact wpAny_pure h
theorem item_back {t sl : Addr} {items : Array Value} {vs : Value} {Q : Value → Shared → Prop} (ht : IsTup s.heap t items) (hs : s.heap.IsSliceOf sl .none .none vs) (ps : IsPart vs (some (-1)))
    (h : Q (.ref s.heap.objs.size) { s with heap := s.heap.push { cls := .type "tuple", data := .seq items.toList.reverse.toArray } }) (hsz : items.size ≤ sizeLine) : wpAny (model P w) A (getItem (.ref t) (.ref sl)) Q E s := by
  have fits : sizeOk (.seq items.toList.reverse.toArray) := by
    show items.toList.reverse.toArray.size ≤ sizeLine
    rw [List.size_toArray, List.length_reverse, Array.length_toList]
    exact hsz
  obtain ⟨os, hos, hcs, hds⟩ := id hs
  have hTs : s.TypeIs (.ref sl) "slice" := ⟨os, hos, hcs⟩
  unfold getItem
  try with_reducible refine wpAny_holding ?_
  first | refine wpAny_bind (wpAny_pure ?_) | skip
  refine wpAny_bind (wpAny_sequenceKey ht.typeIs (by decide) ?_)
  refine wpAny_bind (wpAny_callSpecial?_slot (name := Str.ofString "__getitem__") ht.typeIs PyProof.Rows.slot_tuple_getitem
    (wpAny_call_entry PyProof.Rows.slot_tuple_getitem ht.typeIs entry_tuple_getitem ?_ (args_tuple_getitem _ _)))
  show wpAny _ _ (Builtin.Tuple.tupleItemsOf (.ref t) >>= _) _ _ s
  refine wpAny_bind (tupleItemsOf_ ht ?_)
  refine wpAny_bind (wpAny_typeOf hTs ?_)
  rw [if_pos (by decide)]
  refine wpAny_bind (applied_back hs ps ?_)
  have no : ¬ ((((items.size : Int) - 1) == 0 && (-1 : Int) == 1 && items.size == items.size) = true) := by
    rw [show ((-1 : Int) == 1) = false by decide]; simp
  show wpAny _ _ (if (((items.size : Int) - 1) == 0 && (-1 : Int) == 1 && items.size == items.size) = true then _ else _) _ _ s
  rw [if_neg no, pick_back]
  first
    | exact wpAny_bind (m := Builtin.Tuple.tupleExact _) (wpAny_newObj_type (wpAny_pure ⟨_, rfl, wpAny_pure h⟩) fits)
    | exact wpAny_bind (m := Builtin.Tuple.tupleExact _) (wpAny_newObj_type (wpAny_bind (wpAny_pure (wpAny_pure ⟨_, rfl, wpAny_pure h⟩))) fits)
    | exact wpAny_bind (wpAny_bind (m := Builtin.Tuple.tupleExact _) (wpAny_newObj_type (wpAny_pure (wpAny_pure ⟨_, rfl, wpAny_pure h⟩)) fits))
    | exact wpAny_bind (wpAny_bind (m := Builtin.Tuple.tupleExact _) (wpAny_newObj_type (wpAny_pure ⟨_, rfl, wpAny_pure h⟩) fits))
end
section
variable {nm : Nms} {m : Mx} {Z : Sem0} {H0 : Hp} {W : WX} {N : List Str} {sc : Scope} {cm : Bool} {X : Cx} {x y z w w2 tg : Expr} {a b c : E} {pos q : Pos}
def tRevA (K : PySem.W.Frag) (te : TE) : TE := fun σ H Q => te σ H fun x H1 => ∃ a xs, x = .ref a ∧ ((SqL K H1 a xs ∧ ∀ p, H1 p = none → Q (.ref p) (upd H1 p (.lst xs.reverse))) ∨ (SqT K H1 a xs ∧ ∀ p, H1 p = none → Q (.ref p) (upd H1 p (.tup xs.reverse))))
theorem pe_revA {te : TE} {k : Nat} {p1 p2 p3 pos : Pos} (he : PE X x te) : PE X (.Subscript x (.Slice none none (some (.UnaryOp .USub (.Constant (.int 1) k p1) p2)) p3) pos) (tRevA X.K te) := by
  refine ⟨fun pins s σ H Q I h => ?_⟩
  refine Subscript_ (thn (he.run pins s σ H _ I h) fun v s1 ⟨x, H1, I1, r1, q1⟩ => ?_)
  obtain ⟨a, xs, ex, q1⟩ := q1
  subst ex
  cases r1
  have hst : PO X (some (.UnaryOp .USub (.Constant (.int 1) k p1) p2)) (tPart (tUn (rU fun i => .int (-i)) (tC (.int 1)))) := po_some (pe_un un_neg pe_int)
  refine wpAny_Slice (thn (po_none.run pins s1 σ H1 (fun o H2 => o = none ∧ H2 = H1) I1 ⟨rfl, rfl⟩) fun vl s2 ⟨l, H2, I2, pl, el, e2⟩ => ?_)
  subst el e2
  refine thn (po_none.run pins s2 σ H2 (fun o H3 => o = none ∧ H3 = H2) I2 ⟨rfl, rfl⟩) fun vu s3 ⟨u, H3, I3, pu, eu, e3⟩ => ?_
  subst eu e3
  refine thn (hst.run pins s3 σ H3 (fun o H4 => o = some (-1) ∧ H4 = H3) I3 ⟨1, rfl, -1, rfl, rfl, rfl⟩) fun vs s4 ⟨o, H4, I4, ps, eo, e4⟩ => ?_
  subst eo e4
  have I5 : Inv X pins σ H4 { s4 with heap := s4.heap.push { cls := .type "slice", data := .fields #[vl, vu, vs] } } := I4.kept (t' := s4.toks) fun b ob q => Heap.get?_push_of_some _ q
  show wpAny (model X.prog X.w) X.A (subscriptTail x (.Slice none none (some (.UnaryOp .USub (.Constant (.int 1) k p1) p2)) p3) (.ref a) (.ref s4.heap.objs.size)) (EP X pins σ Q) X.xe { s4 with heap := s4.heap.push { cls := .type "slice", data := .fields #[vl, vu, vs] } }
  cases pl
  cases pu
  rcases q1 with ⟨hx, q⟩ | ⟨hx, q⟩
  · obtain ⟨its, r, ht, hz⟩ := I5.list hx
    have hlen := r.length
    refine tail_any (ops := [.ref a, .ref s4.heap.objs.size]) ht.isList.typeIs (PySem.slot_list_getitem.lookup) ?_ (by with_unfolding_all rfl)
    refine wpAny_getItem_list_slice ht.isList (Heap.IsSliceOf.new _ .none .none vs) .none .none ps (by decide) ?_ (by rw [List.size_toArray]; omega)
    rw [PySem.W.krv_pick]
    refine ⟨.ref _, _, I5.laid (t' := s4.toks) (o := .lst xs.reverse) (fun b ob q => Heap.get?_push_of_some _ q) (Nat.le_refl _) ?_, rfl, q _ (I5.hok.fresh (Nat.le_refl _))⟩
    exact ⟨by rw [List.length_reverse]; exact hz, _, 0, r.reverse, Heap.get?_push_size _ rfl⟩
  · obtain ⟨its, r, ht, hz⟩ := I5.tuple hx
    have hlen := r.length
    refine tail_any (ops := [.ref a, .ref s4.heap.objs.size]) ht.typeIs (PyProof.Rows.slot_tuple_getitem.lookup) ?_ (by with_unfolding_all rfl)
    refine item_back ht (Heap.IsSliceOf.new _ .none .none vs) ps ?_ (by rw [List.size_toArray]; omega)
    refine ⟨.ref _, _, I5.laid (t' := s4.toks) (o := .tup xs.reverse) (fun b ob q => Heap.get?_push_of_some _ q) (Nat.le_refl _) ?_, rfl, q _ (I5.hok.fresh (Nat.le_refl _))⟩
    exact ⟨by rw [List.length_reverse]; exact hz, its.reverse, r.reverse, _, Heap.get?_push_size _ rfl, rfl, 0, rfl⟩
theorem revD_nx (d : D) : ∀ c, revD d ≠ .exc c := by intro c; unfold revD; split <;> simp
theorem r_rev {k : Nat} {p1 p2 p3 : Pos} (hm : m.K = X.K) (ha : PE X x (tRd m Z H0 W a)) : PE X (.Subscript x (.Slice none none (some (.UnaryOp .USub (.Constant (.int 1) k p1) p2)) p3) pos) (tN m Z H0 W (.rev a)) := by
  refine peImp (pe_revA ha) fun σV H Q h => ?_
  refine tRd_step (f := fun σ d => revD d) h (fun _ _ e k => k.up e) fun d z H1 e1 r1 ⟨σ, g, h⟩ => ?_
  obtain ⟨r, hr, q⟩ := h.pure (revD_nx _)
  unfold revD at hr
  split at hr
  · cases hr
    obtain ⟨a, ys, rfl, hH, rl⟩ := r1.lstE
    exact ⟨a, ys, rfl, .inl ⟨rdSq hH, fun p hp => q.lst hp rl.reverse⟩⟩
  · cases hr
    obtain ⟨a, ys, rfl, hH, rl⟩ := r1.tupE
    rw [hm] at hH
    exact ⟨a, ys, rfl, .inr ⟨hH, fun p hp => q.tup hp rl.reverse⟩⟩
  · cases hr
end

section
variable {nm : Nms} {m : Mx} {Z : Sem0} {H0 : Hp} {W : WX} {N : List Str} {sc : Scope} {cm : Bool} {X : Cx} {x y z w w2 tg : Expr} {a b c : E} {pos q : Pos}
/-- x(lambda: e) -/
theorem Okx.noL (o : Okx nm m Z W N sc cm X) : Okx nm.noL m Z W N sc cm X where
  hm := o.hm
  hu := o.hu
  tk := o.tk
  hN := o.hN
  nod := o.nod
  hsc := o.hsc
  hc := o.hc
  gl := o.gl
  glx := o.glx
  fn := o.fn
  bi := o.bi
  xcm := o.xcm
  mgx := o.mgx
  exm := o.exm
  kit := o.kit
  kitV := o.kitV
  exC := o.exC
  cool := o.cool
  hot := o.hot
  told := fun t w z => by cases z
theorem r_told {t v : Nat} {e : E} {params : Arguments} {body : Expr} {scope : Scope} {lpos : Pos} (o : Okx nm m Z W N sc cm X) (ht : nm.tl t v = true) (hc : cm = true) (hn : globIs sc (nm.f t) w = true) (hL : LamX.lamSB sc scope = true) (hp : noArgs params = true)
    (he : ∀ W' X', Okx nm.noL m Z W' N scope cm X' → PE X' body (tF m Z H0 W' e)) : PE X (.Call w [.Lambda params body scope lpos] [] pos) (tF m Z H0 W (.told t v e)) := by
  obtain ⟨p, rfl, hg, hd⟩ := gl_nm o hn
  obtain ⟨kk, hr, hf, hT⟩ := o.told t v ht hc
  have L : LamX.LamS X.env.scope scope := by rw [o.hsc]; exact LamX.lamS_by hL
  refine peImp (hT X rfl rfl rfl rfl rfl rfl rfl hr (t := fun E => tF m Z H0 (fun cls d _ H => E cls d H) e) hg hd L hp fun A outer s H E f c' hr' => ?_) fun σV H Q ⟨σ, g, r⟩ => ?_
  · refine he _ _ { hm := o.hm, hu := ?_, tk := takes_of rfl rfl rfl rfl, hN := o.hN, nod := o.nod, hsc := rfl, hc := fun _ => rfl, gl := o.gl, glx := o.glx, fn := fun g hg' _ => ?_, bi := o.bi, xcm := o.xcm, mgx := o.mgx, exm := o.exm, kit := o.kit, kitV := o.kitV, exC := o.exC, cool := o.cool, hot := fun a c z => ?_, told := fun t w z => by cases z }
    · have := hr'.un
      show (A.deeper _).units + 66 < cLine
      omega
    · obtain ⟨k, fa, fd, ps, h1, h2⟩ := hf g hg'
      exact ⟨k, fa, fd, ps, hr'.mono h1, h2⟩
    · rw [o.cool hc] at z; cases z
  · refine ⟨g.tabs.2, fun H1 e1 T1 => ?_⟩
    have s1 : Same H H1 := ⟨fun a o ho c => e1 a o ho fun ps z => (by rw [z] at c; cases c), fun _ => T1⟩
    refine ⟨σ, g.of_same s1, ?_⟩
    have r : Run H (XW m W σV) (match ev Z.G Z.C σ e with
      | .ok d => .ok d
      | .exc c => (match Z.C v [.exv c] with
        | .ok (.str z) => .ok (.str z)
        | _ => .stk)
      | .stk => .stk) fun d => YldF m H d Q := r
    show Run H1 (XW m _ σV) (ev Z.G Z.C σ e) fun d => YldF m H1 d Q
    revert r
    cases ev Z.G Z.C σ e with
    | ok d => exact fun r => YldF.up r s1
    | stk => exact id
    | exc c =>
      intro r H2 e2 hx
      dsimp only at r
      cases hw : Z.C v [.exv c] with
      | ok d =>
        rw [hw] at r
        cases d with
        | str z => exact ⟨c, z, hx, rfl, rfl, hw, ((g.of_same s1).of_same e2).tabs, fun H3 e3 => (show YldF m H (.str z) Q from r) (.str z) H3 (s1.trans (e2.trans e3)) (.str z)⟩
        | _ => exact r.elim
      | exc c' => rw [hw] at r; exact r.elim
      | stk => rw [hw] at r; exact r.elim
/-! ### rows of one's own -/
theorem rows_len {H : Hp} : ∀ {bs : List Addr} {xss : List (List D)}, RepRows m H (bs.map V.ref) xss → bs.length = xss.length
  | [], _, h => by cases h; rfl
  | c :: bs, [], h => by cases h
  | c :: bs, ds :: xss, h => by
    cases h with
    | cons h1 h2 h3 => simp [rows_len h3]
theorem rows_get {H : Hp} : ∀ {bs : List Addr} {xss : List (List D)} {j : Nat} {xs : List D}, RepRows m H (bs.map V.ref) xss → xss[j]? = some xs → ∃ b vs, bs[j]? = some b ∧ H b = some (.lst vs) ∧ RepL m H vs xs
  | [], _, j, xs, h, e => by cases h; simp at e
  | c :: bs, [], j, xs, h, e => by cases h
  | c :: bs, ds :: xss, 0, xs, h, e => by
    cases h with
    | cons h1 h2 h3 => simp at e; subst e; exact ⟨c, _, rfl, h1, h2⟩
  | c :: bs, ds :: xss, j + 1, xs, h, e => by
    cases h with
    | cons h1 h2 h3 =>
      obtain ⟨b, vs, q1, q2⟩ := rows_get (j := j) h3 (by simpa using e)
      exact ⟨b, vs, by simpa using q1, q2⟩
theorem atI_ix {α : Type} {xs : List α} {k : Int} {x : α} (h : atI xs k = some x) : ∃ j, ixN xs.length k = some j ∧ xs[j]? = some x := by
  unfold atI at h
  cases e : ixN xs.length k with
  | none => rw [e] at h; cases h
  | some j => rw [e] at h; exact ⟨j, rfl, h⟩
theorem atI_of {α : Type} {xs : List α} {k : Int} {x : α} {j : Nat} (h : ixN xs.length k = some j) (e : xs[j]? = some x) : atI xs k = some x := by
  unfold atI
  rw [h]; exact e
theorem r_ix2 {i : Nat} {p2 : Pos} (o : Okx nm m Z W N sc cm X) (hn : nameIs N sc i x = true) (hs : notSlice y = true) (hs2 : notSlice z = true) (ha : PE X y (tRd m Z H0 W a)) (hb : PE X z (tRd m Z H0 W b)) :
    PE X (.Subscript (.Subscript x y p2) z pos) (tF m Z H0 W (.ix2 i a b)) := by
  refine peImp (pe_ix ix_seq (pe_ix ix_seq (pe_nm o hn) ha (ix_plain hs)) hb (ix_plain hs2)) fun σV H Q ⟨σ, g, r⟩ => ?_
  have s := g.sl i
  have r : Run H (XW m W σV) (match lk σ i with
    | .own2 xss => (ev Z.G Z.C σ a).bind fun x => (asI x).bind fun k => (opt (L2.atI xss k)).bind fun xs => (ev Z.G Z.C σ b).bind fun y => (asI y).bind fun j => opt (L2.atI xs j)
    | _ => .stk) fun d => YldF m H d Q := r
  cases e : lk σ i with
  | own2 xss =>
    rw [e] at s r
    obtain ⟨p, bs, h1, h2, h3, _⟩ := s
    refine ⟨_, h1, σ, g, r.bind.imp fun d _ r1 v H1 e1 rv => ?_⟩
    obtain ⟨k, rfl, r2⟩ := asI_ok r1.bind
    obtain ⟨xs, hx, r3⟩ := r2.bind.opt
    obtain ⟨j, j1, j2⟩ := atI_ix hx
    obtain ⟨q, vs, q1, q2, q3⟩ := rows_get h3 j2
    have hl := rows_len h3
    refine .inl ⟨p, bs.map V.ref, k, .ref q, rfl, rv.intE, .of (e1.k _ _ h2 rfl), atI_of (j := j) (by rw [List.length_map, hl]; exact j1) (by rw [List.getElem?_map, q1]; rfl), σ, g.of_same e1, (Run.same r3 e1).bind.imp fun d2 _ r4 v2 H2 e2 rv2 => ?_⟩
    obtain ⟨n, rfl, r5⟩ := asI_ok (Run.same r4 e2).bind
    obtain ⟨u, hu, yl⟩ := r5.opt
    obtain ⟨t, t1, t2⟩ := atI_ix hu
    obtain ⟨x1, x2, x3⟩ := q3.get' t2
    exact .inl ⟨q, vs, n, x1, rfl, rv2.intE, .of (e2.k _ _ (e1.k _ _ q2 rfl) rfl), atI_of (j := t) (by rw [q3.length]; exact t1) x2, yl x1 H2 (e1.trans e2) (x3.mono (.of (e1.trans e2)))⟩
  | _ => rw [e] at r; exact r.elim
end
end Fc
/-! Ev2i: a checker that a term of Ev1 is a text of the model, and that what it tells is so. -/
namespace Fc
open PySem PySem.Spec
open PyProof.Rows L2
variable [Tb]

def boolTail (op : PySem.BoolOp) (y : Expr) (r : List Expr) (pos : Pos) : Expr := match r with
  | [] => y
  | _ => .BoolOp op (y :: r) pos
def ownOf (N : List Str) (vs : List Nat) : List (Str × Nat) := vs.map fun i => (N.getD i ⟨#[]⟩, i)
theorem ownOf_snd (N : List Str) : ∀ vs : List Nat, (ownOf N vs).map (·.2) = vs
  | [] => rfl
  | v :: vs => congrArg (v :: ·) (ownOf_snd N vs)
def nilE : Es → Bool
  | .nil => true
  | _ => false
/-- what makes a list of its own, if a list -/
def newE (nm : Nms) : E → Bool
  | .var _ => false
  | .brw _ => false
  | .brw2 _ => false
  | .gl _ => false
  | .ix _ _ => false
  | .ix2 _ _ _ => false
  | .m2 _ _ _ _ => false
  | .ite _ _ _ => false
  | .callix _ _ _ => false
  | .told _ _ _ => false
  | .call f _ => nm.fr f
  | _ => true
/-- what may be asked as a test -/
def testOk : E → Bool
  | .ite _ _ _ => false
  | .and a b => testOk a && testOk b
  | .or a b => testOk a && testOk b
  | .not a => testOk a
  | .brw _ => false
  | .brw2 _ => false
  | _ => true
def tyOk (nm : Nms) (sc : Scope) (t : Ty) (ty : Expr) : Bool := match t with
  | .exc c => nm.xc c && globIs sc (nm.x c) ty
  | .verr => biIs sc "ValueError" ty
  | t => biIs sc t.nm ty
section
variable (cm : Bool) (N : List Str)
mutual
def okE (nm : Nms) (md : Nat) (sc : Scope) : E → Expr → Bool
  | .var i, x => nameIs N sc i x
  | .brw i, x => decide (1 ≤ md) && nameIs N sc i x
  | .brw2 i, x => decide (2 ≤ md) && nameIs N sc i x
  | .c d, x => match x with
    | .Constant k _ _ => constIs d k
    | _ => false
  | .gl n, x => nm.gt n && globIs sc (nm.g n) x
  | .bin op a b, x => match x with
    | .BinOp x o y _ => decide (o = op.op) && okE nm 1 sc a x && okE nm 1 sc b y
    | _ => false
  | .neg a, x => match x with
    | .UnaryOp .USub x _ => okE nm 1 sc a x
    | _ => false
  | .cmp op a b, x => match x with
    | .Compare x [o] [y] _ => decide (o = op.op) && notSet y && okE nm 2 sc a x && okE nm 2 sc b y
    | _ => false
  | .chain o1 o2 a b c, x => match x with
    | .Compare x [p1, p2] [y, z] _ => decide (p1 = o1.op) && decide (p2 = o2.op) && notSet z && okE nm 2 sc a x && okE nm 2 sc b y && okE nm 2 sc c z
    | _ => false
  | .and a b, x => match x with
    | .BoolOp .And (x :: y :: r) pos => okE nm 0 sc a x && okE nm 0 sc b (boolTail .And y r pos)
    | _ => false
  | .or a b, x => match x with
    | .BoolOp .Or (x :: y :: r) pos => okE nm 0 sc a x && okE nm 0 sc b (boolTail .Or y r pos)
    | _ => false
  | .not a, x => match x with
    | .UnaryOp .Not x _ => okE nm 0 sc a x
    | _ => false
  | .ite c a b, x => match x with
    | .IfExp z x y _ => testOk c && okE nm 0 sc c z && okE nm 0 sc a x && okE nm 0 sc b y
    | _ => false
  | .call f es, x => match x with
    | .Call w xs [] _ => nm.t f && cm && globIs sc (nm.f f) w && xs.all notStar && okEs nm sc es xs
    | _ => false
  | .callix fs i es, x => match x with
    | .Call (.Subscript (.List ns _) ix _) xs [] _ => cm && fnsAre nm sc fs ns && decide (fs.length ≤ 100) && notSlice ix && !xs.isEmpty && okE nm 1 sc i ix && xs.all notStar && okEs nm sc es xs
    | _ => false
  | .b1 f a, x => match f, x with
    | .sortset, .Call w [.Call w2 [y] [] _] [] _ => cm && biIs sc "sorted" w && biIs sc "set" w2 && notStar y && okE nm 1 sc a y
    | .sortsetI, .Call w [.Call w2 [y] [] _] [] _ => cm && biIs sc "sorted" w && biIs sc "set" w2 && notStar y && okE nm 1 sc a y
    | f, .Call w [x] [] _ => f.okc cm && biIs sc f.nm w && notStar x && okE nm 1 sc a x
    | _, _ => false
  | .b2 f a b, x => match x with
    | .Call w [x, y] [] _ => cm && biIs sc f.nm w && notStar x && notStar y && okE nm 1 sc a x && okE nm 1 sc b y
    | _ => false
  | .m1 f a b, x => match x with
    | .Call (.Attribute x n ap) [y] [] cp => eqS n f.nm && plainBase x && (ap.endLine == cp.line) && notStar y && okE nm 1 sc a x && okE nm 1 sc b y
    | _ => false
  | .m2 f a b c, x => match f, x with
    | .get, .Call (.Attribute x n ap) [y, z] [] cp => eqS n "get" && plainBase x && (ap.endLine == cp.line) && notStar y && notStar z && okE nm 1 sc a x && okE nm 1 sc b y && okE nm 0 sc c z
    | _, _ => false
  | .isi a t, x => match x with
    | .Call w [x, ty] [] _ => biIs sc "isinstance" w && tyOk nm sc t ty && notStar x && okE nm 1 sc a x
    | _ => false
  | .ix a b, x => match x with
    | .Subscript x y _ => notSlice y && okE nm 1 sc a x && okE nm 1 sc b y
    | _ => false
  | .ix2 i a b, x => match x with
    | .Subscript (.Subscript x y _) z _ => nameIs N sc i x && notSlice y && notSlice z && okE nm 1 sc a y && okE nm 1 sc b z
    | _ => false
  | .sl a lo hi, x => match x with
    | .Subscript x (.Slice l h none _) _ => okE nm 1 sc a x && okO nm sc lo l && okO nm sc hi h
    | _ => false
  | .rev a, x => match x with
    | .Subscript x (.Slice none none (some (.UnaryOp .USub (.Constant (.int 1) _ _) _)) _) _ => okE nm 1 sc a x
    | _ => false
  | .lrg a b, x => match x with
    | .Call w [.Call w2 [x, y] [] _] [] _ => cm && biIs sc "list" w && biIs sc "range" w2 && notStar x && notStar y && okE nm 1 sc a x && okE nm 1 sc b y
    | _ => false
  | .lzip _ _, _ => false
  | .told t w e, x => match x with
    | .Call fw [.Lambda params body scope _] [] _ => nm.tl t w && cm && globIs sc (nm.f t) fw && LamX.lamSB sc scope && noArgs params && okE nm.noL 0 scope e body
    | _ => false
  | .tup es, x => match x with
    | .Tuple xs _ _ => okEs nm sc es xs
    | _ => false
  | .lst es, x => match x with
    | .List xs _ => okEs nm sc es xs
    | _ => false
  | .dct ks es, x => match x with
    | .Dict keys xs _ => keysAre ks keys && decide (esLen es = ks.length) && decide (keys.length = xs.length) && !keys.isEmpty && decide (keys.length ≤ 15) && okEs nm sc es xs
    | _ => false
  | .lc elt tg it cond, x => match x with
    | .ListComp xelt [⟨xtg, xit, ifs, 0⟩] scope _ => cm && blkC N sc scope (ownOf N (tgv tg)) && okT N (relS scope sc) (fun x => scope.names.lookup x == some .cell) tg xtg && notSet xit && okI nm sc it xtg xit && okC nm (relS scope sc) cond ifs && okE nm 0 (relS scope sc) elt xelt
    | _ => false
def okEs (nm : Nms) (sc : Scope) : Es → List Expr → Bool
  | .nil, xs => match xs with
    | [] => true
    | _ => false
  | .cons e r, xs => match xs with
    | x :: xs => notStar x && okE nm 0 sc e x && okEs nm sc r xs
    | [] => false
def okO (nm : Nms) (sc : Scope) : Option E → Option Expr → Bool
  | none, x => match x with
    | none => true
    | _ => false
  | some e, x => match x with
    | some x => okE nm 1 sc e x
    | none => false
def okC (nm : Nms) (sc : Scope) : Option E → List Expr → Bool
  | none, x => match x with
    | [] => true
    | _ => false
  | some e, x => match x with
    | [x] => testOk e && okE nm 0 sc e x
    | _ => false
def okI (nm : Nms) (sc : Scope) : It → Expr → Expr → Bool
  | .e a, _, x => okE nm 0 sc a x
  | .rg1 a, _, x => match x with
    | .Call w [x] [] _ => biIs sc "range" w && notStar x && okE nm 1 sc a x
    | _ => false
  | .rg2 a b, _, x => match x with
    | .Call w [x, y] [] _ => biIs sc "range" w && notStar x && notStar y && okE nm 1 sc a x && okE nm 1 sc b y
    | _ => false
  | .zip a b, t, x => match t, x with
    | .Tuple _ _ _, .Call w [x, y] [] _ => biIs sc "zip" w && notStar x && notStar y && okE nm 0 sc a x && okE nm 0 sc b y
    | _, _ => false
  | .zip3 a b c, t, x => match t, x with
    | .Tuple _ _ _, .Call w [x, y, z] [] _ => biIs sc "zip" w && notStar x && notStar y && notStar z && okE nm 0 sc a x && okE nm 0 sc b y && okE nm 0 sc c z
    | _, _ => false
  | .enum a, t, x => match t, x with
    | .Tuple _ _ _, .Call w [x] [] _ => biIs sc "enumerate" w && notStar x && okE nm 0 sc a x
    | _, _ => false
end
end

def tMd (m : Mx) (Z : Sem0) (H0 : Hp) (W : WX) (md : Nat) (e : E) : TE := match md with
  | 0 => tF m Z H0 W e
  | 1 => tRd m Z H0 W e
  | _ => tQ m Z H0 W e
def PTW (m : Mx) (Z : Sem0) (H0 : Hp) (W : WX) (X : Cx) (e : E) (x : Expr) : Prop := match e with
  | .and _ _ => PW X x (tTT m Z H0 W e)
  | .or _ _ => PW X x (tTT m Z H0 W e)
  | _ => PT X x (tTT m Z H0 W e)
section
variable {nm : Nms} {m : Mx} {Z : Sem0} {H0 : Hp} {W : WX} {N : List Str} {sc : Scope} {cm : Bool} {X : Cx} {x y z w tg : Expr} {a b c e : E} {pos : Pos}
theorem md_ofF {md : Nat} (h : PE X x (tF m Z H0 W e)) : PE X x (tMd m Z H0 W md e) := by
  match md with
  | 0 => exact h
  | 1 => exact pe_rd h
  | _ + 2 => exact pe_q (pe_rd h)
theorem md_of {md : Nat} (h : PE X x (tN m Z H0 W e)) : PE X x (tMd m Z H0 W md e) := md_ofF (pe_frozen h)
theorem md_rd {md : Nat} (h1 : 1 ≤ md) (h : PE X x (tRd m Z H0 W e)) : PE X x (tMd m Z H0 W md e) := by
  match md with
  | 0 => omega
  | 1 => exact h
  | _ + 2 => exact pe_q h
theorem PTW.pt (h : PTW m Z H0 W X e x) : PT X x (tTT m Z H0 W e) := by
  unfold PTW at h
  split at h
  · exact h.pt
  · exact h.pt
  · exact h
/-- the parts of the claim about an expression -/
def SndE (m : Mx) (Z : Sem0) (H0 : Hp) (N : List Str) (cm : Bool) (e : E) : Prop := ∀ (nm : Nms) (W : WX) (X : Cx) (sc : Scope) (_ : Okx nm m Z W N sc cm X) (md : Nat) (x : Expr), okE cm N nm md sc e x = true → PE X x (tMd m Z H0 W md e) ∧ (md = 0 → testOk e = true → PTW m Z H0 W X e x) ∧ (md = 0 → newE nm e = true → PE X x (tN m Z H0 W e))
def SndEs (m : Mx) (Z : Sem0) (H0 : Hp) (N : List Str) (cm : Bool) (es : Es) : Prop := ∀ (nm : Nms) (W : WX) (X : Cx) (sc : Scope) (_ : Okx nm m Z W N sc cm X) (xs : List Expr), okEs cm N nm sc es xs = true → PA X xs (tAs m Z H0 W es)
def SndO (m : Mx) (Z : Sem0) (H0 : Hp) (N : List Str) (cm : Bool) (e : Option E) : Prop := ∀ (nm : Nms) (W : WX) (X : Cx) (sc : Scope) (_ : Okx nm m Z W N sc cm X) (x : Option Expr), okO cm N nm sc e x = true → PO X x (tOm m Z H0 W e)
def SndC (m : Mx) (Z : Sem0) (H0 : Hp) (N : List Str) (cm : Bool) (e : Option E) : Prop := ∀ (nm : Nms) (W : WX) (X : Cx) (sc : Scope) (_ : Okx nm m Z W N sc cm X) (xs : List Expr), okC cm N nm sc e xs = true → PTs X xs (tTc m Z H0 W e)
def SndI (m : Mx) (Z : Sem0) (H0 : Hp) (N : List Str) (cm : Bool) (it : It) : Prop := ∀ (nm : Nms) (W : WX) (X : Cx) (sc : Scope) (_ : Okx nm m Z W N sc cm X) (tg x : Expr), okI cm N nm sc it tg x = true → PI X tg x (tI m Z H0 W it)
theorem SndE.n (h : SndE m Z H0 N cm e) (o : Okx nm m Z W N sc cm X) (k : okE cm N nm 0 sc e x = true) (n : newE nm e = true) : PE X x (tN m Z H0 W e) := (h nm W X sc o 0 x k).2.2 rfl n
theorem SndE.f (h : SndE m Z H0 N cm e) (o : Okx nm m Z W N sc cm X) (k : okE cm N nm 0 sc e x = true) : PE X x (tF m Z H0 W e) := (h nm W X sc o 0 x k).1
theorem SndE.r (h : SndE m Z H0 N cm e) (o : Okx nm m Z W N sc cm X) (k : okE cm N nm 1 sc e x = true) : PE X x (tRd m Z H0 W e) := (h nm W X sc o 1 x k).1
theorem SndE.q (h : SndE m Z H0 N cm e) (o : Okx nm m Z W N sc cm X) (k : okE cm N nm 2 sc e x = true) : PE X x (tQ m Z H0 W e) := (h nm W X sc o 2 x k).1
theorem SndE.t (h : SndE m Z H0 N cm e) (o : Okx nm m Z W N sc cm X) (k : okE cm N nm 0 sc e x = true) (t : testOk e = true) : PT X x (tTT m Z H0 W e) := ((h nm W X sc o 0 x k).2.1 rfl t).pt
theorem and_tail {r : List Expr} (h : SndE m Z H0 N cm b) (o : Okx nm m Z W N sc cm X) (k : okE cm N nm 0 sc b (boolTail .And y r pos) = true) : PE X (.BoolOp .And (y :: r) pos) (tF m Z H0 W b) := by
  cases r with
  | nil => exact pe_one (h.f o k)
  | cons z r => exact h.f o k
theorem or_tail {r : List Expr} (h : SndE m Z H0 N cm b) (o : Okx nm m Z W N sc cm X) (k : okE cm N nm 0 sc b (boolTail .Or y r pos) = true) : PE X (.BoolOp .Or (y :: r) pos) (tF m Z H0 W b) := by
  cases r with
  | nil => exact pe_one (h.f o k)
  | cons z r => exact h.f o k
theorem and_tailW {r : List Expr} (h : SndE m Z H0 N cm b) (o : Okx nm m Z W N sc cm X) (k : okE cm N nm 0 sc b (boolTail .And y r pos) = true) (t : testOk b = true) : PW X (.BoolOp .And (y :: r) pos) (tTT m Z H0 W b) := by
  cases r with
  | nil => exact pw_and1 (h.t o k t)
  | cons z r =>
    have q := (h nm W X sc o 0 _ k).2.1 rfl t
    cases b with
    | and _ _ => exact q
    | or _ _ => exact q
    | _ => simp [okE, boolTail, nameIs, globIs] at k
theorem or_tailW {r : List Expr} (h : SndE m Z H0 N cm b) (o : Okx nm m Z W N sc cm X) (k : okE cm N nm 0 sc b (boolTail .Or y r pos) = true) (t : testOk b = true) : PW X (.BoolOp .Or (y :: r) pos) (tTT m Z H0 W b) := by
  cases r with
  | nil => exact pw_or1 (h.t o k t)
  | cons z r =>
    have q := (h nm W X sc o 0 _ k).2.1 rfl t
    cases b with
    | and _ _ => exact q
    | or _ _ => exact q
    | _ => simp [okE, boolTail, nameIs, globIs] at k
theorem nm_name {i : Nat} (h : nameIs N sc i x = true) : ∃ s p, x = .Name s p := by
  cases x <;> first | exact ⟨_, _, rfl⟩ | cases h
theorem gl_name {i : Str} (h : globIs sc i x = true) : ∃ s p, x = .Name s p := by
  cases x <;> first | exact ⟨_, _, rfl⟩ | cases h
mutual
theorem sndE : ∀ e : E, SndE m Z H0 N cm e
  | .var i => fun nm W X sc o md x h => by
    have h : nameIs N sc i x = true := h
    have P := r_var (H0 := H0) o h
    obtain ⟨s, p, rfl⟩ := nm_name h
    exact ⟨md_ofF P, fun _ _ => t_valF P, fun _ n => by cases n⟩
  | .brw i => fun nm W X sc o md x h => by
    simp only [okE, Bool.and_eq_true, decide_eq_true_eq] at h
    exact ⟨md_rd h.1 (r_brw o h.2), fun e => by subst e; omega, fun e => by subst e; omega⟩
  | .brw2 i => fun nm W X sc o md x h => by
    simp only [okE, Bool.and_eq_true, decide_eq_true_eq] at h
    obtain ⟨h1, h2⟩ := h
    match md, h1 with
    | 0, h1 => omega
    | 1, h1 => omega
    | k + 2, _ => exact ⟨r_brw2 o h2, fun e => by omega, fun e => by omega⟩
  | .c d => fun nm W X sc o md x h => by
    simp only [okE] at h
    split at h
    · exact ⟨md_of (r_c h), fun _ _ => t_val (r_c h), fun _ _ => r_c h⟩
    · cases h
  | .gl n => fun nm W X sc o md x h => by
    simp only [okE, Bool.and_eq_true] at h
    have P := r_gl (H0 := H0) o h.1 h.2
    obtain ⟨s, p, rfl⟩ := gl_name h.2
    exact ⟨md_ofF P, fun _ _ => t_valF P, fun _ n => by cases n⟩
  | .bin op a b => fun nm W X sc o md x h => by
    simp only [okE] at h
    split at h
    · simp only [Bool.and_eq_true, decide_eq_true_eq] at h
      obtain ⟨⟨rfl, h1⟩, h2⟩ := h
      exact ⟨md_of (r_bin o ((sndE a).r o h1) ((sndE b).r o h2)), fun _ _ => t_val (r_bin o ((sndE a).r o h1) ((sndE b).r o h2)), fun _ _ => r_bin o ((sndE a).r o h1) ((sndE b).r o h2)⟩
    · cases h
  | .neg a => fun nm W X sc o md x h => by
    simp only [okE] at h
    split at h
    · exact ⟨md_of (r_neg ((sndE a).r o h)), fun _ _ => t_val (r_neg ((sndE a).r o h)), fun _ _ => r_neg ((sndE a).r o h)⟩
    · cases h
  | .cmp op a b => fun nm W X sc o md x h => by
    simp only [okE] at h
    split at h
    · simp only [Bool.and_eq_true, decide_eq_true_eq] at h
      obtain ⟨⟨⟨rfl, h0⟩, h1⟩, h2⟩ := h
      have p1 := (sndE a).q o h1
      have p2 := (sndE b).q o h2
      exact ⟨md_of (r_cmp o p1 p2 h0), fun _ _ => t_cmp o p1 p2 h0, fun _ _ => r_cmp o p1 p2 h0⟩
    · cases h
  | .chain o1 o2 a b c => fun nm W X sc o md x h => by
    simp only [okE] at h
    split at h
    · simp only [Bool.and_eq_true, decide_eq_true_eq] at h
      obtain ⟨⟨⟨⟨⟨rfl, rfl⟩, h0⟩, h1⟩, h2⟩, h3⟩ := h
      have p1 := (sndE a).q o h1
      have p2 := (sndE b).q o h2
      have p3 := (sndE c).q o h3
      exact ⟨md_of (r_chain o p1 p2 p3 h0), fun _ _ => t_chain o p1 p2 p3 h0, fun _ _ => r_chain o p1 p2 p3 h0⟩
    · cases h
  | .and a b => fun nm W X sc o md x h => by
    simp only [okE] at h
    split at h
    · simp only [Bool.and_eq_true] at h
      refine ⟨md_of (r_and (pe_rd ((sndE a).f o h.1)) (and_tail (sndE b) o h.2)), fun _ t => ?_, fun _ _ => r_and (pe_rd ((sndE a).f o h.1)) (and_tail (sndE b) o h.2)⟩
      simp only [testOk, Bool.and_eq_true] at t
      exact t_and ((sndE a).t o h.1 t.1) (and_tailW (sndE b) o h.2 t.2)
    · cases h
  | .or a b => fun nm W X sc o md x h => by
    simp only [okE] at h
    split at h
    · simp only [Bool.and_eq_true] at h
      refine ⟨md_of (r_or (pe_rd ((sndE a).f o h.1)) (or_tail (sndE b) o h.2)), fun _ t => ?_, fun _ _ => r_or (pe_rd ((sndE a).f o h.1)) (or_tail (sndE b) o h.2)⟩
      simp only [testOk, Bool.and_eq_true] at t
      exact t_or ((sndE a).t o h.1 t.1) (or_tailW (sndE b) o h.2 t.2)
    · cases h
  | .not a => fun nm W X sc o md x h => by
    simp only [okE] at h
    split at h
    · refine ⟨md_of (r_not (pe_rd ((sndE a).f o h))), fun _ t => ?_, fun _ _ => r_not (pe_rd ((sndE a).f o h))⟩
      simp only [testOk] at t
      exact t_not ((sndE a).t o h t)
    · cases h
  | .ite c a b => fun nm W X sc o md x h => by
    simp only [okE] at h
    split at h
    · simp only [Bool.and_eq_true] at h
      obtain ⟨⟨⟨h0, h1⟩, h2⟩, h3⟩ := h
      exact ⟨md_ofF (r_ite ((sndE c).t o h1 h0) ((sndE a).f o h2) ((sndE b).f o h3)), fun _ t => by simp [testOk] at t, fun _ n => by cases n⟩
    · cases h
  | .call f es => fun nm W X sc o md x h => by
    simp only [okE] at h
    split at h
    · simp only [Bool.and_eq_true] at h
      obtain ⟨⟨⟨⟨h0, h1⟩, h2⟩, h3⟩, h4⟩ := h
      have hnil : ∀ xs, okEs cm N nm sc es xs = true → xs = [] → es = .nil := fun xs h e => by
        subst e
        cases es with
        | nil => rfl
        | cons _ _ => simp [okEs] at h
      by_cases hf : nm.fr f = true
      · have P := fun pos => r_callN (H0 := H0) (pos := pos) o h0 hf h1 h2 h3 (hnil _ h4) (sndEs es nm W X sc o _ h4)
        exact ⟨md_of (P _), fun _ _ => t_val (P _), fun _ _ => P _⟩
      · have P := fun pos => r_call (H0 := H0) (pos := pos) o h0 (Bool.eq_false_iff.mpr hf) h1 h2 h3 (hnil _ h4) (sndEs es nm W X sc o _ h4)
        exact ⟨md_ofF (P _), fun _ _ => t_valF (P _), fun _ n => absurd n hf⟩
    · cases h
  | .callix fs i es => fun nm W X sc o md x h => by
    simp only [okE] at h
    split at h
    · rename_i ns p0 ix p1 xs pos
      simp only [Bool.and_eq_true, decide_eq_true_eq, Bool.not_eq_true'] at h
      obtain ⟨⟨⟨⟨⟨⟨⟨h0, h1⟩, h2⟩, h3⟩, h4⟩, h5⟩, h6⟩, h7⟩ := h
      cases xs with
      | nil => cases h4
      | cons y ys =>
        have P := r_callix (H0 := H0) (p0 := p0) (p1 := p1) (pos := pos) o h0 h1 h2 h3 ((sndE i).r o h5) h6 (sndEs es nm W X sc o _ h7)
        exact ⟨md_ofF P, fun _ _ => t_valF P, fun _ n => by cases n⟩
    · cases h
  | .b1 f a => fun nm W X sc o md x h => by
    simp only [okE] at h
    split at h
    · simp only [Bool.and_eq_true] at h
      obtain ⟨⟨⟨⟨h0, h1⟩, h2⟩, h3⟩, h4⟩ := h
      have P := fun pos p2 => r_sortset (H0 := H0) (pos := pos) (p2 := p2) o h0 h1 h2 h3 ((sndE a).r o h4)
      exact ⟨md_of (P _ _), fun _ _ => t_val (P _ _), fun _ _ => P _ _⟩
    · simp only [Bool.and_eq_true] at h
      obtain ⟨⟨⟨⟨h0, h1⟩, h2⟩, h3⟩, h4⟩ := h
      have P := fun pos p2 => r_sortsetI (H0 := H0) (pos := pos) (p2 := p2) o h0 h1 h2 h3 ((sndE a).r o h4)
      exact ⟨md_of (P _ _), fun _ _ => t_val (P _ _), fun _ _ => P _ _⟩
    · simp only [Bool.and_eq_true] at h
      obtain ⟨⟨⟨h0, h1⟩, h2⟩, h3⟩ := h
      have P := fun pos => r_b1 (H0 := H0) (pos := pos) o h0 h1 h2 ((sndE a).r o h3)
      exact ⟨md_of (P _), fun _ _ => t_val (P _), fun _ _ => P _⟩
    · cases h
  | .b2 f a b => fun nm W X sc o md x h => by
    simp only [okE] at h
    split at h
    · simp only [Bool.and_eq_true] at h
      obtain ⟨⟨⟨⟨⟨h0, h1⟩, h2⟩, h3⟩, h4⟩, h5⟩ := h
      have P := fun pos => r_b2 (H0 := H0) (pos := pos) o h0 h1 h2 h3 ((sndE a).r o h4) ((sndE b).r o h5)
      exact ⟨md_of (P _), fun _ _ => t_val (P _), fun _ _ => P _⟩
    · cases h
  | .m1 f a b => fun nm W X sc o md x h => by
    simp only [okE] at h
    split at h
    · simp only [Bool.and_eq_true] at h
      obtain ⟨⟨⟨⟨⟨h0, h1⟩, h2⟩, h3⟩, h4⟩, h5⟩ := h
      obtain rfl := eqS_eq h0
      have P := r_m1 (H0 := H0) (f := f) o h1 h2 h3 ((sndE a).r o h4) ((sndE b).r o h5)
      exact ⟨md_of P, fun _ _ => t_val P, fun _ _ => P⟩
    · cases h
  | .m2 f a b c => fun nm W X sc o md x h => by
    simp only [okE] at h
    split at h
    · simp only [Bool.and_eq_true] at h
      obtain ⟨⟨⟨⟨⟨⟨⟨h0, h1⟩, h2⟩, h3⟩, h4⟩, h5⟩, h6⟩, h7⟩ := h
      obtain rfl := eqS_eq h0
      have P := r_get (H0 := H0) o h1 h2 h3 h4 ((sndE a).r o h5) ((sndE b).r o h6) ((sndE c).f o h7)
      exact ⟨md_ofF P, fun _ _ => t_valF P, fun _ n => by cases n⟩
    · cases h
  | .isi a t => fun nm W X sc o md x h => by
    simp only [okE] at h
    split at h
    · simp only [Bool.and_eq_true] at h
      obtain ⟨⟨⟨h1, h2⟩, h3⟩, h4⟩ := h
      have P : ∀ pos, PE X (.Call _ [_, _] [] pos) (tN m Z H0 W (.isi a t)) := fun pos => by
        cases t with
        | exc c =>
          simp only [tyOk, Bool.and_eq_true] at h2
          exact r_isE (H0 := H0) (pos := pos) o h2.1 h1 h2.2 h3 ((sndE a).r o h4)
        | verr => exact r_isV (H0 := H0) (pos := pos) o h1 h2 h3 ((sndE a).r o h4)
        | _ => exact r_isi (H0 := H0) (pos := pos) o rfl h1 h2 h3 ((sndE a).r o h4)
      exact ⟨md_of (P _), fun _ _ => t_val (P _), fun _ _ => P _⟩
    · cases h
  | .ix a b => fun nm W X sc o md x h => by
    simp only [okE] at h
    split at h
    · simp only [Bool.and_eq_true] at h
      obtain ⟨⟨h0, h1⟩, h2⟩ := h
      have P := fun pos => r_ix (H0 := H0) (pos := pos) o h0 ((sndE a).r o h1) ((sndE b).r o h2)
      exact ⟨md_ofF (P _), fun _ _ => t_valF (P _), fun _ n => by cases n⟩
    · cases h
  | .ix2 i a b => fun nm W X sc o md x h => by
    simp only [okE] at h
    split at h
    · simp only [Bool.and_eq_true] at h
      obtain ⟨⟨⟨⟨h0, h1⟩, h2⟩, h3⟩, h4⟩ := h
      have P := fun pos p2 => r_ix2 (H0 := H0) (pos := pos) (p2 := p2) o h0 h1 h2 ((sndE a).r o h3) ((sndE b).r o h4)
      exact ⟨md_ofF (P _ _), fun _ _ => t_valF (P _ _), fun _ n => by cases n⟩
    · cases h
  | .sl a lo hi => fun nm W X sc o md x h => by
    simp only [okE] at h
    split at h
    · simp only [Bool.and_eq_true] at h
      obtain ⟨⟨h0, h1⟩, h2⟩ := h
      have P := fun pos p2 => r_sl (H0 := H0) (pos := pos) (p2 := p2) o ((sndE a).r o h0) (sndO lo nm W X sc o _ h1) (sndO hi nm W X sc o _ h2)
      exact ⟨md_of (P _ _), fun _ _ => t_val (P _ _), fun _ _ => P _ _⟩
    · cases h
  | .rev a => fun nm W X sc o md x h => by
    simp only [okE] at h
    split at h
    · have P := fun pos p1 p2 p3 k => r_rev (H0 := H0) (pos := pos) (p1 := p1) (p2 := p2) (p3 := p3) (k := k) o.hm ((sndE a).r o h)
      exact ⟨md_of (P _ _ _ _ _), fun _ _ => t_val (P _ _ _ _ _), fun _ _ => P _ _ _ _ _⟩
    · cases h
  | .lrg a b => fun nm W X sc o md x h => by
    simp only [okE] at h
    split at h
    · simp only [Bool.and_eq_true] at h
      obtain ⟨⟨⟨⟨⟨⟨h0, h1⟩, h2⟩, h3⟩, h4⟩, h5⟩, h6⟩ := h
      have P := fun pos p2 => r_lrg (H0 := H0) (pos := pos) (p2 := p2) o h0 h1 h2 h3 h4 ((sndE a).r o h5) ((sndE b).r o h6)
      exact ⟨md_of (P _ _), fun _ _ => t_val (P _ _), fun _ _ => P _ _⟩
    · cases h
  | .lzip _ _ => fun nm W X sc o md x h => by simp [okE] at h
  | .told t w e => fun nm W X sc o md x h => by
    simp only [okE] at h
    split at h
    · simp only [Bool.and_eq_true] at h
      obtain ⟨⟨⟨⟨⟨h0, h1⟩, h2⟩, h3⟩, h4⟩, h5⟩ := h
      have P := fun pos lpos => r_told (H0 := H0) (e := e) (pos := pos) (lpos := lpos) o h0 h1 h2 h3 h4 fun W' X' o' => (sndE e).f o' h5
      exact ⟨md_ofF (P _ _), fun _ _ => t_valF (P _ _), fun _ n => by cases n⟩
    · cases h
  | .tup es => fun nm W X sc o md x h => by
    simp only [okE] at h
    split at h
    · have P := fun pos k => r_tup (H0 := H0) (pos := pos) (k := k) (sndEs es nm W X sc o _ h)
      exact ⟨md_of (P _ _), fun _ _ => t_val (P _ _), fun _ _ => P _ _⟩
    · cases h
  | .lst es => fun nm W X sc o md x h => by
    simp only [okE] at h
    split at h
    · have P := fun pos => r_lst (H0 := H0) (pos := pos) (sndEs es nm W X sc o _ h)
      exact ⟨md_of (P _), fun _ _ => t_val (P _), fun _ _ => P _⟩
    · cases h
  | .dct ks es => fun nm W X sc o md x h => by
    simp only [okE] at h
    split at h
    · simp only [Bool.and_eq_true, decide_eq_true_eq, Bool.not_eq_true'] at h
      obtain ⟨⟨⟨⟨⟨h0, h1⟩, h2⟩, h3⟩, h4⟩, h5⟩ := h
      have P := fun pos => r_dct (H0 := H0) (pos := pos) h0 h1 h2 (by intro z; rw [z] at h3; cases h3) h4 (sndPs es nm W X sc o pos ks _ _ h0 h5 h1)
      exact ⟨md_of (P _), fun _ _ => t_val (P _), fun _ _ => P _⟩
    · cases h
  | .lc elt tg it cond => fun nm W X sc o md x h => by
    simp only [okE] at h
    split at h
    · simp only [Bool.and_eq_true] at h
      obtain ⟨⟨⟨⟨⟨⟨h0, h1⟩, h2⟩, h3⟩, h4⟩, h5⟩, h6⟩ := h
      have P := fun pos => r_lc (H0 := H0) (pos := pos) o h0 h1 (ownOf_snd N (tgv tg)) h2 h3 (sndI it nm W X sc o _ _ h4) (fun X' o' => sndC cond nm W0 X' _ o' _ h5) (fun X' o' => (sndE elt).f o' h6)
      exact ⟨md_of (P _), fun _ _ => t_val (P _), fun _ _ => P _⟩
    · cases h
theorem sndPs : ∀ es : Es, ∀ (nm : Nms) (W : WX) (X : Cx) (sc : Scope) (_ : Okx nm m Z W N sc cm X) (pos : Pos) (ks : List Key) (keys : List (Option Expr)) (xs : List Expr), keysAre ks keys = true → okEs cm N nm sc es xs = true → esLen es = ks.length → PPs X pos keys xs (trsOf m Z H0 W ks es)
  | .nil => fun nm W X sc o pos ks keys xs hk h hl => by
    cases ks with
    | cons _ _ => simp [esLen] at hl
    | nil =>
      cases keys with
      | cons _ _ => cases hk
      | nil =>
        cases xs with
        | cons _ _ => simp [okEs] at h
        | nil => exact pps_nil
  | .cons e r => fun nm W X sc o pos ks keys xs hk h hl => by
    cases ks with
    | nil => simp [esLen] at hl
    | cons k ks =>
      cases keys with
      | nil => cases hk
      | cons x keys =>
        cases xs with
        | nil => simp [okEs] at h
        | cons v xs =>
          simp only [keysAre, Bool.and_eq_true] at hk
          simp only [okEs, Bool.and_eq_true] at h
          obtain ⟨ke, rfl, pk⟩ := key_pe (X := X) hk.1
          exact pps_cons pk ((sndE e).f o h.1.2) (sndPs r nm W X sc o pos ks keys xs hk.2 h.2 (by simpa [esLen] using hl))
theorem sndEs : ∀ es : Es, SndEs m Z H0 N cm es
  | .nil => fun nm W X sc o xs h => by
    simp only [okEs] at h
    split at h
    · exact r_nil
    · cases h
  | .cons e r => fun nm W X sc o xs h => by
    simp only [okEs] at h
    split at h
    · simp only [Bool.and_eq_true] at h
      exact r_cons h.1.1 ((sndE e).f o h.1.2) (sndEs r nm W X sc o _ h.2)
    · cases h
theorem sndO : ∀ e : Option E, SndO m Z H0 N cm e
  | none => fun nm W X sc o x h => by
    simp only [okO] at h
    split at h
    · exact r_onone
    · cases h
  | some e => fun nm W X sc o x h => by
    simp only [okO] at h
    split at h
    · exact r_osome ((sndE e).r o h)
    · cases h
theorem sndC : ∀ e : Option E, SndC m Z H0 N cm e
  | none => fun nm W X sc o x h => by
    simp only [okC] at h
    split at h
    · exact r_cnone
    · cases h
  | some e => fun nm W X sc o x h => by
    simp only [okC] at h
    split at h
    · simp only [Bool.and_eq_true] at h
      exact r_csome ((sndE e).t o h.2 h.1)
    · cases h
theorem sndI : ∀ it : It, SndI m Z H0 N cm it
  | .e a => fun nm W X sc o tg x h => by
    simp only [okI] at h
    exact r_it_e o ((sndE a).f o h)
  | .rg1 a => fun nm W X sc o tg x h => by
    simp only [okI] at h
    split at h
    · simp only [Bool.and_eq_true] at h
      exact r_it_rg1 o h.1.1 h.1.2 ((sndE a).r o h.2)
    · cases h
  | .rg2 a b => fun nm W X sc o tg x h => by
    simp only [okI] at h
    split at h
    · simp only [Bool.and_eq_true] at h
      exact r_it_rg2 o h.1.1.1.1 h.1.1.1.2 h.1.1.2 ((sndE a).r o h.1.2) ((sndE b).r o h.2)
    · cases h
  | .zip a b => fun nm W X sc o tg x h => by
    simp only [okI] at h
    split at h
    · simp only [Bool.and_eq_true] at h
      exact r_it_zip o h.1.1.1.1 h.1.1.1.2 h.1.1.2 ((sndE a).f o h.1.2) ((sndE b).f o h.2)
    · cases h
  | .zip3 a b c => fun nm W X sc o tg x h => by
    simp only [okI] at h
    split at h
    · simp only [Bool.and_eq_true] at h
      exact r_it_zip3 o h.1.1.1.1.1.1 h.1.1.1.1.1.2 h.1.1.1.1.2 h.1.1.1.2 ((sndE a).f o h.1.1.2) ((sndE b).f o h.1.2) ((sndE c).f o h.2)
    · cases h
  | .enum a => fun nm W X sc o tg x h => by
    simp only [okI] at h
    split at h
    · simp only [Bool.and_eq_true] at h
      exact r_it_enum o h.1.1 h.1.2 ((sndE a).f o h.2)
    · cases h
end
end
end Fc
/-! Ev2j: statements, one rule for each form. -/
namespace Fc
open PySem PySem.Spec
open PyProof.Rows L2
variable [Tb]

/-- where a statement stands -/
structure Oks (nm : Nms) (m : Mx) (Z : Sem0) (W : WX) (N : List Str) (sc : Scope) (cm : Bool) (X : Cx) : Prop extends Okx nm m Z W N sc cm X where
  hp : PassesOwn (model X.prog X.w) X.A X.env X.xe
  fnx : ∀ x, X.fn x = true
  kind : sc.kind = .function
  hs : X.stack = X.env :: X.outer
  hf : X.env.frame = some X.env.locals
  hex : X.ex = []
  ex : ∀ c, nm.xc c = true → X.mg (nm.x c) = some (.ref (m.ca c)) ∧ PySem.W.keepIn X.K (.ref (m.ca c)) = true ∧ Raises X (.ref (m.ca c)) ∧
    ∃ (B newId initId : String) (bmB : List Value), ExcBaseFacts B newId initId bmB ∧ PySem.W.excIn X.K (m.ca c) bmB newId = true

/-! ### a statement's end -/
def OutS (m : Mx) (H0 : Hp) (W : WX) (fr : Bool) (D : Ends) (H : Hp) : O → Prop
  | .nx σ => ∀ σV H', Good m H0 H' σV σ → FSame H H' → D.nx σV H'
  | .bk σ => ∀ σV H', Good m H0 H' σV σ → FSame H H' → D.bk σV H'
  | .ct σ => ∀ σV H', Good m H0 H' σV σ → FSame H H' → D.ct σV H'
  | .rt d => ∀ z H', Same H0 H' → TabsIn m H' → (match fr with | true => New m H0 H' z d | false => Rep m H' z d) → D.rt z H'
  | .ex c σ => m.xc c = true → ∀ σV H', Good m H0 H' σV σ → FSame H H' → W (.ref (m.ca c)) none σV H'
  | .stk => False
def tSt (m : Mx) (Z : Sem0) (F : Nat) (H0 : Hp) (W : WX) (fr : Bool) (s : S) : TS := fun D σV H => ∃ σ, Good m H0 H σV σ ∧ OutS m H0 W fr D H (evst Z.G Z.C F fr σ s)
/-- .. and then u -/
def thenS (m : Mx) (Z : Sem0) (F : Nat) (H0 : Hp) (W : WX) (fr : Bool) (s : S) (u : TS) : TS := fun D => tSt m Z F H0 W fr s { D with nx := u D }
section
variable {nm : Nms} {m : Mx} {Z : Sem0} {F : Nat} {H0 : Hp} {W : WX} {N : List Str} {sc : Scope} {cm fr : Bool} {X : Cx} {x y z w tg : Expr} {a b c e : E} {pos : Pos}
theorem OutS.mono {D : Ends} {H H' : Hp} {r : O} (h : OutS m H0 W fr D H r) (e : FSame H H') : OutS m H0 W fr D H' r := by
  cases r with
  | nx σ => exact fun σV H2 g f => h σV H2 g (e.trans f)
  | bk σ => exact fun σV H2 g f => h σV H2 g (e.trans f)
  | ct σ => exact fun σV H2 g f => h σV H2 g (e.trans f)
  | rt d => exact h
  | ex c σ => exact fun x σV H2 g f => h x σV H2 g (e.trans f)
  | stk => exact h
theorem OutS.run {α : Type} {D : Ends} {H : Hp} {σV : L2.St} {σ : List Sl} {r : R α} {f : α → O} (g : Good m H0 H σV σ) (h : OutS m H0 W fr D H (O.ofR σ r f)) : Run H (XW m W σV) r fun a => OutS m H0 W fr D H (f a) := by
  cases r with
  | ok a => exact h
  | exc c => exact fun H' e x => h x σV H' (g.of_same e) (.of e)
  | stk => exact h
theorem psImp {st : Stmt} {t t' : TS} (h : PS X st t) (i : ∀ D σ H, t' D σ H → t D σ H) : PS X st t' := ⟨fun pins s σ H D I q => h.run pins s σ H D I (i D σ H q)⟩
theorem pssImp {l : List Stmt} {t t' : TS} (h : PSs X l t) (i : ∀ D σ H, t' D σ H → t D σ H) : PSs X l t' := ⟨fun pins s σ H D I q => h.run pins s σ H D I (i D σ H q)⟩
theorem pss_then {st : Stmt} {l : List Stmt} {s : S} {u : TS} (h : PS X st (tSt m Z F H0 W fr s)) (k : PSs X l u) : PSs X (st :: l) (thenS m Z F H0 W fr s u) := pss_cons h k
theorem then_seq {s1 s2 : S} {u : TS} {D : Ends} {σV : L2.St} {H : Hp} (h : thenS m Z F H0 W fr (.seq s1 s2) u D σV H) : thenS m Z F H0 W fr s1 (thenS m Z F H0 W fr s2 u) D σV H := by
  obtain ⟨σ, g, h⟩ := h
  refine ⟨σ, g, ?_⟩
  have h : OutS m H0 W fr { D with nx := u D } H ((evst Z.G Z.C F fr σ s1).thn fun σ => evst Z.G Z.C F fr σ s2) := h
  revert h
  cases evst Z.G Z.C F fr σ s1 with
  | nx σ1 => exact fun h σV1 H1 g1 f1 => ⟨σ1, g1, h.mono f1⟩
  | _ => exact id
theorem then_skip {u : TS} {D : Ends} {σV : L2.St} {H : Hp} (h : thenS m Z F H0 W fr .skip u D σV H) : u D σV H := by
  obtain ⟨σ, g, h⟩ := h
  exact h σV H g (.refl _)
/-- freezing -/
theorem frz_rows {pins : List (Addr × Obj)} {s : Shared} {σV : L2.St} : ∀ (bs : List Addr) {H : Hp} {xss : List (List Fc.D)}, Inv X pins σV H s → RepRows m H (bs.map V.ref) xss → bs.Nodup →
    ∃ H', Inv X pins σV H' s ∧ FSame H H' ∧ (∀ c, c ∉ bs → H' c = H c) ∧ RepL m H' (bs.map V.ref) (xss.map .lst)
  | [], H, xss, I, h, _ => by cases h; exact ⟨H, I, .refl _, fun _ _ => rfl, .nil⟩
  | b :: bs, H, [], I, h, _ => by cases h
  | b :: bs, H, ds :: xss, I, h, nd => by
    cases h with
    | @cons _ vs _ _ _ h1 h2 h3 =>
      obtain ⟨nb, nd⟩ := List.nodup_cons.mp nd
      obtain ⟨o, I1⟩ := inv_frz I h1 True.intro
      have fs : FSame H (upd H b (.frz o (.lst vs))) := fsame_upd h1 fun z => z
      obtain ⟨H', I2, f2, k2, r2⟩ := frz_rows bs I1 (rows_upd fs (fun c hc vs hv => by rw [upd_ne fun z => nb (by rw [← z]; exact hc)]; exact hv) h3) nd
      refine ⟨H', I2, fs.trans f2, fun c hc => ?_, .cons (.lst ⟨o, by rw [k2 b nb]; exact upd_same⟩ (h2.mono (fs.trans f2))) r2⟩
      rw [k2 c fun z => hc (List.mem_cons_of_mem _ z), upd_ne fun z => hc (by rw [z]; exact List.mem_cons_self ..)]
theorem good_frz {pins : List (Addr × Obj)} {s : Shared} {σV : L2.St} {σ : List Sl} {H : Hp} (I : Inv X pins σV H s) (g : Good m H0 H σV σ) (i : Nat) : ∃ H', Inv X pins σV H' s ∧ Good m H0 H' σV (st1 σ i (frzS (lk σ i))) ∧ FSame H H' := by
  have si := g.sl i
  cases e : lk σ i with
  | no => exact ⟨H, I, g.upds i .no (fun _ _ => rfl) (.refl _) True.intro (fun b w => w.elim), .refl _⟩
  | val d =>
    rw [e] at si
    exact ⟨H, I, g.upds i (.val d) (fun _ _ => rfl) (.refl _) si (fun b w => w.elim), .refl _⟩
  | own xs =>
    rw [e] at si
    obtain ⟨p, vs, h1, h2, h3, h4⟩ := si
    obtain ⟨o, I2⟩ := inv_frz I h2 True.intro
    have fs : FSame H (upd H p (.frz o (.lst vs))) := fsame_upd h2 fun z => z
    exact ⟨_, I2, g.updOwn i (by rw [e]; exact h1) h2 _ ⟨_, h1, .lst ⟨o, upd_same⟩ (h3.mono fs)⟩ (fun b w => w.elim), fs⟩
  | own2 xss =>
    rw [e] at si
    obtain ⟨p, bs, h1, h2, h3, h4, h5, h6, h7⟩ := si
    obtain ⟨H1, I1, f1, k1, r1⟩ := frz_rows bs I h3 h4
    have hp : H1 p = some (.lst (bs.map V.ref)) := by rw [k1 p h5]; exact h2
    obtain ⟨o, I2⟩ := inv_frz I1 hp True.intro
    have fs : FSame H1 (upd H1 p (.frz o (.lst (bs.map V.ref)))) := fsame_upd hp fun z => z
    refine ⟨_, I2, g.upds i _ (fun c hc => ?_) (f1.trans fs) ⟨_, h1, .lst ⟨o, upd_same⟩ (r1.mono fs)⟩ (fun b w => w.elim), f1.trans fs⟩
    rw [e] at hc
    rw [upd_ne fun z => hc ⟨p, h1, .inl z⟩, k1 c fun z => hc ⟨p, h1, .inr ⟨_, h2, List.mem_map.mpr ⟨c, z, rfl⟩⟩⟩]
  | ownd ks ds =>
    rw [e] at si
    obtain ⟨p, vs, h1, h2, h3, h4, h5⟩ := si
    obtain ⟨o, I2⟩ := inv_frz I h2 True.intro
    have fs : FSame H (upd H p (.frz o (.dK (ks.zip vs)))) := fsame_upd h2 fun z => z
    exact ⟨_, I2, g.updOwn i (by rw [e]; exact h1) h2 _ ⟨_, h1, .dic upd_same h3 (h4.mono fs)⟩ (fun b w => w.elim), fs⟩
theorem pss_frz {i : Nat} {l : List Stmt} {u : TS} (k : PSs X l u) : PSs X l (thenS m Z F H0 W fr (.frz i) u) := by
  refine ⟨fun pins s σV H D I ⟨σ, g, h⟩ => ?_⟩
  obtain ⟨H', I', g', f⟩ := good_frz I g i
  exact k.run pins s σV H' D I' (h σV H' g' f)

/-! ### one by one -/
def notComp : Expr → Bool
  | .ListComp _ _ _ _ => false
  | .SetComp _ _ _ _ => false
  | .DictComp _ _ _ _ _ => false
  | _ => true
def notTup : Expr → Bool
  | .Tuple _ _ _ => false
  | _ => true
theorem swap_no {l : Nat} {t : Option Expr} {env : Env} (h : notComp x = true) : swapsWith x t l env = pure false := by
  cases x <;> first | rfl | cases h
theorem sole_no {t : Expr} {l : Nat} {env : Env} (h : notComp x = true) : swapsWithSole [t] x l env = pure false := by
  unfold swapsWithSole
  exact swap_no h
theorem loc_of {i : Nat} (o : Oks nm m Z W N sc cm X) (h : locIs N sc (fun _ => true) i x = true) : ∃ y p, x = .Name y p ∧ N[i]? = some y ∧ L2.Loc X.env.scope y := by
  cases x <;> try (cases h)
  rename_i y p
  simp only [locIs, Bool.and_eq_true, decide_eq_true_eq] at h
  obtain ⟨h1, h2⟩ := h
  refine ⟨y, p, rfl, h1, ?_⟩
  rw [o.hsc]
  unfold L2.Loc
  revert h2
  split
  · rename_i e; intro _; exact .inl e
  · rename_i e; intro _; exact .inr e
  · intro h; cases h
theorem s_set {i : Nat} (o : Oks nm m Z W N sc cm X) (ht : locIs N sc (fun _ => true) i x = true) (hn : swapsWith y (some x) pos.line X.env = pure false) (he : PE X y (tF m Z H0 W e)) : PS X (.Assign [x] y pos) (tSt m Z F H0 W fr (.set i e)) := by
  obtain ⟨nme, p, rfl, h1, h2⟩ := loc_of o ht
  refine psImp (ps_set (by rw [o.hN]; exact o.nod) (by rw [o.hN]; exact h1) h2 he hn (.inl (o.fnx _))) fun D σV H ⟨σ, g, h⟩ => ?_
  exact ⟨σ, g, (OutS.run g h).imp fun d _ k z H' e1 rp => k _ _ ((g.of_same e1).setVal i rp) (.of e1)⟩
theorem own_of {D : Ends} {H H' : Hp} {σV : L2.St} {σ : List Sl} {i : Nat} {d : Fc.D} {z : V} (g : Good m H0 H σV σ) (k : OutS m H0 W fr D H (O.ofR σ (ownD d) fun s => .nx (st1 σ i s))) (e1 : Same H H') (n : New m H H' z d) : D.nx (σV.set i (some z)) H' := by
  have r := OutS.run g k
  cases d with
  | lst xs =>
    cases n with
    | fz nl _ => cases nl
    | lst n h rl => exact (show ∀ σV2 H2, Good m H0 H2 σV2 _ → FSame H H2 → D.nx σV2 H2 from r) _ _ (g.setOwn i n e1 h rl) (.of e1)
  | dic ks ds =>
    cases n with
    | fz nl _ => cases nl
    | dic n h l rl => exact (show ∀ σV2 H2, Good m H0 H2 σV2 _ → FSame H H2 → D.nx σV2 H2 from r) _ _ (g.setOwnd i n e1 h l rl) (.of e1)
  | _ => exact r.elim
theorem s_setO {i : Nat} (o : Oks nm m Z W N sc cm X) (ht : locIs N sc (fun _ => true) i x = true) (hn : swapsWith y (some x) pos.line X.env = pure false) (he : PE X y (tN m Z H0 W e)) : PS X (.Assign [x] y pos) (tSt m Z F H0 W fr (.setO i e)) := by
  obtain ⟨nme, p, rfl, h1, h2⟩ := loc_of o ht
  refine psImp (ps_set (by rw [o.hN]; exact o.nod) (by rw [o.hN]; exact h1) h2 he hn (.inl (o.fnx _))) fun D σV H ⟨σ, g, h⟩ => ?_
  exact ⟨σ, g, (OutS.run g h).imp fun d _ k z H' e1 n => own_of g k e1 n⟩
theorem s_unp {t : Tg} (o : Oks nm m Z W N sc cm X) (hc : cm = true) (ht : okT N sc (fun _ => true) t x = true) (hs : swapsWithSole [x] y pos.line X.env = pure false) (hw : swappedStores [x] y X.env = pure none) (he : PE X y (tF m Z H0 W e)) : PS X (.Assign [x] y pos) (tSt m Z F H0 W fr (.unp t e)) := by
  have P := r_tg (H0 := H0) o.toOkx (o.hc hc) (fun z _ => o.fnx z) t x ht
  have h1 : (assignEach [x] X.env).map (·.2) = [assign x X.env] := by rw [each_cons (okT_star ht)]; rfl
  refine psImp (ps_asg he P hs hw h1) fun D σV H ⟨σ, g, h⟩ => ?_
  refine ⟨σ, g, (OutS.run g h).imp fun d _ k z H' e1 rp => ?_⟩
  refine ⟨σ, d, g.of_same e1, rp, ?_⟩
  have r := OutS.run g k
  cases ha : asg t d σ with
  | ok σ1 =>
    rw [ha] at r
    exact ⟨σ1, rfl, fun σV' g' _ => (show ∀ σV2 H2, Good m H0 H2 σV2 σ1 → FSame H H2 → D.nx σV2 H2 from r) _ _ g' (.of e1)⟩
  | exc c =>
    exfalso
    exact asg_nx t d σ c ha
  | stk => rw [ha] at r; exact r.elim
theorem s_ifs {s1 s2 : S} {l1 l2 : List Stmt} (hc : PT X x (tTT m Z H0 W c)) (h1 : PSs X l1 (tSt m Z F H0 W fr s1)) (h2 : PSs X l2 (tSt m Z F H0 W fr s2)) : PS X (.If x l1 l2 pos) (tSt m Z F H0 W fr (.ifs c s1 s2)) := by
  refine psImp (ps_if hc h1 h2) fun D σV H ⟨σ, g, h⟩ => ?_
  have r := OutS.run g h
  refine ⟨σ, g, ?_⟩
  have key : Run H (XW m W σV) ((ev Z.G Z.C σ c).bind asB) fun r => OutS m H0 W fr D H (match r with | true => evst Z.G Z.C F fr σ s1 | false => evst Z.G Z.C F fr σ s2) := by
    revert r
    cases ev Z.G Z.C σ c with
    | ok d => exact fun r => OutS.run g r
    | _ => exact id
  refine key.imp fun b _ k H' e1 => ?_
  cases b with
  | true => rw [if_pos rfl]; exact ⟨σ, g.of_same e1, k.mono (.of e1)⟩
  | false => rw [if_neg Bool.false_ne_true]; exact ⟨σ, g.of_same e1, k.mono (.of e1)⟩
theorem s_while {s : S} {l : List Stmt} (o : Oks nm m Z W N sc cm X) (hc : PT X x (tTT m Z H0 W c)) (h1 : PSs X l (tSt m Z F H0 W fr s)) : PS X (.While x l [] pos) (tSt m Z F H0 W fr (.while_ c s)) := by
  refine psImp (ps_while o.hp hc h1) fun D σV H ⟨σ, g, h⟩ => ?_
  have h : OutS m H0 W fr D H (whGo (fun σ => (ev Z.G Z.C σ c).bind asB) (fun σ => evst Z.G Z.C F fr σ s) F σ) := h
  refine ⟨fun n σV1 H1 => ∃ σ1, Good m H0 H1 σV1 σ1 ∧ OutS m H0 W fr D H1 (whGo (fun σ => (ev Z.G Z.C σ c).bind asB) (fun σ => evst Z.G Z.C F fr σ s) n σ1), ⟨F, σ, g, h⟩, ?_⟩
  rintro n σV1 H1 ⟨σ1, g1, w⟩
  cases n with
  | zero => exact w.elim
  | succ n =>
    refine ⟨σ1, g1, (OutS.run g1 w).imp fun b _ k H2 e2 => ?_⟩
    cases b with
    | false =>
      rw [if_neg Bool.false_ne_true]
      exact (show ∀ σV2 H2, Good m H0 H2 σV2 σ1 → FSame H1 H2 → D.nx σV2 H2 from k) _ _ (g1.of_same e2) (.of e2)
    | true =>
      rw [if_pos rfl]
      refine ⟨fun σV3 H3 => ∃ σ3, Good m H0 H3 σV3 σ3 ∧ OutS m H0 W fr D H3 (whGo (fun σ => (ev Z.G Z.C σ c).bind asB) (fun σ => evst Z.G Z.C F fr σ s) n σ3), fun σV3 H3 q => ⟨n, Nat.lt_succ_self n, q⟩, σ1, g1.of_same e2, ?_⟩
      have k : OutS m H0 W fr D H1 (match evst Z.G Z.C F fr σ1 s with
        | .nx σ => whGo (fun σ => (ev Z.G Z.C σ c).bind asB) (fun σ => evst Z.G Z.C F fr σ s) n σ
        | .ct σ => whGo (fun σ => (ev Z.G Z.C σ c).bind asB) (fun σ => evst Z.G Z.C F fr σ s) n σ
        | .bk σ => .nx σ
        | o => o) := k
      revert k
      cases evst Z.G Z.C F fr σ1 s with
      | nx σ4 => exact fun k σV4 H4 g4 f4 => ⟨σ4, g4, k.mono (FSame.trans (.of e2) f4)⟩
      | ct σ4 => exact fun k σV4 H4 g4 f4 => ⟨σ4, g4, k.mono (FSame.trans (.of e2) f4)⟩
      | bk σ4 => exact fun k σV4 H4 g4 f4 => k σV4 H4 g4 (FSame.trans (.of e2) f4)
      | rt d => exact id
      | ex c σ4 => exact fun k x σV4 H4 g4 f4 => k x σV4 H4 g4 (FSame.trans (.of e2) f4)
      | stk => exact id
theorem s_for {t : Tg} {it : It} {s : S} {l : List Stmt} (o : Oks nm m Z W N sc cm X) (hc : cm = true) (ht : okT N sc (fun _ => true) t x = true) (hset : notSet y = true) (hI : PI X x y (tI m Z H0 W it)) (h1 : PSs X l (tSt m Z F H0 W fr s)) :
    PS X (.For x y l [] pos) (tSt m Z F H0 W fr (.for_ t it s)) := by
  have P := r_tg (H0 := H0) o.toOkx (o.hc hc) (fun z _ => o.fnx z) t x ht
  refine psImp (ps_for o.hp (o.hc hc) hI P h1 (folded_no hset _)) fun D σV H ⟨σ, g, h⟩ => ?_
  refine ⟨σ, g, (OutS.run g h).imp fun ds _ k J H1 e1 wk => ?_⟩
  refine ⟨fun i mm σV2 H2 => mm = ds.length - i ∧ i ≤ ds.length ∧ FSame H1 H2 ∧ ∃ σ2, Good m H0 H2 σV2 σ2 ∧ OutS m H0 W fr D H2 (forGo (fun σ => evst Z.G Z.C F fr σ s) (asg t) (ds.drop i) σ2),
    ⟨ds.length, by simp, Nat.zero_le _, .refl _, σ, g.of_same e1, OutS.mono k (.of e1)⟩, ?_⟩
  rintro i mm σV2 H2 ⟨rfl, hi, f2, σ2, g2, k2⟩
  obtain ⟨w1, w2⟩ := wk i H2 f2
  by_cases hlt : i < ds.length
  · obtain ⟨hgo, hy⟩ := w1 hlt
    refine .inr ⟨hgo, fun σV3 H3 => FSame H1 H3 ∧ ∃ σ3, Good m H0 H3 σV3 σ3 ∧ OutS m H0 W fr D H3 (forGo (fun σ => evst Z.G Z.C F fr σ s) (asg t) (ds.drop (i + 1)) σ3),
      fun σV3 H3 q => ⟨ds.length - (i + 1), by omega, rfl, hlt, q⟩, fun v H3 yl => ?_⟩
    obtain ⟨d, hd, s3, rd⟩ := hy v H3 yl
    have hdrop : ds.drop i = d :: ds.drop (i + 1) := by
      rw [List.drop_eq_getElem_cons hlt]
      rw [List.getElem?_eq_getElem hlt] at hd
      cases hd; rfl
    rw [hdrop] at k2
    have r := OutS.run g2 k2
    cases ha : asg t d σ2 with
    | exc c => exact absurd ha (asg_nx t d σ2 c)
    | stk => rw [ha] at r; exact r.elim
    | ok σ3 =>
      rw [ha] at r
      refine ⟨σ2, d, g2.of_same s3, rd, σ3, ha, fun σV4 g4 _ => ⟨σ3, g4, ?_⟩⟩
      have r : OutS m H0 W fr D H2 (match evst Z.G Z.C F fr σ3 s with
        | .nx σ => forGo (fun σ => evst Z.G Z.C F fr σ s) (asg t) (ds.drop (i + 1)) σ
        | .ct σ => forGo (fun σ => evst Z.G Z.C F fr σ s) (asg t) (ds.drop (i + 1)) σ
        | .bk σ => .nx σ
        | o => o) := r
      have f3 : FSame H2 H3 := .of s3
      revert r
      cases evst Z.G Z.C F fr σ3 s with
      | nx σ4 => exact fun k σV4 H4 g4 f4 => ⟨f2.trans (f3.trans f4), σ4, g4, k.mono (f3.trans f4)⟩
      | ct σ4 => exact fun k σV4 H4 g4 f4 => ⟨f2.trans (f3.trans f4), σ4, g4, k.mono (f3.trans f4)⟩
      | bk σ4 => exact fun k σV4 H4 g4 f4 => k σV4 H4 g4 (f3.trans f4)
      | rt d => exact id
      | ex c σ4 => exact fun k x σV4 H4 g4 f4 => k x σV4 H4 g4 (f3.trans f4)
      | stk => exact id
  · have e : i = ds.length := by omega
    subst e
    rw [List.drop_length] at k2
    exact .inl ⟨w2 rfl, k2 _ _ g2 (.refl _)⟩
theorem s_ret (n : ∀ i, e ≠ .brw i) (he : PE X x (match fr with | true => tN m Z H0 W e | false => tF m Z H0 W e)) : PS X (.Return (some x) pos) (tSt m Z F H0 W fr (.ret e)) := by
  refine psImp (ps_ret he) fun D σV H ⟨σ, g, h⟩ => ?_
  have h : OutS m H0 W fr D H (O.ofR σ (ev Z.G Z.C σ e) fun d => .rt d) := by
    cases e <;> first | exact h | exact absurd rfl (n _)
  have r := OutS.run g h
  cases fr with
  | true => exact ⟨σ, g, r.imp fun d _ k z H' e1 nw => k z H' (g.same.trans e1) (g.tabs.mono (.of e1)) (nw.up g.same)⟩
  | false => exact ⟨σ, g, r.imp fun d _ k z H' e1 rp => k z H' (g.same.trans e1) (g.tabs.mono (.of e1)) rp⟩
theorem s_retB {i : Nat} (o : Okx nm m Z W N sc cm X) (hf : fr = true) (hn : nameIs N sc i x = true) : PS X (.Return (some x) pos) (tSt m Z F H0 W fr (.ret (.brw i))) := by
  subst hf
  refine psImp (ps_ret (pe_nm o hn)) fun D σV H ⟨σ, g, h⟩ => ?_
  have h : OutS m H0 W true D H (match lk σ i with
    | .own xs => .rt (.lst xs)
    | _ => .stk) := h
  have s := g.sl i
  cases e : lk σ i with
  | own xs =>
    rw [e] at h s
    obtain ⟨p, vs, h1, h2, h3, h4⟩ := s
    exact ⟨_, h1, h _ H g.same g.tabs (.lst h4 h2 h3)⟩
  | _ => rw [e] at h; exact h.elim
theorem s_retN : PS X (.Return none pos) (tSt m Z F H0 W fr (.ret (.c .non))) := by
  refine psImp ps_retN fun D σV H ⟨σ, g, h⟩ => ?_
  have h : OutS m H0 W fr D H (.rt .non) := h
  exact h .non H g.same g.tabs (by cases fr; exact .non; exact .fz rfl .non)
theorem s_brk : PS X (.Break pos) (tSt m Z F H0 W fr .brk) := psImp ps_break fun D σV H ⟨σ, g, h⟩ => h σV H g (.refl _)
theorem s_cont : PS X (.Continue pos) (tSt m Z F H0 W fr .cont) := psImp ps_continue fun D σV H ⟨σ, g, h⟩ => h σV H g (.refl _)
theorem s_expr (hn : notComp x = true) (he : PE X x (tF m Z H0 W e)) : PS X (.Expr x pos) (tSt m Z F H0 W fr (.expr e)) := by
  refine psImp (ps_expr he (swap_no hn)) fun D σV H ⟨σ, g, h⟩ => ?_
  exact ⟨σ, g, (OutS.run g h).imp fun d _ k z H' e1 _ => (show ∀ σV2 H2, Good m H0 H2 σV2 σ → FSame H H2 → D.nx σV2 H2 from k) _ _ (g.of_same e1) (.of e1)⟩
/-! ### lists of one's own -/
theorem pe_own {i : Nat} (o : Okx nm m Z W N sc cm X) (hn : nameIs N sc i x = true) : PE X x (tVar i) := pe_nm o hn
theorem s_app {i : Nat} {ap cp : Pos} (o : Oks nm m Z W N sc cm X) (hn : nameIs N sc i x = true) (hl : (ap.endLine == cp.line) = true) (hs : notStar y = true) (he : PE X y (tF m Z H0 W e)) :
    PS X (.Expr (.Call (.Attribute x "append" ap) [y] [] cp) pos) (tSt m Z F H0 W fr (.app i e)) := by
  have hfew : ((backTo cp (starEach [y] X.env)).all (fun x => !x.1) && (backToKw cp (keywordEach [] X.env)).all (fun x => x.1.isSome)
      && decide (([y] : List Expr).length + ([] : List Keyword).length + (if ([] : List Keyword).isEmpty then 0 else 1) < 30)) = true := by
    rw [star_all (by simp [hs])]; rfl
  have hb : plainBase x = true := by cases x <;> first | rfl | cases hn
  have key := pe_bm PySem.F.plainAttrs_list PySem.F.slot_list_append PySem.F.type_list_append (show MtR X "list.append" rAppend from mt_append) (pe_nm o.toOkx hn) (pa_one hs he) (base_plain hb _ _) hfew hl (star_cons hs _ _) rfl
  refine psImp (ps_expr key rfl) fun D σV H ⟨σ, g, h⟩ => ?_
  have s := g.sl i
  have h : OutS m H0 W fr D H (match lk σ i with
    | .own xs => O.ofR σ (ev Z.G Z.C σ e) fun d => if xs.length < sizeMax then .nx (st1 σ i (.own (xs ++ [d]))) else .stk
    | _ => .stk) := h
  cases e' : lk σ i with
  | own xs =>
    rw [e'] at s h
    obtain ⟨p, vs, h1, h2, h3, h4⟩ := s
    refine ⟨_, h1, .inl ⟨rfl, vs, .inl (.inl h2)⟩, σ, g, (OutS.run g h).imp fun d _ k z H' e1 rp => ?_⟩
    by_cases hz : xs.length < sizeMax
    · rw [if_pos hz] at k
      have hm := sizeMax_eq
      have hl := h3.length
      have hp := e1.k _ _ h2 rfl
      refine ⟨p, vs, z, rfl, rfl, hp, by omega, ?_⟩
      have fs : FSame H' (upd H' p (.lst (vs ++ [z]))) := fsame_upd hp fun z => z
      have g1 := g.of_same e1
      exact k _ _ (g1.updOwn i (by rw [e']; exact h1) hp _ ⟨p, _, h1, upd_same, ((h3.mono (.of e1)).append (.cons rp .nil)).mono fs, h4⟩ (fun b w => by
        have w' : σV[i]? = some (some (V.ref b)) := w
        rw [h1] at w'; cases w'; rfl)) (FSame.trans (.of e1) fs)
    · rw [if_neg hz] at k; exact k.elim
  | _ => rw [e'] at h; exact h.elim
/-- xs.append([..]), a list of such -/
theorem rows_app {H : Hp} {b : Addr} {vs : List V} {ds : List Fc.D} (hb : H b = some (.lst vs)) (r : RepL m H vs ds) : ∀ {bs : List Addr} {xss : List (List Fc.D)}, RepRows m H (bs.map V.ref) xss → RepRows m H ((bs ++ [b]).map V.ref) (xss ++ [ds])
  | [], _, h => by cases h; exact .cons hb r .nil
  | c :: bs, [], h => by cases h
  | c :: bs, es :: xss, h => by
    cases h with
    | cons h1 h2 h3 => exact .cons h1 h2 (rows_app hb r h3)
/-- rows are as well as none -/
theorem row_new {H H1 : Hp} {σV : L2.St} {σ : List Sl} {i : Nat} {p : Addr} {bs : List Addr} {xss : List (List Fc.D)} {b : Addr} {vs : List V} {ds : List Fc.D} (g : Good m H0 H σV σ) (e1 : Same H H1) (n : Un0 H b) (hb : H1 b = some (.lst vs)) (rl : RepL m H1 vs ds)
    (h1 : σV[i]? = some (some (.ref p))) (h2 : H p = some (.lst (bs.map V.ref))) (h3 : RepRows m H (bs.map V.ref) xss) (h4 : bs.Nodup) (h5 : p ∉ bs) (h6 : Un0 H0 p) (h7 : ∀ b ∈ bs, Un0 H0 b) (own : ∀ c, c = p ∨ c ∈ bs → Owns H1 σV[i]? (lk σ i) c) :
    Good m H0 (upd H1 p (.lst (bs.map V.ref ++ [.ref b]))) σV (st1 σ i (.own2 (xss ++ [ds]))) := by
  have g1 := g.of_same e1
  have hp : H1 p = some (.lst (bs.map V.ref)) := e1.k _ _ h2 rfl
  have fs : FSame H1 (upd H1 p (.lst (bs.map V.ref ++ [.ref b]))) := fsame_upd hp fun z => z
  have npb : p ≠ b := ne_un h2 rfl n
  have nbs : ∀ c ∈ bs, c ≠ b := fun c hc => by
    obtain ⟨vs, hv⟩ := rows_at h3 c hc
    exact ne_un hv rfl n
  have em : bs.map V.ref ++ [.ref b] = (bs ++ [b]).map V.ref := by simp
  refine g1.upds i _ (fun c hc => upd_ne fun z => hc (own c (.inl z))) fs ⟨p, bs ++ [b], h1, by rw [← em]; exact upd_same, ?_, ?_, ?_, h6, ?_⟩ fun c w => ?_
  · refine rows_upd fs (fun c hc vs hv => ?_) (rows_app hb rl (h3.same e1))
    rw [upd_ne fun z => ?_]; · exact hv
    subst z
    rcases List.mem_append.mp hc with hc | hc
    · exact h5 hc
    · exact npb (List.mem_singleton.mp hc)
  · refine List.nodup_append.mpr ⟨h4, by simp, fun c hc d hd => ?_⟩
    rw [List.mem_singleton.mp hd]; exact nbs c hc
  · rw [List.mem_append, List.mem_singleton, not_or]; exact ⟨h5, npb⟩
  · intro c hc
    rcases List.mem_append.mp hc with hc | hc
    · exact h7 c hc
    · rw [List.mem_singleton.mp hc]; exact g.same.free n
  · obtain ⟨q, w1, w2⟩ := w
    rw [h1] at w1
    cases w1
    rcases w2 with rfl | ⟨vs', w3, w4⟩
    · exact .inl (own _ (.inl rfl))
    · rw [upd_same] at w3
      cases w3
      rw [em] at w4
      rcases List.mem_append.mp (mem_refs w4) with hc | hc
      · exact .inl (own _ (.inr hc))
      · obtain rfl := List.mem_singleton.mp hc
        exact .inr fun j wj => g.new n j (wj.back (g.sl j) fun c vs _ h => e1.k _ _ h rfl)
theorem s_app2 {i : Nat} {ap cp p2 : Pos} {xs : List Expr} {es : Es} (o : Oks nm m Z W N sc cm X) (hn : nameIs N sc i x = true) (hl : (ap.endLine == cp.line) = true) (he : PA X xs (tAs m Z H0 W es)) :
    PS X (.Expr (.Call (.Attribute x "append" ap) [.List xs p2] [] cp) pos) (tSt m Z F H0 W fr (.app2 i es)) := by
  have hs : notStar (.List xs p2) = true := rfl
  have hfew : ((backTo cp (starEach [.List xs p2] X.env)).all (fun x => !x.1) && (backToKw cp (keywordEach [] X.env)).all (fun x => x.1.isSome)
      && decide (([.List xs p2] : List Expr).length + ([] : List Keyword).length + (if ([] : List Keyword).isEmpty then 0 else 1) < 30)) = true := by
    rw [star_all (by simp [hs])]; rfl
  have hb : plainBase x = true := by cases x <;> first | rfl | cases hn
  have key := pe_bm PySem.F.plainAttrs_list PySem.F.slot_list_append PySem.F.type_list_append (show MtR X "list.append" rAppend from mt_append) (pe_nm o.toOkx hn) (pa_one hs (r_lst (pos := p2) he)) (base_plain hb _ _) hfew hl (star_cons hs _ _) rfl
  refine psImp (ps_expr key rfl) fun D σV H ⟨σ, g, h⟩ => ?_
  have s := g.sl i
  have h : OutS m H0 W fr D H (match lk σ i with
    | .own2 xss => O.ofR σ (evs Z.G Z.C σ es) fun ds => if xss.length < sizeMax ∧ ds.length ≤ sizeMax then .nx (st1 σ i (.own2 (xss ++ [ds]))) else .stk
    | .own xs => O.ofR σ (evs Z.G Z.C σ es) fun ds => match xs with
      | [] => if ds.length ≤ sizeMax then .nx (st1 σ i (.own2 [ds])) else .stk
      | _ => .stk
    | _ => .stk) := h
  have hm := sizeMax_eq
  cases e' : lk σ i with
  | own2 xss =>
    rw [e'] at s h
    obtain ⟨p, bs, h1, h2, h3, h4, h5, h6, h7⟩ := s
    have hrl := rows_len h3
    refine ⟨_, h1, .inl ⟨rfl, bs.map V.ref, .inl (.inl h2)⟩, σ, g, ?_⟩
    have r := OutS.run g h
    show Run H (XW m W σV) ((evs Z.G Z.C σ es).bind mkL) _
    revert r
    cases evs Z.G Z.C σ es with
    | exc c => exact id
    | stk => exact id
    | ok ds =>
      intro r
      have r : OutS m H0 W fr D H (if xss.length < sizeMax ∧ ds.length ≤ sizeMax then .nx (st1 σ i (.own2 (xss ++ [ds]))) else .stk) := r
      by_cases hz : xss.length < sizeMax ∧ ds.length ≤ sizeMax
      · rw [if_pos hz] at r
        show Run H (XW m W σV) (mkL ds) _
        unfold mkL
        rw [if_pos hz.2]
        intro z H1 e1 nw
        cases nw with
        | fz nl _ => cases nl
        | lst n hb rl =>
          have hp : H1 p = some (.lst (bs.map V.ref)) := e1.k _ _ h2 rfl
          refine ⟨p, _, _, rfl, rfl, hp, by rw [List.length_map]; omega, ?_⟩
          refine r _ _ (row_new g e1 n hb rl h1 h2 h3 h4 h5 h6 h7 fun c hc => ?_) (FSame.trans (.of e1) (fsame_upd hp fun z => z))
          rw [e']
          rcases hc with rfl | hc
          · exact ⟨c, h1, .inl rfl⟩
          · exact ⟨p, h1, .inr ⟨_, hp, List.mem_map.mpr ⟨c, hc, rfl⟩⟩⟩
      · rw [if_neg hz] at r; exact r.elim
  | own xs =>
    rw [e'] at s h
    obtain ⟨p, vs, h1, h2, h3, h4⟩ := s
    refine ⟨_, h1, .inl ⟨rfl, vs, .inl (.inl h2)⟩, σ, g, ?_⟩
    have r := OutS.run g h
    show Run H (XW m W σV) ((evs Z.G Z.C σ es).bind mkL) _
    revert r
    cases evs Z.G Z.C σ es with
    | exc c => exact id
    | stk => exact id
    | ok ds =>
      intro r
      cases xs with
      | cons _ _ => exact (show False from r).elim
      | nil =>
        cases h3
        have r : OutS m H0 W fr D H (if ds.length ≤ sizeMax then .nx (st1 σ i (.own2 [ds])) else .stk) := r
        by_cases hz : ds.length ≤ sizeMax
        · rw [if_pos hz] at r
          show Run H (XW m W σV) (mkL ds) _
          unfold mkL
          rw [if_pos hz]
          intro z H1 e1 nw
          cases nw with
          | fz nl _ => cases nl
          | lst n hb rl =>
            have hp : H1 p = some (.lst []) := e1.k _ _ h2 rfl
            refine ⟨p, _, _, rfl, rfl, hp, by simp [sizeLine_eq], ?_⟩
            refine r _ _ (row_new (bs := []) (xss := []) g e1 n hb rl h1 h2 .nil .nil (by simp) h4 (by simp) fun c hc => ?_) (FSame.trans (.of e1) (fsame_upd hp fun z => z))
            rw [e']
            rcases hc with rfl | hc
            · exact h1
            · cases hc
        · rw [if_neg hz] at r; exact r.elim
  | _ => rw [e'] at h; exact h.elim
/-- xs[i][j] = v, a list of rows of one's own -/
theorem rows_set {H H' : Hp} {q : Addr} {us : List V} {es : List Fc.D} (fs : FSame H H') (hq : H' q = some (.lst us)) (ru : RepL m H' us es) : ∀ {bs : List Addr} {xss : List (List Fc.D)} {j : Nat}, bs[j]? = some q → bs.Nodup → (∀ b ∈ bs, b ≠ q → H' b = H b) → RepRows m H (bs.map V.ref) xss → RepRows m H' (bs.map V.ref) (xss.set j es)
  | [], _, j, e, _, _, _ => by simp at e
  | c :: bs, [], _, _, _, _, h => by cases h
  | c :: bs, ds :: xss, 0, e, nd, k, h => by
    cases h with
    | cons h1 h2 h3 =>
      simp at e
      subst e
      obtain ⟨nb, nd⟩ := List.nodup_cons.mp nd
      exact .cons hq ru (rows_upd fs (fun b hb vs hv => by rw [k b (List.mem_cons_of_mem _ hb) fun z => nb (by rw [← z]; exact hb)]; exact hv) h3)
  | c :: bs, ds :: xss, j + 1, e, nd, k, h => by
    cases h with
    | cons h1 h2 h3 =>
      obtain ⟨nb, nd⟩ := List.nodup_cons.mp nd
      have e' : bs[j]? = some q := by simpa using e
      have hm := List.mem_of_getElem? e'
      exact .cons (by rw [k c (List.mem_cons_self ..) fun z => nb (by rw [z]; exact hm)]; exact h1) (h2.mono fs) (rows_set fs hq ru e' nd (fun b hb => k b (List.mem_cons_of_mem _ hb)) h3)
theorem s_setIx2 {i : Nat} {y2 : Expr} {p1 p2 : Pos} (o : Oks nm m Z W N sc cm X) (hn : nameIs N sc i x = true) (hsl : notSlice y = true) (hsl2 : notSlice y2 = true) (hc : notComp z = true) (hi : PE X y (tRd m Z H0 W a)) (hi2 : PE X y2 (tRd m Z H0 W b)) (he : PE X z (tF m Z H0 W e)) :
    PS X (.Assign [.Subscript (.Subscript x y p2) y2 p1] z pos) (tSt m Z F H0 W fr (.setIx2 i a b e)) := by
  have P := pg_sub (pos := p1) (pe_ix (pos := p2) ix_seq (pe_nm o.toOkx hn) hi (ix_plain hsl)) hi2 set_list (by intro v; cases y2 <;> first | rfl | cases hsl2)
  refine psImp (ps_asg he P (sole_no hc) (by cases z <;> rfl) rfl) fun D σV H ⟨σ, g, h⟩ => ?_
  refine ⟨σ, g, (OutS.run g h).imp fun d _ k v H1 e1 rp => ?_⟩
  have s := g.sl i
  have k : OutS m H0 W fr D H (match lk σ i with
    | .own2 xss => O.ofR σ (ev Z.G Z.C σ a) fun k => O.ofR σ (asI k) fun k => O.ofR σ (opt (L2.ixN xss.length k)) fun j => O.ofR σ (opt xss[j]?) fun xs =>
      O.ofR σ (ev Z.G Z.C σ b) fun k => O.ofR σ (asI k) fun k => O.ofR σ (opt (L2.ixN xs.length k)) fun h => .nx (st1 σ i (.own2 (xss.set j (xs.set h d))))
    | _ => .stk) := k
  cases e' : lk σ i with
  | own2 xss =>
    rw [e'] at s k
    obtain ⟨p, bs, h1, h2, h3, h4, h5, h6, h7⟩ := s
    have g1 := g.of_same e1
    have hrl := rows_len h3
    refine ⟨_, h1, σ, g1, (OutS.run g1 (k.mono (.of e1))).imp fun d2 _ k v2 H2 e2 rp2 => ?_⟩
    have g2 := g1.of_same e2
    obtain ⟨n, rfl, k2⟩ := asI_ok (OutS.run g2 (k.mono (.of e2)))
    obtain ⟨j, hj, k3⟩ := (OutS.run g2 k2).opt
    obtain ⟨xs, hxs, k4⟩ := (OutS.run g2 k3).opt
    obtain ⟨q, vs, q1, q2, q3⟩ := rows_get h3 hxs
    have hp2 : H2 p = some (.lst (bs.map V.ref)) := e2.k _ _ (e1.k _ _ h2 rfl) rfl
    refine .inl ⟨p, bs.map V.ref, n, .ref q, rfl, rp2.intE, .of hp2, atI_of (j := j) (by rw [List.length_map, hrl]; exact hj) (by rw [List.getElem?_map, q1]; rfl), σ, g2, (OutS.run g2 k4).imp fun d3 _ k5 v3 H3 e3 rp3 => ?_⟩
    have g3 := g2.of_same e3
    obtain ⟨n2, rfl, k6⟩ := asI_ok (OutS.run g3 (k5.mono (.of e3)))
    obtain ⟨t, ht, k7⟩ := (OutS.run g3 k6).opt
    have e13 := e1.trans (e2.trans e3)
    have hq3 : H3 q = some (.lst vs) := e13.k _ _ q2 rfl
    have hp3 : H3 p = some (.lst (bs.map V.ref)) := e3.k _ _ hp2 rfl
    refine ⟨q, vs, n2, t, rfl, rp3.intE, hq3, by rw [q3.length]; exact ht, ?_⟩
    have fs : FSame H3 (upd H3 q (.lst (vs.set t v))) := fsame_upd hq3 fun z => z
    have hqm := List.mem_of_getElem? q1
    have hpq : p ≠ q := fun z => h5 (by rw [z]; exact hqm)
    have ow : Owns H3 σV[i]? (lk σ i) q := by
      rw [e']
      exact ⟨p, h1, .inr ⟨_, hp3, List.mem_map.mpr ⟨q, hqm, rfl⟩⟩⟩
    refine k7 _ _ (g3.upds i _ (fun c hc => upd_ne fun z => hc (z ▸ ow)) fs ⟨p, bs, h1, by rw [upd_ne hpq]; exact hp3, ?_, h4, h5, h6, h7⟩ fun c w => ?_) fs
    · exact rows_set fs upd_same ((RepL.set (rp.mono (.of (e2.trans e3))) t (q3.mono (.of e13))).mono fs) q1 h4 (fun b _ nb => upd_ne nb) (h3.same e13)
    · refine .inl ?_
      rw [e']
      obtain ⟨c', w1, w2⟩ := w
      rw [h1] at w1
      cases w1
      refine ⟨p, h1, w2.imp id fun ⟨vs', w3, w4⟩ => ?_⟩
      rw [upd_ne hpq] at w3
      exact ⟨vs', w3, w4⟩
  | _ => rw [e'] at k; exact k.elim
/-- xs.extend(ys), ys to be read -/
def rExtR : V → List V → Hp → VK → Prop := fun x vs H Q => ∃ l b xs zs, x = .ref l ∧ vs = [.ref b] ∧ H l = some (.lst xs) ∧ Rd H b (.lst zs) ∧ xs.length + zs.length ≤ sizeLine ∧ Q .non (upd H l (.lst (xs ++ zs)))
theorem mt_extR : MtR X "list.extend" rExtR := by
  intro pins s σ H x vs v us Q I rx rv h
  obtain ⟨l, b, xs, zs, rfl, rfl, hH, hB, hz, q⟩ := h
  cases rx
  obtain ⟨u, rfl, ru⟩ := rv.one
  cases ru
  obtain ⟨z, its, n, r, hl, e⟩ := I.lstM hH
  obtain ⟨z2, its2, n2, r2, e2⟩ := Inv.rdL I hB
  have hl2 := r2.length
  have hsz : its.toArray.size + its2.toArray.size ≤ sizeLine := by rw [List.size_toArray, List.size_toArray]; omega
  have hlong : ¬ (!its.toArray.isEmpty && Builtin.List.listTooLong (its.toArray.size + its2.toArray.size)) = true := by
    rw [notLongL hsz, Bool.and_false]
    exact Bool.false_ne_true
  refine call_meets F.slot_list_extend ⟨_, e, rfl⟩ F.entry_list_extend (F.args_list_extend_2 _ _)
    (AutoSeq1.list_extend_list_list_0 l its.toArray n b its2.toArray n2 hlong (by rw [List.size_toArray]; omega) (by omega)) ⟨e, e2, ?_⟩
  refine ⟨.non, _, I.lset (its' := its ++ its2) hH e (by simp) (r.append r2) ?_, rfl, q⟩
  rw [List.length_append]
  omega
theorem s_ext {i : Nat} {ap cp : Pos} (o : Oks nm m Z W N sc cm X) (hn : nameIs N sc i x = true) (hl : (ap.endLine == cp.line) = true) (hs : notStar y = true) (he : PE X y (tRd m Z H0 W e)) :
    PS X (.Expr (.Call (.Attribute x "extend" ap) [y] [] cp) pos) (tSt m Z F H0 W fr (.ext i e)) := by
  have hfew : ((backTo cp (starEach [y] X.env)).all (fun x => !x.1) && (backToKw cp (keywordEach [] X.env)).all (fun x => x.1.isSome)
      && decide (([y] : List Expr).length + ([] : List Keyword).length + (if ([] : List Keyword).isEmpty then 0 else 1) < 30)) = true := by
    rw [star_all (by simp [hs])]; rfl
  have hb : plainBase x = true := by cases x <;> first | rfl | cases hn
  have key := pe_bm PySem.F.plainAttrs_list PySem.F.slot_list_extend PySem.F.type_list_extend (mt_extR (X := X)) (pe_nm o.toOkx hn) (pa_one hs he) (base_plain hb _ _) hfew hl (star_cons hs _ _) rfl
  refine psImp (ps_expr key rfl) fun D σV H ⟨σ, g, h⟩ => ?_
  have s := g.sl i
  have h : OutS m H0 W fr D H (match lk σ i with
    | .own xs => O.ofR σ (ev Z.G Z.C σ e) fun d => O.ofR σ (asL d) fun ds => if xs.length + ds.length ≤ sizeMax then .nx (st1 σ i (.own (xs ++ ds))) else .stk
    | _ => .stk) := h
  cases e' : lk σ i with
  | own xs =>
    rw [e'] at s h
    obtain ⟨p, vs, h1, h2, h3, h4⟩ := s
    refine ⟨_, h1, .inl ⟨rfl, vs, .inl (.inl h2)⟩, σ, g, (OutS.run g h).imp fun d _ k z H' e1 rp => ?_⟩
    obtain ⟨ds, rfl, k2⟩ := asL_ok (OutS.run (g.of_same e1) (k.mono (.of e1)))
    by_cases hz : xs.length + ds.length ≤ sizeMax
    · rw [if_pos hz] at k2
      have hm := sizeMax_eq
      have hl := h3.length
      have hp := e1.k _ _ h2 rfl
      obtain ⟨b, zs, rfl, hB, rl⟩ := rp.lstE
      have hl2 := rl.length
      refine ⟨p, b, vs, zs, rfl, rfl, hp, hB, by omega, ?_⟩
      have fs : FSame H' (upd H' p (.lst (vs ++ zs))) := fsame_upd hp fun z => z
      have g1 := g.of_same e1
      exact k2 _ _ (g1.updOwn i (by rw [e']; exact h1) hp _ ⟨p, _, h1, upd_same, ((h3.mono (.of e1)).append rl).mono fs, h4⟩ (fun b w => by
        have w' : σV[i]? = some (some (V.ref b)) := w
        rw [h1] at w'; cases w'; rfl)) fs
    · rw [if_neg hz] at k2; exact k2.elim
  | _ => rw [e'] at h; exact h.elim
theorem s_setIx {i : Nat} {p1 : Pos} (o : Oks nm m Z W N sc cm X) (hn : nameIs N sc i x = true) (hsl : notSlice y = true) (hc : notComp z = true) (hi : PE X y (tRd m Z H0 W a)) (he : PE X z (tF m Z H0 W e)) :
    PS X (.Assign [.Subscript x y p1] z pos) (tSt m Z F H0 W fr (.setIx i a e)) := by
  have P := pg_sub (pos := p1) (pe_nm o.toOkx hn) hi set_list (by intro v; cases y <;> first | rfl | cases hsl)
  refine psImp (ps_asg he P (sole_no hc) (by cases z <;> rfl) rfl) fun D σV H ⟨σ, g, h⟩ => ?_
  refine ⟨σ, g, (OutS.run g h).imp fun d _ k v H1 e1 rp => ?_⟩
  have s := g.sl i
  have k : OutS m H0 W fr D H (match lk σ i with
    | .own xs => O.ofR σ (ev Z.G Z.C σ a) fun k => O.ofR σ (asI k) fun k => O.ofR σ (opt (L2.ixN xs.length k)) fun j => .nx (st1 σ i (.own (xs.set j d)))
    | _ => .stk) := k
  cases e' : lk σ i with
  | own xs =>
    rw [e'] at s k
    obtain ⟨p, vs, h1, h2, h3, h4⟩ := s
    have g1 := g.of_same e1
    refine ⟨_, h1, σ, g1, (OutS.run g1 (k.mono (.of e1))).imp fun d2 _ k v2 H2 e2 rp2 => ?_⟩
    have g2 := g1.of_same e2
    obtain ⟨n, rfl, k2⟩ := asI_ok (OutS.run g2 (k.mono (.of e2)))
    obtain ⟨j, hj, k3⟩ := (OutS.run g2 k2).opt
    have hp := e2.k _ _ (e1.k _ _ h2 rfl) rfl
    refine ⟨p, vs, n, j, rfl, rp2.intE, hp, by rw [h3.length]; exact hj, ?_⟩
    have fs : FSame H2 (upd H2 p (.lst (vs.set j v))) := fsame_upd hp fun z => z
    exact k3 _ _ (g2.updOwn i (by rw [e']; exact h1) hp _ ⟨p, _, h1, upd_same, (RepL.set (rp.mono (.of e2)) j (h3.mono (.of (e1.trans e2)))).mono fs, h4⟩ (fun b w => by
        have w' : σV[i]? = some (some (V.ref b)) := w
        rw [h1] at w'; cases w'; rfl)) fs
  | _ => rw [e'] at k; exact k.elim

/-! ### raise -/
theorem s_raise {k : Nat} {mt : Str} {j : Nat} {p2 p3 : Pos} (o : Oks nm m Z W N sc cm X) (hc : cm = true) (hx : nm.xc k = true) (hn : globIs sc (nm.x k) x = true) : PS X (.Raise (some (.Call x [.Constant (.str mt) j p2] [] p3)) none pos) (tSt m Z F H0 W fr (.raise k)) := by
  obtain ⟨p, rfl, hg, hd⟩ := gl_nm o.toOkx hn
  obtain ⟨h1, h2, h3, B, newId, initId, bmB, F', q⟩ := o.ex k hx
  refine psImp (ps_raise (o.hc hc) o.tk (pmk_own F' q h1 h2 h3 hg hd)) fun D σV H ⟨σ, g, h⟩ => ?_
  exact (show m.xc k = true → ∀ σV2 H2, Good m H0 H2 σV2 σ → FSame H H2 → W (.ref (m.ca k)) none σV2 H2 from h) (by rw [← o.xcm]; exact hx) _ _ g (.refl _)

/-! ### try -/
theorem Oks.tr {W' : WX} {pn : List (Addr × Obj)} {xe : Value → Shared → Prop} (o : Oks nm m Z W N sc cm X) (hc' : cm = true) (tk : Takes (X.tr pn xe) W') (hp : PassesOwn (model X.prog X.w) X.A X.env xe) : Oks nm m Z W' N sc cm (X.tr pn xe) where
  hm := o.hm
  hu := o.hu
  tk := tk
  hN := o.hN
  nod := o.nod
  hsc := o.hsc
  hc := o.hc
  gl := o.gl
  glx := o.glx
  fn := o.fn
  bi := o.bi
  xcm := o.xcm
  mgx := o.mgx
  exm := o.exm
  kit := o.kit
  kitV := o.kitV
  exC := o.exC
  cool := o.cool
  hot := fun a c z => by rw [o.cool hc'] at z; cases z
  told := o.told
  hp := hp
  fnx := o.fnx
  kind := o.kind
  hs := o.hs
  hf := o.hf
  hex := o.hex
  ex := o.ex
/-- a handler's statement -/
def hdlOk : Option D → Stmt → Bool
  | some d, .Return (some (.Constant k _ _)) _ => constIs d k
  | none, .Continue _ => true
  | _, _ => false
def hdlTS : Option D → TS
  | some d => fun D _ H => ∀ z, (∀ m : Mx, Rep m H z d ∧ notLD d = true) → D.rt z H
  | none => fun D σ H => D.ct σ H
theorem hdl_pss {X : Cx} {h : Option D} {st : Stmt} (k : hdlOk h st = true) : PSs X [st] (hdlTS h) := by
  unfold hdlOk at k
  split at k
  · rename_i d kk j p pos
    have key : ∀ v, PE X (.Constant kk j p) (tC v) → notLD d = true → (∀ (m : Mx) (H : Hp), Rep m H v d) → PSs X [.Return (some (.Constant kk j p)) pos] (hdlTS (some d)) := fun v P n rp =>
      pssImp (pss_one (ps_ret P)) fun D σ H q => q v fun m => ⟨rp m H, n⟩
    unfold constIs at k
    split at k
    · obtain rfl := of_decide_eq_true k
      exact key _ pe_int rfl fun m H => .int _
    · obtain rfl := eqS_eq k
      exact key _ pe_str rfl fun m H => .str _
    · obtain rfl := eq_of_beq k
      exact key _ pe_bl rfl fun m H => .bl _
    · exact key _ pe_non rfl fun m H => .non
    · cases k
  · exact pssImp (pss_one ps_continue) fun D σ H q => q
  · cases k
theorem s_tryC {s : S} {c : Nat} {h : Option D} {l : List Stmt} {st : Stmt} {p' : Pos} (o : Oks nm m Z W N sc cm X) (hc : cm = true) (hx : nm.xc c = true) (hn : globIs sc (nm.x c) x = true) (hk : hdlOk h st = true) (hb : ∀ (W' : WX) (X' : Cx), Oks nm m Z W' N sc cm X' → PSs X' l (tSt m Z F H0 W' fr s)) :
    PS X (.Try l [.ExceptHandler (some x) none [st] p'] [] [] pos) (tSt m Z F H0 W fr (.tryC s c h)) := by
  have hx : m.xc c = true := by rw [← o.xcm]; exact hx
  obtain ⟨p, rfl, hg, hd⟩ := gl_nm o.toOkx hn
  refine psImp (ps_try_only (c := .ref (m.ca c)) (Wout := W) (tb := fun W' => tSt m Z F H0 W' fr s) o.hs o.hf ⟨hg, hd, .inl (o.mgx c hx)⟩ o.tk (fun W' pn xe tk hp => hb W' _ (o.tr hc tk hp)) (fun a oe cls d pn _ _ => hdl_pss hk)) fun D σV H ⟨σ, g, r⟩ => ⟨σ, g, ?_⟩
  revert r
  simp only [evst]
  cases evst Z.G Z.C F fr σ s with
  | ex k σ1 =>
    intro r xk σV1 H1 g1 f1
    refine ⟨subC k c, o.hm ▸ o.exm k c xk hx, fun hb' a na => ?_, fun hb' => ?_⟩
    · dsimp only at r
      rw [hb'] at r
      cases h with
      | some d =>
        intro z hz
        cases fr with
        | true => exact (show ∀ z H', Same H0 H' → TabsIn m H' → New m H0 H' z d → D.rt z H' from r) z H1 g1.same g1.tabs (.fz (hz m).2 (hz m).1)
        | false => exact (show ∀ z H', Same H0 H' → TabsIn m H' → Rep m H' z d → D.rt z H' from r) z H1 g1.same g1.tabs (hz m).1
      | none => exact (show ∀ σV H', Good m H0 H' σV σ1 → FSame H H' → D.ct σV H' from r) _ _ g1 f1
    · dsimp only at r
      rw [hb'] at r
      exact (show m.xc k = true → ∀ σV H', Good m H0 H' σV σ1 → FSame H H' → W (.ref (m.ca k)) none σV H' from r) xk _ _ g1 f1
  | nx σ1 => exact id
  | bk σ1 => exact id
  | ct σ1 => exact id
  | rt d => exact id
  | stk => exact id
theorem same_adopt {a : Addr} {u : HO} {H : Hp} (h : H a = none) : Same H (upd H a u) := same_upd h
theorem Good.unset {H : Hp} {σV : L2.St} {σ : List Sl} (g : Good m H0 H σV σ) (i : Nat) : Good m H0 H (σV.set i none) (st1 σ i .no) := by
  have := g.wipe [i]
  simpa [L2.wipe, wipeS] using this
theorem s_tryK {s : S} {c i j : Nat} {l : List Stmt} {n kt : Str} {p1 p2 p3 p' : Pos} (o : Oks nm m Z W N sc cm X) (hc : cm = true) (hx : nm.xc c = true) (hn : globIs sc (nm.x c) x = true) (hi : N[i]? = some n) (hj : N[j]? = some kt) (hln : sc.names.lookup n = some .local) (hlk : locIs N sc (fun _ => true) j (.Name kt p1) = true)
    (hv : nameIs N sc i (.Name n p2) = true) (hb : ∀ (W' : WX) (X' : Cx), Oks nm m Z W' N sc cm X' → PSs X' l (tSt m Z F H0 W' fr s)) :
    PS X (.Try l [.ExceptHandler (some x) (some n) [.Assign [.Name kt p1] (.Name n p2) p3] p'] [] [] pos) (tSt m Z F H0 W fr (.tryK s c i j)) := by
  have hx : m.xc c = true := by rw [← o.xcm]; exact hx
  obtain ⟨p, rfl, hg, hd⟩ := gl_nm o.toOkx hn
  obtain ⟨y, py, e, hj', hl⟩ := loc_of o hlk
  cases e
  simp only [nameIs, Bool.and_eq_true] at hv
  obtain ⟨d1, d2⟩ := okNm1 hv.1.2
  have hk : X.env.kindOf n = some .local := by
    unfold Env.kindOf
    rw [o.hsc]; exact hln
  refine psImp (ps_tryK (m := m) (c := .ref (m.ca c)) (Wout := W) (tb := fun W' => tSt m Z F H0 W' fr s) o.hm o.hs o.hf o.hex (by rw [o.hN]; exact o.nod) (by rw [o.hN]; exact hi) (by rw [o.hN]; exact hj) hk hl (.inl (o.fnx _)) (.inl (by rw [o.hsc]; exact hln)) d1 d2 ⟨hg, hd, .inl (o.mgx c hx)⟩ o.tk (fun W' pn xe tk hp => hb W' _ (o.tr hc tk hp))) fun D σV H ⟨σ, g, r⟩ => ⟨σ, g, ?_⟩
  revert r
  simp only [evst]
  cases evst Z.G Z.C F fr σ s with
  | ex k σ1 =>
    intro r xk σV1 H1 g1 f1
    refine ⟨subC k c, o.exm k c xk hx, fun hb' => ⟨k, rfl, rfl, fun a na => ?_⟩, fun hb' => ?_⟩
    · dsimp only at r
      rw [hb'] at r
      have sm : Same H1 (upd H1 a (ExF m k a)) := same_upd na
      have rp : Rep m (upd H1 a (ExF m k a)) (.ref a) (.exv k) := .exv xk (.inl upd_same)
      exact (show ∀ σV H', Good m H0 H' σV (st1 (st1 (st1 σ1 i (.val (.exv k))) j (.val (.exv k))) i .no) → FSame H H' → D.nx σV H' from r) _ _ ((((g1.of_same sm).setVal i rp).setVal j rp).unset i) (f1.trans (.of sm))
    · dsimp only at r
      rw [hb'] at r
      exact (show m.xc k = true → ∀ σV H', Good m H0 H' σV σ1 → FSame H H' → W (.ref (m.ca k)) none σV H' from r) xk _ _ g1 f1
  | nx σ1 => exact id
  | bk σ1 => exact id
  | ct σ1 => exact id
  | rt d => exact id
  | stk => exact id

/-! ### a name = a comprehension, on one line -/
def swapB (sc : Scope) (t : Str) (tp vp : Pos) (s2 : Scope) : Bool := (match sc.names.lookup t with | some .local => true | _ => false) && (tp.line == vp.line) && !(s2.names.any fun (n, k) => n == t && (k == .local || k == .cell))
theorem s_setLc {i : Nat} {t : Str} {py p2 : Pos} {elt : E} {tgt : Tg} {it : It} {cond : Option E} {xelt xtg xit : Expr} {ifs : List Expr} {scope : Scope} {own : List (Str × Nat)} (o : Oks nm m Z W N sc cm X) (hc : cm = true) (hi : N[i]? = some t) (hsw : swapB sc t py p2 scope = true) (hown : blkC N sc scope own = true) (hov : own.map (·.2) = tgv tgt)
    (hT : okT N (relS scope sc) (fun x => scope.names.lookup x == some .cell) tgt xtg = true) (hset : notSet xit = true) (hI : PI X xtg xit (tI m Z H0 W it))
    (hcond : ∀ X', Okx nm m Z W0 N (relS scope sc) cm X' → PTs X' ifs (tTc m Z H0 W0 cond)) (helt : ∀ X', Okx nm m Z W0 N (relS scope sc) cm X' → PE X' xelt (tF m Z H0 W0 elt)) :
    PS X (.Assign [.Name t py] (.ListComp xelt [⟨xtg, xit, ifs, 0⟩] scope p2) pos) (tSt m Z F H0 W fr (.setO i (.lc elt tgt it cond))) := by
  have ok : BlkOk X.N X.env.scope scope own := by rw [o.hN, o.hsc]; exact blkOk_by hown
  unfold swapB at hsw
  simp only [Bool.and_eq_true, Bool.not_eq_true'] at hsw
  obtain ⟨⟨k1, k2⟩, k3⟩ := hsw
  have hloc : X.env.scope.names.lookup t = some .local := by
    rw [o.hsc]
    revert k1
    split
    · rename_i e; intro _; exact e
    · intro h; cases h
  have hk : X.env.scope.kind = .function := by rw [o.hsc]; exact o.kind
  refine psImp (ps_setLc (o.hc hc) (by rw [o.hN]; exact o.nod) (by rw [o.hN]; exact hi) hloc (sw_true hk hloc k2 k3) hI ok (fun s H C cl fp => r_tg (H0 := H0) (o.toOkx.blk hc (s := s) (H := H) (scope := scope) (C := C) (cl := cl) (fp := fp)) (o.hc hc) (fun x h => h) tgt xtg hT)
    (fun s H C cl fp => hcond _ (o.toOkx.blk hc)) (fun s H C cl fp => helt _ (o.toOkx.blk hc)) (folded_no hset _)) fun D σV H ⟨σ, g, h⟩ => ?_
  rw [hov]
  refine i_lc ⟨σ, g, (OutS.run g h).imp fun d _ k z H' e1 n => ?_⟩
  exact own_of g k e1 n
theorem swap_nolc {t : Str} {py p2 : Pos} {l : Nat} {elt : Expr} {gs : List Comprehension} {scope : Scope} {env : Env} (hk : env.scope.kind = .function) (hsc : env.scope = sc) (hsw : swapB sc t py p2 scope = false) : swapsWith (.ListComp elt gs scope p2) (some (.Name t py)) l env = pure false := by
  have hb : env.blockKind = .function := by unfold Env.blockKind; rw [hk]; rfl
  unfold swapB at hsw
  unfold swapsWith
  simp only [hb, Expr.pos]
  show (pure _ : Sem Bool) = pure false
  congr 1
  rw [← hsc] at hsw
  unfold Env.kindOf
  revert hsw
  cases env.scope.names.lookup t with
  | none => intro _; rfl
  | some k => cases k <;> intro h <;> first | rfl | exact h
end
end Fc
/-! Ev2k: a checker of statements, and that what it tells is so. -/
namespace Fc
open PySem PySem.Spec
open PyProof.Rows L2
variable [Tb]

def swNames (sc : Scope) (ts : List Expr) : List Str := ts.filterMap fun
  | .Name id pos => if (sc.names.lookup id == some .local && pos.line == (ts.head?.map (·.pos.line)).getD 0) = true then some id else none
  | _ => none
def anyStar (vs : List Expr) : Bool := vs.any fun | .Starred .. => true | _ => false
/-- what the swapped stores are, by the text alone -/
def swN (sc : Scope) (ts vs : List Expr) : Option (Option (List Str)) :=
  if (!(ts.length == 2 || ts.length == 3) || vs.length != ts.length) = true then some none
  else if anyStar vs = true then some none
  else if ((swNames sc ts).length != ts.length || (swNames sc ts).eraseDups.length != (swNames sc ts).length) = true then some none
  else if vs.all (foldedForSure 8) = true then some none
  else if vs.all (constantsAlone 8) = true then none
  else some (some (swNames sc ts))
section
variable {nm : Nms} {m : Mx} {Z : Sem0} {F : Nat} {H0 : Hp} {W : WX} {N : List Str} {sc : Scope} {cm fr : Bool} {X : Cx} {x y z w tg : Expr} {a b c e : E} {pos : Pos}
theorem swN_ok {env : Env} {ts vs : List Expr} {k k2 : Nat} {p p2 : Pos} {r : Option (List Str)} (hk : sc.kind = .function) (hsc : env.scope = sc) (h : swN sc ts vs = some r) : swappedStores [.Tuple ts k p] (.Tuple vs k2 p2) env = pure r := by
  subst hsc
  have hb : (env.blockKind != .function) = false := by unfold Env.blockKind; rw [hk]; rfl
  unfold swN at h
  unfold swappedStores
  simp only [hb, Bool.or_false]
  split at h
  · cases h
    rename_i c
    simp only [c, if_true]
    try rfl
  · rename_i c
    rw [if_neg c]
    split at h
    · cases h
      rename_i c2
      exact if_pos c2
    · rename_i c2
      refine (if_neg c2).trans ?_
      split at h
      · cases h
        rename_i c3
        exact if_pos c3
      · rename_i c3
        refine (if_neg c3).trans ?_
        split at h
        · cases h
          rename_i c4
          exact if_pos c4
        · rename_i c4
          refine (if_neg c4).trans ?_
          split at h
          · cases h
          · rename_i c5
            cases h
            exact if_neg c5
theorem sole_tup {ts : List Expr} {k l : Nat} {p : Pos} {env : Env} : swapsWithSole [.Tuple ts k p] x l env = pure false := by
  unfold swapsWithSole
  unfold swapsWith
  cases x <;> rfl
theorem s_par2 {i j : Nat} {s1 s2 : Str} {px py pt p2 : Pos} {k k2 : Nat} (o : Oks nm m Z W N sc cm X) (hc : cm = true) (h1 : N[i]? = some s1) (h2 : N[j]? = some s2) (hij : i ≠ j) (l1 : sc.names.lookup s1 = some .local) (l2 : sc.names.lookup s2 = some .local)
    (hw : swN sc [.Name s1 px, .Name s2 py] [x, y] = some (some [s1, s2])) (hx : notStar x = true) (hy : notStar y = true) (ha : PE X x (tF m Z H0 W a)) (hb : PE X y (tF m Z H0 W b)) :
    PS X (.Assign [.Tuple [.Name s1 px, .Name s2 py] k pt] (.Tuple [x, y] k2 p2) pos) (tSt m Z F H0 W fr (.par [i, j] [false, false] (.cons a (.cons b .nil)))) := by
  refine psImp (ps_par (o.hc hc) (by rw [o.hN]; exact o.nod) (by rw [o.hN]; exact h1) (by rw [o.hN]; exact h2) hij (by rw [o.hsc]; exact l1) (by rw [o.hsc]; exact l2) (pa_two hx hy ha hb) (swN_ok o.kind o.hsc hw) sole_tup) fun D σV H ⟨σ, g, h⟩ => ?_
  have r := OutS.run g h
  have r : Run H (XW m W σV) ((ev Z.G Z.C σ a).bind fun d => (ev Z.G Z.C σ b).bind fun e => (.ok [d, e] : R (List Fc.D))) fun xs => OutS m H0 W fr D H (O.ofR σ (stAll σ [i, j] [false, false] xs) fun σ => .nx σ) := by
    revert r
    simp only [evs]
    cases ev Z.G Z.C σ a with
    | ok d => cases ev Z.G Z.C σ b <;> exact id
    | _ => exact id
  refine ⟨σ, g, r.bind.imp fun d1 _ r1 v H1 e1 rp1 => ⟨σ, g.of_same e1, (Run.same r1 e1).bind.imp fun d2 _ r2 w H2 e2 rp2 => ⟨v, w, rfl, ?_⟩⟩⟩
  have r2 : ∀ σV2 H3, Good m H0 H3 σV2 (st1 (st1 σ i (.val d1)) j (.val d2)) → FSame H H3 → D.nx σV2 H3 := r2
  exact r2 _ _ (((g.of_same (e1.trans e2)).setVal i (rp1.mono (.of e2))).setVal j rp2) (.of (e1.trans e2))
/-- one's own, or told for ever -/
def tO (o : Bool) (m : Mx) (Z : Sem0) (H0 : Hp) (W : WX) (e : E) : TE := match o with
  | true => tN m Z H0 W e
  | false => tF m Z H0 W e
def NR (o : Bool) (m : Mx) (H H' : Hp) (z : V) (d : Fc.D) : Prop := match o with
  | true => New m H H' z d
  | false => Rep m H' z d
theorem tO_def {o : Bool} {σV : L2.St} {H : Hp} {Q : VK} : tO o m Z H0 W e σV H Q = tR m H0 W (fun σ => ev Z.G Z.C σ e) (fun H d => ∀ z H', Same H H' → NR o m H H' z d → Q z H') σV H := by cases o <;> rfl
theorem NR.up {o : Bool} {H H1 H2 : Hp} {z : V} {d : Fc.D} (n : NR o m H H1 z d) (e : Same H1 H2) : NR o m H H2 z d := by
  cases o with
  | false => exact Rep.mono (.of e) (show Rep m H1 z d from n)
  | true =>
    have n : New m H H1 z d := n
    show New m H H2 z d
    cases n with
    | fz a b => exact .fz a (b.mono (.of e))
    | lst a b c => exact .lst a (e.k _ _ b rfl) (c.mono (.of e))
    | dic a b c d => exact .dic a (e.k _ _ b rfl) c (d.mono (.of e))
theorem Good.setNR {o : Bool} {H H' : Hp} {σV : L2.St} {σ : List Sl} {i : Nat} {z : V} {d : Fc.D} {s : Sl} (g : Good m H0 H σV σ) (e : Same H H') (n : NR o m H H' z d) (hs : (match o with | true => ownD d | false => R.ok (.val d)) = .ok s) : Good m H0 H' (σV.set i (some z)) (st1 σ i s) := by
  cases o with
  | false =>
    cases hs
    exact (g.of_same e).setVal i n
  | true =>
    have n : New m H H' z d := n
    have hs : ownD d = .ok s := hs
    cases d with
    | lst xs =>
      cases hs
      cases n with
      | fz nl _ => cases nl
      | lst n' h rl => exact g.setOwn i n' e h rl
    | dic ks ds =>
      cases hs
      cases n with
      | fz nl _ => cases nl
      | dic n' h l rl => exact g.setOwnd i n' e h l rl
    | _ => cases hs
theorem ownD_nx (d : Fc.D) : ∀ c, ownD d ≠ .exc c := by intro c; unfold ownD; split <;> simp
theorem stAll2 {oi oj : Bool} {σ σ' : List Sl} {i j : Nat} {d1 d2 : Fc.D} (h : stAll σ [i, j] [oi, oj] [d1, d2] = .ok σ') :
    ∃ t1 t2, (match oi with | true => ownD d1 | false => R.ok (.val d1)) = .ok t1 ∧ (match oj with | true => ownD d2 | false => R.ok (.val d2)) = .ok t2 ∧ σ' = st1 (st1 σ i t1) j t2 := by
  cases oi with
  | false =>
    cases oj with
    | false => cases h; exact ⟨_, _, rfl, rfl, rfl⟩
    | true =>
      have h : (ownD d2).bind (fun s => stAll (st1 (st1 σ i (.val d1)) j s) [] [] []) = .ok σ' := h
      obtain ⟨s, h1, h2⟩ := bind_ok_iff h
      cases h2; exact ⟨_, _, rfl, h1, rfl⟩
  | true =>
    have h : (ownD d1).bind (fun s => stAll (st1 σ i s) [j] [oj] [d2]) = .ok σ' := h
    obtain ⟨s, h1, h2⟩ := bind_ok_iff h
    cases oj with
    | false => cases h2; exact ⟨_, _, h1, rfl, rfl⟩
    | true =>
      have h2 : (ownD d2).bind (fun t => stAll (st1 (st1 σ i s) j t) [] [] []) = .ok σ' := h2
      obtain ⟨t, h3, h4⟩ := bind_ok_iff h2
      cases h4; exact ⟨_, _, h1, h3, rfl⟩
theorem stAll2_nx {oi oj : Bool} {σ : List Sl} {i j : Nat} {d1 d2 : Fc.D} : ∀ c, stAll σ [i, j] [oi, oj] [d1, d2] ≠ .exc c := by
  intro c h
  cases oi with
  | false =>
    cases oj with
    | false => cases h
    | true =>
      have h : (ownD d2).bind (fun s => stAll (st1 (st1 σ i (.val d1)) j s) [] [] []) = .exc c := h
      cases e : ownD d2 with
      | ok s => rw [e] at h; cases h
      | exc c' => exact ownD_nx _ _ e
      | stk => rw [e] at h; cases h
  | true =>
    have h : (ownD d1).bind (fun s => stAll (st1 σ i s) [j] [oj] [d2]) = .exc c := h
    cases e : ownD d1 with
    | ok s =>
      rw [e] at h
      have h : stAll (st1 σ i s) [j] [oj] [d2] = .exc c := h
      cases oj with
      | false => cases h
      | true =>
        have h : (ownD d2).bind (fun t => stAll (st1 (st1 σ i s) j t) [] [] []) = .exc c := h
        cases e2 : ownD d2 with
        | ok t => rw [e2] at h; cases h
        | exc c' => exact ownD_nx _ _ e2
        | stk => rw [e2] at h; cases h
    | exc c' => exact ownD_nx _ _ e
    | stk => rw [e] at h; cases h
theorem s_par2o {oi oj : Bool} {i j : Nat} {s1 s2 : Str} {px py pt p2 : Pos} {k k2 : Nat} (o : Oks nm m Z W N sc cm X) (hc : cm = true) (h1 : N[i]? = some s1) (h2 : N[j]? = some s2) (hij : i ≠ j) (l1 : sc.names.lookup s1 = some .local) (l2 : sc.names.lookup s2 = some .local)
    (hw : swN sc [.Name s1 px, .Name s2 py] [x, y] = some (some [s1, s2])) (hx : notStar x = true) (hy : notStar y = true) (ha : PE X x (tO oi m Z H0 W a)) (hb : PE X y (tO oj m Z H0 W b)) :
    PS X (.Assign [.Tuple [.Name s1 px, .Name s2 py] k pt] (.Tuple [x, y] k2 p2) pos) (tSt m Z F H0 W fr (.par [i, j] [oi, oj] (.cons a (.cons b .nil)))) := by
  refine psImp (ps_par (o.hc hc) (by rw [o.hN]; exact o.nod) (by rw [o.hN]; exact h1) (by rw [o.hN]; exact h2) hij (by rw [o.hsc]; exact l1) (by rw [o.hsc]; exact l2) (pa_two hx hy ha hb) (swN_ok o.kind o.hsc hw) sole_tup) fun D σV H ⟨σ, g, h⟩ => ?_
  have r := OutS.run g h
  have r : Run H (XW m W σV) ((ev Z.G Z.C σ a).bind fun d => (ev Z.G Z.C σ b).bind fun e => (.ok [d, e] : R (List Fc.D))) fun xs => OutS m H0 W fr D H (O.ofR σ (stAll σ [i, j] [oi, oj] xs) fun σ => .nx σ) := by
    revert r
    simp only [evs]
    cases ev Z.G Z.C σ a with
    | ok d => cases ev Z.G Z.C σ b <;> exact id
    | _ => exact id
  show tO oi m Z H0 W a σV H _
  rw [tO_def]
  refine ⟨σ, g, r.bind.imp fun d1 _ r1 v H1 e1 rp1 => ?_⟩
  show tO oj m Z H0 W b σV H1 _
  rw [tO_def]
  refine ⟨σ, g.of_same e1, (Run.same r1 e1).bind.imp fun d2 _ r2 w H2 e2 rp2 => ⟨v, w, rfl, ?_⟩⟩
  have r2 : OutS m H0 W fr D H (O.ofR σ (stAll σ [i, j] [oi, oj] [d1, d2]) fun σ => .nx σ) := r2
  cases hst : stAll σ [i, j] [oi, oj] [d1, d2] with
  | exc c => exact (stAll2_nx _ hst).elim
  | stk => rw [hst] at r2; exact (OutS.run g r2).elim
  | ok σ' =>
    rw [hst] at r2
    have r2 : ∀ σV2 H3, Good m H0 H3 σV2 σ' → FSame H H3 → D.nx σV2 H3 := r2
    obtain ⟨t1, t2, q1, q2, rfl⟩ := stAll2 hst
    exact r2 _ _ ((g.setNR (i := i) e1 rp1 q1).setNR (i := j) e2 rp2 q2) (.of (e1.trans e2))
theorem s_par3 {i j l : Nat} {s1 s2 s3 : Str} {px py pz pt p2 : Pos} {k k2 : Nat} (o : Oks nm m Z W N sc cm X) (hc : cm = true) (h1 : N[i]? = some s1) (h2 : N[j]? = some s2) (h3 : N[l]? = some s3) (hij : i ≠ j) (hil : i ≠ l) (hjl : j ≠ l) (l1 : sc.names.lookup s1 = some .local) (l2 : sc.names.lookup s2 = some .local) (l3 : sc.names.lookup s3 = some .local)
    (hw : swN sc [.Name s1 px, .Name s2 py, .Name s3 pz] [x, y, z] = some (some [s1, s2, s3])) (hx : notStar x = true) (hy : notStar y = true) (hz : notStar z = true) (ha : PE X x (tF m Z H0 W a)) (hb : PE X y (tF m Z H0 W b)) (hd : PE X z (tF m Z H0 W c)) :
    PS X (.Assign [.Tuple [.Name s1 px, .Name s2 py, .Name s3 pz] k pt] (.Tuple [x, y, z] k2 p2) pos) (tSt m Z F H0 W fr (.par [i, j, l] [false, false, false] (.cons a (.cons b (.cons c .nil))))) := by
  refine psImp (ps_par3 (o.hc hc) (by rw [o.hN]; exact o.nod) (by rw [o.hN]; exact h1) (by rw [o.hN]; exact h2) (by rw [o.hN]; exact h3) hij hil hjl (by rw [o.hsc]; exact l1) (by rw [o.hsc]; exact l2) (by rw [o.hsc]; exact l3) (pa_cons ha (pa_two hy hz hb hd) (star_cons hx _ _)) (swN_ok o.kind o.hsc hw) sole_tup) fun D σV H ⟨σ, g, h⟩ => ?_
  have r := OutS.run g h
  have r : Run H (XW m W σV) ((ev Z.G Z.C σ a).bind fun d => (ev Z.G Z.C σ b).bind fun e => (ev Z.G Z.C σ c).bind fun f => (.ok [d, e, f] : R (List Fc.D))) fun xs => OutS m H0 W fr D H (O.ofR σ (stAll σ [i, j, l] [false, false, false] xs) fun σ => .nx σ) := by
    revert r
    simp only [evs]
    cases ev Z.G Z.C σ a with
    | ok d => cases ev Z.G Z.C σ b with
      | ok e => cases ev Z.G Z.C σ c <;> exact id
      | _ => exact id
    | _ => exact id
  refine ⟨σ, g, r.bind.imp fun d1 _ r1 v H1 e1 rp1 => ⟨σ, g.of_same e1, (Run.same r1 e1).bind.imp fun d2 _ r2 w H2 e2 rp2 => ⟨σ, g.of_same (e1.trans e2), (Run.same r2 e2).bind.imp fun d3 _ r3 w3 H3 e3 rp3 => ⟨v, w, w3, rfl, ?_⟩⟩⟩⟩
  have r3 : ∀ σV2 H4, Good m H0 H4 σV2 (st1 (st1 (st1 σ i (.val d1)) j (.val d2)) l (.val d3)) → FSame H H4 → D.nx σV2 H4 := r3
  have ee := e1.trans (e2.trans e3)
  exact r3 _ _ ((((g.of_same ee).setVal i (rp1.mono (.of (e2.trans e3)))).setVal j (rp2.mono (.of e3))).setVal l rp3) (.of ee)
theorem s_parU {i j : Nat} (o : Oks nm m Z W N sc cm X) (hc : cm = true) (ht : okT N sc (fun _ => true) (.tc (.nm i) (.tc (.nm j) .tn)) x = true) (hs : swapsWithSole [x] y pos.line X.env = pure false) (hw : swappedStores [x] y X.env = pure none)
    (he : PE X y (tF m Z H0 W (.tup (.cons a (.cons b .nil))))) : PS X (.Assign [x] y pos) (tSt m Z F H0 W fr (.par [i, j] [false, false] (.cons a (.cons b .nil)))) := by
  refine psImp (s_unp (F := F) (fr := fr) (pos := pos) o hc ht hs hw he) fun D σV H ⟨σ, g, h⟩ => ⟨σ, g, ?_⟩
  revert h
  simp only [evst, ev, evs]
  cases ev Z.G Z.C σ a with
  | ok d =>
    cases ev Z.G Z.C σ b with
    | ok e =>
      intro h
      exact h
    | _ => exact id
  | _ => exact id
end
/-! ### suites -/
/-- what tells nothing is passed by -/
def drops : List Stmt → List Stmt
  | .Expr (.Constant (.str _) _ _) _ :: r => drops r
  | .Pass _ :: r => drops r
  | l => l
section
variable {X : Cx} {u : TS}
theorem pss_drops : ∀ {l : List Stmt}, PSs X (drops l) u → PSs X l u
  | [], h => h
  | st :: r, h => by
    unfold drops at h
    split at h
    · rename_i heq
      cases heq
      exact pssImp (pss_cons ps_doc (pss_drops h)) fun D σ H q => q
    · rename_i heq
      cases heq
      exact pssImp (pss_cons ps_pass (pss_drops h)) fun D σ H q => q
    · exact h
end
section
variable (nm : Nms) (cm : Bool) (N : List Str) (sc : Scope) (fr : Bool)
/-- a name = a comprehension -/
def isLc : E → Bool
  | .lc _ _ _ _ => true
  | _ => false
def okSet (i : Nat) (own : Bool) (e : E) : Stmt → Bool
  | .Assign [t] v _ => locIs N sc (fun _ => true) i t && okE cm N nm 0 sc e v && (!own || newE nm e) && (notComp v || (cm && isLc e && (match t, v with
    | .Name n tp, .ListComp _ [⟨_, _, _, 0⟩] s2 vp => true
    | _, _ => false)))
  | _ => false
def okRet (e : E) : Stmt → Bool
  | .Return (some v) _ => match e with
    | .brw i => fr && nameIs N sc i v
    | e => okE cm N nm 0 sc e v && (!fr || newE nm e)
  | .Return none _ => match e with
    | .c .non => true
    | _ => false
  | _ => false
def okPar (is : List Nat) (os : List Bool) (es : Es) : Stmt → Bool
  | .Assign [.Tuple [.Name s1 px, .Name s2 py] k p] (.Tuple [x, y] k2 p2) _ => match is, os, es with
    | [i, j], [false, false], .cons a (.cons b .nil) => cm && notStar x && notStar y && okE cm N nm 0 sc a x && okE cm N nm 0 sc b y &&
        ((decide (N[i]? = some s1) && decide (N[j]? = some s2) && decide (i ≠ j) && decide (sc.names.lookup s1 = some .local) && decide (sc.names.lookup s2 = some .local) && decide (swN sc [.Name s1 px, .Name s2 py] [x, y] = some (some [s1, s2])))
          || (okT N sc (fun _ => true) (.tc (.nm i) (.tc (.nm j) .tn)) (.Tuple [.Name s1 px, .Name s2 py] k p) && decide (swN sc [.Name s1 px, .Name s2 py] [x, y] = some none)))
    | [i, j], [oi, oj], .cons a (.cons b .nil) => cm && notStar x && notStar y && okE cm N nm 0 sc a x && okE cm N nm 0 sc b y && (!oi || newE nm a) && (!oj || newE nm b) &&
        (decide (N[i]? = some s1) && decide (N[j]? = some s2) && decide (i ≠ j) && decide (sc.names.lookup s1 = some .local) && decide (sc.names.lookup s2 = some .local) && decide (swN sc [.Name s1 px, .Name s2 py] [x, y] = some (some [s1, s2])))
    | _, _, _ => false
  | .Assign [.Tuple [.Name s1 px, .Name s2 py, .Name s3 pz] k p] (.Tuple [x, y, z] k2 p2) _ => match is, os, es with
    | [i, j, l], [false, false, false], .cons a (.cons b (.cons c .nil)) => cm && notStar x && notStar y && notStar z && okE cm N nm 0 sc a x && okE cm N nm 0 sc b y && okE cm N nm 0 sc c z &&
        (decide (N[i]? = some s1) && decide (N[j]? = some s2) && decide (N[l]? = some s3) && decide (i ≠ j) && decide (i ≠ l) && decide (j ≠ l) && decide (sc.names.lookup s1 = some .local) && decide (sc.names.lookup s2 = some .local) && decide (sc.names.lookup s3 = some .local) && decide (swN sc [.Name s1 px, .Name s2 py, .Name s3 pz] [x, y, z] = some (some [s1, s2, s3])))
    | _, _, _ => false
  | _ => false
/-- the stores stand as they are typed -/
def swNone (sc : Scope) (ts : List Expr) (v : Expr) : Bool := notTup v || (match v with
  | .Tuple vs _ _ => decide (swN sc ts vs = some none)
  | _ => false)
def okUnp (t : Tg) (e : E) : Stmt → Bool
  | .Assign [.Tuple ts k p] v _ => cm && okT N sc (fun _ => true) t (.Tuple ts k p) && swNone sc ts v && okE cm N nm 0 sc e v
  | _ => false
def okApp (i : Nat) (e : E) (md : Nat) (name : Str) : Stmt → Bool
  | .Expr (.Call (.Attribute o n ap) [y] [] cp) _ => eqS n name && nameIs N sc i o && (ap.endLine == cp.line) && notStar y && okE cm N nm md sc e y
  | _ => false
def okSIx (i : Nat) (a e : E) : Stmt → Bool
  | .Assign [.Subscript o ix _] v _ => nameIs N sc i o && notSlice ix && notComp v && okE cm N nm 1 sc a ix && okE cm N nm 0 sc e v
  | _ => false
def okApp2 (i : Nat) (es : Es) : Stmt → Bool
  | .Expr (.Call (.Attribute o n ap) [.List xs _] [] cp) _ => eqS n "append" && nameIs N sc i o && (ap.endLine == cp.line) && okEs cm N nm sc es xs
  | _ => false
def okSIx2 (i : Nat) (a b e : E) : Stmt → Bool
  | .Assign [.Subscript (.Subscript o ix _) ix2 _] v _ => nameIs N sc i o && notSlice ix && notSlice ix2 && notComp v && okE cm N nm 1 sc a ix && okE cm N nm 1 sc b ix2 && okE cm N nm 0 sc e v
  | _ => false
def okRaise (c : Nat) : Stmt → Bool
  | .Raise (some (.Call w [.Constant (.str _) _ _] [] _)) none _ => cm && nm.xc c && globIs sc (nm.x c) w
  | _ => false
def okExpr (e : E) : Stmt → Bool
  | .Expr v _ => notComp v && okE cm N nm 0 sc e v
  | _ => false
def one (ok : Stmt → Bool) (l : List Stmt) : Option (List Stmt) := match drops l with
  | st :: r => if ok st then some r else none
  | [] => none
def done : Option (List Stmt) → Bool
  | some l => (drops l).isEmpty
  | none => false
def okS : S → List Stmt → Option (List Stmt)
  | .skip, l => some l
  | .seq a b, l => (okS a l).bind (okS b)
  | .set i e, l => one (okSet nm cm N sc i false e) l
  | .setO i e, l => one (okSet nm cm N sc i true e) l
  | .frz _, l => some l
  | .unp t e, l => one (okUnp nm cm N sc t e) l
  | .par is os es, l => one (okPar nm cm N sc is os es) l
  | .app i e, l => one (okApp nm cm N sc i e 0 "append") l
  | .app2 i es, l => one (okApp2 nm cm N sc i es) l
  | .ext i e, l => one (okApp nm cm N sc i e 1 "extend") l
  | .setIx i a e, l => one (okSIx nm cm N sc i a e) l
  | .setIx2 i a b e, l => one (okSIx2 nm cm N sc i a b e) l
  | .ifs c a b, l => one (fun st => match st with
    | .If x as bs _ => testOk c && okE cm N nm 0 sc c x && done (okS a as) && done (okS b bs)
    | _ => false) l
  | .for_ t it b, l => one (fun st => match st with
    | .For x y bs [] _ => cm && okT N sc (fun _ => true) t x && notSet y && okI cm N nm sc it x y && done (okS b bs)
    | _ => false) l
  | .while_ c b, l => one (fun st => match st with
    | .While x bs [] _ => testOk c && okE cm N nm 0 sc c x && done (okS b bs)
    | _ => false) l
  | .ret e, l => one (okRet nm cm N sc fr e) l
  | .brk, l => one (fun st => match st with | .Break _ => true | _ => false) l
  | .cont, l => one (fun st => match st with | .Continue _ => true | _ => false) l
  | .raise c, l => one (okRaise nm cm sc c) l
  | .expr e, l => one (okExpr nm cm N sc e) l
  | .tryK b c i j, l => one (fun st => match st with
    | .Try bd [.ExceptHandler (some x) (some n) [.Assign [.Name kt p1] (.Name n2 p2) _] _] [] [] _ => cm && eqS n n2 && nm.xc c && globIs sc (nm.x c) x && decide (N[i]? = some n) && decide (N[j]? = some kt) && decide (sc.names.lookup n = some .local) && locIs N sc (fun _ => true) j (.Name kt p1) && nameIs N sc i (.Name n2 p2) && done (okS b bd)
    | _ => false) l
  | .tryC b c h, l => one (fun st => match st with
    | .Try bd [.ExceptHandler (some x) none [hs] _] [] [] _ => cm && nm.xc c && globIs sc (nm.x c) x && hdlOk h hs && done (okS b bd)
    | _ => false) l
end
section
variable {nm : Nms} {m : Mx} {Z : Sem0} {F : Nat} {H0 : Hp} {W : WX} {N : List Str} {sc : Scope} {cm fr : Bool} {X : Cx} {x y z w tg : Expr} {a b c e : E} {pos : Pos}
theorem st1_st1 : ∀ {σ : List Sl} {i : Nat} {u v : Sl}, st1 (st1 σ i u) i v = st1 σ i v
  | [], _, _, _ => rfl
  | _ :: _, 0, _, _ => rfl
  | x :: r, i + 1, u, v => by simp [st1, st1_st1 (σ := r)]
theorem st1_out : ∀ {σ : List Sl} {i : Nat} {v : Sl}, σ.length ≤ i → st1 σ i v = σ
  | [], _, _, _ => rfl
  | _ :: _, 0, _, h => by simp at h
  | x :: r, i + 1, v, h => by simp [st1, st1_out (σ := r) (by simpa using h)]
theorem lc_lst {σ : List Sl} {elt : E} {t : Tg} {it : It} {cond : Option E} {d : D} (h : ev Z.G Z.C σ (.lc elt t it cond) = .ok d) : ∃ xs, d = .lst xs := by
  simp only [ev] at h
  obtain ⟨ds, _, h⟩ := bind_ok_iff h
  cases h2 : (lcGo (fun x => asg t x (wipeS σ (tgv t))) (fun σ => evc Z.G Z.C σ cond) (fun σ => ev Z.G Z.C σ elt) ds).bind mkL with
  | ok d2 =>
    rw [h2] at h
    cases h
    obtain ⟨ys, _, h3⟩ := bind_ok_iff h2
    unfold mkL at h3
    split at h3
    · cases h3; exact ⟨_, rfl⟩
    · cases h3
  | exc c => rw [h2] at h; cases h
  | stk => rw [h2] at h; cases h
theorem then_setF {i : Nat} {elt : E} {t : Tg} {it : It} {cond : Option E} {u : TS} {D : Ends} {σV : L2.St} {H : Hp} (h : thenS m Z F H0 W fr (.set i (.lc elt t it cond)) u D σV H) :
    thenS m Z F H0 W fr (.setO i (.lc elt t it cond)) (thenS m Z F H0 W fr (.frz i) u) D σV H := by
  obtain ⟨σ, g, h⟩ := h
  refine ⟨σ, g, ?_⟩
  have h : OutS m H0 W fr { D with nx := u D } H (O.ofR σ (ev Z.G Z.C σ (.lc elt t it cond)) fun d => .nx (st1 σ i (.val d))) := h
  show OutS m H0 W fr { D with nx := thenS m Z F H0 W fr (.frz i) u D } H (O.ofR σ (ev Z.G Z.C σ (.lc elt t it cond)) fun d => O.ofR σ (ownD d) fun s => .nx (st1 σ i s))
  cases hd : ev Z.G Z.C σ (.lc elt t it cond) with
  | ok d =>
    rw [hd] at h
    obtain ⟨xs, rfl⟩ := lc_lst hd
    intro σV2 H2 g2 f2
    refine ⟨_, g2, fun σV3 H3 g3 f3 => ?_⟩
    refine h σV3 H3 ?_ (f2.trans f3)
    by_cases hi : i < σ.length
    · rw [lk_st1 hi, st1_st1] at g3
      exact g3
    · have ho : σ.length ≤ i := by omega
      rw [st1_out ho] at g3
      rw [st1_out ho] at g3
      rw [st1_out ho]; exact g3
  | exc c => rw [hd] at h; exact h
  | stk => rw [hd] at h; exact h
theorem one_ok {ok : Stmt → Bool} {l r : List Stmt} {t : TS} (h : one ok l = some r) (k : ∀ st, ok st = true → PSs X (st :: r) t) : PSs X l t := by
  unfold one at h
  split at h
  · rename_i st l2 heq
    split at h
    · rename_i c
      cases h
      exact pss_drops (by rw [heq]; exact k st c)
    · cases h
  · cases h
theorem set_snd {i : Nat} {own : Bool} {st : Stmt} {r : List Stmt} {u : TS} (o : Oks nm m Z W N sc cm X) (h : okSet nm cm N sc i own e st = true) (k : PSs X r u) : PSs X (st :: r) (thenS m Z F H0 W fr (if own then .setO i e else .set i e) u) := by
  unfold okSet at h
  split at h
  · rename_i t v pos
    simp only [Bool.and_eq_true, Bool.or_eq_true] at h
    obtain ⟨⟨⟨h1, h2⟩, h3⟩, h4⟩ := h
    have hnew : own = true → newE nm e = true := fun z => by
      subst z
      rcases h3 with h3 | h3
      · cases h3
      · exact h3
    have plain : swapsWith v (some t) pos.line X.env = pure false → PSs X (.Assign [t] v pos :: r) (thenS m Z F H0 W fr (if own then .setO i e else .set i e) u) := fun hs => by
      cases own with
      | true => exact pss_then (s_setO o h1 hs ((sndE (cm := cm) (N := N) (m := m) (Z := Z) (H0 := H0) e).n o.toOkx h2 (hnew rfl))) k
      | false => exact pss_then (s_set o h1 hs ((sndE (cm := cm) (N := N) (m := m) (Z := Z) (H0 := H0) e).f o.toOkx h2)) k
    rcases h4 with h4 | h4
    · exact plain (swap_no h4)
    · obtain ⟨⟨hc, hl⟩, h5⟩ := h4
      split at h5
      · rename_i n tp xelt xtg xit ifs s2 vp
        cases e with
        | lc elt tg it cond =>
          by_cases hsw : swapB sc n tp vp s2 = true
          · simp only [okE, Bool.and_eq_true] at h2
            obtain ⟨⟨⟨⟨⟨⟨q0, q1⟩, q2⟩, q3⟩, q4⟩, q5⟩, q6⟩ := h2
            simp only [locIs, Bool.and_eq_true, decide_eq_true_eq] at h1
            have P := s_setLc (F := F) (H0 := H0) (fr := fr) (pos := pos) o hc h1.1 hsw q1 (ownOf_snd N (tgv tg)) q2 q3 (sndI it nm W X sc o.toOkx _ _ q4) (fun X' o' => sndC cond nm W0 X' _ o' _ q5) (fun X' o' => (sndE (cm := cm) (N := N) (m := m) (Z := Z) (H0 := H0) elt).f o' q6)
            cases own with
            | true => exact pss_then P k
            | false => exact pssImp (pss_then P (pss_frz k)) fun D σ H q => then_setF q
          · exact plain (swap_nolc (by rw [o.hsc]; exact o.kind) o.hsc (Bool.eq_false_iff.mpr hsw))
        | _ => cases hl
      · cases h5
  · cases h
theorem ret_snd {st : Stmt} (o : Oks nm m Z W N sc cm X) (h : okRet nm cm N sc fr e st = true) : PS X st (tSt m Z F H0 W fr (.ret e)) := by
  unfold okRet at h
  split at h
  · rename_i v pos
    split at h
    · simp only [Bool.and_eq_true] at h
      exact s_retB o.toOkx h.1 h.2
    · rename_i nb
      simp only [Bool.and_eq_true] at h
      refine s_ret (fun i z => nb i z) ?_
      cases fr with
      | true =>
        have hn : newE nm e = true := by simpa using h.2
        exact (sndE (cm := cm) (N := N) (m := m) (Z := Z) (H0 := H0) e).n o.toOkx h.1 hn
      | false => exact (sndE (cm := cm) (N := N) (m := m) (Z := Z) (H0 := H0) e).f o.toOkx h.1
  · split at h
    · exact s_retN
    · cases h
  · cases h
theorem snd_O {o' : Bool} {e : E} {x : Expr} (o : Okx nm m Z W N sc cm X) (h : okE cm N nm 0 sc e x = true) (n : (!o' || newE nm e) = true) : PE X x (tO o' m Z H0 W e) := by
  cases o' with
  | true => exact (sndE (cm := cm) (N := N) (m := m) (Z := Z) (H0 := H0) e).n o h (by simpa using n)
  | false => exact (sndE (cm := cm) (N := N) (m := m) (Z := Z) (H0 := H0) e).f o h
theorem par_snd {is : List Nat} {os : List Bool} {es : Es} {st : Stmt} (o : Oks nm m Z W N sc cm X) (h : okPar nm cm N sc is os es st = true) : PS X st (tSt m Z F H0 W fr (.par is os es)) := by
  unfold okPar at h
  split at h
  · split at h
    · rename_i i j a b
      simp only [Bool.and_eq_true, Bool.or_eq_true, decide_eq_true_eq] at h
      obtain ⟨⟨⟨⟨⟨h0, h1⟩, h2⟩, h3⟩, h4⟩, h5⟩ := h
      have pa := (sndE (cm := cm) (N := N) (m := m) (Z := Z) (H0 := H0) a).f o.toOkx h3
      have pb := (sndE (cm := cm) (N := N) (m := m) (Z := Z) (H0 := H0) b).f o.toOkx h4
      rcases h5 with h5 | h5
      · obtain ⟨⟨⟨⟨⟨q1, q2⟩, q3⟩, q4⟩, q5⟩, q6⟩ := h5
        exact s_par2 o h0 q1 q2 q3 q4 q5 q6 h1 h2 pa pb
      · refine s_parU o h0 h5.1 sole_tup (swN_ok o.kind o.hsc h5.2) (pe_frozen (r_tup (r_cons h1 pa (r_cons h2 pb r_nil))))
    · rename_i i j oi oj a b _
      simp only [Bool.and_eq_true, decide_eq_true_eq] at h
      obtain ⟨⟨⟨⟨⟨⟨⟨h0, h1⟩, h2⟩, h3⟩, h4⟩, h5⟩, h6⟩, ⟨⟨⟨⟨⟨q1, q2⟩, q3⟩, q4⟩, q5⟩, q6⟩⟩ := h
      have pa := snd_O (m := m) (Z := Z) (H0 := H0) o.toOkx h3 h5
      have pb := snd_O (m := m) (Z := Z) (H0 := H0) o.toOkx h4 h6
      exact s_par2o o h0 q1 q2 q3 q4 q5 q6 h1 h2 pa pb
    · cases h
  · split at h
    · rename_i i j l a b c
      simp only [Bool.and_eq_true, decide_eq_true_eq] at h
      obtain ⟨⟨⟨⟨⟨⟨⟨h0, h1⟩, h2⟩, h3⟩, h4⟩, h5⟩, h6⟩, h7⟩ := h
      obtain ⟨⟨⟨⟨⟨⟨⟨⟨⟨q1, q2⟩, q3⟩, q4⟩, q5⟩, q6⟩, q7⟩, q8⟩, q9⟩, q10⟩ := h7
      have pa := (sndE (cm := cm) (N := N) (m := m) (Z := Z) (H0 := H0) a).f o.toOkx h4
      have pb := (sndE (cm := cm) (N := N) (m := m) (Z := Z) (H0 := H0) b).f o.toOkx h5
      have pc := (sndE (cm := cm) (N := N) (m := m) (Z := Z) (H0 := H0) c).f o.toOkx h6
      exact s_par3 o h0 q1 q2 q3 q4 q5 q6 q7 q8 q9 q10 h1 h2 h3 pa pb pc
    · cases h
  · cases h
theorem unp_snd {t : Tg} {st : Stmt} (o : Oks nm m Z W N sc cm X) (h : okUnp nm cm N sc t e st = true) : PS X st (tSt m Z F H0 W fr (.unp t e)) := by
  unfold okUnp at h
  split at h
  · rename_i ts k p v pos
    simp only [Bool.and_eq_true] at h
    obtain ⟨⟨⟨h0, h1⟩, h2⟩, h3⟩ := h
    refine s_unp o h0 h1 sole_tup ?_ ((sndE (cm := cm) (N := N) (m := m) (Z := Z) (H0 := H0) e).f o.toOkx h3)
    unfold swNone at h2
    cases v with
    | Tuple vs k2 p2 => exact swN_ok o.kind o.hsc (by simpa [notTup] using h2)
    | _ => first | rfl | (simp [notTup] at h2)
  · cases h
theorem app_snd {i : Nat} {st : Stmt} (o : Oks nm m Z W N sc cm X) (h : okApp nm cm N sc i e 0 "append" st = true) : PS X st (tSt m Z F H0 W fr (.app i e)) := by
  unfold okApp at h
  split at h
  · simp only [Bool.and_eq_true] at h
    obtain ⟨⟨⟨⟨h0, h1⟩, h2⟩, h3⟩, h4⟩ := h
    obtain rfl := eqS_eq h0
    exact s_app o h1 h2 h3 ((sndE (cm := cm) (N := N) (m := m) (Z := Z) (H0 := H0) e).f o.toOkx h4)
  · cases h
theorem ext_snd {i : Nat} {st : Stmt} (o : Oks nm m Z W N sc cm X) (h : okApp nm cm N sc i e 1 "extend" st = true) : PS X st (tSt m Z F H0 W fr (.ext i e)) := by
  unfold okApp at h
  split at h
  · simp only [Bool.and_eq_true] at h
    obtain ⟨⟨⟨⟨h0, h1⟩, h2⟩, h3⟩, h4⟩ := h
    obtain rfl := eqS_eq h0
    exact s_ext o h1 h2 h3 ((sndE (cm := cm) (N := N) (m := m) (Z := Z) (H0 := H0) e).r o.toOkx h4)
  · cases h
theorem six_snd {i : Nat} {st : Stmt} (o : Oks nm m Z W N sc cm X) (h : okSIx nm cm N sc i a e st = true) : PS X st (tSt m Z F H0 W fr (.setIx i a e)) := by
  unfold okSIx at h
  split at h
  · simp only [Bool.and_eq_true] at h
    obtain ⟨⟨⟨⟨h0, h1⟩, h2⟩, h3⟩, h4⟩ := h
    exact s_setIx o h0 h1 h2 ((sndE (cm := cm) (N := N) (m := m) (Z := Z) (H0 := H0) a).r o.toOkx h3) ((sndE (cm := cm) (N := N) (m := m) (Z := Z) (H0 := H0) e).f o.toOkx h4)
  · cases h
theorem app2_snd {i : Nat} {es : Es} {st : Stmt} (o : Oks nm m Z W N sc cm X) (h : okApp2 nm cm N sc i es st = true) : PS X st (tSt m Z F H0 W fr (.app2 i es)) := by
  unfold okApp2 at h
  split at h
  · simp only [Bool.and_eq_true] at h
    obtain ⟨⟨⟨h0, h1⟩, h2⟩, h3⟩ := h
    obtain rfl := eqS_eq h0
    exact s_app2 o h1 h2 (sndEs es nm W X sc o.toOkx _ h3)
  · cases h
theorem six2_snd {i : Nat} {st : Stmt} (o : Oks nm m Z W N sc cm X) (h : okSIx2 nm cm N sc i a b e st = true) : PS X st (tSt m Z F H0 W fr (.setIx2 i a b e)) := by
  unfold okSIx2 at h
  split at h
  · simp only [Bool.and_eq_true] at h
    obtain ⟨⟨⟨⟨⟨⟨h0, h1⟩, h2⟩, h3⟩, h4⟩, h5⟩, h6⟩ := h
    exact s_setIx2 o h0 h1 h2 h3 ((sndE (cm := cm) (N := N) (m := m) (Z := Z) (H0 := H0) a).r o.toOkx h4) ((sndE (cm := cm) (N := N) (m := m) (Z := Z) (H0 := H0) b).r o.toOkx h5) ((sndE (cm := cm) (N := N) (m := m) (Z := Z) (H0 := H0) e).f o.toOkx h6)
  · cases h
theorem raise_snd {k : Nat} {st : Stmt} (o : Oks nm m Z W N sc cm X) (h : okRaise nm cm sc k st = true) : PS X st (tSt m Z F H0 W fr (.raise k)) := by
  unfold okRaise at h
  split at h
  · simp only [Bool.and_eq_true] at h
    exact s_raise o h.1.1 h.1.2 h.2
  · cases h
theorem expr_snd {st : Stmt} (o : Oks nm m Z W N sc cm X) (h : okExpr nm cm N sc e st = true) : PS X st (tSt m Z F H0 W fr (.expr e)) := by
  unfold okExpr at h
  split at h
  · simp only [Bool.and_eq_true] at h
    exact s_expr h.1 ((sndE (cm := cm) (N := N) (m := m) (Z := Z) (H0 := H0) e).f o.toOkx h.2)
  · cases h
theorem done_ok {s : S} {l : List Stmt} {r : Option (List Stmt)} (h : done r = true) (k : ∀ l', r = some l' → ∀ u, PSs X l' u → PSs X l (thenS m Z F H0 W fr s u)) : PSs X l (tSt m Z F H0 W fr s) := by
  unfold done at h
  split at h
  · rename_i l'
    have e : drops l' = [] := by simpa using h
    have base : PSs X l' tNext := pss_drops (by rw [e]; exact pss_nil)
    exact pssImp (k l' rfl tNext base) fun D σ H q => q
  · cases h
theorem sndS : ∀ (s : S) {W : WX} {X : Cx} (o : Oks nm m Z W N sc cm X) (l r : List Stmt), okS nm cm N sc fr s l = some r → ∀ u, PSs X r u → PSs X l (thenS m Z F H0 W fr s u)
  | .skip, W, X, o, l, r, h, u, k => by
    cases h
    exact pssImp k fun D σ H q => then_skip q
  | .seq a b, W, X, o, l, r, h, u, k => by
    simp only [okS] at h
    obtain ⟨l2, h1, h2⟩ := Option.bind_eq_some_iff.mp h
    exact pssImp (sndS a o l l2 h1 _ (sndS b o l2 r h2 u k)) fun D σ H q => then_seq q
  | .set i e, W, X, o, l, r, h, u, k => one_ok (by simpa only [okS] using h) fun st c => set_snd (own := false) o c k
  | .setO i e, W, X, o, l, r, h, u, k => one_ok (by simpa only [okS] using h) fun st c => set_snd (own := true) o c k
  | .frz i, W, X, o, l, r, h, u, k => by
    cases h
    exact pss_frz k
  | .unp t e, W, X, o, l, r, h, u, k => one_ok (by simpa only [okS] using h) fun st c => pss_then (unp_snd o c) k
  | .par is os es, W, X, o, l, r, h, u, k => one_ok (by simpa only [okS] using h) fun st c => pss_then (par_snd o c) k
  | .app i e, W, X, o, l, r, h, u, k => one_ok (by simpa only [okS] using h) fun st c => pss_then (app_snd o c) k
  | .app2 i es, W, X, o, l, r, h, u, k => one_ok (by simpa only [okS] using h) fun st c => pss_then (app2_snd o c) k
  | .ext i e, W, X, o, l, r, h, u, k => one_ok (by simpa only [okS] using h) fun st c => pss_then (ext_snd o c) k
  | .setIx i a e, W, X, o, l, r, h, u, k => one_ok (by simpa only [okS] using h) fun st c => pss_then (six_snd o c) k
  | .setIx2 i a b e, W, X, o, l, r, h, u, k => one_ok (by simpa only [okS] using h) fun st c => pss_then (six2_snd o c) k
  | .ifs c a b, W, X, o, l, r, h, u, k => one_ok (by simpa only [okS] using h) fun st q => by
    split at q
    · simp only [Bool.and_eq_true] at q
      exact pss_then (s_ifs ((sndE (cm := cm) (N := N) (m := m) (Z := Z) (H0 := H0) c).t o.toOkx q.1.1.2 q.1.1.1) (done_ok q.1.2 fun l' h' u k => sndS a o _ l' h' u k) (done_ok q.2 fun l' h' u k => sndS b o _ l' h' u k)) k
    · cases q
  | .for_ t it b, W, X, o, l, r, h, u, k => one_ok (by simpa only [okS] using h) fun st q => by
    split at q
    · simp only [Bool.and_eq_true] at q
      exact pss_then (s_for o q.1.1.1.1 q.1.1.1.2 q.1.1.2 (sndI it nm W X sc o.toOkx _ _ q.1.2) (done_ok q.2 fun l' h' u k => sndS b o _ l' h' u k)) k
    · cases q
  | .while_ c b, W, X, o, l, r, h, u, k => one_ok (by simpa only [okS] using h) fun st q => by
    split at q
    · simp only [Bool.and_eq_true] at q
      exact pss_then (s_while o ((sndE (cm := cm) (N := N) (m := m) (Z := Z) (H0 := H0) c).t o.toOkx q.1.2 q.1.1) (done_ok q.2 fun l' h' u k => sndS b o _ l' h' u k)) k
    · cases q
  | .ret e, W, X, o, l, r, h, u, k => one_ok (by simpa only [okS] using h) fun st c => pss_then (ret_snd o c) k
  | .brk, W, X, o, l, r, h, u, k => one_ok (by simpa only [okS] using h) fun st q => by
    split at q
    · exact pss_then s_brk k
    · cases q
  | .cont, W, X, o, l, r, h, u, k => one_ok (by simpa only [okS] using h) fun st q => by
    split at q
    · exact pss_then s_cont k
    · cases q
  | .raise c, W, X, o, l, r, h, u, k => one_ok (by simpa only [okS] using h) fun st q => pss_then (raise_snd o q) k
  | .expr e, W, X, o, l, r, h, u, k => one_ok (by simpa only [okS] using h) fun st c => pss_then (expr_snd o c) k
  | .tryK b c i j, W, X, o, l, r, h, u, k => one_ok (by simpa only [okS] using h) fun st q => by
    split at q
    · simp only [Bool.and_eq_true, decide_eq_true_eq] at q
      obtain ⟨⟨⟨⟨⟨⟨⟨⟨⟨hc, h0⟩, h1⟩, h2⟩, h3⟩, h4⟩, h5⟩, h6⟩, h7⟩, h8⟩ := q
      obtain rfl := eqS_eq h0
      exact pss_then (s_tryK o hc h1 h2 h3 h4 h5 h6 h7 fun W' X' o' => done_ok h8 fun l' h' u k => sndS b o' _ l' h' u k) k
    · cases q
  | .tryC b c hd, W, X, o, l, r, h, u, k => one_ok (by simpa only [okS] using h) fun st q => by
    split at q
    · simp only [Bool.and_eq_true] at q
      obtain ⟨⟨⟨⟨hc, h1⟩, h2⟩, h3⟩, h4⟩ := q
      exact pss_then (s_tryC o hc h1 h2 h3 fun W' X' o' => done_ok h4 fun l' h' u k => sndS b o' _ l' h' u k) k
    · cases q
end
end Fc
/-! Ev2l: defs keep their promise, as deep as calls go. -/
namespace Fc
open PySem PySem.Spec
open PyProof.Rows L2
variable [Tb]

/-! ### how arguments bind -/
theorem lookup_app {α : Type} {x : Str} : ∀ {ps qs : List Str} {us vs : List α}, ps.length = us.length → x ∉ ps → List.lookup x (ps.zip us ++ qs.zip vs) = List.lookup x (qs.zip vs)
  | [], [], _, _, _, _ => by simp
  | [], _ :: _, us, _, h, _ => by
    have : us = [] := by simpa using h.symm
    subst this; rfl
  | p :: ps, qs, [], vs, h, _ => by simp at h
  | p :: ps, qs, u :: us, vs, h, hn => by
    have e : (x == p) = false := beq_eq_false_iff_ne.mpr fun z => hn (by rw [z]; exact List.mem_cons_self ..)
    rw [List.zip_cons_cons, List.cons_append, List.lookup_cons, e]
    exact lookup_app (by simpa using h) fun z => hn (List.mem_cons_of_mem _ z)
theorem bind_map {α : Type} : ∀ (ps : List Str) (us : List α) (acc : List Str) (av : List α), acc.length = av.length → us.length = ps.length → (acc ++ ps).Nodup →
    ps.filterMap (fun n => (List.lookup n (acc.zip av ++ ps.zip us)).map (n, ·)) = ps.zip us
  | [], us, _, _, _, h, _ => by simp
  | p :: ps, [], _, _, _, h, _ => by simp at h
  | p :: ps, u :: us, acc, av, ha, h, nd => by
    have hp : p ∉ acc := fun z => by
      have := List.nodup_append.mp nd
      exact this.2.2 p z p (List.mem_cons_self ..) rfl
    have h1 : List.lookup p (acc.zip av ++ (p :: ps).zip (u :: us)) = some u := by
      rw [lookup_app ha hp, List.zip_cons_cons, List.lookup_cons]
      simp
    have e : acc.zip av ++ (p :: ps).zip (u :: us) = (acc ++ [p]).zip (av ++ [u]) ++ ps.zip us := by
      rw [List.zip_append ha]; simp
    have h2 := bind_map ps us (acc ++ [p]) (av ++ [u]) (by simp [ha]) (by simpa using h) (by simpa using nd)
    rw [← e] at h2
    rw [List.filterMap_cons, h1, h2]
    rfl
theorem lookup_some {α : Type} {ps : List Str} {us : List α} (h : us.length = ps.length) (nd : ps.Nodup) : (ps.filter fun n => (List.lookup n (ps.zip us)).isNone) = [] := by
  have k := bind_map ps us [] [] rfl h (by simpa using nd)
  rw [List.filter_eq_nil_iff]
  intro n hn
  simp only [List.zip_nil_left, List.nil_append] at k
  cases q : List.lookup n (ps.zip us) with
  | some v => simp
  | none =>
    exfalso
    have hl : (ps.filterMap fun n => (List.lookup n (ps.zip us)).map (n, ·)).length < ps.length := by
      clear k
      have aux : ∀ (l : List Str), n ∈ l → (l.filterMap fun n => (List.lookup n (ps.zip us)).map (n, ·)).length < l.length := by
        intro l
        induction l with
        | nil => intro h; cases h
        | cons x r ih =>
          intro hx
          rw [List.filterMap_cons]
          have le : (r.filterMap fun n => (List.lookup n (ps.zip us)).map (n, ·)).length ≤ r.length := List.length_filterMap_le _ _
          rcases List.mem_cons.mp hx with rfl | hx
          · rw [q]; simp only [Option.map_none, List.length_cons]; omega
          · have := ih hx
            cases List.lookup x (ps.zip us) <;> simp only [Option.map_none, Option.map_some, List.length_cons] <;> omega
      exact aux ps hn
    rw [k, List.length_zip] at hl
    omega
/-- a def of plain parameters -/
def plainArgs (a : Arguments) : Bool := a.posonlyargs.isEmpty && a.vararg.isNone && a.kwonlyargs.isEmpty && a.kwarg.isNone
theorem bind_plain {fd : FuncData} {us : List Value} (hp : plainArgs fd.params = true) (hd : fd.defaults = .none) (hl : us.length = (fd.params.args.map (·.arg)).length) (nd : (fd.params.args.map (·.arg)).Nodup) : bindArgs fd ⟨us, []⟩ = pure ((fd.params.args.map (·.arg)).zip us) := by
  obtain ⟨name, qn, ⟨po, args, va, kwo, kwd, kwa, dfl⟩, body, sc, gl, cl, df, kwd', doc, pm, an, cd, ct, bl⟩ := fd
  simp only [plainArgs, Bool.and_eq_true, List.isEmpty_iff, Option.isNone_iff_eq_none] at hp
  obtain ⟨⟨⟨rfl, rfl⟩, rfl⟩, rfl⟩ := hp
  have hd' : df = .none := hd
  subst hd'
  simp only at hl nd
  have m0 := lookup_some hl nd
  have m1 := bind_map _ us [] [] rfl hl (by simpa using nd)
  simp only [List.zip_nil_left, List.nil_append] at m1
  unfold bindArgs
  have gt : ¬ (us.length > (args.map (·.arg)).length) := by omega
  have e1 : decide (us.length > (args.map (·.arg)).length) = false := decide_eq_false gt
  have sq : seqItems? Value.none = pure none := rfl
  simp only [List.map_nil, List.nil_append, sq, pure_bind, List.forIn_nil, List.forIn'_nil, List.append_nil, e1, Bool.false_and, Option.getD_none, m0, List.length_nil, Nat.sub_zero, List.drop_zero, List.zip_nil_right]
  rw [if_neg Bool.false_ne_true]
  simp only [List.drop_nil, List.length_nil, Nat.sub_zero, List.take_length, m0, List.isEmpty_nil, Bool.not_true, Bool.false_eq_true, if_false, List.zip_nil_right, List.forIn_nil, pure_bind, m1]

/-! ### what must be seen of a def -/
def scopeB (N P : List Str) (sc : Scope) : Bool := (match sc.kind with | .function => true | _ => false) && !sc.isCoroutine && !sc.isGenerator && decide N.Nodup && decide (N.take P.length = P) &&
  (P.all fun x => match sc.names.lookup x with | some .local => true | some .cell => true | _ => false) && sc.names.all fun y => match y.2 with | .free => false | _ => true
theorem scopeB_ok {N P : List Str} {sc : Scope} (h : scopeB N P sc = true) : FnScope N P sc := by
  unfold scopeB at h
  simp only [Bool.and_eq_true, List.all_eq_true, decide_eq_true_eq, Bool.not_eq_true'] at h
  obtain ⟨⟨⟨⟨⟨⟨h1, h2⟩, h3⟩, h4⟩, h5⟩, h6⟩, h7⟩ := h
  refine ⟨?_, h2, h3, h4, h5, fun x hx => ?_, fun y hy e => ?_⟩
  · revert h1; cases sc.kind <;> simp
  · have := h6 x hx
    revert this
    cases sc.names.lookup x with
    | none => simp
    | some k => cases k <;> simp
  · have := h7 y hy
    rw [e] at this; cases this
def argNames (fd : FuncData) : List Str := fd.params.args.map (·.arg)
def chkFd (nm : Nms) (K : PySem.W.Frag) (N : List Str) (F : FD) (fd : FuncData) : Bool := match fd with
  | ⟨name, qual, params, .stmts bd, sc, gl, [], .none, _, _, _, _, cd, _, bl⟩ => plainArgs params && (gl == mainGlobals) && (bl == builtinsNs) && PySem.W.codeIn K cd qual && scopeB N (params.args.map (·.arg)) sc &&
      decide (F.np = (params.args.map (·.arg)).length) && decide (F.ns = N.length) && done (okS nm true N sc F.fresh F.body bd)
  | _ => false
/-- the names that a def may use -/
def nmOf (nm : Nms) (f : Nat) : Nms := if nm.lm f then nm else nm.noL
def chkFn (nm : Nms) (K : PySem.W.Frag) (f : Nat) (N : List Str) (F : FD) : Bool := (match PySem.W.nsIn K mainGlobals (nm.f f) with
  | some (some (.ref a)) => PySem.W.keepIn K (.ref a) && (match K.lookup a with
    | some ⟨_, _, .func fd, _⟩ => chkFd (nmOf nm f) K N F fd
    | _ => false)
  | _ => false) && (nm.fr f == F.fresh)
/-- the same for a def that is called while an error is handled -/
def wordFd (nm : Nms) (K : PySem.W.Frag) (N : List Str) (F : FD) (fd : FuncData) : Bool := match fd with
  | ⟨name, qual, params, .stmts bd, sc, gl, [], .none, _, _, _, _, cd, _, bl⟩ => plainArgs params && (gl == mainGlobals) && (bl == builtinsNs) && PySem.W.codeIn K cd qual && scopeB N (params.args.map (·.arg)) sc &&
      decide (F.np = (params.args.map (·.arg)).length) && decide (F.ns = N.length) && done (okS nm false N sc F.fresh F.body bd)
  | _ => false
def wordB (nm : Nms) (K : PySem.W.Frag) (f : Nat) (N : List Str) (F : FD) : Bool := (match PySem.W.nsIn K mainGlobals (nm.f f) with
  | some (some (.ref a)) => PySem.W.keepIn K (.ref a) && (match K.lookup a with
    | some ⟨_, _, .func fd, _⟩ => wordFd nm K N F fd
    | _ => false)
  | _ => false) && (F.fresh == false)
/-- def t(a): try: return a() / except CodeError as e: return w(e) -/
def toldBd (nm : Nms) (w : Nat) (ps : List Str) (sc : Scope) (l : List Stmt) : Bool := match ps, drops l with
  | [a], [.Try [.Return (some (.Call (.Name a1 _) [] [] _)) _] [.ExceptHandler (some (.Name ex _)) (some en) [.Return (some (.Call (.Name wn _) [.Name en2 _] [] _)) _] _] [] [] _] =>
    eqS a a1 && eqS ex (nm.x 0) && eqS wn (nm.f w) && eqS en en2 && scopeB [a, en] [a] sc && okNm a && okNm en && okNm ex && okNm wn && nm.xc 0 && decide (sc.names.lookup a = some .local) && decide (sc.names.lookup en = some .local) && decide (sc.names.lookup ex = some .globalImplicit) && decide (sc.names.lookup wn = some .globalImplicit)
  | _, _ => false
def toldB (nm : Nms) (K : PySem.W.Frag) (t w : Nat) : Bool := match PySem.W.nsIn K mainGlobals (nm.f t) with
  | some (some (.ref g)) => PySem.W.keepIn K (.ref g) && (match K.lookup g with
    | some ⟨_, _, .func ⟨name, qual, params, .stmts bd, sc, gl, [], .none, _, _, _, _, cd, _, bl⟩, _⟩ => plainArgs params && (gl == mainGlobals) && (bl == builtinsNs) && eqS name (nm.f t) && eqS qual (nm.f t) && PySem.W.codeIn K cd qual && toldBd nm w (params.args.map (·.arg)) sc bd
    | _ => false)
  | _ => false
/-- what the module's top has left -/
structure Facts (K : PySem.W.Frag) (mg : Str → Option Value) (base : Heap) (nm : Nms) (m : Mx) (T : Tab) (G : Nat → R D) : Prop where
  hm : m.K = K
  fns : ∀ f, nm.t f = true → ∃ N F, T f = some F ∧ chkFn nm K f N F = true
  mgf : ∀ x v, PySem.W.nsIn K mainGlobals x = some (some v) → mg x = some v
  bi : ∀ x, isBi x = true → mg x = none
  gl : ∀ n d, nm.gt n = true → G n = .ok d → ∃ v u, mg (nm.g n) = some u ∧ RelV v u ∧ ∀ H, TabsIn m H → Rep m H v d
  glx : ∀ n c, G n ≠ .exc c
  ex : ∀ c, nm.xc c = true → mg (nm.x c) = some (.ref (m.ca c)) ∧ PySem.W.keepIn K (.ref (m.ca c)) = true ∧ (PySem.W.subIn K (.ref (m.ca c)) (.type "BaseException") = some true ∧ PySem.W.typeIn K (.ref (m.ca c)) = some (.type "type")) ∧
    ∃ (B newId initId : String) (bmB : List Value), ExcBaseFacts B newId initId bmB ∧ PySem.W.excIn K (m.ca c) bmB newId = true
  xcm : nm.xc = m.xc
  exm : ∀ k c, m.xc k = true → m.xc c = true → PySem.W.exmOne m.K (.ref (m.ca k)) (.ref (m.ca c)) = some (subC k c)
  kit : ∀ k c, m.xc k = true → m.xc c = true → PySem.W.kitOne m.K (.ref (m.ca k)) (.ref (m.ca c)) = some (subC k c)
  kitV : ∀ k, m.xc k = true → PySem.W.kitOne m.K (.ref (m.ca k)) (.type "ValueError") = some true
  exC : ∀ k, m.xc k = true → ExcC m.K (m.ca k)
  cool : m.hot = none
  tl : ∀ t w, nm.tl t w = true → toldB nm K t w = true ∧ ∃ N F, T w = some F ∧ wordB nm K w N F = true
  lmk : ∀ f, nm.lm f = true → ∀ (a : Addr) (oc : Value) (od : Option Addr) (fd : FuncData) (osl : Array (Option Value)), PySem.W.nsIn K mainGlobals (nm.f f) = some (some (.ref a)) → K.lookup a = some ⟨oc, od, .func fd, osl⟩ →
    ∃ c P', fd.code = .ref c ∧ LamX.TabB base mg c P' ∧ (P', fd.qualname ++ (".<locals>." : Str) ++ ("<lambda>" : Str)) ∈ Tb.T ∧ ∀ p ∈ Tb.T, p.1 = P' → p.2 = fd.qualname ++ (".<locals>." : Str) ++ ("<lambda>" : Str)

/-! ### the start -/
theorem lk_app {ds : List D} {n i : Nat} : lk (ds.map Sl.val ++ List.replicate n Sl.no) i = match ds[i]? with | some d => .val d | none => .no := by
  induction ds generalizing i with
  | nil =>
    simp only [List.map_nil, List.nil_append, List.getElem?_nil]
    induction n generalizing i with
    | zero => rfl
    | succ n ih => cases i with
      | zero => rfl
      | succ i => exact ih
  | cons d ds ih => cases i with
    | zero => rfl
    | succ i => exact ih (i := i)
theorem good_start {m : Mx} {H : Hp} {N : List Str} {vs : List V} {ds : List D} {n : Nat} (r : RepL m H vs ds) (hn : n = N.length - vs.length) (t : TabsIn m H) : Good m H H (L2.start N vs) (ds.map Sl.val ++ List.replicate n Sl.no) := by
  have hl := r.length
  refine ⟨by simp [L2.start, hl, hn], fun i => ?_, fun i j a hij w1 w2 => ?_, .refl _, t⟩
  · rw [lk_app]
    cases hd : ds[i]? with
    | none => exact True.intro
    | some d =>
      obtain ⟨x, hx, rx⟩ := r.get' hd
      refine ⟨x, ?_, rx⟩
      unfold L2.start
      rw [List.getElem?_append_left (by
        have := (List.getElem?_eq_some_iff.mp hx).1
        simpa using this), List.getElem?_map, hx]
      rfl
  · rw [lk_app] at w1
    cases hd : ds[i]? with
    | none => rw [hd] at w1; exact w1
    | some d => rw [hd] at w1; exact w1
end Fc
/-! Ev2v: what a lambda tells, or the word of its error. -/
namespace Fc
open PySem PySem.Spec
open PyProof.Rows L2
variable [Tb]

/-! ### a lambda's parameters: none -/
theorem noArgs_def {params : Arguments} {env : Env} (h : noArgs params = true) : defaultsOf params env = ([], []) := by
  obtain ⟨a, b, c, d, e, f, g⟩ := params
  simp only [noArgs, Bool.and_eq_true, List.isEmpty_iff, Option.isNone_iff_eq_none] at h
  obtain ⟨⟨⟨⟨⟨⟨rfl, rfl⟩, rfl⟩, rfl⟩, rfl⟩, rfl⟩, rfl⟩ := h
  rfl
theorem noArgs_bind {params : Arguments} (h : noArgs params = true) (q : Str) (body : Expr) (scope : Scope) (cl : List (Str × Addr)) (pm cv ctv : Value) : bindArgs (PySem.W.kla_fn "<lambda>" q params body scope cl pm cv ctv) ⟨[], []⟩ = pure [] := by
  obtain ⟨a, b, c, d, e, f, g⟩ := params
  simp only [noArgs, Bool.and_eq_true, List.isEmpty_iff, Option.isNone_iff_eq_none] at h
  obtain ⟨⟨⟨⟨⟨⟨rfl, rfl⟩, rfl⟩, rfl⟩, rfl⟩, rfl⟩, rfl⟩ := h
  exact (bind_plain (us := []) (fd := PySem.W.kla_fn "<lambda>" q ⟨[], [], none, [], [], none, []⟩ body scope cl pm cv ctv) rfl rfl rfl List.nodup_nil)

/-! ### a def called while an error is handled -/
section
variable {P : Program} {w : World} {K : PySem.W.Frag} {mg : Str → Option Value} {base : Heap} {nm : Nms} {m : Mx} {T : Tab} {G : Nat → R D} {Fb : Nat}
theorem word_hot (Wf : Facts K mg base nm m T G) {f : Nat} {N : List Str} {F : FD} (hw : wordB nm K f N F = true) : ∃ fa : Addr, mg (nm.f f) = some (.ref fa) ∧ PySem.W.keepIn K (.ref fa) = true ∧
    ∀ {C : Nat → List D → R D} {A : Around} {outer : List Env} {s : Shared} {H : Hp} {a : Addr} {oe : Obj} {c : Nat} {z : Str} {Q : VK}, L2H.RoomH 1 A → L2H.PinOk outer H s (a, oe) → Zc (.ref (m.ca c)) none oe → (∃ vs, oe.data = .fields vs) → m.xc c = true → TabsIn m H →
      Env0 P w K mg base A outer s H → body G C Fb F [.exv c] = .ok (.str z) → (∀ H2, Same H H2 → Q (.str z) H2) → codeAny (model P w) A (.call (.ref fa) ⟨[.ref a], []⟩) (CR C8.CX0 outer P w H s Q C8.E0) s := by
  unfold wordB at hw
  simp only [Bool.and_eq_true, beq_iff_eq] at hw
  obtain ⟨hc, hfr⟩ := hw
  split at hc
  · rename_i fa hns
    simp only [Bool.and_eq_true] at hc
    obtain ⟨hk, hc⟩ := hc
    split at hc
    · rename_i oc od fd osl lk
      unfold wordFd at hc
      split at hc
      · rename_i name qual params bd sc gl kV doc pm an cd ct bl
        simp only [Bool.and_eq_true, decide_eq_true_eq, beq_iff_eq] at hc
        obtain ⟨⟨⟨⟨⟨⟨⟨h1, rfl⟩, rfl⟩, h4⟩, h5⟩, h6⟩, h7⟩, h8⟩ := hc
        have S := scopeB_ok h5
        have nd : (params.args.map (·.arg)).Nodup := by rw [← S.pre]; exact (List.take_sublist _ _).nodup S.nd
        refine ⟨fa, Wf.mgf _ _ hns, hk, fun {C A outer s H a oe c z Q} hr hpin hz hf hx ht e0 hb hq => ?_⟩
        have hl : F.np = 1 := by
          unfold body at hb
          by_cases q : ([.exv c] : List D).length = F.np
          · exact q.symm
          · rw [if_neg q] at hb; cases hb
        have hps : (params.args.map (·.arg)).length = 1 := by rw [← h6]; exact hl
        have KX : K.In s.heap := e0.mod.kin.keeps fun b o e => (e0.bs b o e).1
        have lim : s.heap.NoLimit := e0.mod.nolimit.keeps fun b o e => (e0.bs b o e).1
        have hkind : ∀ y ∈ (params.args.map (·.arg)).zip [Value.ref a], sc.names.lookup y.1 = some .local ∨ (sc.names.lookup y.1 = some .cell ∧ ((cellsFrom (s.heap.objs.size + 1) sc.names []).lookup y.1).isSome = true) := fun ⟨n, v⟩ hy => by
          rcases S.par n (List.of_mem_zip hy).1 with q | q
          · exact .inl q
          · exact .inr ⟨q, PySem.W.cellsFrom_some _ _ _ (.inl q)⟩
        have bind := bind_plain (fd := PySem.W.fnOf name qual params bd sc .none kV doc pm an cd ct) (us := [.ref a]) h1 rfl (by rw [show (PySem.W.fnOf name qual params bd sc Value.none kV doc pm an cd ct).params = params from rfl, hps]; rfl) nd
        refine codeAny_call_function hr.depth (KX _ _ lk) rfl S.co S.gen rfl (PySem.W.codeRec_of KX h4) ((BindsTo.of_eq bind : BindsTo s _ _ _) _ _ _ _ ?_)
        refine wpAny_newFunctionEnv_cells S.kind hkind fun env he s1 x => ?_
        subst he
        refine ⟨lim.keeps x.toInCall.keep, codeAny_func ?_⟩
        have rv : Vals [V.ref a] [Value.ref a] := .cons rfl .nil
        have I : Inv (L2H.cxH C8.CX0 P w K mg base N qual sc fa cd A outer s H C8.E0 (a, oe)) [] (L2.start N [V.ref a]) H s1 := L2H.inv_startH S hpin e0 (by rw [hps]; rfl) rv x
        have o : Oks nm (m.hotAt a c) ⟨G, C⟩ (fun _ _ _ _ => False) N sc false (L2H.cxH C8.CX0 P w K mg base N qual sc fa cd A outer s H C8.E0 (a, oe)) :=
          { hm := Wf.hm
            hu := by have := (hr.deeper (envOfC qual sc s.heap.objs.size fa cd)).un; show (A.deeper _).units + 66 < cLine; omega
            tk := LamX.takes0
            hN := rfl
            nod := S.nd
            hsc := rfl
            hc := fun z => by cases z
            gl := fun n d h1 h2 => by
              obtain ⟨v, u, q1, q2, q3⟩ := Wf.gl n d h1 h2
              exact ⟨v, u, q1, q2, fun H t => (q3 H t).heat Wf.cool⟩
            glx := Wf.glx
            fn := fun _ _ z => by cases z
            bi := Wf.bi
            xcm := Wf.xcm
            mgx := fun c hc => (Wf.ex c (by rw [Wf.xcm]; exact hc)).1
            exm := Wf.exm
            kit := Wf.kit
            kitV := Wf.kitV
            exC := Wf.exC
            cool := fun z => by cases z
            hot := fun b k z => by
              cases z
              exact ⟨oe, List.mem_singleton.mpr rfl, hz, hf⟩
            told := fun _ _ _ z => by cases z
            hs := rfl
            hf := rfl
            hex := rfl
            hp := passes_of rfl
            fnx := fun _ => rfl
            kind := S.kind
            ex := fun c hc => by
              obtain ⟨q1, q2, q3, q4⟩ := Wf.ex c hc
              exact ⟨q1, q2, raises_own q3.1 q3.2, q4⟩ }
        have t := done_ok h8 fun l' h' u k => sndS (F := Fb) (H0 := H) F.body o _ _ h' u k
        have run : tSt (m.hotAt a c) ⟨G, C⟩ Fb H (fun _ _ _ _ => False) F.fresh F.body { nx := fun _ H' => Q .non H', rt := Q } (L2.start N [V.ref a]) H := by
          refine ⟨[D.exv c].map Sl.val ++ List.replicate (F.ns - F.np) Sl.no, good_start (.cons (.exv hx (.inr rfl)) .nil) (by rw [h7, hl]; rfl) ht, ?_⟩
          unfold body at hb
          rw [if_pos (by rw [hl]; rfl)] at hb
          revert hb
          show _ → OutS _ _ _ _ _ _ (evst G C Fb F.fresh ([D.exv c].map Sl.val ++ List.replicate (F.ns - F.np) Sl.no) F.body)
          cases evst G C Fb F.fresh ([D.exv c].map Sl.val ++ List.replicate (F.ns - F.np) Sl.no) F.body with
          | rt d =>
            intro hb
            cases hb
            intro z' H' e1 _ nw
            rw [hfr] at nw
            cases (show Rep (m.hotAt a c) H' z' (.str z) from nw)
            exact hq H' e1
          | nx σ => intro hb; rw [hfr] at hb; cases hb
          | ex c σ => intro hb; cases hb
          | bk σ => intro hb; cases hb
          | ct σ => intro hb; cases hb
          | stk => intro hb; cases hb
        refine wpAny_mono (t.run [] s1 (L2.start N [V.ref a]) H _ I run) (fun fl s' hs => ?_) fun e s' hs => hs
        have fin : ∀ {σ' : L2.St} {H' : Hp} {v : V} {u : Value}, Inv (L2H.cxH C8.CX0 P w K mg base N qual sc fa cd A outer s H C8.E0 (a, oe)) [] σ' H' s' → RelV v u → Q v H' → CE outer P w H s Q u s' :=
          fun {σ' H' v u} J rv q => ⟨v, H', J.os, J.bare, J.base, J.hok, rv, q⟩
        cases fl with
        | ret u =>
          obtain ⟨v, σ', H', J, rv, q⟩ := hs
          exact fin J rv q
        | next =>
          obtain ⟨σ', H', J, q⟩ := hs
          exact fin (v := V.non) (u := Value.none) J rfl q
        | brk =>
          obtain ⟨_, _, _, q⟩ := hs
          exact False.elim q
        | cont =>
          obtain ⟨_, _, _, q⟩ := hs
          exact False.elim q
      · cases hc
    · cases hc
  · cases hc
/-- the def that asks a lambda keeps its promise -/
theorem told_of (Wf : Facts K mg base nm m T G) {t v k kk : Nat} {code : Value} {qual : Str} {c P' : Addr} (ht : nm.tl t v = true) (hcode : code = .ref c) (TB : LamX.TabB base mg c P') (hT : (P', qual ++ ("<lambda>" : Str)) ∈ Tb.T) (hu : ∀ p ∈ Tb.T, p.1 = P' → p.2 = qual ++ ("<lambda>" : Str)) :
    ToldQ P w K mg base code qual m kk (nm.f t) fun c => callF T G Fb k v [.exv c] := by
  obtain ⟨hB, N, F, hTv, hW⟩ := Wf.tl t v ht
  obtain ⟨fa, hwm, hwk, hot⟩ := word_hot (P := P) (w := w) (Fb := Fb) Wf hW
  unfold toldB at hB
  split at hB
  · rename_i g hns
    simp only [Bool.and_eq_true] at hB
    obtain ⟨hk, hB⟩ := hB
    split at hB
    · rename_i oc od name qn params bd sg gl kV doc pm an cdg ct bl osl lk
      simp only [Bool.and_eq_true, beq_iff_eq] at hB
      obtain ⟨⟨⟨⟨⟨⟨b1, rfl⟩, rfl⟩, b4⟩, b5⟩, b6⟩, b7⟩ := hB
      obtain rfl := eqS_eq b4
      obtain rfl := eqS_eq b5
      unfold toldBd at b7
      split at b7
      · rename_i a a1 q1 q2 q3 ex q4 en wn q5 en2 q6 q7 q8 q9 q10 hps hdr
        simp only [Bool.and_eq_true, decide_eq_true_eq] at b7
        obtain ⟨⟨⟨⟨⟨⟨⟨⟨⟨⟨⟨⟨⟨c1, c2⟩, c3⟩, c4⟩, c5⟩, c6⟩, c7⟩, c8⟩, c9⟩, c10⟩, c11⟩, c12⟩, c13⟩, c14⟩ := b7
        obtain rfl := eqS_eq c1
        obtain rfl := eqS_eq c2
        obtain rfl := eqS_eq c3
        obtain rfl := eqS_eq c4
        have Sg := scopeB_ok c5
        have hx0 : m.xc 0 = true := by rw [← Wf.xcm]; exact c10
        obtain ⟨d1, d2⟩ := okNm1 c6
        obtain ⟨d3, d4⟩ := okNm1 c7
        obtain ⟨d5, _⟩ := okNm1 c8
        obtain ⟨d6, _⟩ := okNm1 c9
        intro X h1 h2 h3 h4 h5 h6 h7 hr params' body scope tt p lpos pos hg hd L hp hbody
        subst h1 h2 h3 h4 h5 h6 h7
        have nd : (params.args.map (·.arg)).Nodup := by rw [hps]; simp
        refine LamX.pe_lamcall (T := Tb.T) (TT := fun tl H Q => tl (EW m (fun c => callF T G Fb k v [.exv c]) Q) H Q) (Ng := [a, en]) (k := kk) hg (Wf.mgf _ _ hns) hk lk b6 (.all fun us hl => ?_) Sg rfl (.inl c11) ?_ TB hcode hT hu hr L (noArgs_def hp) (fun q cl pm cv ctv => noArgs_bind hp q body scope cl pm cv ctv) hbody hd d1 d2
        · have := bind_plain (fd := PySem.W.fnOf (nm.f t) (nm.f t) params bd sg .none kV doc pm an cdg ct) (us := us) b1 rfl (by rw [show (PySem.W.fnOf (nm.f t) (nm.f t) params bd sg Value.none kV doc pm an cdg ct).params = params from rfl, hps]; exact hl) nd
          rw [show (PySem.W.fnOf (nm.f t) (nm.f t) params bd sg Value.none kV doc pm an cdg ct).params = params from rfl, hps] at this
          exact this
        · intro f c' s H Q tl act hc h
          let X1 : Cx := (cxOf C8.CX0 X.prog X.w X.K X.mg X.base [a, en] (nm.f t) sg g cdg X.A X.stack s H C8.E0).nox
          have hr1 : Room (kk + 1) X1.A := hr.deeper _
          have hge : Gl X1 (nm.x 0) := c13
          have hgw : Gl X1 (nm.f v) := c14
          have he : ∀ (a' : Addr) (oe : Obj) (cls : Value) (d : Option Addr) (pn : List (Addr × Obj)), Zc cls d oe → (∃ vs, oe.data = .fields vs) → PE (X1.suite a' ((a', oe) :: pn)) (.Call (.Name (nm.f v) q5) [.Name en q6] [] q7) (fun σ H Q => ∃ (c : Nat) (z : Str) (σ0 : L2.St),
              m.xc c = true ∧ cls = .ref (m.ca c) ∧ d = none ∧ callF T G Fb k v [.exv c] = .ok (.str z) ∧ σ = σ0.set 1 (some (.ref a')) ∧ TabsIn m H ∧ ∀ H2, Same H H2 → Q (.str z) H2) := fun a' oe cls d pn hz hf => by
            refine ⟨fun pins s2 σ2 H2 Q2 I h => ?_⟩
            obtain ⟨c, z, σ0, x1, x2, x3, x4, x5, x6, x7⟩ := h
            subst x2 x3
            have hlen : σ2.length = 2 := I.len
            have hget : σ2[1]? = some (some (V.ref a')) := by
              rw [x5] at hlen ⊢
              rw [List.length_set] at hlen
              rw [List.getElem?_set_self (by omega)]
            refine wpAny_Call_Name_kw (ld_glob I hgw hwm ?_ d6)
            refine PySem.W.callWith_K (h₀ := X1.base) I.ok.mod.kin hwk (thn ((pa_cons (X := X1.suite a' ((a', oe) :: pn)) (pe_var (i := 1) (x := en) rfl (.inl c12) d3 d4) pa_nil).run q7 pins s2 σ2 H2 (fun vs H3 => vs = [.ref a'] ∧ H3 = H2) I ⟨.ref a', hget, rfl, rfl⟩) fun us s3 ⟨vs, H3, I3, r, q⟩ => ⟨I3.kIn, ?_⟩) (by rfl) (by rfl)
            obtain ⟨rfl, rfl⟩ := q
            obtain ⟨u, rfl, ru⟩ := r.one
            cases ru
            have P1 := I3.pin (a', oe) (List.mem_append_left _ (List.mem_cons_self ..))
            have hpin : L2H.PinOk (X1.suite a' ((a', oe) :: pn)).stack H3 s3 (a', oe) := ⟨P1.1, P1.2.1, fun hm => (List.mem_cons.mp (I3.stkSub a' hm)).elim P1.2.2.1 P1.2.2.2.1, P1.2.2.2.2⟩
            have rh := L2H.roomH_of (hr1.mono (show 1 ≤ kk + 1 by omega))
            have hrH : L2H.RoomH 1 (X1.suite a' ((a', oe) :: pn)).A := ⟨rh.dp, rh.un⟩
            cases k with
            | zero => cases x4
            | succ k =>
              have x4 : Fc.body G (callF T G Fb k) Fb F [D.exv c] = .ok (.str z) := by
                rw [← x4]
                simp only [callF, hTv]
              refine wpAny_call (codeAny_mono (hot hrH hpin hz hf x1 x6 I3.env0 x4 x7) fun r s' hq => ?_)
              cases r with
              | error e => exact (show False from hq).elim
              | ok fl =>
                cases fl with
                | ret u => exact I3.after hq
                | next => exact False.elim hq
                | brk => exact False.elim hq
                | cont => exact False.elim hq
          refine ⟨_, pss_drops (by
            rw [hdr]
            exact pss_one (L2H.ps_try_asH (X := X1) (c := .ref (m.ca 0)) (i := 1) (Wout := fun _ _ _ _ => False)
              (tb := fun W D σ H => ∃ Ech : XK, (∀ cls d σ' H', Ech cls d H' → W cls d σ' H') ∧ σ[0]? = some (some (.ref f)) ∧ H c' = some (LamX.CodeO c' (X.env.qual ++ ("<lambda>" : Str))) ∧ tl Ech H D.rt)
              (ts := fun a cls d D σ H => ∃ (c : Nat) (z : Str) (σ0 : L2.St), m.xc c = true ∧ cls = .ref (m.ca c) ∧ d = none ∧ callF T G Fb k v [.exv c] = .ok (.str z) ∧ σ = σ0.set 1 (some (.ref a)) ∧ TabsIn m H ∧ ∀ H2, Same H H2 → D.rt (.str z) H2)
              rfl rfl Sg.nd rfl c12 ⟨hge, d5, .inl (Wf.ex 0 c10).1⟩ LamX.takes0 (fun W pn xe _ tk _ => by
                refine ⟨fun pins s' σ H' D I h' => ?_⟩
                obtain ⟨Ech, hW, h1, h2, h3⟩ := h'
                exact (pss_one (ps_ret (pos := q3) (act W pn xe Ech q1 q2 tk hW))).run pins s' σ H' D I ⟨h1, h2, h3⟩)
              (fun a' oe cls d pn hz hf => pss_one (ps_ret (he a' oe cls d pn hz hf))))), ?_⟩
          refine ⟨EW m (fun c => callF T G Fb k v [.exv c]) Q, fun cls d σ' H' ⟨c, z, y1, y2, y3, y4, y5, y6⟩ => ?_, rfl, hc, h⟩
          have ex := Wf.exm c 0 y1 hx0
          rw [Wf.hm] at ex
          refine ⟨subC c 0, by rw [y2]; exact ex, fun _ a' na => ⟨c, z, σ', y1, y2, y3, y4, rfl, y5, y6⟩, fun hb => ?_⟩
          have : subC c 0 = true := by unfold subC; simp
          rw [this] at hb; cases hb
      · cases b7
    · cases hB
  · cases hB
end
end Fc
/-! Ev2y: defs keep their promise, as deep as calls go. -/
namespace Fc
open PySem PySem.Spec
open PyProof.Rows L2
variable [Tb]

theorem nmOf_t (nm : Nms) (f g : Nat) : (nmOf nm f).t g = nm.t g := by unfold nmOf; split <;> rfl
theorem nmOf_f (nm : Nms) (f g : Nat) : (nmOf nm f).f g = nm.f g := by unfold nmOf; split <;> rfl
theorem nmOf_fr (nm : Nms) (f g : Nat) : (nmOf nm f).fr g = nm.fr g := by unfold nmOf; split <;> rfl
theorem nmOf_gt (nm : Nms) (f g : Nat) : (nmOf nm f).gt g = nm.gt g := by unfold nmOf; split <;> rfl
theorem nmOf_g (nm : Nms) (f g : Nat) : (nmOf nm f).g g = nm.g g := by unfold nmOf; split <;> rfl
theorem nmOf_x (nm : Nms) (f g : Nat) : (nmOf nm f).x g = nm.x g := by unfold nmOf; split <;> rfl
theorem nmOf_xc (nm : Nms) (f : Nat) : (nmOf nm f).xc = nm.xc := by unfold nmOf; split <;> rfl
section
variable {P : Program} {w : World} {K : PySem.W.Frag} {mg : Str → Option Value} {base : Heap} {nm : Nms} {m : Mx} {T : Tab} {G : Nat → R D} {Fb : Nat}
def FnL (P : Program) (w : World) (K : PySem.W.Frag) (mg : Str → Option Value) (base : Heap) (nm : Nms) (m : Mx) (T : Tab) (G : Nat → R D) (Fb : Nat) (k : Nat) : Prop := ∀ f, nm.t f = true → ∃ (fa : Addr) (fd : FuncData) (ps : List Str), mg (nm.f f) = some (.ref fa) ∧ PySem.W.keepIn K (.ref fa) = true ∧ L2.Binds K fd ps [] ∧
  (∀ ds, callF T G Fb k f ds ≠ .stk → ds.length = ps.length) ∧ FnOk P w K mg base (L2.CX P w) (3 * k) fa fd ps (spD m ps.length (nm.fr f) (callF T G Fb k f))
theorem fn_levels (W : Facts K mg base nm m T G) : ∀ k, FnL P w K mg base nm m T G Fb k := by
  intro k
  induction k with
  | zero =>
    intro f hf
    obtain ⟨N, F, hT, hc⟩ := W.fns f hf
    unfold chkFn at hc
    simp only [Bool.and_eq_true] at hc
    obtain ⟨hc, hfr⟩ := hc
    split at hc
    · rename_i a hns
      simp only [Bool.and_eq_true] at hc
      obtain ⟨hk, hc⟩ := hc
      split at hc
      · rename_i oc od fd osl lk
        have maker := fun z => W.lmk f z a oc od fd osl hns lk
        unfold chkFd at hc
        split at hc
        · rename_i name qual params bd sc gl kV doc pm an cd ct bl
          simp only [Bool.and_eq_true, decide_eq_true_eq, beq_iff_eq] at hc
          obtain ⟨⟨⟨⟨⟨⟨⟨h1, rfl⟩, rfl⟩, h4⟩, h5⟩, h6⟩, h7⟩, h8⟩ := hc
          have S := scopeB_ok h5
          have nd : (params.args.map (·.arg)).Nodup := by rw [← S.pre]; exact (List.take_sublist _ _).nodup S.nd
          refine ⟨a, _, params.args.map (·.arg), W.mgf _ _ hns, hk, .all fun us hl => bind_plain (fd := PySem.W.fnOf name qual params bd sc .none kV doc pm an cd ct) h1 rfl hl nd, fun ds h => absurd rfl h, ⟨fun vs H Q E h => h.1, fun A outer s H args us vs Q E _ _ _ _ h => ?_⟩⟩
          obtain ⟨_, _, ds, _, h⟩ := h
          exact h.elim
        · cases hc
      · cases hc
    · cases hc
  | succ k ih =>
    intro f hf
    obtain ⟨N, F, hT, hc⟩ := W.fns f hf
    unfold chkFn at hc
    simp only [Bool.and_eq_true, beq_iff_eq] at hc
    obtain ⟨hc, hfr⟩ := hc
    split at hc
    · rename_i a hns
      simp only [Bool.and_eq_true] at hc
      obtain ⟨hk, hc⟩ := hc
      split at hc
      · rename_i oc od fd osl lk
        have maker := fun z => W.lmk f z a oc od fd osl hns lk
        unfold chkFd at hc
        split at hc
        · rename_i name qual params bd sc gl kV doc pm an cd ct bl
          simp only [Bool.and_eq_true, decide_eq_true_eq, beq_iff_eq] at hc
          obtain ⟨⟨⟨⟨⟨⟨⟨h1, rfl⟩, rfl⟩, h4⟩, h5⟩, h6⟩, h7⟩, h8⟩ := hc
          have S := scopeB_ok h5
          have nd : (params.args.map (·.arg)).Nodup := by rw [← S.pre]; exact (List.take_sublist _ _).nodup S.nd
          have hbody : ∀ ds, callF T G Fb (k + 1) f ds = body G (callF T G Fb k) Fb F ds := fun ds => by simp only [callF, hT]
          refine ⟨a, _, params.args.map (·.arg), W.mgf _ _ hns, hk, .all fun us hl => bind_plain (fd := PySem.W.fnOf name qual params bd sc .none kV doc pm an cd ct) h1 rfl hl nd, fun ds h => ?_, ?_⟩
          · rw [hbody] at h
            unfold body at h
            by_cases hl : ds.length = F.np
            · rw [hl]; exact h6
            · rw [if_neg hl] at h; exact absurd rfl h
          · refine (show FnOk P w K mg base (L2.CX P w) (3 * k + 2 + 1) a _ _ _ from fn_of lk h4 S (fun vs H Q E h => h.1) fun A outer s H vs Q E hr hsp => ?_)
            obtain ⟨hlen, ht, ds, rl, run⟩ := hsp
            have o : Oks (nmOf nm f) m ⟨G, callF T G Fb k⟩ (fun cls d _ H' => E cls d H') N sc true (cxOf (L2.CX P w) P w K mg base N qual sc a cd A outer s H E) :=
              { hm := W.hm
                hu := by have := hr.un; show (A.deeper _).units + 66 < cLine; omega
                tk := takes_of rfl rfl rfl rfl
                hN := rfl
                nod := S.nd
                hsc := rfl
                hc := fun _ => rfl
                gl := fun n d h1 h2 => by
                  rw [nmOf_gt] at h1
                  rw [nmOf_g]
                  exact W.gl n d h1 h2
                glx := W.glx
                fn := fun g hg _ => by
                  rw [nmOf_t] at hg
                  obtain ⟨fa, fd, ps, q1, q2, q3, q4, q5⟩ := ih g hg
                  rw [nmOf_f, nmOf_fr]
                  exact ⟨3 * k, fa, fd, ps, hr.mono (by omega), q1, q2, q3, q4, q5⟩
                cool := fun _ => W.cool
                hot := fun b k z => by rw [W.cool] at z; cases z
                told := fun t v ht _ => by
                  by_cases hm : nm.lm f = true
                  · have e : nmOf nm f = nm := if_pos hm
                    rw [e] at ht ⊢
                    obtain ⟨c, P', y1, y2, y3, y4⟩ := maker hm
                    refine ⟨3 * k, hr, fun g hg => ?_, told_of W ht y1 y2 y3 y4⟩
                    obtain ⟨fa, fd, ps, q1, q2, q3, q4, q5⟩ := ih g hg
                    exact ⟨3 * k, fa, fd, ps, Nat.le_refl _, q1, q2, q3, q4, q5⟩
                  · have e : nmOf nm f = nm.noL := if_neg hm
                    rw [e] at ht; cases ht
                bi := W.bi
                xcm := by rw [nmOf_xc]; exact W.xcm
                mgx := fun c hc => by rw [nmOf_x]; exact (W.ex c (by rw [W.xcm]; exact hc)).1
                exm := W.exm
                kit := W.kit
                kitV := W.kitV
                exC := W.exC
                hs := rfl
                hf := rfl
                hex := rfl
                hp := passes_of rfl
                fnx := fun _ => rfl
                kind := S.kind
                ex := fun c hc => by
                  rw [nmOf_xc] at hc
                  rw [nmOf_x]
                  obtain ⟨q1, q2, q3, q4⟩ := W.ex c hc
                  exact ⟨q1, q2, raises_own q3.1 q3.2, q4⟩ }
            refine ⟨_, done_ok h8 fun l' h' u k => sndS (F := Fb) (H0 := H) F.body o _ _ h' u k, ?_⟩
            rw [hbody] at run
            unfold body at run
            by_cases hl : ds.length = F.np
            · rw [if_pos hl] at run
              refine ⟨ds.map Sl.val ++ List.replicate (F.ns - F.np) Sl.no, good_start rl (by rw [h7, rl.length, hl]) ht, ?_⟩
              revert run
              cases evst G (callF T G Fb k) Fb F.fresh (ds.map Sl.val ++ List.replicate (F.ns - F.np) Sl.no) F.body with
              | nx σ =>
                intro run σV H' g _
                cases hf : F.fresh with
                | true => rw [hf] at run; exact run.elim
                | false =>
                  rw [hf] at run
                  have run : (match nm.fr f with | true => Yld m H .non Q | false => YldF m H .non Q) := run
                  rw [hfr, hf] at run
                  exact run .non H' g.same .non
              | rt d =>
                intro run z H' e t nw
                have run : (match nm.fr f with | true => Yld m H d Q | false => YldF m H d Q) := run
                rw [hfr] at run
                cases hf : F.fresh with
                | true => rw [hf] at run nw; exact run z H' e nw
                | false => rw [hf] at run nw; exact run z H' e nw
              | ex c σ =>
                intro run xk σV H' g _
                exact (show ∀ H', Same H H' → m.xc c = true → E (.ref (m.ca c)) none H' from run) H' g.same xk
              | bk σ => exact fun run => run.elim
              | ct σ => exact fun run => run.elim
              | stk => exact fun run => run.elim
            · rw [if_neg hl] at run; exact run.elim
        · cases hc
      · cases hc
    · cases hc
end
end Fc
/-! Ev2m: a law, from what its term tells in the evaluator. -/
namespace Fc
open PySem PySem.Spec
open PyProof.Rows L2
section
variable [Tb]

/-- a law's parts: defs (id, name, slots' names, term), flat constants, dict constants, error classes -/
structure Law where
  fs : List (Nat × Str × List Str × FD)
  gs : List (Nat × Str × D)
  ds : List (Nat × Str × List (Str × Int))
  xs : List (Nat × Str)
  law : Nat
  /-- defs that ask a lambda, with those that tell its error's word -/
  ts : List (Nat × Nat) := []
  /-- defs that make lambdas -/
  ms : List Nat := []
  tn : List (Nat × Str) := []
namespace Law
def gName (L : Law) (n : Nat) : Str := match L.gs.lookup n with
  | some p => p.1
  | none => match L.ds.lookup n with
    | some p => p.1
    | none => ⟨#[]⟩
def nms (L : Law) : Nms where
  t f := (L.fs.lookup f).isSome
  gt n := (L.gs.lookup n).isSome || (L.ds.lookup n).isSome
  fr f := match L.fs.lookup f with | some p => p.2.2.fresh | none => false
  f f := match L.fs.lookup f with | some p => p.1 | none => match L.tn.lookup f with | some x => x | none => ⟨#[]⟩
  g n := L.gName n
  x c := match L.xs.lookup c with | some x => x | none => ⟨#[]⟩
  xc c := (L.xs.lookup c).isSome
  tl t w := L.ts.contains (t, w)
  lm f := L.ms.contains f
end Law
/-- the functions, the constants are those of the tables T, G -/
def TabOk (T : Tab) : List (Nat × Str × List Str × FD) → Prop
  | [] => True
  | p :: r => T p.1 = some p.2.2.2 ∧ TabOk T r
def GsOk (G : Nat → R D) : List (Nat × Str × D) → Prop
  | [] => True
  | p :: r => G p.1 = .ok p.2.2 ∧ GsOk G r
def DsOk (G : Nat → R D) : List (Nat × Str × List (Str × Int)) → Prop
  | [] => True
  | p :: r => G p.1 = .ok (.dic (p.2.2.map fun q => .inr q.1) (p.2.2.map fun q => .int q.2)) ∧ DsOk G r
theorem TabOk.get {T : Tab} : ∀ {l : List (Nat × Str × List Str × FD)}, TabOk T l → ∀ p ∈ l, T p.1 = some p.2.2.2
  | _ :: _, h, _, .head _ => h.1
  | _ :: _, h, _, .tail _ m => TabOk.get h.2 _ m
theorem GsOk.get {G : Nat → R D} : ∀ {l : List (Nat × Str × D)}, GsOk G l → ∀ p ∈ l, G p.1 = .ok p.2.2
  | _ :: _, h, _, .head _ => h.1
  | _ :: _, h, _, .tail _ m => GsOk.get h.2 _ m
theorem DsOk.get {G : Nat → R D} : ∀ {l : List (Nat × Str × List (Str × Int))}, DsOk G l → ∀ p ∈ l, G p.1 = .ok (.dic (p.2.2.map fun q => .inr q.1) (p.2.2.map fun q => .int q.2))
  | _ :: _, h, _, .head _ => h.1
  | _ :: _, h, _, .tail _ m => DsOk.get h.2 _ m

/-! ### the written part without lists, without the dict constants -/
def isLst (o : Obj) : Bool := match o.cls with
  | .type n => n == "list"
  | .none => (match o.data with | .fields _ => true | _ => false)
  | _ => false
def badOf (K : PySem.W.Frag) (ds : List Addr) : List Addr := (K.filter fun p => isLst p.2).map (·.1) ++ ds
def cutK (K : PySem.W.Frag) (ds : List Addr) : PySem.W.Frag := K.filter fun p => !(badOf K ds).contains p.1
theorem lookup_filter {K : PySem.W.Frag} {q : Addr → Bool} {a : Addr} {o : Obj} (h : (K.filter fun p => q p.1).lookup a = some o) : q a = true ∧ K.lookup a = some o := by
  induction K with
  | nil => simp at h
  | cons p r ih =>
    obtain ⟨b, x⟩ := p
    rw [List.filter_cons] at h
    by_cases c : q b = true
    · simp only [c, if_true] at h
      rw [List.lookup_cons] at h ⊢
      by_cases e : (a == b) = true
      · rw [e] at h ⊢
        have e' : a = b := eq_of_beq e
        subst e'
        exact ⟨c, h⟩
      · rw [Bool.eq_false_iff.mpr e] at h ⊢
        exact ih h
    · simp only [Bool.eq_false_iff.mpr c, Bool.false_eq_true, if_false] at h
      obtain ⟨h1, h2⟩ := ih h
      refine ⟨h1, ?_⟩
      rw [List.lookup_cons]
      have e : (a == b) = false := beq_eq_false_iff_ne.mpr fun z => c (z ▸ h1)
      rw [e]; exact h2
theorem lookup_mem {K : PySem.W.Frag} {a : Addr} {o : Obj} (h : K.lookup a = some o) : (a, o) ∈ K := by
  induction K with
  | nil => simp at h
  | cons p r ih =>
    obtain ⟨b, x⟩ := p
    rw [List.lookup_cons] at h
    by_cases e : (a == b) = true
    · rw [e] at h
      have e' : a = b := eq_of_beq e
      subst e'
      cases h
      exact List.mem_cons_self ..
    · rw [Bool.eq_false_iff.mpr e] at h
      exact List.mem_cons_of_mem _ (ih h)
theorem cutK_of {K : PySem.W.Frag} {ds : List Addr} {a : Addr} {o : Obj} (h : (cutK K ds).lookup a = some o) : K.lookup a = some o ∧ a ∉ ds ∧ isLst o = false := by
  obtain ⟨h1, h2⟩ := lookup_filter (q := fun a => !(badOf K ds).contains a) h
  have n : a ∉ badOf K ds := by simpa using h1
  unfold badOf at n
  rw [List.mem_append, not_or] at n
  refine ⟨h2, n.2, ?_⟩
  refine Bool.eq_false_iff.mpr fun z => n.1 ?_
  exact List.mem_map.mpr ⟨(a, o), List.mem_filter.mpr ⟨lookup_mem h2, z⟩, rfl⟩

/-! ### constants -/
def flatIs : Value → D → Bool
  | .int i _, .int j => decide (i = j)
  | .str x _, .str y => eqS x y
  | .bool a, .bl b => a == b
  | .none, .non => true
  | _, _ => false
def flatsAre : List Value → List D → Bool
  | [], [] => true
  | u :: us, d :: ds => flatIs u d && flatsAre us ds
  | _, _ => false
def valIs (K : PySem.W.Frag) (u : Value) : D → Bool
  | .tup ds => match u with
    | .ref a => (match K.lookup a with
      | some ⟨c, _, .seq its _, _⟩ => (c == .type "tuple") && decide (its.size ≤ 1000) && flatsAre its.toList ds
      | _ => false)
    | _ => false
  | d => flatIs u d
theorem flatIs_ok {m : Mx} {u : Value} {d : D} (h : flatIs u d = true) : ∃ v, RelV v u ∧ ∀ H, Rep m H v d := by
  unfold flatIs at h
  split at h
  · obtain rfl := of_decide_eq_true h; exact ⟨.int _, ⟨_, rfl⟩, fun H => .int _⟩
  · obtain rfl := eqS_eq h; exact ⟨.str _, ⟨_, rfl⟩, fun H => .str _⟩
  · obtain rfl := eq_of_beq h; exact ⟨.bl _, rfl, fun H => .bl _⟩
  · exact ⟨.non, rfl, fun H => .non⟩
  · cases h
theorem flatsAre_ok {m : Mx} : ∀ {us : List Value} {ds : List D}, flatsAre us ds = true → ∃ vs, Vals vs us ∧ ∀ H, RepL m H vs ds
  | [], [], _ => ⟨[], .nil, fun H => .nil⟩
  | u :: us, d :: ds, h => by
    simp only [flatsAre, Bool.and_eq_true] at h
    obtain ⟨v, r, k⟩ := flatIs_ok (m := m) h.1
    obtain ⟨vs, rs, ks⟩ := flatsAre_ok (m := m) h.2
    exact ⟨v :: vs, .cons r rs, fun H => .cons (k H) (ks H)⟩
  | [], _ :: _, h => by simp [flatsAre] at h
  | _ :: _, [], h => by simp [flatsAre] at h
theorem valIs_ok {m : Mx} {K : PySem.W.Frag} (hm : m.K = K) {u : Value} {d : D} (h : valIs K u d = true) : ∃ v, RelV v u ∧ ∀ H, Rep m H v d := by
  unfold valIs at h
  split at h
  · split at h
    · rename_i a
      split at h
      · rename_i c dd its n sl lk
        simp only [Bool.and_eq_true, beq_iff_eq, decide_eq_true_eq] at h
        obtain ⟨⟨h1, h2⟩, h3⟩ := h
        obtain ⟨vs, rs, ks⟩ := flatsAre_ok (m := m) h3
        exact ⟨.ref a, rfl, fun H => .tup (.inr ⟨_, its, n, by rw [hm]; exact lk, h1, rfl, by rw [sizeLine_eq]; omega, rs⟩) (ks H)⟩
      · cases h
    · cases h
  · exact flatIs_ok h

/-! ### what is to be seen of the written part -/
def biL : List Str := ["len", "all", "any", "sum", "sorted", "set", "tuple", "list", "str", "int", "bool", "abs", "max", "min", "isinstance", "range", "zip", "enumerate", "ValueError"]
def isNo : Option (Option Value) → Bool
  | some none => true
  | _ => false
def chkG (K : PySem.W.Frag) (n : Str) (d : D) : Bool := match PySem.W.nsIn K mainGlobals n with
  | some (some u) => valIs K u d
  | _ => false
def chkX (K : PySem.W.Frag) (x : Str) : Bool := match PySem.W.nsIn K mainGlobals x with
  | some (some (.ref C)) => PySem.W.keepIn K (.ref C) && (PySem.W.subIn K (.ref C) (.type "BaseException") == some true) && (PySem.W.typeIn K (.ref C) == some (.type "type")) &&
      PySem.W.excIn K C [.type "ValueError", .type "Exception", .type "BaseException", .type "object"] "ValueError.__new__"
  | _ => false
/-- a dict constant's address -/
def refIn (K : PySem.W.Frag) (x : Str) : Addr := match PySem.W.nsIn K mainGlobals x with
  | some (some (.ref a)) => a
  | _ => 0
def isRef (K : PySem.W.Frag) (x : Str) : Bool := match PySem.W.nsIn K mainGlobals x with
  | some (some (.ref a)) => decide (3 < a) && decide (a ≠ mainGlobals)
  | _ => false
def dAddrs (L : Law) (K : PySem.W.Frag) : List Addr := L.ds.map fun p => refIn K p.2.1
/-- what isinstance asks of an error's class -/
def excCB (K : PySem.W.Frag) (D : Addr) : Bool :=
  (PySem.W.findIn K (.ref D) "__getattribute__" == some (some (.builtin "BaseException.__getattribute__"))) && (PySem.W.findIn K (.ref D) "__getattr__" == some none) && (PySem.W.subIn K (.ref D) (.type "BaseException") == some true) && PySem.W.hasDictIn K D &&
    (PySem.W.findIn K (.ref D) "__class__" == some (some (.builtin "object.__class__"))) && (PySem.W.specialIn K (.builtin "object.__class__") "__get__" == some (some (.builtin "getset_descriptor.__get__"))) && (PySem.W.takesIn K (.builtin "object.__class__") == some true) && (PySem.W.mroIn K D (.type "object") == some true)
theorem excCB_ok {K : PySem.W.Frag} {D : Addr} (h : excCB K D = true) : ExcC K D := by
  unfold excCB at h
  simp only [Bool.and_eq_true, beq_iff_eq] at h
  obtain ⟨⟨⟨⟨⟨⟨⟨h1, h2⟩, h3⟩, h4⟩, h5⟩, h6⟩, h7⟩, h8⟩ := h
  exact ⟨h1, h2, h3, h4, h5, h6, h7, h8⟩
/-- the classes of errors, one below another -/
def chkXX (K : PySem.W.Frag) (xs : List (Nat × Str)) : Bool := xs.all fun p => excCB K (refIn K p.2) && (PySem.W.kitOne K (.ref (refIn K p.2)) (.type "ValueError") == some true) &&
  xs.all fun q => (PySem.W.exmOne K (.ref (refIn K p.2)) (.ref (refIn K q.2)) == some (subC p.1 q.1)) && (PySem.W.kitOne K (.ref (refIn K p.2)) (.ref (refIn K q.2)) == some (subC p.1 q.1))
/-- a maker's table of code objects -/
def tabOf (K : PySem.W.Frag) (x : Str) : Addr := match PySem.W.tabIn K x with
  | some (_, P) => P
  | none => 0
def mkB (K : PySem.W.Frag) (x : Str) : Bool := (PySem.W.tabIn K x).isSome && (match PySem.W.nsIn K mainGlobals x with
  | some (some (.ref a)) => (match K.lookup a with
    | some ⟨_, _, .func fd, _⟩ => eqS fd.qualname x
    | _ => false)
  | _ => false)
def lamQ (x : Str) : Str := x ++ (".<locals>." : Str) ++ ("<lambda>" : Str)
def tabsOf (L : Law) (K : PySem.W.Frag) : List (Addr × Str) := L.ms.map fun f => (tabOf K (L.nms.f f), lamQ (L.nms.f f))
def chkTs (L : Law) (K : PySem.W.Frag) : Bool := L.ts.all (fun p => toldB L.nms K p.1 p.2 && (match L.fs.lookup p.2 with | some q => wordB L.nms K p.2 q.2.1 q.2.2 | none => false)) && L.ms.all (fun f => mkB K (L.nms.f f)) && decide ((tabsOf L K).map (·.1)).Nodup
def chkAll (L : Law) (K0 : PySem.W.Frag) : Bool :=
  let K := cutK K0 (dAddrs L K0)
  biL.all (fun x => isNo (PySem.W.nsIn K mainGlobals x)) && L.fs.all (fun p => chkFn L.nms K p.1 p.2.2.1 p.2.2.2) && L.gs.all (fun p => chkG K p.2.1 p.2.2) && L.xs.all (fun p => chkX K p.2) && L.ds.all (fun p => isRef K0 p.2.1) &&
    decide (dAddrs L K0).Nodup && chkXX K L.xs && chkTs L K
/-- a dict's entries are these -/
def EntP (P : Params) : List DictEntry → List (Str × Int) → Prop
  | [], [] => True
  | e :: es, p :: ps => (∃ t u, e.key = .str p.1 t ∧ e.val = .int p.2 u ∧ e.hash = PyData.keyHash P p.1) ∧ EntP P es ps
  | _, _ => False
def DictAt (P : Params) (K : PySem.W.Frag) (x : Str) (kvs : List (Str × Int)) : Prop := ∃ d es n, PySem.W.nsIn K mainGlobals x = some (some (.ref d)) ∧ K.lookup d = some ⟨.type "dict", none, .dict es n, #[]⟩ ∧ EntP P es.toList kvs
def DictsAt (P : Params) (K : PySem.W.Frag) : List (Nat × Str × List (Str × Int)) → Prop
  | [] => True
  | p :: r => (DictAt P K p.2.1 p.2.2 ∧ p.2.2.length ≤ 1000 ∧ (p.2.2.map (·.1)).Nodup) ∧ DictsAt P K r

def kvsOf (kvs : List (Str × Int)) : List (Key × V) := kvs.map fun q => (.inr q.1, .int q.2)
theorem entP_ok {P : Program} {w : World} : ∀ {es : List DictEntry} {kvs : List (Str × Int)}, EntP w.params es kvs → ∃ vs : List (Key × Value), KV (kvsOf kvs) vs ∧ Pairs (mixKind P w) es vs ∧ vs.map (·.1) = kvs.map (fun q => (.inr q.1 : Key)) ∧ ∀ e ∈ es, ∃ k, (mixKind P w).is k e.key = true ∧ e.hash = (mixKind P w).hash k
  | [], [], _ => ⟨[], .nil, .nil, rfl, fun e h => by cases h⟩
  | e :: es, p :: ps, h => by
    obtain ⟨⟨t, u, h1, h2, h3⟩, h4⟩ := h
    obtain ⟨vs, k1, k2, k3, k4⟩ := entP_ok (P := P) h4
    have hk : (mixKind P w).is (.inr p.1) e.key = true := by
      show Value.isStrOf p.1 e.key = true
      rw [h1]; exact beq_self_eq_true _
    refine ⟨(.inr p.1, .int p.2 u) :: vs, .cons ⟨rfl, ⟨u, rfl⟩⟩ k1, .cons hk h2 k2, by simp [k3], fun e' he => ?_⟩
    rcases List.mem_cons.mp he with rfl | he
    · exact ⟨_, hk, h3⟩
    · exact k4 e' he
  | [], _ :: _, h => h.elim
  | _ :: _, [], h => h.elim
theorem dict_ok {P : Program} {w : World} {H : Hp} {h : Heap} {d : Addr} {es : Array DictEntry} {n : Nat} {kvs : List (Str × Int)} (hh : h.get? d = some ⟨.type "dict", none, .dict es n, #[]⟩) (he : EntP w.params es.toList kvs) (hl : kvs.length ≤ 1000) (nd : (kvs.map (·.1)).Nodup) (hs : (d == sysModules) = false) :
    ObjOk P w H h d (.dK (kvsOf kvs)) := by
  obtain ⟨vs, k1, k2, k3, k4⟩ := entP_ok (P := P) he
  refine ⟨by unfold kvsOf; rw [List.length_map, sizeLine_eq]; omega, hs, vs, k1, _, es, n, hh, ⟨rfl, rfl, rfl⟩, rfl, fun e hm => k4 e (by simpa using hm), k2, ?_⟩
  rw [k3]
  have : kvs.map (fun q => (.inr q.1 : Key)) = (kvs.map (·.1)).map Sum.inr := by rw [List.map_map]; rfl
  rw [this]
  exact nd.map _ (fun a b hab e => hab (Sum.inr.inj e))
/-- the tables, with all that is needed of them -/
theorem dicts_tabs {P : Program} {w : World} {K : PySem.W.Frag} {h : Heap} (KX : K.In h) : ∀ {L : List (Nat × Str × List (Str × Int))}, DictsAt w.params K L → (L.all fun p => isRef K p.2.1) = true →
    ∃ tabs : List (Addr × Obj × List (Key × V)), tabs.map (·.1) = L.map (fun p => refIn K p.2.1) ∧ (∀ p ∈ L, ∃ o, (refIn K p.2.1, o, kvsOf p.2.2) ∈ tabs) ∧
      ∀ t ∈ tabs, h.get? t.1 = some t.2.1 ∧ (∃ es n, t.2.1.data = .dict es n) ∧ 3 < t.1 ∧ t.1 ≠ mainGlobals ∧ ∀ H, ObjOk P w H h t.1 (.dK t.2.2)
  | [], _, _ => ⟨[], rfl, (by intro p hp; simp at hp), (by intro t ht; simp at ht)⟩
  | p :: L, d, c => by
    obtain ⟨⟨⟨a, es, n, d1, d2, d3⟩, d4, d5⟩, dr⟩ := d
    rw [List.all_cons, Bool.and_eq_true] at c
    obtain ⟨tabs, t1, t2, t3⟩ := dicts_tabs (P := P) KX dr c.2
    have ha : refIn K p.2.1 = a := by unfold refIn; rw [d1]
    have c1 : 3 < a ∧ a ≠ mainGlobals := by
      have := c.1
      unfold isRef at this
      rw [d1] at this
      simpa using this
    have hh := KX _ _ d2
    have hs : (a == sysModules) = false := beq_eq_false_iff_ne.mpr fun z => by
      have z : a = 1 := z
      rw [z] at c1
      exact absurd c1.1 (by decide)
    refine ⟨(a, ⟨.type "dict", none, .dict es n, #[]⟩, kvsOf p.2.2) :: tabs, by rw [List.map_cons, List.map_cons, t1, ha], fun q hq => ?_, fun t ht => ?_⟩
    · rcases List.mem_cons.mp hq with rfl | hq
      · exact ⟨_, by rw [ha]; exact List.mem_cons_self ..⟩
      · obtain ⟨o, ho⟩ := t2 q hq
        exact ⟨o, List.mem_cons_of_mem _ ho⟩
    · rcases List.mem_cons.mp ht with rfl | ht
      · exact ⟨hh, ⟨es, n, rfl⟩, c1.1, c1.2, fun H => dict_ok hh d3 d4 d5 hs⟩
      · exact t3 t ht
theorem lookup_memN {α : Type} : ∀ {l : List (Nat × α)} {n : Nat} {x : α}, l.lookup n = some x → (n, x) ∈ l
  | [], _, _, h => by simp at h
  | (k, y) :: r, n, x, h => by
    rw [List.lookup_cons] at h
    by_cases e : (n == k) = true
    · rw [e] at h
      have e' : n = k := eq_of_beq e
      subst e'
      cases h
      exact List.mem_cons_self ..
    · rw [Bool.eq_false_iff.mpr e] at h
      exact List.mem_cons_of_mem _ (lookup_memN h)
theorem nodup_fst {α β : Type} : ∀ {l : List (α × β)}, (l.map (·.1)).Nodup → ∀ p ∈ l, ∀ q ∈ l, p.1 = q.1 → p = q
  | x :: l, h, p, hp, q, hq, e => by
    obtain ⟨h1, h2⟩ := List.nodup_cons.mp (show (x.1 :: l.map (·.1)).Nodup from h)
    rcases List.mem_cons.mp hp with e1 | hp <;> rcases List.mem_cons.mp hq with e2 | hq
    · rw [e1, e2]
    · exact absurd (List.mem_map.mpr ⟨q, hq, by rw [← e, e1]⟩) h1
    · exact absurd (List.mem_map.mpr ⟨p, hp, by rw [e, e2]⟩) h1
    · exact nodup_fst h2 p hp q hq e
theorem facts_of {L : Law} {K0 : PySem.W.Frag} {h : Heap} {mg : Str → Option Value} {tabs : List (Addr × Obj × List (Key × V))} {T : Tab} {G0 : Nat → R D} (hT : TabOk T L.fs) (hGs : GsOk G0 L.gs) (hDs : DsOk G0 L.ds) (hnx : ∀ n c, G0 n ≠ .exc c) (KX : (cutK K0 (dAddrs L K0)).In h) (G : h.Ns mainGlobals mg) (KX0 : K0.In h) (c : chkAll L K0 = true) (hm2 : ∀ p ∈ L.ds, ∃ o, (refIn K0 p.2.1, o, kvsOf p.2.2) ∈ tabs)
    {base : Heap} (hTb : Tb.T = tabsOf L (cutK K0 (dAddrs L K0))) (hmk : ∀ f ∈ L.ms, ∀ c P', PySem.W.tabIn (cutK K0 (dAddrs L K0)) (L.nms.f f) = some (c, P') → LamX.TabB base mg c P') :
    Facts (cutK K0 (dAddrs L K0)) mg base L.nms ⟨cutK K0 (dAddrs L K0), fun c => refIn (cutK K0 (dAddrs L K0)) (L.nms.x c), tabs, L.nms.xc, none⟩ T G0 := by
  unfold chkAll at c
  simp only [Bool.and_eq_true, List.all_eq_true, decide_eq_true_eq] at c
  obtain ⟨⟨⟨⟨⟨⟨⟨c1, c2⟩, c3⟩, c4⟩, c5⟩, c6⟩, c7⟩, c8⟩ := c
  have look : ∀ k, L.nms.xc k = true → ∃ x, (k, x) ∈ L.xs ∧ L.nms.x k = x := fun k hk => by
    have hk : (L.xs.lookup k).isSome = true := hk
    obtain ⟨x, hx⟩ := Option.isSome_iff_exists.mp hk
    exact ⟨x, lookup_memN hx, by show (match L.xs.lookup k with | some x => x | none => _) = x; rw [hx]⟩
  unfold chkXX at c7
  simp only [List.all_eq_true, Bool.and_eq_true, beq_iff_eq] at c7
  refine ⟨rfl, fun f hf => ?_, fun x v e => PySem.W.mg_of KX G e, fun x hx => ?_, fun n d hgt e => ?_, hnx, fun k hk => ?_, rfl, fun k c hk hc => ?_, fun k c hk hc => ?_, fun k hk => ?_, fun k hk => ?_, rfl, fun t w ht => ?_, fun f hf a oc od fd osl hns lk => ?_⟩
  rotate_left 4
  · obtain ⟨x, m1, e1⟩ := look k hk
    obtain ⟨y, m2, e2⟩ := look c hc
    have := ((c7 (k, x) m1).2 (c, y) m2).1
    simp only [e1, e2]
    exact this
  · obtain ⟨x, m1, e1⟩ := look k hk
    obtain ⟨y, m2, e2⟩ := look c hc
    have := ((c7 (k, x) m1).2 (c, y) m2).2
    simp only [e1, e2]
    exact this
  · obtain ⟨x, m1, e1⟩ := look k hk
    have := (c7 (k, x) m1).1.2
    simp only [e1]
    exact this
  · obtain ⟨x, m1, e1⟩ := look k hk
    have := (c7 (k, x) m1).1.1
    simp only [e1]
    exact excCB_ok this
  · have ht : L.ts.contains (t, w) = true := ht
    have ht : (t, w) ∈ L.ts := by simpa using ht
    unfold chkTs at c8
    simp only [Bool.and_eq_true, List.all_eq_true, decide_eq_true_eq] at c8
    obtain ⟨h1, h2⟩ := c8.1.1 (t, w) ht
    refine ⟨h1, ?_⟩
    split at h2
    · rename_i q hq
      exact ⟨q.2.1, q.2.2, hT.get (w, q) (lookup_memN hq), h2⟩
    · cases h2
  · have hf : L.ms.contains f = true := hf
    have hf : f ∈ L.ms := by simpa using hf
    unfold chkTs at c8
    simp only [Bool.and_eq_true, List.all_eq_true, decide_eq_true_eq] at c8
    have hB := c8.1.2 f hf
    unfold mkB at hB
    simp only [Bool.and_eq_true] at hB
    obtain ⟨h1, h2⟩ := hB
    obtain ⟨⟨c, P'⟩, hc⟩ := Option.isSome_iff_exists.mp h1
    have hns : PySem.W.nsIn (cutK K0 (dAddrs L K0)) mainGlobals (L.nms.f f) = some (some (.ref a)) := hns
    rw [hns] at h2
    simp only [lk] at h2
    have hq := eqS_eq h2
    have hP : tabOf (cutK K0 (dAddrs L K0)) (L.nms.f f) = P' := by unfold tabOf; rw [hc]
    refine ⟨c, P', PySem.W.law_code KX G hc (PySem.W.mg_of KX G hns) (KX _ _ lk) rfl, hmk f hf c P' hc, ?_, fun p hp e => ?_⟩
    · rw [hTb, hq, ← hP]
      exact List.mem_map.mpr ⟨f, hf, rfl⟩
    · rw [hTb] at hp
      have hm : (P', lamQ (L.nms.f f)) ∈ tabsOf L (cutK K0 (dAddrs L K0)) := List.mem_map.mpr ⟨f, hf, by rw [hP]⟩
      rw [nodup_fst c8.2 p hp _ hm e, hq]
      rfl
  · have hf : (L.fs.lookup f).isSome = true := hf
    obtain ⟨p, hp⟩ := Option.isSome_iff_exists.mp hf
    exact ⟨p.2.1, p.2.2, hT.get (f, p) (lookup_memN hp), c2 (f, p) (lookup_memN hp)⟩
  · have hx : x ∈ biL := of_decide_eq_true hx
    have := c1 x hx
    unfold isNo at this
    split at this
    · rename_i e
      exact PySem.W.mg_none_of KX G e
    · cases this
  · show ∃ v u, mg (L.gName n) = some u ∧ _
    have hgt : ((L.gs.lookup n).isSome || (L.ds.lookup n).isSome) = true := hgt
    unfold Law.gName
    cases hp : L.gs.lookup n with
    | some p =>
      have eg := hGs.get (n, p) (lookup_memN hp)
      rw [e] at eg
      cases eg
      have := c3 (n, p) (lookup_memN hp)
      unfold chkG at this
      split at this
      · rename_i u hu
        obtain ⟨v, r, k⟩ := valIs_ok (m := ⟨cutK K0 (dAddrs L K0), fun c => refIn (cutK K0 (dAddrs L K0)) (L.nms.x c), tabs, L.nms.xc, none⟩) rfl this
        exact ⟨v, u, PySem.W.mg_of KX G hu, r, fun H _ => k H⟩
      · cases this
    | none =>
      cases hp2 : L.ds.lookup n with
      | none => rw [hp, hp2] at hgt; cases hgt
      | some p =>
        have eg := hDs.get (n, p) (lookup_memN hp2)
        rw [e] at eg
        cases eg
        obtain ⟨o, ho⟩ := hm2 (n, p) (lookup_memN hp2)
        have r := c5 (n, p) (lookup_memN hp2)
        have hr : PySem.W.nsIn K0 mainGlobals p.1 = some (some (.ref (refIn K0 p.1))) := by
          unfold isRef at r
          unfold refIn
          revert r
          cases PySem.W.nsIn K0 mainGlobals p.1 with
          | none => intro r; cases r
          | some y => cases y with
            | none => intro r; cases r
            | some v => cases v <;> intro r <;> first | rfl | cases r
        refine ⟨.ref (refIn K0 p.1), .ref (refIn K0 p.1), PySem.W.mg_of KX0 G hr, rfl, fun H t => ?_⟩
        have := t.1 _ ho
        refine .dic (o := o) (xs := p.2.map fun q => .int q.2) ?_ (by simp) ?_
        · have e : kvsOf p.2 = (p.2.map fun q => (.inr q.1 : Key)).zip (p.2.map fun q => V.int q.2) := by
            unfold kvsOf
            rw [List.zip_map']
          rw [← e]; exact this
        · have e1 : (p.2.map fun q => V.int q.2) = (p.2.map (·.2)).map V.int := by rw [List.map_map]; rfl
          have e2 : (p.2.map fun q => D.int q.2) = (p.2.map (·.2)).map D.int := by rw [List.map_map]; rfl
          show RepL _ H _ (p.2.map fun q => D.int q.2)
          rw [e1, e2]; exact RepL.ints _
  · have hk : (L.xs.lookup k).isSome = true := hk
    obtain ⟨x, hx⟩ := Option.isSome_iff_exists.mp hk
    have hnx : L.nms.x k = x := by show (match L.xs.lookup k with | some x => x | none => _) = x; rw [hx]
    have := c4 (k, x) (lookup_memN hx)
    unfold chkX at this
    split at this
    · rename_i C hC
      simp only [Bool.and_eq_true, beq_iff_eq] at this
      obtain ⟨⟨⟨q1, q2⟩, q3⟩, q4⟩ := this
      have hr : refIn (cutK K0 (dAddrs L K0)) (L.nms.x k) = C := by unfold refIn; rw [hnx, hC]
      simp only [hr]
      exact ⟨by rw [hnx]; exact PySem.W.mg_of KX G hC, q1, ⟨q2, q3⟩, _, _, _, _, PySem.F.excBase_ValueError, q4⟩
    · cases this

end
/-- THE LAW: what k_head leaves, from what the evaluator tells -/
theorem law_of (L : Law) (T : Tab) (G0 : Nat → R D) (hT : TabOk T L.fs) (hGs : GsOk G0 L.gs) (hDs : DsOk G0 L.ds) (hnx : ∀ n c, G0 n ≠ .exc c) {l : PySem.W.OpenLaw} {n k : Nat} {q : Program} {loose : List Str} {XP : (Str → Option Value) → Heap → Prop} {YP : World → Heap → Prop} {d : DefRec} {Kf : Params → PySem.W.Frag}
    (hn : l.most = some n) (hn2 : n ≤ 1000) (hdf : d.params.defaults = []) (hr : Room (3 * k) callerA) (hY : ∀ (w : World) (h : Heap), YP w h → (Kf w.params).In h)
    (hname : L.nms.f L.law = d.name) (hL : (L.fs.lookup L.law).isSome = true) (B : ∀ P, chkAll L (Kf P) = true) (hrec : (L.ms.all fun f => ((recsOf q).find? fun e => e.name == L.nms.f f).isSome) = true) (Dd : ∀ P, DictsAt P (Kf P) L.ds)
    (hlaw : ∀ ns : List Int, ns.length ≤ n → ∃ F, callF T G0 F k L.law [.lst (ns.map .int)] = .ok (.bl true)) :
    PySem.W.WalkO q loose XP YP l.row.toRowW d [] (fun f vs => PySem.call f vs) := by
  refine Att.attach_call hn hdf fun w s₀ s₁ mg mb fa o pm cd doc a vs ns G Y ho hd hcd hmg ha hi hlen hg => ?_
  have KX0 : (Kf w.params).In s₁.heap := hY w _ Y
  have c := B w.params
  have DD := Dd w.params
  revert KX0 c DD
  generalize Kf w.params = K0
  intro KX0 c DD
  have c5 : (L.ds.all fun p => isRef K0 p.2.1) = true := by
    unfold chkAll at c
    simp only [Bool.and_eq_true] at c
    exact c.1.1.1.2
  have c6 : (dAddrs L K0).Nodup := by
    unfold chkAll at c
    simp only [Bool.and_eq_true, decide_eq_true_eq] at c
    exact c.1.1.2
  have KX : (cutK K0 (dAddrs L K0)).In s₁.heap := by
    haveI : Tb := ⟨[]⟩
    exact fun b u e => KX0 b u (cutK_of e).1
  generalize hK : cutK K0 (dAddrs L K0) = K at KX
  letI : Tb := ⟨tabsOf L K⟩
  obtain ⟨tabs, t1, t2, t3⟩ := dicts_tabs (P := l.prog) (w := w) KX0 DD c5
  -- the tables of code objects
  have c8 : chkTs L K = true := by
    unfold chkAll at c
    rw [hK] at c
    simp only [Bool.and_eq_true] at c
    exact c.2
  have tabAt : ∀ f ∈ L.ms, ∃ c P', PySem.W.tabIn K (L.nms.f f) = some (c, P') ∧ tabOf K (L.nms.f f) = P' ∧ PySem.W.CodeHd s₁.heap c P' ∧ s₁.heap.get? P' = some { cls := .none, data := .fields #[] } := fun f hf => by
    unfold chkTs at c8
    simp only [Bool.and_eq_true, List.all_eq_true] at c8
    have hB := c8.1.2 f hf
    unfold mkB at hB
    rw [Bool.and_eq_true] at hB
    obtain ⟨⟨c, P'⟩, hc⟩ := Option.isSome_iff_exists.mp hB.1
    obtain ⟨d', hd'⟩ := Option.isSome_iff_exists.mp (List.all_eq_true.mp hrec f hf)
    obtain ⟨h1, h2⟩ := PySem.W.tab_of G.T KX hd' hc
    exact ⟨c, P', hc, by unfold tabOf; rw [hc], h1, h2⟩
  have isT : ∀ b ∈ (tabsOf L K).map (·.1), s₁.heap.get? b = some { cls := .none, data := .fields #[] } := fun b hb => by
    obtain ⟨p, hp, rfl⟩ := List.mem_map.mp hb
    obtain ⟨f, hf, rfl⟩ := List.mem_map.mp hp
    obtain ⟨c, P', _, h2, _, h4⟩ := tabAt f hf
    show s₁.heap.get? (tabOf K (L.nms.f f)) = _
    rw [h2]; exact h4
  obtain ⟨F, hF⟩ := hlaw ns hlen
  have nolst : ∀ b u, K.lookup b = some u → u.cls ≠ .type "list" := fun b u e z => by
    rw [← hK] at e
    have := (cutK_of e).2.2
    unfold isLst at this
    rw [z] at this
    simp at this
  have noT : ∀ b u, K.lookup b = some u → b ∉ (tabsOf L K).map (·.1) := fun b u e z => by
    have h1 := isT b z
    rw [KX b u e] at h1
    rw [← hK] at e
    have := (cutK_of e).2.2
    cases h1
    cases this
  have notab : ∀ b u, K.lookup b = some u → ∀ t ∈ tabs, t.1 ≠ b := fun b u e t ht z => by
    rw [← hK] at e
    refine (cutK_of e).2.1 ?_
    unfold dAddrs
    rw [← t1, ← z]
    exact List.mem_map.mpr ⟨t, ht, rfl⟩
  have tnd : (tabs.map (·.1)).Nodup := by rw [t1]; exact c6
  have rv := vals_ints hi
  have lenV := hi.length
  have aT : ∀ t ∈ tabs, t.1 ≠ a := fun t ht z => by
    obtain ⟨h1, ⟨es, n', h2⟩, _⟩ := t3 t ht
    rw [z, ha] at h1
    rw [← Option.some.inj h1] at h2
    cases h2
  have aN : a ∉ (tabsOf L K).map (·.1) := fun z => by
    have h1 := isT a z
    rw [ha] at h1
    cases h1
  have tN : ∀ t ∈ tabs, t.1 ∉ (tabsOf L K).map (·.1) := fun t ht z => by
    obtain ⟨h1, ⟨es, n', h2⟩, _⟩ := t3 t ht
    rw [isT _ z] at h1
    rw [← Option.some.inj h1] at h2
    cases h2
  let H : Hp := fun b => if b = a then some (.frz { cls := .type "list", data := .seq vs.toArray } (.lst (ns.map V.int))) else match tabs.find? (fun t => t.1 == b) with
    | some t => some (.frz t.2.1 (.dK t.2.2))
    | none => if b ∈ (tabsOf L K).map (·.1) then some (.tbl #[]) else none
  have Ha : H a = some (.frz { cls := .type "list", data := .seq vs.toArray } (.lst (ns.map V.int))) := if_pos rfl
  have find_mem : ∀ (l : List (Addr × Obj × List (Key × V))), (l.map (·.1)).Nodup → ∀ t ∈ l, l.find? (fun u => u.1 == t.1) = some t := by
    intro l
    induction l with
    | nil => intro _ t ht; cases ht
    | cons u r ih =>
      intro nd t ht
      rw [List.map_cons, List.nodup_cons] at nd
      rw [List.find?_cons]
      rcases List.mem_cons.mp ht with rfl | ht
      · simp
      · have : (u.1 == t.1) = false := beq_eq_false_iff_ne.mpr fun z => nd.1 (by rw [z]; exact List.mem_map.mpr ⟨t, ht, rfl⟩)
        rw [this]; exact ih nd.2 t ht
  have Ht : ∀ t ∈ tabs, H t.1 = some (.frz t.2.1 (.dK t.2.2)) := fun t ht => by
    show (if t.1 = a then _ else _) = _
    rw [if_neg (aT t ht), find_mem tabs tnd t ht]
  have findN : ∀ b ∈ (tabsOf L K).map (·.1), tabs.find? (fun t => t.1 == b) = none := fun b hb => by
    cases hf : tabs.find? (fun t => t.1 == b) with
    | none => rfl
    | some t =>
      have hm := List.mem_of_find?_eq_some hf
      have he : (t.1 == b) = true := by simpa using List.find?_some hf
      exact absurd (by rw [eq_of_beq he]; exact hb) (tN t hm)
  have HT : ∀ b ∈ (tabsOf L K).map (·.1), H b = some (.tbl #[]) := fun b hb => by
    show (if b = a then _ else _) = _
    rw [if_neg (fun z => aN (by rw [← z]; exact hb)), findN b hb]
    exact if_pos hb
  have Hinv : ∀ b, H b = none ∨ (b = a) ∨ (∃ t ∈ tabs, t.1 = b ∧ H b = some (.frz t.2.1 (.dK t.2.2))) ∨ (b ∈ (tabsOf L K).map (·.1) ∧ H b = some (.tbl #[])) := fun b => by
    by_cases hb : b = a
    · exact .inr (.inl hb)
    · cases hf : tabs.find? (fun t => t.1 == b) with
      | none =>
        by_cases hm : b ∈ (tabsOf L K).map (·.1)
        · exact .inr (.inr (.inr ⟨hm, HT b hm⟩))
        · exact .inl (by show (if b = a then _ else _) = _; rw [if_neg hb, hf]; exact if_neg hm)
      | some t =>
        have hm := List.mem_of_find?_eq_some hf
        have he : (t.1 == b) = true := by simpa using List.find?_some hf
        have he := eq_of_beq he
        exact .inr (.inr (.inl ⟨t, hm, he, by rw [← he]; exact Ht t hm⟩))
  have hsz : (ns.map V.int).length ≤ sizeLine := by rw [List.length_map, sizeLine_eq]; omega
  have hok : HOk l.prog w H s₁.heap := fun b u hb => by
    rcases Hinv b with z | z | ⟨t, ht, e, z⟩ | ⟨hm, z⟩
    · rw [z] at hb; cases hb
    · subst z
      rw [Ha] at hb; cases hb
      exact ⟨ha, hsz, vs, _, rv, ha⟩
    · rw [z] at hb; cases hb
      subst e
      exact ⟨(t3 t ht).1, (t3 t ht).2.2.2.2 H⟩
    · rw [z] at hb; cases hb
      exact isT b hm
  have base_of : ∀ {b : Addr} {o : Obj}, s₁.heap.get? b = some o → H b = none → (hidT s₁.heap H).get? b = some o := fun e n => hidT_get e n
  have hKb : K.In (hidT s₁.heap H) := fun b u e => base_of (KX b u e) (by
    rcases Hinv b with z | z | ⟨t, ht, e', _⟩ | ⟨hm, _⟩
    · exact z
    · subst z
      have h1 := KX _ _ e
      rw [ha] at h1
      exact absurd (by rw [← Option.some.inj h1]) (nolst _ _ e)
    · exact absurd e' (notab _ _ e t ht)
    · exact absurd hm (noT _ _ e))
  have nsK : ∀ {b : Addr} {m : Str → Option Value}, (b ≤ 3 ∨ b = mainGlobals) → s₁.heap.Ns b m → (hidT s₁.heap H).Ns b m := fun {b m} hb ⟨o, es, ep, e, d, r⟩ => ⟨o, es, ep, base_of e (by
    rcases Hinv b with z | z | ⟨t, ht, e', _⟩ | ⟨hm, _⟩
    · exact z
    · subst z
      rw [ha] at e
      rw [← Option.some.inj e] at d
      cases d
    · have q := (t3 t ht).2.2
      rw [e'] at q
      rcases hb with hb | hb
      · exact absurd q.1 (Nat.not_lt.mpr hb)
      · exact absurd hb q.2.1
    · rw [isT b hm] at e
      rw [← Option.some.inj e] at d
      cases d), d, r⟩
  have hM : Mod K mg (hidT s₁.heap H) := ⟨hKb, nsK (.inr rfl) G.T.g, ⟨mb, nsK (.inl (by decide)) G.T.b, G.T.builtins⟩, let ⟨mc, h1, h2⟩ := G.T.nolimit; ⟨mc, nsK (.inl (by decide)) h1, h2⟩⟩
  have e0 : Env0 l.prog w K mg (hidT s₁.heap H) callerA [] s₁ H := ⟨rfl, hM, fun b o e => of_hidT e, Nat.le_of_eq (hidT_size _ _), trivial, fun b hb => absurd (show b ∈ ([] : List Addr) from hb) (by simp), hok, .of_eq hg⟩
  have noD : ∀ {b : Addr} {o : Obj}, s₁.heap.get? b = some o → (∀ xs n, o.data ≠ .seq xs n) → (∀ es n, o.data ≠ .dict es n) → o.data ≠ .fields #[] → H b = none := fun {b o} e k1 k2 k3 => by
    rcases Hinv b with z | z | ⟨t, ht, e', _⟩ | ⟨hm, _⟩
    · exact z
    · subst z
      rw [ha] at e
      cases e
      exact (k1 _ _ rfl).elim
    · obtain ⟨g1, ⟨es, n', g2⟩, _⟩ := t3 t ht
      rw [e'] at g1
      rw [g1] at e
      cases e
      exact (k2 _ _ g2).elim
    · rw [isT b hm] at e
      cases e
      exact (k3 rfl).elim
  have TBs : ∀ f ∈ L.ms, ∀ c P', PySem.W.tabIn K (L.nms.f f) = some (c, P') → LamX.TabB (hidT s₁.heap H) mg c P' := fun f hf c P' hc => by
    obtain ⟨c2, P2, g1, _, g3, g4⟩ := tabAt f hf
    rw [hc] at g1
    cases g1
    refine ⟨?_, ?_, fun z => ?_⟩
    · obtain ⟨o, us, file, tf, flags, tg, inF, text, tt, e1, r1, r2, r3, r4, r5, r6, r7, r8, hne⟩ := g3
      refine ⟨o, us, file, tf, flags, tg, inF, text, tt, base_of e1 (noD e1 (fun xs n z => ?_) (fun xs n z => ?_) fun z => ?_), r1, r2, r3, r4, r5, r6, r7, r8, hne⟩
      · rw [r2] at z; cases z
      · rw [r2] at z; cases z
      · rw [r2] at z; cases z; simp at r3
    · obtain ⟨bm, ob, b1, b2, b3, b4, b5, b6⟩ := G.T.bmain
      have nG : bm ≠ mainGlobals := fun z => by
        obtain ⟨o, es, ep, e, hd, _⟩ := G.T.g
        rw [z, e] at b3
        cases b3
        rw [hd] at b6
        cases b6
      have nP : bm ≠ P' := fun z => by
        rw [z, g4] at b3
        cases b3
        cases b6
      refine ⟨bm, ob, b1, b2, nG, nP, base_of b3 (noD b3 (fun xs n z => ?_) (fun xs n z => ?_) fun z => ?_), b4, b5, b6⟩
      · rw [b6] at z; cases z
      · rw [b6] at z; cases z
      · rw [b6] at z; cases z
    · obtain ⟨o, es, ep, e, hd, _⟩ := G.T.g
      rw [z, g4] at e
      cases e
      cases hd
  have W := facts_of (L := L) (tabs := tabs) (base := hidT s₁.heap H) hT hGs hDs hnx (by rw [hK]; exact KX) G.T.g KX0 c t2 (show tabsOf L K = tabsOf L (cutK K0 (dAddrs L K0)) by rw [hK]) (by rw [hK]; exact TBs)
  rw [hK] at W
  have TbH : LamX.Tabs Tb.T H := fun p hp => LamX.TabS.nil (HT p.1 (List.mem_map.mpr ⟨p, hp, rfl⟩))
  obtain ⟨fa', fd, ps, q1, q2, q3, q4, q5⟩ := fn_levels (P := l.prog) (w := w) (base := hidT s₁.heap H) (Fb := F) W k L.law hL
  have efa : fa' = fa := by
    rw [hname, hmg] at q1
    cases q1; rfl
  subst efa
  have hps : ps.length = 1 := by
    have := q4 [.lst (ns.map .int)] (by rw [hF]; simp)
    simpa using this.symm
  have hb := q3 s₁ [.ref a] KX (by simp [hps])
  rw [List.append_nil] at hb
  refine codeAny_mono (q5.run callerA [] s₁ H ⟨[.ref a], []⟩ [.ref a] [.ref a] (fun v _ => v = .bl true) (fun _ _ _ => False) hr e0 hb (.cons rfl .nil) ?_) fun r s' h => ?_
  · refine ⟨by simp [hps], ⟨fun p hp => Ht p hp, TbH⟩, [.lst (ns.map .int)], .cons (.lst ⟨_, Ha⟩ (RepL.ints ns)) .nil, ?_⟩
    rw [hF]
    show match L.nms.fr L.law with
      | true => Yld _ H (.bl true) _
      | false => YldF _ H (.bl true) _
    cases L.nms.fr L.law with
    | true =>
      intro z H' _ nw
      cases nw with
      | fz _ rp => cases rp; rfl
    | false =>
      intro z H' _ rp
      cases rp; rfl
  · cases r with
    | error e =>
      obtain ⟨_, _, _, _, _, _, _, _, _, _, _, _, z⟩ := h
      exact z.elim
    | ok fl =>
      cases fl with
      | next => exact False.elim h
      | brk => exact False.elim h
      | cont => exact False.elim h
      | ret u =>
        obtain ⟨v, H', os, bare, un, hok', r', q⟩ := h
        have q' : v = .bl true := q
        subst q'
        obtain rfl : u = Value.bool true := r'
        have frz : ∀ b o, s₁.heap.get? b = some o → ∀ ob x, H b = some (.frz ob x) → s'.heap.get? b = some o := fun b o e ob x z => by
          have z2 := un.frzs b ob _ z
          obtain ⟨e1, _⟩ := hok b _ z
          obtain ⟨e2, _⟩ := hok' b _ z2
          rw [e] at e1; cases e1
          exact e2
        have grown : ∀ b ∈ (tabsOf L K).map (·.1), ∃ more : Array Value, s'.heap.get? b = some { cls := .none, data := .fields more } := fun b hb => by
          obtain ⟨more, z⟩ := un.tbls b #[] (HT b hb)
          exact ⟨_, hok' b _ z⟩
        have key : ∀ b o, b ∉ (tabsOf L K).map (·.1) → s₁.heap.get? b = some o → s'.heap.get? b = some o := fun b o nb e => by
          rcases Hinv b with z | z | ⟨t, ht, e', z⟩ | ⟨hm, _⟩
          · exact un.keep b o e z (by intro z; exact absurd (show b ∈ ([] : List Addr) from z) (by simp)) (by simp)
          · subst z; exact frz _ _ e _ _ Ha
          · exact frz _ _ e _ _ z
          · exact absurd hm nb
        refine ⟨rfl, ⟨fun b o e => ?_, fun b o e => ?_⟩, os, bare⟩
        · by_cases hb : b ∈ (tabsOf L K).map (·.1)
          · obtain ⟨more, hm⟩ := grown b hb
            have hb' := hb
            obtain ⟨p, hp, rfl⟩ := List.mem_map.mp hb'
            obtain ⟨f, hf, rfl⟩ := List.mem_map.mp hp
            obtain ⟨c, P', g1, g2, g3, g4⟩ := tabAt f hf
            have hP : (tabOf K (L.nms.f f), lamQ (L.nms.f f)).1 = P' := g2
            rw [hP] at e hm ⊢
            rw [g4] at e
            cases e
            exact .inr (.inl ⟨(g3.tab g4).isCodeTable, rfl, #[], more, rfl, by rw [Array.empty_append]; exact hm⟩)
          · exact .inl (key b o hb e)
        · by_cases hb : b ∈ (tabsOf L K).map (·.1)
          · obtain ⟨more, hm⟩ := grown b hb
            exact ⟨_, hm⟩
          · exact ⟨o, key b o hb e⟩
end Fc
/-! Ev3: the evaluator, row by row, for simp. -/
namespace Fc
open PySem (Str)
open L2 (Key atI ixN)

section
variable (G : Nat → R D) (C : Nat → List D → R D) (F : Nat) (fr : Bool) (σ : List Sl)
/-- a while, a for, a comprehension, kept whole -/
def whS (c : E) (b : S) (n : Nat) (σ : List Sl) : O := whGo (fun σ => (ev G C σ c).bind asB) (fun σ => evst G C F fr σ b) n σ
def foS (t : Tg) (b : S) (xs : List D) (σ : List Sl) : O := forGo (fun σ => evst G C F fr σ b) (asg t) xs σ
def lcS (elt : E) (t : Tg) (cond : Option E) (xs : List D) : R (List D) := lcGo (fun x => asg t x (wipeS σ (tgv t))) (fun σ => evc G C σ cond) (fun σ => ev G C σ elt) xs
def ifO (r : Bool) (a b : O) : O := match r with
  | true => a
  | false => b
def ifR {α : Type} (r : Bool) (a b : R α) : R α := match r with
  | true => a
  | false => b
@[simp] theorem ifO_t (a b : O) : ifO true a b = a := id rfl
@[simp] theorem ifO_f (a b : O) : ifO false a b = b := id rfl
@[simp] theorem ifR_t {α : Type} (a b : R α) : ifR true a b = a := id rfl
@[simp] theorem ifR_f {α : Type} (a b : R α) : ifR false a b = b := id rfl
@[simp] theorem thn_nx (σ : List Sl) (f : List Sl → O) : (O.nx σ).thn f = f σ := id rfl
@[simp] theorem thn_rt (d : D) (f : List Sl → O) : (O.rt d).thn f = .rt d := id rfl
@[simp] theorem thn_bk (σ : List Sl) (f : List Sl → O) : (O.bk σ).thn f = .bk σ := id rfl
@[simp] theorem thn_ct (σ : List Sl) (f : List Sl → O) : (O.ct σ).thn f = .ct σ := id rfl
@[simp] theorem thn_ex (c : Nat) (σ : List Sl) (f : List Sl → O) : (O.ex c σ).thn f = .ex c σ := id rfl
@[simp] theorem rd_val (d : D) : (Sl.val d).rd = .ok d := id rfl
@[simp] theorem br_val (d : D) : (Sl.val d).br = .ok d := id rfl
@[simp] theorem br_own (d : List D) : (Sl.own d).br = .ok (.lst d) := id rfl
@[simp] theorem frzS_own (d : List D) : frzS (.own d) = .val (.lst d) := id rfl
@[simp] theorem frzS_val (d : D) : frzS (.val d) = .val d := id rfl
@[simp] theorem lk_z (x : Sl) (r : List Sl) : lk (x :: r) 0 = x := id rfl
@[simp] theorem lk_s (x : Sl) (r : List Sl) (n : Nat) : lk (x :: r) (n + 1) = lk r n := id rfl
@[simp] theorem st1_z (x : Sl) (r : List Sl) (v : Sl) : st1 (x :: r) 0 v = v :: r := id rfl
@[simp] theorem st1_s (x : Sl) (r : List Sl) (n : Nat) (v : Sl) : st1 (x :: r) (n + 1) v = x :: st1 r n v := id rfl
@[simp] theorem asB_bl (b : Bool) : asB (.bl b) = .ok b := id rfl
@[simp] theorem asI_int (b : Int) : asI (.int b) = .ok b := id rfl
@[simp] theorem asL_lst (b : List D) : asL (.lst b) = .ok b := id rfl
@[simp] theorem ev_var (i : Nat) : ev G C σ (.var i) = (lk σ i).rd := id rfl
@[simp] theorem ev_brw (i : Nat) : ev G C σ (.brw i) = (lk σ i).br := id rfl
@[simp] theorem ev_c (d : D) : ev G C σ (.c d) = .ok d := id rfl
@[simp] theorem ev_gl (n : Nat) : ev G C σ (.gl n) = G n := id rfl
@[simp] theorem ev_bin (op : BOp) (a b : E) : ev G C σ (.bin op a b) = (ev G C σ a).bind fun x => (ev G C σ b).bind fun y => binop op x y := id rfl
@[simp] theorem ev_neg (a : E) : ev G C σ (.neg a) = (ev G C σ a).bind fun x => (asI x).bind fun i => .ok (.int (-i)) := id rfl
@[simp] theorem ev_cmp (op : COp) (a b : E) : ev G C σ (.cmp op a b) = (ev G C σ a).bind fun x => (ev G C σ b).bind fun y => (cmpop op x y).bind fun r => .ok (.bl r) := id rfl
@[simp] theorem ev_chain (o1 o2 : COp) (a b c : E) : ev G C σ (.chain o1 o2 a b c) = (ev G C σ a).bind fun x => (ev G C σ b).bind fun y => (cmpop o1 x y).bind fun r => ifR r ((ev G C σ c).bind fun z => (cmpop o2 y z).bind fun r => .ok (.bl r)) (.ok (.bl false)) := id rfl
@[simp] theorem ev_and (a b : E) : ev G C σ (.and a b) = (ev G C σ a).bind fun x => (asB x).bind fun r => ifR r ((ev G C σ b).bind fun y => (asB y).bind fun r => .ok (.bl r)) (.ok (.bl false)) := id rfl
@[simp] theorem ev_or (a b : E) : ev G C σ (.or a b) = (ev G C σ a).bind fun x => (asB x).bind fun r => ifR r (.ok (.bl true)) ((ev G C σ b).bind fun y => (asB y).bind fun r => .ok (.bl r)) := id rfl
@[simp] theorem ev_not (a : E) : ev G C σ (.not a) = (ev G C σ a).bind fun x => (asB x).bind fun r => .ok (.bl (!r)) := id rfl
@[simp] theorem ev_ite (c a b : E) : ev G C σ (.ite c a b) = (ev G C σ c).bind fun x => (asB x).bind fun r => ifR r (ev G C σ a) (ev G C σ b) := id rfl
@[simp] theorem ev_call (f : Nat) (es : Es) : ev G C σ (.call f es) = (evs G C σ es).bind fun xs => C f xs := id rfl
@[simp] theorem ev_b1 (f : B1) (a : E) : ev G C σ (.b1 f a) = (ev G C σ a).bind fun x => b1 f x := id rfl
@[simp] theorem ev_b2 (f : B2) (a b : E) : ev G C σ (.b2 f a b) = (ev G C σ a).bind fun x => (ev G C σ b).bind fun y => b2 f x y := id rfl
@[simp] theorem ev_isi (a : E) (t : Ty) : ev G C σ (.isi a t) = (ev G C σ a).bind fun x => (isTy x t).bind fun r => .ok (.bl r) := id rfl
@[simp] theorem ev_ix (a b : E) : ev G C σ (.ix a b) = (ev G C σ a).bind fun x => (ev G C σ b).bind fun y => ixD x y := id rfl
@[simp] theorem ev_sl (a : E) (lo hi : Option E) : ev G C σ (.sl a lo hi) = (ev G C σ a).bind fun x => (evo G C σ lo).bind fun l => (evo G C σ hi).bind fun h => sliceD x l h := id rfl
@[simp] theorem ev_tup (es : Es) : ev G C σ (.tup es) = (evs G C σ es).bind fun xs => mkT xs := id rfl
@[simp] theorem ev_lst (es : Es) : ev G C σ (.lst es) = (evs G C σ es).bind fun xs => mkL xs := id rfl
@[simp] theorem ev_lc (elt : E) (t : Tg) (it : It) (cond : Option E) : ev G C σ (.lc elt t it cond) = (evi G C σ it).bind fun xs => noX ((lcS G C σ elt t cond xs).bind mkL) := id rfl
@[simp] theorem evs_nil : evs G C σ .nil = .ok [] := id rfl
@[simp] theorem evs_cons (e : E) (r : Es) : evs G C σ (.cons e r) = (ev G C σ e).bind fun x => (evs G C σ r).bind fun xs => .ok (x :: xs) := id rfl
@[simp] theorem evo_none : evo G C σ none = .ok none := id rfl
@[simp] theorem evo_some (e : E) : evo G C σ (some e) = (ev G C σ e).bind fun x => (asI x).bind fun i => .ok (some i) := id rfl
@[simp] theorem evc_none : evc G C σ none = .ok true := id rfl
@[simp] theorem evc_some (e : E) : evc G C σ (some e) = (ev G C σ e).bind asB := id rfl
@[simp] theorem evi_e (e : E) : evi G C σ (.e e) = (ev G C σ e).bind fun x => itemsD x := id rfl
@[simp] theorem evi_rg1 (e : E) : evi G C σ (.rg1 e) = (ev G C σ e).bind fun x => (asI x).bind fun n => if midR n then .ok (rangeD 0 n.toNat) else .stk := id rfl
@[simp] theorem evi_rg2 (a b : E) : evi G C σ (.rg2 a b) = (ev G C σ a).bind fun x => (ev G C σ b).bind fun y => (asI x).bind fun lo => (asI y).bind fun hi => if midR lo && midR hi then .ok (rangeD lo (hi - lo).toNat) else .stk := id rfl
@[simp] theorem evi_zip (a b : E) : evi G C σ (.zip a b) = (ev G C σ a).bind fun x => (ev G C σ b).bind fun y => zipD x y := id rfl
@[simp] theorem st_skip : evst G C F fr σ .skip = .nx σ := id rfl
@[simp] theorem st_seq (a b : S) : evst G C F fr σ (.seq a b) = (evst G C F fr σ a).thn fun σ => evst G C F fr σ b := id rfl
@[simp] theorem st_set (i : Nat) (e : E) : evst G C F fr σ (.set i e) = O.ofR σ (ev G C σ e) fun d => .nx (st1 σ i (.val d)) := id rfl
@[simp] theorem st_setO (i : Nat) (e : E) : evst G C F fr σ (.setO i e) = O.ofR σ (ev G C σ e) fun d => O.ofR σ (ownD d) fun s => .nx (st1 σ i s) := id rfl
@[simp] theorem st_frz (i : Nat) : evst G C F fr σ (.frz i) = .nx (st1 σ i (frzS (lk σ i))) := id rfl
@[simp] theorem st_unp (t : Tg) (e : E) : evst G C F fr σ (.unp t e) = O.ofR σ (ev G C σ e) fun d => O.ofR σ (asg t d σ) fun σ => .nx σ := id rfl
@[simp] theorem st_par (t : List Nat) (o : List Bool) (es : Es) : evst G C F fr σ (.par t o es) = O.ofR σ (evs G C σ es) fun xs => O.ofR σ (stAll σ t o xs) fun σ => .nx σ := id rfl
@[simp] theorem st_ifs (c : E) (a b : S) : evst G C F fr σ (.ifs c a b) = O.ofR σ (ev G C σ c) fun x => O.ofR σ (asB x) fun r => ifO r (evst G C F fr σ a) (evst G C F fr σ b) := id rfl
@[simp] theorem st_for (t : Tg) (it : It) (b : S) : evst G C F fr σ (.for_ t it b) = O.ofR σ (evi G C σ it) fun xs => foS G C F fr t b xs σ := id rfl
@[simp] theorem st_while (c : E) (b : S) : evst G C F fr σ (.while_ c b) = whS G C F fr c b F σ := id rfl
theorem st_ret (e : E) (h : ∀ i, e ≠ .brw i) : evst G C F fr σ (.ret e) = O.ofR σ (ev G C σ e) fun d => .rt d := by
  cases e <;> first | rfl | exact absurd rfl (h _)
@[simp] theorem st_ret_var (i : Nat) : evst G C F fr σ (.ret (.var i)) = O.ofR σ (ev G C σ (.var i)) fun d => .rt d := id rfl
@[simp] theorem st_ret_c (d : D) : evst G C F fr σ (.ret (.c d)) = .rt d := id rfl
@[simp] theorem st_ret_gl (i : Nat) : evst G C F fr σ (.ret (.gl i)) = O.ofR σ (ev G C σ (.gl i)) fun d => .rt d := id rfl
@[simp] theorem st_ret_bin (o : BOp) (a b : E) : evst G C F fr σ (.ret (.bin o a b)) = O.ofR σ (ev G C σ (.bin o a b)) fun d => .rt d := id rfl
@[simp] theorem st_ret_cmp (o : COp) (a b : E) : evst G C F fr σ (.ret (.cmp o a b)) = O.ofR σ (ev G C σ (.cmp o a b)) fun d => .rt d := id rfl
@[simp] theorem st_ret_chain (o p : COp) (a b c : E) : evst G C F fr σ (.ret (.chain o p a b c)) = O.ofR σ (ev G C σ (.chain o p a b c)) fun d => .rt d := id rfl
@[simp] theorem st_ret_and (a b : E) : evst G C F fr σ (.ret (.and a b)) = O.ofR σ (ev G C σ (.and a b)) fun d => .rt d := id rfl
@[simp] theorem st_ret_or (a b : E) : evst G C F fr σ (.ret (.or a b)) = O.ofR σ (ev G C σ (.or a b)) fun d => .rt d := id rfl
@[simp] theorem st_ret_not (a : E) : evst G C F fr σ (.ret (.not a)) = O.ofR σ (ev G C σ (.not a)) fun d => .rt d := id rfl
@[simp] theorem st_ret_ite (a b c : E) : evst G C F fr σ (.ret (.ite a b c)) = O.ofR σ (ev G C σ (.ite a b c)) fun d => .rt d := id rfl
@[simp] theorem st_ret_call (f : Nat) (es : Es) : evst G C F fr σ (.ret (.call f es)) = O.ofR σ (ev G C σ (.call f es)) fun d => .rt d := id rfl
@[simp] theorem st_ret_b1 (f : B1) (a : E) : evst G C F fr σ (.ret (.b1 f a)) = O.ofR σ (ev G C σ (.b1 f a)) fun d => .rt d := id rfl
@[simp] theorem st_ret_b2 (f : B2) (a b : E) : evst G C F fr σ (.ret (.b2 f a b)) = O.ofR σ (ev G C σ (.b2 f a b)) fun d => .rt d := id rfl
@[simp] theorem st_ret_ix (a b : E) : evst G C F fr σ (.ret (.ix a b)) = O.ofR σ (ev G C σ (.ix a b)) fun d => .rt d := id rfl
@[simp] theorem st_ret_sl (a : E) (b c : Option E) : evst G C F fr σ (.ret (.sl a b c)) = O.ofR σ (ev G C σ (.sl a b c)) fun d => .rt d := id rfl
@[simp] theorem st_ret_tup (es : Es) : evst G C F fr σ (.ret (.tup es)) = O.ofR σ (ev G C σ (.tup es)) fun d => .rt d := id rfl
@[simp] theorem st_ret_lst (es : Es) : evst G C F fr σ (.ret (.lst es)) = O.ofR σ (ev G C σ (.lst es)) fun d => .rt d := id rfl
@[simp] theorem st_ret_lc (elt : E) (t : Tg) (it : It) (cond : Option E) : evst G C F fr σ (.ret (.lc elt t it cond)) = O.ofR σ (ev G C σ (.lc elt t it cond)) fun d => .rt d := id rfl
@[simp] theorem st_brk : evst G C F fr σ .brk = .bk σ := id rfl
@[simp] theorem st_cont : evst G C F fr σ .cont = .ct σ := id rfl
@[simp] theorem st_raise (c : Nat) : evst G C F fr σ (.raise c) = .ex c σ := id rfl
@[simp] theorem st_expr (e : E) : evst G C F fr σ (.expr e) = O.ofR σ (ev G C σ e) fun _ => .nx σ := id rfl
theorem wh_step {c : E} {b : S} {n : Nat} {σ σ' : List Sl} (t : (ev G C σ c).bind asB = .ok true) (h : evst G C F fr σ b = .nx σ') : whS G C F fr c b (n + 1) σ = whS G C F fr c b n σ' := by
  unfold whS; rw [whGo]; simp only [t, h, ofR_ok]
theorem wh_stop {c : E} {b : S} {n : Nat} {σ : List Sl} (t : (ev G C σ c).bind asB = .ok false) : whS G C F fr c b (n + 1) σ = .nx σ := by
  unfold whS; rw [whGo]; simp only [t, ofR_ok]
theorem fo_nil {t : Tg} {b : S} {σ : List Sl} : foS G C F fr t b [] σ = .nx σ := rfl
theorem fo_step {t : Tg} {b : S} {x : D} {r : List D} {σ σ1 σ2 : List Sl} (ha : asg t x σ = .ok σ1) (h : evst G C F fr σ1 b = .nx σ2) : foS G C F fr t b (x :: r) σ = foS G C F fr t b r σ2 := by
  unfold foS; rw [forGo]; simp only [ha, h, ofR_ok]
theorem fo_brk {t : Tg} {b : S} {x : D} {r : List D} {σ σ1 σ2 : List Sl} (ha : asg t x σ = .ok σ1) (h : evst G C F fr σ1 b = .bk σ2) : foS G C F fr t b (x :: r) σ = .nx σ2 := by
  unfold foS; rw [forGo]; simp only [ha, h, ofR_ok]
theorem fo_ct {t : Tg} {b : S} {x : D} {r : List D} {σ σ1 σ2 : List Sl} (ha : asg t x σ = .ok σ1) (h : evst G C F fr σ1 b = .ct σ2) : foS G C F fr t b (x :: r) σ = foS G C F fr t b r σ2 := by
  unfold foS; rw [forGo]; simp only [ha, h, ofR_ok]
theorem fo_rt {t : Tg} {b : S} {x : D} {r : List D} {σ σ1 : List Sl} {d : D} (ha : asg t x σ = .ok σ1) (h : evst G C F fr σ1 b = .rt d) : foS G C F fr t b (x :: r) σ = .rt d := by
  unfold foS; rw [forGo]; simp only [ha, h, ofR_ok]
end
/-- a comprehension without a test, each of its items told -/
theorem lc_map {G : Nat → R D} {C : Nat → List D → R D} {σ : List Sl} {elt : E} {t : Tg} {g : D → D} : ∀ {xs : List D}, (∀ x ∈ xs, ∃ σ1, asg t x (wipeS σ (tgv t)) = .ok σ1 ∧ ev G C σ1 elt = .ok (g x)) → lcS G C σ elt t none xs = .ok (xs.map g)
  | [], _ => rfl
  | x :: r, h => by
    obtain ⟨σ1, h1, h2⟩ := h x (List.mem_cons_self ..)
    have ih := lc_map (xs := r) fun y hy => h y (List.mem_cons_of_mem _ hy)
    unfold lcS at ih ⊢
    unfold lcGo
    rw [h1, R.bind_ok]
    show ((ev G C σ1 elt).bind fun y => (lcGo (fun x => asg t x (wipeS σ (tgv t))) (fun σ => evc G C σ none) (fun σ => ev G C σ elt) r).bind fun ys => .ok (y :: ys)) = _
    rw [h2, R.bind_ok, ih]
    rfl
section
@[simp] theorem op_add (i j : Int) : binop .add (.int i) (.int j) = .ok (.int (i + j)) := id rfl
@[simp] theorem op_sub (i j : Int) : binop .sub (.int i) (.int j) = .ok (.int (i - j)) := id rfl
theorem op_mul {i j : Int} (h : (smallI i || smallI j) = true) : binop .mul (.int i) (.int j) = .ok (.int (i * j)) := if_pos h
theorem op_mod {i j : Int} (h : j ≠ 0) : binop .mod (.int i) (.int j) = .ok (.int (i.fmod j)) := if_pos h
theorem op_fdiv {i j : Int} (h : j ≠ 0 ∧ j.natAbs < 1073741824) : binop .fdiv (.int i) (.int j) = .ok (.int (i.fdiv j)) := if_pos h
@[simp] theorem ne_int (x y : Int) : cmpop .ne (.int x) (.int y) = .ok (decide (x ≠ y)) := by
  by_cases h : x = y <;> simp [cmpop, D.shp, D.eqv, h]
@[simp] theorem eq_int (x y : Int) : cmpop .eq (.int x) (.int y) = .ok (decide (x = y)) := by
  by_cases h : x = y <;> simp [cmpop, D.shp, D.eqv, h]
@[simp] theorem lt_int (x y : Int) : cmpop .lt (.int x) (.int y) = .ok (decide (x < y)) := by simp [cmpop, D.shp, D.alk, D.lt]
@[simp] theorem gt_int (x y : Int) : cmpop .gt (.int x) (.int y) = .ok (decide (y < x)) := by simp [cmpop, D.shp, D.alk, D.lt]
@[simp] theorem le_int (x y : Int) : cmpop .le (.int x) (.int y) = .ok (decide (x ≤ y)) := by
  simp [cmpop, D.shp, D.alk, D.lt, ← decide_not]
@[simp] theorem ge_int (x y : Int) : cmpop .ge (.int x) (.int y) = .ok (decide (y ≤ x)) := by
  simp [cmpop, D.shp, D.alk, D.lt, ← decide_not]
@[simp] theorem is_non (d : D) : cmpop .is d .non = .ok (isNon d) := by cases d <;> rfl
@[simp] theorem isnot_non (d : D) : cmpop .isnot d .non = .ok (!isNon d) := by cases d <;> rfl
@[simp] theorem isTy_int_int (i : Int) : isTy (.int i) .int = .ok true := id rfl
@[simp] theorem isTy_int_bool (i : Int) : isTy (.int i) .bool = .ok false := id rfl
@[simp] theorem isTy_str_str (i : Str) : isTy (.str i) .str = .ok true := id rfl
@[simp] theorem par_nil (σ : List Sl) : stAll σ [] [] [] = .ok σ := id rfl
@[simp] theorem par_cons (σ : List Sl) (i : Nat) (is : List Nat) (os : List Bool) (x : D) (xs : List D) : stAll σ (i :: is) (false :: os) (x :: xs) = stAll (st1 σ i (.val x)) is os xs := id rfl
@[simp] theorem bl_abs (i : Int) : b1 .abs (.int i) = .ok (.int (i.natAbs : Nat)) := by
  show R.ok (D.int (if i < 0 then -i else i)) = _
  congr 2
  split <;> omega
theorem mkT_ok {xs : List D} (h : xs.length ≤ sizeMax) : mkT xs = .ok (.tup xs) := if_pos h
theorem mkL_ok {xs : List D} (h : xs.length ≤ sizeMax) : mkL xs = .ok (.lst xs) := if_pos h
@[simp] theorem mkT0 : mkT [] = .ok (.tup []) := mkT_ok (by simp [sizeMax])
@[simp] theorem mkT1 (a : D) : mkT [a] = .ok (.tup [a]) := mkT_ok (by simp [sizeMax])
@[simp] theorem mkT2 (a b : D) : mkT [a, b] = .ok (.tup [a, b]) := mkT_ok (by simp [sizeMax])
@[simp] theorem mkT3 (a b c : D) : mkT [a, b, c] = .ok (.tup [a, b, c]) := mkT_ok (by simp [sizeMax])
@[simp] theorem mkT4 (a b c d : D) : mkT [a, b, c, d] = .ok (.tup [a, b, c, d]) := mkT_ok (by simp [sizeMax])
@[simp] theorem mkL0 : mkL [] = .ok (.lst []) := mkL_ok (by simp [sizeMax])
@[simp] theorem mkL1 (a : D) : mkL [a] = .ok (.lst [a]) := mkL_ok (by simp [sizeMax])
@[simp] theorem mkL2 (a b : D) : mkL [a, b] = .ok (.lst [a, b]) := mkL_ok (by simp [sizeMax])
end

/-! ### ends, ifs -/
def fin (fr : Bool) : O → R D
  | .rt d => .ok d
  | .nx _ => if fr then .stk else .ok .non
  | .ex c _ => .exc c
  | _ => .stk
@[simp] theorem fin_rt (fr : Bool) (d : D) : fin fr (.rt d) = .ok d := id rfl
@[simp] theorem fin_nx (σ : List Sl) : fin false (.nx σ) = .ok .non := id rfl
@[simp] theorem fin_ex (fr : Bool) (c : Nat) (σ : List Sl) : fin fr (.ex c σ) = .exc c := id rfl
@[simp] theorem fin_stk (fr : Bool) : fin fr .stk = .stk := id rfl
@[simp] theorem fin_ite (fr : Bool) (p : Prop) [Decidable p] (a b : O) : fin fr (if p then a else b) = if p then fin fr a else fin fr b := by split <;> rfl
@[simp] theorem thn_ite (p : Prop) [Decidable p] (a b : O) (f : List Sl → O) : (if p then a else b).thn f = if p then a.thn f else b.thn f := by split <;> rfl
@[simp] theorem bind_ite {α β : Type} (p : Prop) [Decidable p] (a b : R α) (f : α → R β) : (if p then a else b).bind f = if p then a.bind f else b.bind f := by split <;> rfl
@[simp] theorem ofR_ite {α : Type} (σ : List Sl) (p : Prop) [Decidable p] (a b : R α) (f : α → O) : O.ofR σ (if p then a else b) f = if p then O.ofR σ a f else O.ofR σ b f := by split <;> rfl
@[simp] theorem ifO_dec (p : Prop) [Decidable p] (a b : O) : ifO (decide p) a b = if p then a else b := by by_cases h : p <;> simp [h]
@[simp] theorem ifR_dec {α : Type} (p : Prop) [Decidable p] (a b : R α) : ifR (decide p) a b = if p then a else b := by by_cases h : p <;> simp [h]
@[simp] theorem ifO_not (p : Bool) (a b : O) : ifO (!p) a b = ifO p b a := by cases p <;> rfl
@[simp] theorem ifR_not {α : Type} (p : Bool) (a b : R α) : ifR (!p) a b = ifR p b a := by cases p <;> rfl
@[simp] theorem ifO_beq {α : Type} [BEq α] [LawfulBEq α] [DecidableEq α] (x y : α) (a b : O) : ifO (x == y) a b = if x = y then a else b := by
  by_cases h : x = y
  · subst h; simp
  · rw [beq_eq_false_iff_ne.mpr h, if_neg h]; rfl
@[simp] theorem ifR_beq {α β : Type} [BEq α] [LawfulBEq α] [DecidableEq α] (x y : α) (a b : R β) : ifR (x == y) a b = if x = y then a else b := by
  by_cases h : x = y
  · subst h; simp
  · rw [beq_eq_false_iff_ne.mpr h, if_neg h]; rfl
@[simp] theorem ifO_and (p q : Bool) (a b : O) : ifO (p && q) a b = ifO p (ifO q a b) b := by cases p <;> rfl
@[simp] theorem ifO_or (p q : Bool) (a b : O) : ifO (p || q) a b = ifO p a (ifO q a b) := by cases p <;> rfl
@[simp] theorem rd_no : Sl.no.rd = .stk := id rfl
@[simp] theorem ofR_bind {α β : Type} (σ : List Sl) (r : R α) (f : α → R β) (g : β → O) : O.ofR σ (r.bind f) g = O.ofR σ r fun a => O.ofR σ (f a) g := by cases r <;> rfl
@[simp] theorem bind_bind {α β γ : Type} (r : R α) (f : α → R β) (g : β → R γ) : (r.bind f).bind g = r.bind fun a => (f a).bind g := by cases r <;> rfl
@[simp] theorem noX_ok' {α : Type} (a : α) : noX (.ok a) = .ok a := id rfl

section
variable (G : Nat → R D) (C : Nat → List D → R D) (F : Nat) (fr : Bool) (σ : List Sl)
@[simp] theorem ev_m1 (f : M1) (a b : E) : ev G C σ (.m1 f a b) = (ev G C σ a).bind fun x => if rcv1 f x then (ev G C σ b).bind fun y => m1 f x y else .stk := id rfl
@[simp] theorem ev_m2 (f : M2) (a b c : E) : ev G C σ (.m2 f a b c) = (ev G C σ a).bind fun x => if rcv2 f x then (ev G C σ b).bind fun y => (ev G C σ c).bind fun z => m2 f x y z else .stk := id rfl
@[simp] theorem ev_dct (ks : List Key) (es : Es) : ev G C σ (.dct ks es) = (evs G C σ es).bind fun xs => if xs.length = ks.length ∧ ks.length ≤ 15 ∧ ks.Nodup then .ok (.dic ks xs) else .stk := id rfl
@[simp] theorem ev_callix (fs : List Nat) (i : E) (es : Es) : ev G C σ (.callix fs i es) = (ev G C σ i).bind fun x => (asI x).bind fun i => (opt (atI fs i)).bind fun f => (evs G C σ es).bind fun xs => C f xs := id rfl
@[simp] theorem ev_rev (a : E) : ev G C σ (.rev a) = (ev G C σ a).bind fun x => revD x := id rfl
@[simp] theorem ev_lrg (a b : E) : ev G C σ (.lrg a b) = (ev G C σ a).bind fun x => (ev G C σ b).bind fun y => (asI x).bind fun lo => (asI y).bind fun hi => if midR lo && midR hi && decide ((hi - lo).toNat ≤ 16777216) then .ok (.lst (rangeD lo (hi - lo).toNat)) else .stk := id rfl
@[simp] theorem ev_brw2 (i : Nat) : ev G C σ (.brw2 i) = (lk σ i).br2 := id rfl
@[simp] theorem evi_zip3 (a b c : E) : evi G C σ (.zip3 a b c) = (ev G C σ a).bind fun x => (ev G C σ b).bind fun y => (ev G C σ c).bind fun z => (seqD x).bind fun xs => (seqD y).bind fun ys => (seqD z).bind fun zs => .ok (zip3 xs ys zs) := id rfl
@[simp] theorem evi_enum (e : E) : evi G C σ (.enum e) = (ev G C σ e).bind fun x => (asL x).bind fun xs => .ok (enumD 0 xs) := id rfl
@[simp] theorem st_ret_neg (a : E) : evst G C F fr σ (.ret (.neg a)) = O.ofR σ (ev G C σ (.neg a)) fun d => .rt d := id rfl
@[simp] theorem st_ret_m1 (f : M1) (a b : E) : evst G C F fr σ (.ret (.m1 f a b)) = O.ofR σ (ev G C σ (.m1 f a b)) fun d => .rt d := id rfl
@[simp] theorem st_ret_m2 (f : M2) (a b c : E) : evst G C F fr σ (.ret (.m2 f a b c)) = O.ofR σ (ev G C σ (.m2 f a b c)) fun d => .rt d := id rfl
@[simp] theorem st_ret_isi (a : E) (t : Ty) : evst G C F fr σ (.ret (.isi a t)) = O.ofR σ (ev G C σ (.isi a t)) fun d => .rt d := id rfl
@[simp] theorem st_ret_rev (a : E) : evst G C F fr σ (.ret (.rev a)) = O.ofR σ (ev G C σ (.rev a)) fun d => .rt d := id rfl
@[simp] theorem st_ret_lrg (a b : E) : evst G C F fr σ (.ret (.lrg a b)) = O.ofR σ (ev G C σ (.lrg a b)) fun d => .rt d := id rfl
@[simp] theorem st_ret_callix (fs : List Nat) (i : E) (es : Es) : evst G C F fr σ (.ret (.callix fs i es)) = O.ofR σ (ev G C σ (.callix fs i es)) fun d => .rt d := id rfl
def onOwn (s : Sl) (f : List D → O) : O := match s with
  | .own xs => f xs
  | _ => .stk
def onOwn2 (s : Sl) (f : List (List D) → O) : O := match s with
  | .own2 xs => f xs
  | _ => .stk
@[simp] theorem onOwn_own (xs : List D) (f : List D → O) : onOwn (.own xs) f = f xs := id rfl
@[simp] theorem onOwn2_own (xs : List (List D)) (f : List (List D) → O) : onOwn2 (.own2 xs) f = f xs := id rfl
@[simp] theorem st_app (i : Nat) (e : E) : evst G C F fr σ (.app i e) = onOwn (lk σ i) fun xs => O.ofR σ (ev G C σ e) fun d => if xs.length < sizeMax then .nx (st1 σ i (.own (xs ++ [d]))) else .stk := id rfl
@[simp] theorem st_ext (i : Nat) (e : E) : evst G C F fr σ (.ext i e) = onOwn (lk σ i) fun xs => O.ofR σ (ev G C σ e) fun d => O.ofR σ (asL d) fun ds => if xs.length + ds.length ≤ sizeMax then .nx (st1 σ i (.own (xs ++ ds))) else .stk := id rfl
@[simp] theorem st_setIx (i : Nat) (a e : E) : evst G C F fr σ (.setIx i a e) = O.ofR σ (ev G C σ e) fun d => onOwn (lk σ i) fun xs => O.ofR σ (ev G C σ a) fun k => O.ofR σ (asI k) fun k => O.ofR σ (opt (ixN xs.length k)) fun j => .nx (st1 σ i (.own (xs.set j d))) := id rfl
def tryKO (c i j : Nat) (o : O) : O := match o with
  | .ex k σ => ifO (subC k c) (.nx (st1 (st1 (st1 σ i (.val (.exv k))) j (.val (.exv k))) i .no)) (.ex k σ)
  | o => o
def tryCO (c : Nat) (h : Option D) (o : O) : O := match o with
  | .ex k σ => ifO (subC k c) (match h with
        | some d => .rt d
        | none => .ct σ) (.ex k σ)
  | o => o
@[simp] theorem tryKO_nx (c i j : Nat) (σ : List Sl) : tryKO c i j (.nx σ) = .nx σ := id rfl
@[simp] theorem tryKO_rt (c i j : Nat) (d : D) : tryKO c i j (.rt d) = .rt d := id rfl
@[simp] theorem tryKO_ex (c i j k : Nat) (σ : List Sl) : tryKO c i j (.ex k σ) = ifO (subC k c) (.nx (st1 (st1 (st1 σ i (.val (.exv k))) j (.val (.exv k))) i .no)) (.ex k σ) := id rfl
@[simp] theorem tryKO_ite (c i j : Nat) (p : Prop) [Decidable p] (a b : O) : tryKO c i j (if p then a else b) = if p then tryKO c i j a else tryKO c i j b := by split <;> rfl
@[simp] theorem tryCO_nx (c : Nat) (h : Option D) (σ : List Sl) : tryCO c h (.nx σ) = .nx σ := id rfl
@[simp] theorem tryCO_rt (c : Nat) (h : Option D) (d : D) : tryCO c h (.rt d) = .rt d := id rfl
@[simp] theorem tryCO_exs (c k : Nat) (d : D) (σ : List Sl) : tryCO c (some d) (.ex k σ) = ifO (subC k c) (.rt d) (.ex k σ) := id rfl
@[simp] theorem tryCO_exn (c k : Nat) (σ : List Sl) : tryCO c none (.ex k σ) = ifO (subC k c) (.ct σ) (.ex k σ) := id rfl
@[simp] theorem tryCO_ite (c : Nat) (h : Option D) (p : Prop) [Decidable p] (a b : O) : tryCO c h (if p then a else b) = if p then tryCO c h a else tryCO c h b := by split <;> rfl
@[simp] theorem st_tryK (b : S) (c i j : Nat) : evst G C F fr σ (.tryK b c i j) = tryKO c i j (evst G C F fr σ b) := by
  show (match evst G C F fr σ b with
    | .ex k σ => (match subC k c with
      | true => O.nx (st1 (st1 (st1 σ i (.val (.exv k))) j (.val (.exv k))) i .no)
      | false => O.ex k σ)
    | o => o) = _
  cases evst G C F fr σ b <;> rfl
@[simp] theorem st_tryC (b : S) (c : Nat) (h : Option D) : evst G C F fr σ (.tryC b c h) = tryCO c h (evst G C F fr σ b) := by
  show (match evst G C F fr σ b with
    | .ex k σ => (match subC k c with
      | true => (match h with
        | some d => O.rt d
        | none => O.ct σ)
      | false => O.ex k σ)
    | o => o) = _
  cases evst G C F fr σ b <;> rfl
@[simp] theorem isTy_exv (k c : Nat) : isTy (.exv k) (.exc c) = .ok (subC k c) := id rfl
@[simp] theorem isTy_exvV (k : Nat) : isTy (.exv k) .verr = .ok true := id rfl
@[simp] theorem subC_0 (k : Nat) : subC k 0 = true := by simp [subC]
@[simp] theorem subC_self (k : Nat) : subC k k = true := by simp [subC]
@[simp] theorem seqD_lst (xs : List D) : seqD (.lst xs) = .ok xs := id rfl
@[simp] theorem seqD_tup (xs : List D) : seqD (.tup xs) = .ok xs := id rfl
@[simp] theorem itemsD_lst (xs : List D) : itemsD (.lst xs) = .ok xs := id rfl
@[simp] theorem itemsD_tup (xs : List D) : itemsD (.tup xs) = .ok xs := id rfl
@[simp] theorem ownD_lst (xs : List D) : ownD (.lst xs) = .ok (.own xs) := id rfl
@[simp] theorem zipD_tt (xs ys : List D) : zipD (.tup xs) (.tup ys) = .ok (zip2 xs ys) := id rfl
@[simp] theorem zipD_ll (xs ys : List D) : zipD (.lst xs) (.lst ys) = .ok (zip2 xs ys) := id rfl
@[simp] theorem asg_nm (i : Nat) (d : D) (σ : List Sl) : asg (.nm i) d σ = .ok (st1 σ i (.val d)) := by unfold asg; rfl
@[simp] theorem asg_tc (a b : Tg) (x : D) (r : List D) (σ : List Sl) : asg (.tc a b) (.tup (x :: r)) σ = (asg a x σ).bind fun σ => asgL b r σ := by rw [asg]; rfl
@[simp] theorem asg_tcl (a b : Tg) (x : D) (r : List D) (σ : List Sl) : asg (.tc a b) (.lst (x :: r)) σ = (asg a x σ).bind fun σ => asgL b r σ := by rw [asg]; rfl
@[simp] theorem asgL_tn (σ : List Sl) : asgL .tn [] σ = .ok σ := by rw [asgL]
@[simp] theorem asgL_tc (a b : Tg) (x : D) (r : List D) (σ : List Sl) : asgL (.tc a b) (x :: r) σ = (asg a x σ).bind fun σ => asgL b r σ := by rw [asgL]
end

end Fc
/-! Prog: printed by gen.py: the functions as terms of Ev1 -/
namespace Fc
open PySem (Str)
def i_is_rate : Nat := 1
def i_look_rate : Nat := 2
def i_told_frames : Nat := 3
def i_left_out : Nat := 4
def i_true_frames : Nat := 5
def i_minute_frames : Nat := 6
def i_ten_frames : Nat := 7
def i_day_frames : Nat := 8
def i_is_whole : Nat := 9
def i_is_left_out : Nat := 10
def i_has_shape : Nat := 11
def i_is_code : Nat := 12
def i_mended : Nat := 13
def i_fault : Nat := 14
def i_law_cell : Nat := 15
def i_law_pick : Nat := 16
def i_law_rate : Nat := 17
def i_law_facts : Nat := 18
def i_law_shape : Nat := 19
def i_law_is_out : Nat := 20
def i_law_code : Nat := 21
def i_law_count : Nat := 22
def i_law_day : Nat := 23
def i_law_at : Nat := 24
def i_law_low : Nat := 25
def i_law_true : Nat := 26
def i_law_places : Nat := 27
def i_law_put : Nat := 28
def i_law_spoilt_thing : Nat := 29
def i_law_is_code : Nat := 30
def i_law_word : Nat := 31
def i_law_do : Nat := 32
def i_law_fault : Nat := 33
def i_law_k01 : Nat := 34
def i_look_code : Nat := 35
def i_count_of : Nat := 36
def i_count : Nat := 37
def i_code_of : Nat := 38
def i_look_count : Nat := 39
def i_code_at : Nat := 40
def i_last_code : Nat := 41
def i_law_do_2 : Nat := 42
def i_law_k02 : Nat := 43
def i_look_by : Nat := 44
def i_later : Nat := 45
def i_round_later : Nat := 46
def i_between : Nat := 47
def i_law_do_3 : Nat := 48
def i_law_k03 : Nat := 49
def i_share : Nat := 50
def i_seconds_at : Nat := 51
def i_true_time : Nat := 52
def i_told_time : Nat := 53
def i_told_frames_of : Nat := 54
def i_drift : Nat := 55
def i_look_way : Nat := 56
def i_rounded : Nat := 57
def i_frames_at : Nat := 58
def i_led : Nat := 59
def i_is_exact : Nat := 60
def i_exact_step : Nat := 61
def i_is_time : Nat := 62
def i_code_at_time : Nat := 63
def i_law_do_4 : Nat := 64
def i_law_rounded : Nat := 65
def i_law_refuses : Nat := 66
def i_law_k10 : Nat := 67
def i_is_span : Nat := 68
def i_look_span : Nat := 69
def i_counts_in : Nat := 70
def i_span_of : Nat := 71
def i_long : Nat := 72
def i_shifted : Nat := 73
def i_common : Nat := 74
def i_joined : Nat := 75
def i_law_do_5 : Nat := 76
def i_law_span : Nat := 77
def i_law_is_span : Nat := 78
def i_law_frames : Nat := 79
def i_law_are_told_apart : Nat := 80
def i_law_k20 : Nat := 81
def i_are_spans : Nat := 82
def i_look_spans : Nat := 83
def i_union_of : Nat := 84
def i_union : Nat := 85
def i_gaps : Nat := 86
def i_whole_long : Nat := 87
def i_most_at_once : Nat := 88
def i_laid : Nat := 89
def i_law_do_6 : Nat := 90
def i_law_span_2 : Nat := 91
def i_law_as_spans : Nat := 92
def i_law_are_refused : Nat := 93
def i_law_is_laid : Nat := 94
def i_law_k21 : Nat := 95
def i_in_two : Nat := 96
def i_text_of : Nat := 97
def i_code_text : Nat := 98
def i_parts_in : Nat := 99
def i_read_code : Nat := 100
def i_read_any : Nat := 101
def i_read_loose : Nat := 102
def i_spans_text : Nat := 103
def i_read_spans : Nat := 104
def i_law_spoilt : Nat := 105
def i_law_do_7 : Nat := 106
def i_law_text : Nat := 107
def i_law_read : Nat := 108
def i_law_loose : Nat := 109
def i_law_are_lines_read : Nat := 110
def i_law_are_spans_read : Nat := 111
def i_law_k30 : Nat := 112
def i_law_do_8 : Nat := 113
def i_law_lists : Nat := 114
def i_law_do_9 : Nat := 115
def i_law_word_of : Nat := 116
def i_law_kinds : Nat := 117
def i_is_reel : Nat := 118
def i_is_clip_of : Nat := 119
def i_is_clip : Nat := 120
def i_is_cut : Nat := 121
def i_look_cut : Nat := 122
def i_look_reel : Nat := 123
def i_pieces_of : Nat := 124
def i_many_in : Nat := 125
def i_cut_long : Nat := 126
def i_frame_at : Nat := 127
def i_frames_of : Nat := 128
def i_law_cut : Nat := 129
def i_law_frames_2 : Nat := 130
def i_law_clips : Nat := 131
def i_law_k51 : Nat := 132
def i_closed_up : Nat := 133
def i_cut_from : Nat := 134
def i_merged : Nat := 135
def i_are_same : Nat := 136
def i_reels : Nat := 137
def i_used : Nat := 138
def i_law_k52 : Nat := 139
def i_law_word_2 : Nat := 140
def i_law_all : Nat := 141
def i_law_k53 : Nat := 142
def i_look_place : Nat := 143
def i_look_stretch : Nat := 144
def i_stretch_of : Nat := 145
def i_part : Nat := 146
def i_exchanged : Nat := 147
def i_cut_out : Nat := 148
def i_put_in : Nat := 149
def i_law_k54 : Nat := 150
def i_put_over : Nat := 151
def i_law_k55 : Nat := 152
def i_alike_ahead : Nat := 153
def i_turned_about : Nat := 154
def i_change : Nat := 155
def i_law_k56 : Nat := 156
def i_law_all_2 : Nat := 157
def i_law_k57 : Nat := 158
def i_is_event_of : Nat := 159
def i_is_event : Nat := 160
def i_look_events : Nat := 161
def i_events : Nat := 162
def i_cut_of : Nat := 163
def i_event_at : Nat := 164
def i_law_k58 : Nat := 165
def i_event_text : Nat := 166
def i_text_in : Nat := 167
def i_events_text : Nat := 168
def i_code_in : Nat := 169
def i_read_events : Nat := 170
def i_law_written : Nat := 171
def i_law_k59 : Nat := 172
def i_law_k60 : Nat := 173
def i_law_all_3 : Nat := 174
def i_law_k61 : Nat := 175
def i_look_number : Nat := 176
def i_look_both : Nat := 177
def i_begun : Nat := 178
def i_first_after : Nat := 179
def i_shown : Nat := 180
def i_shows : Nat := 181
def i_first_shown : Nat := 182
def i_law_k62 : Nat := 183
def i_pattern : Nat := 184
def i_law_k63 : Nat := 185
def i_law_k64 : Nat := 186
def i_wall : Nat := 187
def i_law_deed : Nat := 188
def i_law_due : Nat := 189
def i_mark_in : Nat := 190
def i_is_mark_row : Nat := 191
def i_law_k74 : Nat := 192
def i_law_k75 : Nat := 193
def i_law_k76 : Nat := 194
def i_law_joined : Nat := 195
def i_law_k77 : Nat := 196
def i_law_k78 : Nat := 197
def i_law_k79 : Nat := 198
def i_law_read_2 : Nat := 199
def i_law_k80 : Nat := 200
def F_is_rate : FD := ⟨1, 1, false,
  (.ret (.and (.isi (.var 0) .str) (.cmp .isIn (.var 0) (.gl 0))))⟩
def F_look_rate : FD := ⟨1, 1, false,
  (.ifs (.not (.call i_is_rate (.cons (.var 0) .nil)))
  (.raise 1)
  .skip)⟩
def F_told_frames : FD := ⟨1, 1, false,
  (.seq (.expr (.call i_look_rate (.cons (.var 0) .nil)))
  (.ret (.ix (.gl 1) (.var 0))))⟩
def F_left_out : FD := ⟨1, 1, false,
  (.seq (.expr (.call i_look_rate (.cons (.var 0) .nil)))
  (.ret (.m2 .get (.gl 2) (.var 0) (.c (.int 0)))))⟩
def F_true_frames : FD := ⟨1, 1, false,
  (.seq (.expr (.call i_look_rate (.cons (.var 0) .nil)))
  (.seq (.ifs (.cmp .isIn (.var 0) (.gl 2))
  (.ret (.tup (.cons (.bin .mul (.ix (.gl 1) (.var 0)) (.c (.int 1000))) (.cons (.c (.int 1001)) .nil))))
  .skip)
  (.ret (.tup (.cons (.ix (.gl 1) (.var 0)) (.cons (.c (.int 1)) .nil))))))⟩
def F_minute_frames : FD := ⟨1, 1, false,
  (.ret (.bin .sub (.bin .mul (.c (.int 60)) (.ix (.gl 1) (.var 0))) (.m2 .get (.gl 2) (.var 0) (.c (.int 0)))))⟩
def F_ten_frames : FD := ⟨1, 1, false,
  (.ret (.bin .add (.bin .mul (.c (.int 10)) (.call i_minute_frames (.cons (.var 0) .nil))) (.m2 .get (.gl 2) (.var 0) (.c (.int 0)))))⟩
def F_day_frames : FD := ⟨1, 1, false,
  (.seq (.expr (.call i_look_rate (.cons (.var 0) .nil)))
  (.ret (.bin .mul (.bin .mul (.c (.int 6)) (.gl 3)) (.call i_ten_frames (.cons (.var 0) .nil)))))⟩
def F_is_whole : FD := ⟨3, 3, false,
  (.ret (.and (.isi (.var 0) .int) (.and (.not (.isi (.var 0) .bool)) (.chain .le .le (.var 1) (.var 0) (.var 2)))))⟩
def F_is_left_out : FD := ⟨2, 2, false,
  (.ret (.and (.cmp .eq (.ix (.var 1) (.c (.int 2))) (.c (.int 0))) (.and (.cmp .lt (.ix (.var 1) (.c (.int 3))) (.m2 .get (.gl 2) (.var 0) (.c (.int 0)))) (.cmp .ne (.bin .mod (.ix (.var 1) (.c (.int 1))) (.c (.int 10))) (.c (.int 0))))))⟩
def X_has_shape_0 : E := (.call i_is_whole (.cons (.var 3) (.cons (.c (.int 0)) (.cons (.var 4) .nil))))
def F_has_shape : FD := ⟨2, 5, false,
  (.seq (.ifs (.or (.not (.isi (.var 1) .tup)) (.cmp .ne (.b1 .len (.var 1)) (.c (.int 4))))
  (.ret (.c (.bl false)))
  .skip)
  (.seq (.set 2 (.tup (.cons (.bin .sub (.gl 3) (.c (.int 1))) (.cons (.c (.int 59)) (.cons (.c (.int 59)) (.cons (.bin .sub (.ix (.gl 1) (.var 0)) (.c (.int 1))) .nil))))))
  (.ret (.b1 .all (.lc X_has_shape_0 (.tc (.nm 3) (.tc (.nm 4) .tn)) (.zip (.var 1) (.var 2)) none)))))⟩
def F_is_code : FD := ⟨2, 2, false,
  (.seq (.expr (.call i_look_rate (.cons (.var 0) .nil)))
  (.ret (.and (.call i_has_shape (.cons (.var 0) (.cons (.var 1) .nil))) (.not (.call i_is_left_out (.cons (.var 0) (.cons (.var 1) .nil)))))))⟩
def F_mended : FD := ⟨2, 2, false,
  (.seq (.expr (.call i_look_rate (.cons (.var 0) .nil)))
  (.seq (.ifs (.not (.call i_has_shape (.cons (.var 0) (.cons (.var 1) .nil))))
  (.raise 2)
  .skip)
  (.ret (.ite (.call i_is_left_out (.cons (.var 0) (.cons (.var 1) .nil))) (.bin .add (.sl (.var 1) none (some (.c (.int 3)))) (.tup (.cons (.ix (.gl 2) (.var 0)) .nil))) (.var 1)))))⟩
def B_fault_0 : S := (.ifs (.not (.call i_is_whole (.cons (.var 4) (.cons (.c (.int 0)) (.cons (.var 5) .nil)))))
  (.ret (.var 3))
  .skip)
def F_fault : FD := ⟨2, 6, false,
  (.seq (.expr (.call i_look_rate (.cons (.var 0) .nil)))
  (.seq (.ifs (.or (.not (.isi (.var 1) .tup)) (.cmp .ne (.b1 .len (.var 1)) (.c (.int 4))))
  (.ret (.c (.str ⟨#[115, 104, 97, 112, 101]⟩)))
  .skip)
  (.seq (.set 2 (.tup (.cons (.bin .sub (.gl 3) (.c (.int 1))) (.cons (.c (.int 59)) (.cons (.c (.int 59)) (.cons (.bin .sub (.ix (.gl 1) (.var 0)) (.c (.int 1))) .nil))))))
  (.seq (.for_ (.tc (.nm 3) (.tc (.nm 4) (.tc (.nm 5) .tn))) (.zip3 (.tup (.cons (.c (.str ⟨#[104, 111, 117, 114, 115]⟩)) (.cons (.c (.str ⟨#[109, 105, 110, 117, 116, 101, 115]⟩)) (.cons (.c (.str ⟨#[115, 101, 99, 111, 110, 100, 115]⟩)) (.cons (.c (.str ⟨#[102, 114, 97, 109, 101, 115]⟩)) .nil))))) (.var 1) (.var 2))
  B_fault_0)
  (.ret (.ite (.call i_is_left_out (.cons (.var 0) (.cons (.var 1) .nil))) (.c (.str ⟨#[108, 101, 102, 116, 32, 111, 117, 116]⟩)) (.c .non)))))))⟩
def F_law_cell : FD := ⟨2, 2, false,
  (.seq (.ifs (.cmp .lt (.var 1) (.b1 .len (.var 0)))
  (.ret (.ix (.var 0) (.var 1)))
  .skip)
  (.seq (.ifs (.cmp .eq (.var 0) (.lst .nil))
  (.ret (.c (.int 0)))
  .skip)
  (.ret (.bin .add (.bin .mul (.ix (.var 0) (.bin .mod (.var 1) (.b1 .len (.var 0)))) (.c (.int 31))) (.var 1)))))⟩
def F_law_pick : FD := ⟨3, 4, false,
  (.seq (.set 3 (.bin .mod (.bin .mul (.bin .add (.call i_law_cell (.cons (.var 0) (.cons (.var 1) .nil))) (.bin .mul (.c (.int 6151)) (.bin .add (.var 1) (.c (.int 1))))) (.c (.int 40692))) (.c (.int 2147483399))))
  (.ret (.bin .mod (.bin .mod (.bin .add (.bin .mul (.var 3) (.var 3)) (.bin .fdiv (.var 3) (.c (.int 31)))) (.c (.int 2147483629))) (.var 2))))⟩
def F_law_rate : FD := ⟨2, 2, false,
  (.ret (.ix (.lst (.cons (.c (.str ⟨#[102, 105, 108, 109]⟩)) (.cons (.c (.str ⟨#[101, 117, 114, 111, 112, 101]⟩)) (.cons (.c (.str ⟨#[112, 108, 97, 105, 110]⟩)) (.cons (.c (.str ⟨#[100, 114, 111, 112]⟩)) (.cons (.c (.str ⟨#[102, 97, 115, 116]⟩)) (.cons (.c (.str ⟨#[102, 97, 115, 116, 32, 100, 114, 111, 112]⟩)) (.cons (.c (.str ⟨#[100, 114, 111, 112]⟩)) (.cons (.c (.str ⟨#[102, 97, 115, 116, 32, 100, 114, 111, 112]⟩)) .nil))))))))) (.call i_law_pick (.cons (.var 0) (.cons (.var 1) (.cons (.c (.int 8)) .nil))))))⟩
def F_law_facts : FD := ⟨1, 2, false,
  (.seq (.set 1 (.dct [(.inr ⟨#[102, 105, 108, 109]⟩), (.inr ⟨#[101, 117, 114, 111, 112, 101]⟩), (.inr ⟨#[112, 108, 97, 105, 110]⟩), (.inr ⟨#[100, 114, 111, 112]⟩), (.inr ⟨#[102, 97, 115, 116]⟩), (.inr ⟨#[102, 97, 115, 116, 32, 100, 114, 111, 112]⟩)] (.cons (.c (.int 24)) (.cons (.c (.int 25)) (.cons (.c (.int 30)) (.cons (.c (.int 30)) (.cons (.c (.int 60)) (.cons (.c (.int 60)) .nil))))))))
  (.ret (.tup (.cons (.ix (.var 1) (.var 0)) (.cons (.m2 .get (.dct [(.inr ⟨#[100, 114, 111, 112]⟩), (.inr ⟨#[102, 97, 115, 116, 32, 100, 114, 111, 112]⟩)] (.cons (.c (.int 2)) (.cons (.c (.int 4)) .nil))) (.var 0) (.c (.int 0))) .nil)))))⟩
def F_law_shape : FD := ⟨3, 8, false,
  (.seq (.set 3 (.ix (.call i_law_facts (.cons (.var 2) .nil)) (.c (.int 0))))
  (.seq (.set 4 (.ix (.lst (.cons (.c (.int 0)) (.cons (.c (.int 0)) (.cons (.c (.int 1)) (.cons (.c (.int 23)) (.cons (.call i_law_pick (.cons (.var 0) (.cons (.var 1) (.cons (.c (.int 24)) .nil)))) .nil)))))) (.call i_law_pick (.cons (.var 0) (.cons (.bin .add (.var 1) (.c (.int 1))) (.cons (.c (.int 5)) .nil))))))
  (.seq (.set 5 (.call i_law_pick (.cons (.var 0) (.cons (.bin .add (.var 1) (.c (.int 2))) (.cons (.c (.int 60)) .nil)))))
  (.seq (.ifs (.cmp .eq (.call i_law_pick (.cons (.var 0) (.cons (.bin .add (.var 1) (.c (.int 3))) (.cons (.c (.int 3)) .nil)))) (.c (.int 0)))
  (.set 5 (.ix (.lst (.cons (.c (.int 0)) (.cons (.c (.int 1)) (.cons (.c (.int 9)) (.cons (.c (.int 10)) (.cons (.c (.int 11)) (.cons (.c (.int 59)) .nil))))))) (.call i_law_pick (.cons (.var 0) (.cons (.bin .add (.var 1) (.c (.int 2))) (.cons (.c (.int 6)) .nil))))))
  .skip)
  (.seq (.set 6 (.ix (.lst (.cons (.c (.int 0)) (.cons (.c (.int 0)) (.cons (.c (.int 59)) (.cons (.call i_law_pick (.cons (.var 0) (.cons (.bin .add (.var 1) (.c (.int 4))) (.cons (.c (.int 60)) .nil)))) .nil))))) (.call i_law_pick (.cons (.var 0) (.cons (.bin .add (.var 1) (.c (.int 5))) (.cons (.c (.int 4)) .nil))))))
  (.seq (.set 7 (.ix (.lst (.cons (.c (.int 0)) (.cons (.c (.int 1)) (.cons (.c (.int 2)) (.cons (.c (.int 3)) (.cons (.c (.int 4)) (.cons (.bin .sub (.var 3) (.c (.int 1))) (.cons (.call i_law_pick (.cons (.var 0) (.cons (.bin .add (.var 1) (.c (.int 6))) (.cons (.var 3) .nil)))) .nil)))))))) (.call i_law_pick (.cons (.var 0) (.cons (.bin .add (.var 1) (.c (.int 7))) (.cons (.c (.int 7)) .nil))))))
  (.ret (.tup (.cons (.var 4) (.cons (.var 5) (.cons (.var 6) (.cons (.var 7) .nil))))))))))))⟩
def F_law_is_out : FD := ⟨2, 2, false,
  (.ret (.and (.cmp .eq (.ix (.var 1) (.c (.int 2))) (.c (.int 0))) (.and (.cmp .lt (.ix (.var 1) (.c (.int 3))) (.ix (.call i_law_facts (.cons (.var 0) .nil)) (.c (.int 1)))) (.cmp .notIn (.ix (.var 1) (.c (.int 1))) (.tup (.cons (.c (.int 0)) (.cons (.c (.int 10)) (.cons (.c (.int 20)) (.cons (.c (.int 30)) (.cons (.c (.int 40)) (.cons (.c (.int 50)) .nil)))))))))))⟩
def F_law_code : FD := ⟨3, 4, false,
  (.seq (.set 3 (.call i_law_shape (.cons (.var 0) (.cons (.var 1) (.cons (.var 2) .nil)))))
  (.ret (.ite (.call i_law_is_out (.cons (.var 2) (.cons (.var 3) .nil))) (.bin .add (.sl (.var 3) none (some (.c (.int 3)))) (.tup (.cons (.bin .add (.ix (.var 3) (.c (.int 3))) (.c (.int 4))) .nil))) (.var 3))))⟩
def B_law_count_0 : S := (.set 5 (.bin .sub (.bin .add (.var 5) (.bin .mul (.c (.int 60)) (.var 2))) (.ite (.cmp .gt (.bin .mod (.var 6) (.c (.int 10))) (.c (.int 0))) (.var 3) (.c (.int 0)))))
def F_law_count : FD := ⟨2, 7, false,
  (.seq (.unp (.tc (.nm 2) (.tc (.nm 3) .tn)) (.call i_law_facts (.cons (.var 0) .nil)))
  (.seq (.set 4 (.bin .sub (.bin .mul (.bin .mul (.c (.int 60)) (.c (.int 60))) (.var 2)) (.bin .mul (.c (.int 54)) (.var 3))))
  (.seq (.set 5 (.bin .mul (.ix (.var 1) (.c (.int 0))) (.var 4)))
  (.seq (.for_ (.nm 6) (.rg1 (.ix (.var 1) (.c (.int 1))))
  B_law_count_0)
  (.seq (.set 5 (.bin .add (.bin .add (.var 5) (.bin .mul (.ix (.var 1) (.c (.int 2))) (.var 2))) (.ix (.var 1) (.c (.int 3)))))
  (.ret (.bin .sub (.var 5) (.ite (.cmp .gt (.bin .mod (.ix (.var 1) (.c (.int 1))) (.c (.int 10))) (.c (.int 0))) (.var 3) (.c (.int 0))))))))))⟩
def F_law_day : FD := ⟨1, 1, false,
  (.ret (.bin .add (.call i_law_count (.cons (.var 0) (.cons (.tup (.cons (.c (.int 23)) (.cons (.c (.int 59)) (.cons (.c (.int 59)) (.cons (.bin .sub (.ix (.call i_law_facts (.cons (.var 0) .nil)) (.c (.int 0))) (.c (.int 1))) .nil))))) .nil))) (.c (.int 1))))⟩
def X_law_at_0 : E := (.cmp .ge (.var 5) (.bin .sub (.bin .mul (.c (.int 60)) (.var 2)) (.ite (.cmp .gt (.bin .mod (.var 6) (.c (.int 10))) (.c (.int 0))) (.var 3) (.c (.int 0)))))
def B_law_at_1 : S := (.seq (.set 5 (.bin .add (.bin .sub (.var 5) (.bin .mul (.c (.int 60)) (.var 2))) (.ite (.cmp .gt (.bin .mod (.var 6) (.c (.int 10))) (.c (.int 0))) (.var 3) (.c (.int 0)))))
  (.set 6 (.bin .add (.var 6) (.c (.int 1)))))
def F_law_at : FD := ⟨2, 7, false,
  (.seq (.unp (.tc (.nm 2) (.tc (.nm 3) .tn)) (.call i_law_facts (.cons (.var 0) .nil)))
  (.seq (.set 4 (.bin .sub (.bin .mul (.bin .mul (.c (.int 60)) (.c (.int 60))) (.var 2)) (.bin .mul (.c (.int 54)) (.var 3))))
  (.seq (.par [5, 6] [false, false] (.cons (.bin .mod (.var 1) (.var 4)) (.cons (.c (.int 0)) .nil)))
  (.seq (.while_ X_law_at_0
  B_law_at_1)
  (.seq (.set 5 (.bin .add (.var 5) (.ite (.cmp .gt (.bin .mod (.var 6) (.c (.int 10))) (.c (.int 0))) (.var 3) (.c (.int 0)))))
  (.ret (.tup (.cons (.bin .fdiv (.var 1) (.var 4)) (.cons (.var 6) (.cons (.bin .fdiv (.var 5) (.var 2)) (.cons (.bin .mod (.var 5) (.var 2)) .nil)))))))))))⟩
def X_law_low_0 : E := (.cmp .ne (.var 3) (.c (.int 0)))
def B_law_low_1 : S := (.par [2, 3] [false, false] (.cons (.var 3) (.cons (.bin .mod (.var 2) (.var 3)) .nil)))
def F_law_low : FD := ⟨2, 4, false,
  (.seq (.par [2, 3] [false, false] (.cons (.b1 .abs (.var 0)) (.cons (.var 1) .nil)))
  (.seq (.while_ X_law_low_0
  B_law_low_1)
  (.ret (.tup (.cons (.bin .fdiv (.var 0) (.var 2)) (.cons (.bin .fdiv (.var 1) (.var 2)) .nil))))))⟩
def F_law_true : FD := ⟨1, 3, false,
  (.seq (.unp (.tc (.nm 1) (.tc (.nm 2) .tn)) (.call i_law_facts (.cons (.var 0) .nil)))
  (.ret (.ite (.cmp .gt (.var 2) (.c (.int 0))) (.tup (.cons (.bin .mul (.var 1) (.c (.int 1000))) (.cons (.c (.int 1001)) .nil))) (.tup (.cons (.var 1) (.cons (.c (.int 1)) .nil))))))⟩
def X_law_places_0 : E := (.bin .add (.tup (.cons (.var 2) .nil)) (.var 3))
def B_law_places_1 : S := (.ext 1 (.lc X_law_places_0 (.nm 3) (.e (.call i_law_places (.cons (.ix (.var 0) (.var 2)) .nil))) none))
def F_law_places : FD := ⟨1, 4, false,
  (.seq (.setO 1 (.lst (.cons (.tup .nil) .nil)))
  (.seq (.ifs (.isi (.var 0) .tup)
  (.for_ (.nm 2) (.rg1 (.b1 .len (.var 0)))
  B_law_places_1)
  .skip)
  (.seq (.frz 1)
  (.ret (.var 1)))))⟩
def F_law_put : FD := ⟨3, 4, false,
  (.seq (.ifs (.cmp .eq (.var 1) (.tup .nil))
  (.ret (.var 2))
  .skip)
  (.seq (.set 3 (.ix (.var 1) (.c (.int 0))))
  (.ret (.bin .add (.bin .add (.sl (.var 0) none (some (.var 3))) (.tup (.cons (.call i_law_put (.cons (.ix (.var 0) (.var 3)) (.cons (.sl (.var 1) (some (.c (.int 1))) none) (.cons (.var 2) .nil)))) .nil))) (.sl (.var 0) (some (.bin .add (.var 3) (.c (.int 1)))) none)))))⟩
def B_law_spoilt_thing_0 : S := (.set 5 (.ix (.var 5) (.var 6)))
def F_law_spoilt_thing : FD := ⟨3, 9, false,
  (.seq (.set 3 (.call i_law_places (.cons (.var 2) .nil)))
  (.seq (.set 4 (.ix (.var 3) (.call i_law_pick (.cons (.var 0) (.cons (.var 1) (.cons (.b1 .len (.var 3)) .nil))))))
  (.seq (.set 5 (.var 2))
  (.seq (.for_ (.nm 6) (.e (.var 4))
  B_law_spoilt_thing_0)
  (.seq (.set 7 (.lst (.cons (.c (.int 0)) (.cons (.c (.int 1)) (.cons (.c (.int 23)) (.cons (.c (.int 24)) (.cons (.c (.int 25)) (.cons (.c (.int 30)) (.cons (.c (.int 59)) (.cons (.c (.int 60)) (.cons (.neg (.c (.int 1))) (.cons (.c (.bl true)) (.cons (.c .non) (.cons (.c (.str ⟨#[49]⟩)) (.cons (.tup .nil) (.cons (.tup (.cons (.c (.int 0)) (.cons (.c (.int 0)) .nil))) (.cons (.lst (.cons (.c (.int 0)) .nil)) (.cons (.tup (.cons (.var 5) .nil)) (.cons (.tup (.cons (.var 5) (.cons (.var 5) .nil))) .nil)))))))))))))))))))
  (.seq (.set 8 (.call i_law_pick (.cons (.var 0) (.cons (.bin .add (.var 1) (.c (.int 1))) (.cons (.c (.int 23)) .nil)))))
  (.seq (.ifs (.cmp .lt (.var 8) (.c (.int 17)))
  (.ret (.call i_law_put (.cons (.var 2) (.cons (.var 4) (.cons (.ix (.var 7) (.var 8)) .nil)))))
  .skip)
  (.seq (.ifs (.and (.isi (.var 5) .tup) (.cmp .ne (.var 5) (.tup .nil)))
  (.seq (.set 6 (.call i_law_pick (.cons (.var 0) (.cons (.bin .add (.var 1) (.c (.int 2))) (.cons (.b1 .len (.var 5)) .nil)))))
  (.ret (.call i_law_put (.cons (.var 2) (.cons (.var 4) (.cons (.ite (.cmp .lt (.var 8) (.c (.int 20))) (.bin .add (.sl (.var 5) none (some (.var 6))) (.sl (.var 5) (some (.bin .add (.var 6) (.c (.int 1)))) none)) (.bin .add (.sl (.var 5) none (some (.bin .add (.var 6) (.c (.int 1))))) (.sl (.var 5) (some (.var 6)) none))) .nil))))))
  .skip)
  (.ret (.call i_law_put (.cons (.var 2) (.cons (.var 4) (.cons (.ite (.isi (.var 5) .int) (.bin .sub (.bin .add (.var 5) (.var 8)) (.c (.int 20))) (.c (.int 7))) .nil)))))))))))))⟩
def B_law_is_code_0 : S := (.ifs (.or (.not (.isi (.var 2) .int)) (.or (.isi (.var 2) .bool) (.not (.chain .le .lt (.c (.int 0)) (.var 2) (.var 3)))))
  (.ret (.c (.bl false)))
  .skip)
def F_law_is_code : FD := ⟨2, 4, false,
  (.seq (.ifs (.or (.not (.isi (.var 1) .tup)) (.cmp .ne (.b1 .len (.var 1)) (.c (.int 4))))
  (.ret (.c (.bl false)))
  .skip)
  (.seq (.for_ (.tc (.nm 2) (.tc (.nm 3) .tn)) (.zip (.var 1) (.tup (.cons (.c (.int 24)) (.cons (.c (.int 60)) (.cons (.c (.int 60)) (.cons (.ix (.call i_law_facts (.cons (.var 0) .nil)) (.c (.int 0))) .nil))))))
  B_law_is_code_0)
  (.ret (.not (.call i_law_is_out (.cons (.var 0) (.cons (.var 1) .nil)))))))⟩
def F_law_word : FD := ⟨1, 2, false,
  (.seq (.setO 1 (.lst (.cons (.isi (.var 0) (.exc 2)) (.cons (.isi (.var 0) (.exc 6)) (.cons (.isi (.var 0) (.exc 3)) (.cons (.isi (.var 0) (.exc 1)) .nil))))))
  (.seq (.ext 1 (.lst (.cons (.isi (.var 0) (.exc 4)) (.cons (.isi (.var 0) (.exc 7)) (.cons (.isi (.var 0) (.exc 5)) .nil)))))
  (.seq (.ifs (.or (.cmp .ne (.m1 .count (.brw 1) (.c (.bl true))) (.c (.int 1))) (.not (.isi (.var 0) .verr)))
  (.ret (.c (.str ⟨#[119, 114, 111, 110, 103]⟩)))
  .skip)
  (.ret (.ix (.lst (.cons (.c (.str ⟨#[110, 111, 32, 99, 111, 100, 101]⟩)) (.cons (.c (.str ⟨#[110, 111, 32, 102, 105, 116]⟩)) (.cons (.c (.str ⟨#[110, 111, 32, 110, 117, 109, 98, 101, 114]⟩)) (.cons (.c (.str ⟨#[110, 111, 32, 114, 97, 116, 101]⟩)) (.cons (.c (.str ⟨#[110, 111, 32, 115, 112, 97, 110]⟩)) (.cons (.c (.str ⟨#[110, 111, 32, 116, 101, 120, 116]⟩)) (.cons (.c (.str ⟨#[116, 111, 111, 32, 102, 97, 114]⟩)) .nil)))))))) (.m1 .index (.brw 1) (.c (.bl true))))))))⟩
def F_law_do : FD := ⟨3, 6, false,
  (.seq (.set 3 (.c .non))
  (.seq (.set 4 (.c .non))
  (.seq (.tryK (.ifs (.cmp .lt (.var 0) (.c (.int 3)))
  (.set 4 (.callix [i_is_code, i_fault, i_mended] (.var 0) (.cons (.var 1) (.cons (.var 2) .nil))))
  (.set 4 (.callix [i_told_frames, i_left_out, i_true_frames, i_day_frames] (.bin .sub (.var 0) (.c (.int 3))) (.cons (.var 1) .nil)))) 0 5 3)
  (.seq (.ifs (.cmp .is (.var 3) (.c .non))
  (.ret (.var 4))
  .skip)
  (.ret (.call i_law_word (.cons (.var 3) .nil)))))))⟩
def B_law_fault_0 : S := (.ifs (.or (.not (.isi (.var 4) .int)) (.or (.isi (.var 4) .bool) (.or (.cmp .lt (.var 4) (.c (.int 0))) (.cmp .ge (.var 4) (.var 5)))))
  (.ret (.var 3))
  .skip)
def F_law_fault : FD := ⟨2, 6, false,
  (.seq (.ifs (.or (.not (.isi (.var 1) .tup)) (.cmp .ne (.b1 .len (.var 1)) (.c (.int 4))))
  (.ret (.c (.str ⟨#[115, 104, 97, 112, 101]⟩)))
  .skip)
  (.seq (.set 2 (.lst (.cons (.c (.str ⟨#[104, 111, 117, 114, 115]⟩)) (.cons (.c (.str ⟨#[109, 105, 110, 117, 116, 101, 115]⟩)) (.cons (.c (.str ⟨#[115, 101, 99, 111, 110, 100, 115]⟩)) (.cons (.c (.str ⟨#[102, 114, 97, 109, 101, 115]⟩)) .nil))))))
  (.seq (.for_ (.tc (.nm 3) (.tc (.nm 4) (.tc (.nm 5) .tn))) (.zip3 (.var 2) (.var 1) (.tup (.cons (.c (.int 24)) (.cons (.c (.int 60)) (.cons (.c (.int 60)) (.cons (.ix (.call i_law_facts (.cons (.var 0) .nil)) (.c (.int 0))) .nil))))))
  B_law_fault_0)
  (.ret (.ite (.call i_law_is_out (.cons (.var 0) (.cons (.var 1) .nil))) (.c (.str ⟨#[108, 101, 102, 116, 32, 111, 117, 116]⟩)) (.c .non))))))⟩
def X_law_k01_0 : E := (.call i_law_do (.cons (.bin .add (.c (.int 3)) (.var 4)) (.cons (.var 1) (.cons (.c .non) .nil))))
def B_law_k01_1 : S := (.seq (.set 5 (.call i_law_shape (.cons (.var 0) (.cons (.bin .add (.c (.int 20)) (.bin .mul (.c (.int 10)) (.var 4))) (.cons (.var 1) .nil)))))
  (.seq (.ifs (.cmp .gt (.var 4) (.c (.int 3)))
  (.set 5 (.call i_law_spoilt_thing (.cons (.var 0) (.cons (.bin .add (.c (.int 200)) (.bin .mul (.c (.int 5)) (.var 4))) (.cons (.var 5) .nil)))))
  .skip)
  (.seq (.set 6 (.call i_law_fault (.cons (.var 1) (.cons (.var 5) .nil))))
  (.seq (.set 7 (.call i_law_do (.cons (.c (.int 0)) (.cons (.var 1) (.cons (.var 5) .nil)))))
  (.seq (.ifs (.or (.cmp .ne (.var 7) (.cmp .is (.var 6) (.c .non))) (.or (.not (.isi (.var 7) .bool)) (.cmp .ne (.call i_law_do (.cons (.c (.int 1)) (.cons (.var 1) (.cons (.var 5) .nil)))) (.var 6))))
  (.ret (.c (.bl false)))
  .skip)
  (.seq (.set 8 (.c (.str ⟨#[110, 111, 32, 99, 111, 100, 101]⟩)))
  (.seq (.ifs (.cmp .isIn (.var 6) (.tup (.cons (.c .non) (.cons (.c (.str ⟨#[108, 101, 102, 116, 32, 111, 117, 116]⟩)) .nil))))
  (.set 8 (.ite (.cmp .is (.var 6) (.c .non)) (.var 5) (.bin .add (.sl (.var 5) none (some (.c (.int 3)))) (.tup (.cons (.var 3) .nil)))))
  .skip)
  (.ifs (.cmp .ne (.call i_law_do (.cons (.c (.int 2)) (.cons (.var 1) (.cons (.var 5) .nil)))) (.var 8))
  (.ret (.c (.bl false)))
  .skip))))))))
def X_law_k01_2 : E := (.call i_law_do (.cons (.c (.int 0)) (.cons (.var 1) (.cons (.bin .add (.bin .add (.sl (.var 9) none (some (.var 4))) (.tup (.cons (.bin .add (.ix (.var 9) (.var 4)) (.c (.int 1))) .nil))) (.sl (.var 9) (some (.bin .add (.var 4) (.c (.int 1)))) none)) .nil))))
def X_law_k01_3 : E := (.call i_law_do (.cons (.var 11) (.cons (.var 10) (.cons (.c .non) .nil))))
def F_law_k01 : FD := ⟨1, 12, false,
  (.seq (.set 1 (.call i_law_rate (.cons (.var 0) (.cons (.c (.int 0)) .nil))))
  (.seq (.unp (.tc (.nm 2) (.tc (.nm 3) .tn)) (.call i_law_facts (.cons (.var 1) .nil)))
  (.seq (.ifs (.cmp .ne (.lc X_law_k01_0 (.nm 4) (.rg1 (.c (.int 4))) none) (.lst (.cons (.var 2) (.cons (.var 3) (.cons (.call i_law_true (.cons (.var 1) .nil)) (.cons (.call i_law_day (.cons (.var 1) .nil)) .nil))))))
  (.ret (.c (.bl false)))
  .skip)
  (.seq (.for_ (.nm 4) (.rg1 (.c (.int 8)))
  B_law_k01_1)
  (.seq (.set 9 (.tup (.cons (.c (.int 23)) (.cons (.c (.int 59)) (.cons (.c (.int 59)) (.cons (.bin .sub (.var 2) (.c (.int 1))) .nil))))))
  (.seq (.set 7 (.lc X_law_k01_2 (.nm 4) (.rg1 (.c (.int 4))) none))
  (.seq (.ifs (.or (.cmp .isnot (.call i_law_do (.cons (.c (.int 0)) (.cons (.var 1) (.cons (.var 9) .nil)))) (.c (.bl true))) (.cmp .ne (.var 7) (.bin .mul (.lst (.cons (.c (.bl false)) .nil)) (.c (.int 4)))))
  (.ret (.c (.bl false)))
  .skip)
  (.seq (.set 10 (.ix (.lst (.cons (.c (.str ⟨#[]⟩)) (.cons (.c (.str ⟨#[70, 105, 108, 109]⟩)) (.cons (.c (.str ⟨#[100, 114, 111, 112, 32]⟩)) (.cons (.c .non) (.cons (.c (.int 30)) (.cons (.tup (.cons (.c (.str ⟨#[100, 114, 111, 112]⟩)) .nil)) (.cons (.c (.str ⟨#[102, 97, 115, 116, 100, 114, 111, 112]⟩)) .nil)))))))) (.call i_law_pick (.cons (.var 0) (.cons (.c (.int 1)) (.cons (.c (.int 7)) .nil))))))
  (.seq (.ifs (.or (.cmp .isnot (.call i_is_rate (.cons (.var 10) .nil)) (.c (.bl false))) (.cmp .isnot (.call i_is_rate (.cons (.var 1) .nil)) (.c (.bl true))))
  (.ret (.c (.bl false)))
  .skip)
  (.ret (.cmp .eq (.lc X_law_k01_3 (.nm 11) (.rg1 (.c (.int 7))) none) (.bin .mul (.lst (.cons (.c (.str ⟨#[110, 111, 32, 114, 97, 116, 101]⟩)) .nil)) (.c (.int 7))))))))))))))⟩
def F_look_code : FD := ⟨2, 2, false,
  (.ifs (.not (.call i_is_code (.cons (.var 0) (.cons (.var 1) .nil))))
  (.raise 2)
  .skip)⟩
def F_count_of : FD := ⟨2, 8, false,
  (.seq (.unp (.tc (.nm 2) (.tc (.nm 3) (.tc (.nm 4) (.tc (.nm 5) .tn)))) (.var 1))
  (.seq (.set 6 (.bin .add (.bin .mul (.c (.int 60)) (.var 2)) (.var 3)))
  (.seq (.set 7 (.bin .add (.bin .mul (.bin .add (.bin .mul (.c (.int 60)) (.var 6)) (.var 4)) (.ix (.gl 1) (.var 0))) (.var 5)))
  (.ret (.bin .sub (.var 7) (.bin .mul (.m2 .get (.gl 2) (.var 0) (.c (.int 0))) (.bin .sub (.var 6) (.bin .fdiv (.var 6) (.c (.int 10))))))))))⟩
def F_count : FD := ⟨2, 2, false,
  (.seq (.expr (.call i_look_code (.cons (.var 0) (.cons (.var 1) .nil))))
  (.ret (.call i_count_of (.cons (.var 0) (.cons (.var 1) .nil)))))⟩
def F_code_of : FD := ⟨2, 7, false,
  (.seq (.par [2, 3] [false, false] (.cons (.bin .fdiv (.var 1) (.call i_ten_frames (.cons (.var 0) .nil))) (.cons (.bin .mod (.var 1) (.call i_ten_frames (.cons (.var 0) .nil))) .nil)))
  (.seq (.set 4 (.m2 .get (.gl 2) (.var 0) (.c (.int 0))))
  (.seq (.set 5 (.c (.int 0)))
  (.seq (.ifs (.cmp .ge (.var 3) (.bin .mul (.c (.int 60)) (.ix (.gl 1) (.var 0))))
  (.seq (.set 5 (.bin .add (.c (.int 1)) (.bin .fdiv (.bin .sub (.var 3) (.bin .mul (.c (.int 60)) (.ix (.gl 1) (.var 0)))) (.call i_minute_frames (.cons (.var 0) .nil)))))
  (.set 3 (.bin .add (.bin .mod (.bin .sub (.var 3) (.bin .mul (.c (.int 60)) (.ix (.gl 1) (.var 0)))) (.call i_minute_frames (.cons (.var 0) .nil))) (.var 4))))
  .skip)
  (.seq (.set 6 (.bin .add (.bin .mul (.c (.int 10)) (.var 2)) (.var 5)))
  (.ret (.tup (.cons (.bin .fdiv (.var 6) (.c (.int 60))) (.cons (.bin .mod (.var 6) (.c (.int 60))) (.cons (.bin .fdiv (.var 3) (.ix (.gl 1) (.var 0))) (.cons (.bin .mod (.var 3) (.ix (.gl 1) (.var 0))) .nil)))))))))))⟩
def F_look_count : FD := ⟨2, 2, false,
  (.seq (.ifs (.or (.not (.isi (.var 1) .int)) (.isi (.var 1) .bool))
  (.raise 3)
  .skip)
  (.ifs (.not (.chain .le .lt (.c (.int 0)) (.var 1) (.call i_day_frames (.cons (.var 0) .nil))))
  (.raise 5)
  .skip))⟩
def F_code_at : FD := ⟨2, 2, false,
  (.seq (.expr (.call i_look_rate (.cons (.var 0) .nil)))
  (.seq (.expr (.call i_look_count (.cons (.var 0) (.cons (.var 1) .nil))))
  (.ret (.call i_code_of (.cons (.var 0) (.cons (.var 1) .nil))))))⟩
def F_last_code : FD := ⟨1, 1, false,
  (.ret (.call i_code_of (.cons (.var 0) (.cons (.bin .sub (.call i_day_frames (.cons (.var 0) .nil)) (.c (.int 1))) .nil))))⟩
def F_law_do_2 : FD := ⟨3, 6, false,
  (.seq (.set 3 (.c .non))
  (.seq (.set 4 (.c .non))
  (.seq (.tryK (.ifs (.cmp .lt (.var 0) (.c (.int 2)))
  (.set 4 (.ite (.cmp .eq (.var 0) (.c (.int 0))) (.call i_count (.cons (.var 1) (.cons (.var 2) .nil))) (.call i_code_at (.cons (.var 1) (.cons (.var 2) .nil)))))
  (.set 4 (.call i_last_code (.cons (.var 1) .nil)))) 0 5 3)
  (.seq (.ifs (.cmp .is (.var 3) (.c .non))
  (.ret (.var 4))
  .skip)
  (.ret (.call i_law_word (.cons (.var 3) .nil)))))))⟩
def B_law_k02_0 : S := (.seq (.set 4 (.call i_law_code (.cons (.var 0) (.cons (.bin .add (.c (.int 20)) (.bin .mul (.c (.int 10)) (.var 3))) (.cons (.var 1) .nil)))))
  (.seq (.set 5 (.call i_law_count (.cons (.var 1) (.cons (.var 4) .nil))))
  (.seq (.ifs (.or (.cmp .ne (.call i_law_do_2 (.cons (.c (.int 0)) (.cons (.var 1) (.cons (.var 4) .nil)))) (.var 5)) (.or (.cmp .ne (.call i_law_do_2 (.cons (.c (.int 1)) (.cons (.var 1) (.cons (.var 5) .nil)))) (.var 4)) (.cmp .ne (.call i_law_at (.cons (.var 1) (.cons (.var 5) .nil))) (.var 4))))
  (.ret (.c (.bl false)))
  .skip)
  (.seq (.set 5 (.ix (.lst (.cons (.call i_law_pick (.cons (.var 0) (.cons (.bin .add (.c (.int 100)) (.var 3)) (.cons (.var 2) .nil)))) (.cons (.call i_law_pick (.cons (.var 0) (.cons (.bin .add (.c (.int 100)) (.var 3)) (.cons (.c (.int 20000)) .nil)))) (.cons (.bin .sub (.var 2) (.c (.int 1))) (.cons (.c (.int 0)) (.cons (.bin .add (.var 5) (.c (.int 1))) .nil)))))) (.var 3)))
  (.seq (.set 6 (.ite (.cmp .lt (.var 5) (.var 2)) (.call i_law_at (.cons (.var 1) (.cons (.var 5) .nil))) (.c (.str ⟨#[116, 111, 111, 32, 102, 97, 114]⟩))))
  (.seq (.ifs (.or (.cmp .ne (.call i_law_do_2 (.cons (.c (.int 1)) (.cons (.var 1) (.cons (.var 5) .nil)))) (.var 6)) (.and (.cmp .ne (.var 6) (.c (.str ⟨#[116, 111, 111, 32, 102, 97, 114]⟩))) (.cmp .ne (.call i_count (.cons (.var 1) (.cons (.var 6) .nil))) (.var 5))))
  (.ret (.c (.bl false)))
  .skip)
  (.ifs (.and (.chain .lt .lt (.c (.int 0)) (.var 5) (.var 2)) (.not (.cmp .lt (.call i_code_at (.cons (.var 1) (.cons (.bin .sub (.var 5) (.c (.int 1))) .nil))) (.var 6))))
  (.ret (.c (.bl false)))
  .skip)))))))
def X_law_k02_1 : E := (.call i_code_at (.cons (.var 1) (.cons (.var 9) .nil)))
def X_law_k02_2 : E := (.call i_law_at (.cons (.var 1) (.cons (.var 9) .nil)))
def B_law_k02_3 : S := (.seq (.set 5 (.call i_law_count (.cons (.var 1) (.cons (.var 4) .nil))))
  (.seq (.set 8 (.lst (.cons (.bin .sub (.var 5) (.c (.int 1))) (.cons (.var 5) (.cons (.bin .add (.var 5) (.c (.int 1))) .nil)))))
  (.ifs (.cmp .ne (.lc X_law_k02_1 (.nm 9) (.e (.var 8)) none) (.lc X_law_k02_2 (.nm 9) (.e (.var 8)) none))
  (.ret (.c (.bl false)))
  .skip)))
def X_law_k02_4 : E := (.call i_law_do_2 (.cons (.c (.int 1)) (.cons (.var 1) (.cons (.var 10) .nil))))
def X_law_k02_5 : E := (.call i_law_do_2 (.cons (.c (.int 1)) (.cons (.var 1) (.cons (.var 10) .nil))))
def X_law_k02_6 : E := (.call i_law_do_2 (.cons (.var 12) (.cons (.c (.str ⟨#[110, 111, 110, 101]⟩)) (.cons (.c .non) .nil))))
def F_law_k02 : FD := ⟨1, 13, false,
  (.seq (.set 1 (.call i_law_rate (.cons (.var 0) (.cons (.c (.int 0)) .nil))))
  (.seq (.set 2 (.call i_law_day (.cons (.var 1) .nil)))
  (.seq (.for_ (.nm 3) (.rg1 (.c (.int 5)))
  B_law_k02_0)
  (.seq (.set 7 (.ix (.call i_law_facts (.cons (.var 1) .nil)) (.c (.int 1))))
  (.seq (.for_ (.nm 4) (.e (.tup (.cons (.tup (.cons (.c (.int 0)) (.cons (.c (.int 1)) (.cons (.c (.int 0)) (.cons (.var 7) .nil))))) (.cons (.tup (.cons (.c (.int 0)) (.cons (.c (.int 10)) (.cons (.c (.int 0)) (.cons (.c (.int 0)) .nil))))) (.cons (.tup (.cons (.c (.int 0)) (.cons (.c (.int 11)) (.cons (.c (.int 0)) (.cons (.var 7) .nil))))) (.cons (.tup (.cons (.c (.int 23)) (.cons (.c (.int 50)) (.cons (.c (.int 0)) (.cons (.c (.int 0)) .nil))))) (.cons (.tup (.cons (.c (.int 1)) (.cons (.c (.int 0)) (.cons (.c (.int 0)) (.cons (.c (.int 0)) .nil))))) .nil)))))))
  B_law_k02_3)
  (.seq (.ifs (.cmp .ne (.call i_law_do_2 (.cons (.c (.int 2)) (.cons (.var 1) (.cons (.c .non) .nil)))) (.tup (.cons (.c (.int 23)) (.cons (.c (.int 59)) (.cons (.c (.int 59)) (.cons (.bin .sub (.ix (.call i_law_facts (.cons (.var 1) .nil)) (.c (.int 0))) (.c (.int 1))) .nil))))))
  (.ret (.c (.bl false)))
  .skip)
  (.seq (.ifs (.cmp .ne (.lc X_law_k02_4 (.nm 10) (.e (.tup (.cons (.neg (.c (.int 1))) (.cons (.var 2) (.cons (.bin .add (.var 2) (.c (.int 5))) .nil))))) none) (.bin .mul (.lst (.cons (.c (.str ⟨#[116, 111, 111, 32, 102, 97, 114]⟩)) .nil)) (.c (.int 3))))
  (.ret (.c (.bl false)))
  .skip)
  (.seq (.ifs (.cmp .ne (.lc X_law_k02_5 (.nm 10) (.e (.tup (.cons (.c .non) (.cons (.c (.bl true)) (.cons (.c (.str ⟨#[49]⟩)) (.cons (.tup (.cons (.c (.int 0)) .nil)) .nil)))))) none) (.bin .mul (.lst (.cons (.c (.str ⟨#[110, 111, 32, 110, 117, 109, 98, 101, 114]⟩)) .nil)) (.c (.int 4))))
  (.ret (.c (.bl false)))
  .skip)
  (.seq (.set 11 (.call i_law_spoilt_thing (.cons (.var 0) (.cons (.c (.int 300)) (.cons (.call i_law_code (.cons (.var 0) (.cons (.c (.int 80)) (.cons (.var 1) .nil)))) .nil)))))
  (.seq (.ifs (.and (.not (.call i_law_is_code (.cons (.var 1) (.cons (.var 11) .nil)))) (.cmp .ne (.call i_law_do_2 (.cons (.c (.int 0)) (.cons (.var 1) (.cons (.var 11) .nil)))) (.c (.str ⟨#[110, 111, 32, 99, 111, 100, 101]⟩))))
  (.ret (.c (.bl false)))
  .skip)
  (.ret (.cmp .eq (.lc X_law_k02_6 (.nm 12) (.rg1 (.c (.int 3))) none) (.bin .mul (.lst (.cons (.c (.str ⟨#[110, 111, 32, 114, 97, 116, 101]⟩)) .nil)) (.c (.int 3)))))))))))))))⟩
def F_look_by : FD := ⟨1, 1, false,
  (.ifs (.or (.not (.isi (.var 0) .int)) (.isi (.var 0) .bool))
  (.raise 3)
  .skip)⟩
def F_later : FD := ⟨3, 3, false,
  (.seq (.expr (.call i_look_code (.cons (.var 0) (.cons (.var 1) .nil))))
  (.seq (.expr (.call i_look_by (.cons (.var 2) .nil)))
  (.ret (.call i_code_at (.cons (.var 0) (.cons (.bin .add (.call i_count_of (.cons (.var 0) (.cons (.var 1) .nil))) (.var 2)) .nil))))))⟩
def F_round_later : FD := ⟨3, 3, false,
  (.seq (.expr (.call i_look_code (.cons (.var 0) (.cons (.var 1) .nil))))
  (.seq (.expr (.call i_look_by (.cons (.var 2) .nil)))
  (.ret (.call i_code_of (.cons (.var 0) (.cons (.bin .mod (.bin .add (.call i_count_of (.cons (.var 0) (.cons (.var 1) .nil))) (.var 2)) (.call i_day_frames (.cons (.var 0) .nil))) .nil))))))⟩
def F_between : FD := ⟨3, 3, false,
  (.seq (.expr (.call i_look_code (.cons (.var 0) (.cons (.var 1) .nil))))
  (.seq (.expr (.call i_look_code (.cons (.var 0) (.cons (.var 2) .nil))))
  (.ret (.bin .sub (.call i_count_of (.cons (.var 0) (.cons (.var 2) .nil))) (.call i_count_of (.cons (.var 0) (.cons (.var 1) .nil)))))))⟩
def F_law_do_3 : FD := ⟨4, 7, false,
  (.seq (.set 4 (.c .non))
  (.seq (.set 5 (.c .non))
  (.seq (.tryK (.set 5 (.callix [i_later, i_round_later, i_between] (.var 0) (.cons (.var 1) (.cons (.var 2) (.cons (.var 3) .nil))))) 0 6 4)
  (.seq (.ifs (.cmp .is (.var 4) (.c .non))
  (.ret (.var 5))
  .skip)
  (.ret (.call i_law_word (.cons (.var 4) .nil)))))))⟩
def X_law_k03_0 : E := (.call i_law_do_3 (.cons (.var 12) (.cons (.var 1) (.cons (.var 3) (.cons (.var 11) .nil)))))
def X_law_k03_1 : E := (.call i_law_do_3 (.cons (.var 12) (.cons (.var 1) (.cons (.var 13) (.cons (.c .non) .nil)))))
def X_law_k03_2 : E := (.call i_law_do_3 (.cons (.var 12) (.cons (.c .non) (.cons (.c .non) (.cons (.c .non) .nil)))))
def F_law_k03 : FD := ⟨1, 15, false,
  (.seq (.set 1 (.call i_law_rate (.cons (.var 0) (.cons (.c (.int 0)) .nil))))
  (.seq (.set 2 (.call i_law_day (.cons (.var 1) .nil)))
  (.seq (.par [3, 4] [false, false] (.cons (.call i_law_code (.cons (.var 0) (.cons (.c (.int 20)) (.cons (.var 1) .nil)))) (.cons (.call i_law_code (.cons (.var 0) (.cons (.c (.int 30)) (.cons (.var 1) .nil)))) .nil)))
  (.seq (.set 5 (.bin .mul (.call i_law_pick (.cons (.var 0) (.cons (.c (.int 1)) (.cons (.ix (.lst (.cons (.c (.int 10)) (.cons (.c (.int 4000)) (.cons (.bin .mul (.c (.int 3)) (.var 2)) .nil)))) (.call i_law_pick (.cons (.var 0) (.cons (.c (.int 2)) (.cons (.c (.int 3)) .nil))))) .nil)))) (.bin .sub (.c (.int 1)) (.bin .mul (.c (.int 2)) (.call i_law_pick (.cons (.var 0) (.cons (.c (.int 3)) (.cons (.c (.int 2)) .nil))))))))
  (.seq (.set 6 (.call i_law_count (.cons (.var 1) (.cons (.var 3) .nil))))
  (.seq (.set 7 (.ite (.chain .le .lt (.c (.int 0)) (.bin .add (.var 6) (.var 5)) (.var 2)) (.call i_law_at (.cons (.var 1) (.cons (.bin .add (.var 6) (.var 5)) .nil))) (.c (.str ⟨#[116, 111, 111, 32, 102, 97, 114]⟩))))
  (.seq (.set 8 (.call i_law_at (.cons (.var 1) (.cons (.bin .mod (.bin .add (.var 6) (.var 5)) (.var 2)) .nil))))
  (.seq (.ifs (.or (.cmp .ne (.call i_law_do_3 (.cons (.c (.int 0)) (.cons (.var 1) (.cons (.var 3) (.cons (.var 5) .nil))))) (.var 7)) (.cmp .ne (.call i_law_do_3 (.cons (.c (.int 1)) (.cons (.var 1) (.cons (.var 3) (.cons (.var 5) .nil))))) (.var 8)))
  (.ret (.c (.bl false)))
  .skip)
  (.seq (.set 9 (.call i_law_do_3 (.cons (.c (.int 2)) (.cons (.var 1) (.cons (.var 3) (.cons (.var 4) .nil))))))
  (.seq (.ifs (.or (.cmp .ne (.var 9) (.bin .sub (.call i_law_count (.cons (.var 1) (.cons (.var 4) .nil))) (.var 6))) (.cmp .ne (.call i_later (.cons (.var 1) (.cons (.var 3) (.cons (.var 9) .nil)))) (.var 4)))
  (.ret (.c (.bl false)))
  .skip)
  (.seq (.ifs (.cmp .ne (.call i_between (.cons (.var 1) (.cons (.var 4) (.cons (.var 3) .nil)))) (.bin .sub (.c (.int 0)) (.var 9)))
  (.ret (.c (.bl false)))
  .skip)
  (.seq (.set 10 (.bin .sub (.call i_law_pick (.cons (.var 0) (.cons (.c (.int 4)) (.cons (.c (.int 5000)) .nil)))) (.c (.int 2500))))
  (.seq (.ifs (.cmp .ne (.call i_round_later (.cons (.var 1) (.cons (.call i_round_later (.cons (.var 1) (.cons (.var 3) (.cons (.var 5) .nil)))) (.cons (.var 10) .nil)))) (.call i_round_later (.cons (.var 1) (.cons (.var 3) (.cons (.bin .add (.var 5) (.var 10)) .nil)))))
  (.ret (.c (.bl false)))
  .skip)
  (.seq (.ifs (.or (.cmp .ne (.call i_round_later (.cons (.var 1) (.cons (.var 3) (.cons (.var 2) .nil)))) (.var 3)) (.cmp .ne (.call i_round_later (.cons (.var 1) (.cons (.call i_round_later (.cons (.var 1) (.cons (.var 3) (.cons (.var 5) .nil)))) (.cons (.bin .sub (.c (.int 0)) (.var 5)) .nil)))) (.var 3)))
  (.ret (.c (.bl false)))
  .skip)
  (.seq (.ifs (.and (.cmp .ne (.var 7) (.c (.str ⟨#[116, 111, 111, 32, 102, 97, 114]⟩))) (.cmp .ne (.call i_count (.cons (.var 1) (.cons (.var 7) .nil))) (.bin .add (.var 6) (.var 5))))
  (.ret (.c (.bl false)))
  .skip)
  (.seq (.ifs (.and (.cmp .ne (.var 7) (.c (.str ⟨#[116, 111, 111, 32, 102, 97, 114]⟩))) (.cmp .ne (.call i_later (.cons (.var 1) (.cons (.var 7) (.cons (.bin .sub (.c (.int 0)) (.var 5)) .nil)))) (.var 3)))
  (.ret (.c (.bl false)))
  .skip)
  (.seq (.set 11 (.ix (.lst (.cons (.c .non) (.cons (.c (.bl true)) (.cons (.c (.str ⟨#[49]⟩)) (.cons (.tup (.cons (.c (.int 1)) .nil)) .nil))))) (.call i_law_pick (.cons (.var 0) (.cons (.c (.int 5)) (.cons (.c (.int 4)) .nil))))))
  (.seq (.ifs (.cmp .ne (.lc X_law_k03_0 (.nm 12) (.rg1 (.c (.int 2))) none) (.bin .mul (.lst (.cons (.c (.str ⟨#[110, 111, 32, 110, 117, 109, 98, 101, 114]⟩)) .nil)) (.c (.int 2))))
  (.ret (.c (.bl false)))
  .skip)
  (.seq (.set 13 (.call i_law_spoilt_thing (.cons (.var 0) (.cons (.c (.int 300)) (.cons (.var 3) .nil)))))
  (.seq (.ifs (.not (.call i_law_is_code (.cons (.var 1) (.cons (.var 13) .nil))))
  (.seq (.set 14 (.bin .add (.lc X_law_k03_1 (.nm 12) (.rg1 (.c (.int 3))) none) (.lst (.cons (.call i_law_do_3 (.cons (.c (.int 2)) (.cons (.var 1) (.cons (.var 3) (.cons (.var 13) .nil))))) .nil))))
  (.ifs (.cmp .ne (.var 14) (.bin .mul (.lst (.cons (.c (.str ⟨#[110, 111, 32, 99, 111, 100, 101]⟩)) .nil)) (.c (.int 4))))
  (.ret (.c (.bl false)))
  .skip))
  .skip)
  (.ret (.cmp .eq (.lc X_law_k03_2 (.nm 12) (.rg1 (.c (.int 3))) none) (.bin .mul (.lst (.cons (.c (.str ⟨#[110, 111, 32, 114, 97, 116, 101]⟩)) .nil)) (.c (.int 3)))))))))))))))))))))))))⟩
def X_share_0 : E := (.cmp .ne (.var 3) (.c (.int 0)))
def B_share_1 : S := (.par [2, 3] [false, false] (.cons (.var 3) (.cons (.bin .mod (.var 2) (.var 3)) .nil)))
def F_share : FD := ⟨2, 4, false,
  (.seq (.par [2, 3] [false, false] (.cons (.b1 .abs (.var 0)) (.cons (.var 1) .nil)))
  (.seq (.while_ X_share_0
  B_share_1)
  (.ret (.tup (.cons (.bin .fdiv (.var 0) (.var 2)) (.cons (.bin .fdiv (.var 1) (.var 2)) .nil))))))⟩
def F_seconds_at : FD := ⟨2, 4, false,
  (.seq (.unp (.tc (.nm 2) (.tc (.nm 3) .tn)) (.call i_true_frames (.cons (.var 0) .nil)))
  (.ret (.call i_share (.cons (.bin .mul (.var 1) (.var 3)) (.cons (.var 2) .nil)))))⟩
def F_true_time : FD := ⟨2, 2, false,
  (.seq (.expr (.call i_look_code (.cons (.var 0) (.cons (.var 1) .nil))))
  (.ret (.call i_seconds_at (.cons (.var 0) (.cons (.call i_count_of (.cons (.var 0) (.cons (.var 1) .nil))) .nil)))))⟩
def F_told_time : FD := ⟨1, 1, false,
  (.ret (.bin .add (.bin .add (.bin .mul (.c (.int 3600)) (.ix (.var 0) (.c (.int 0)))) (.bin .mul (.c (.int 60)) (.ix (.var 0) (.c (.int 1))))) (.ix (.var 0) (.c (.int 2)))))⟩
def F_told_frames_of : FD := ⟨1, 3, false,
  (.seq (.unp (.tc (.nm 1) (.tc (.nm 2) .tn)) (.call i_true_frames (.cons (.var 0) .nil)))
  (.ret (.ite (.cmp .eq (.var 2) (.c (.int 1))) (.var 1) (.bin .fdiv (.var 1) (.c (.int 1000))))))⟩
def F_drift : FD := ⟨2, 5, false,
  (.seq (.expr (.call i_look_code (.cons (.var 0) (.cons (.var 1) .nil))))
  (.seq (.unp (.tc (.nm 2) (.tc (.nm 3) .tn)) (.call i_true_time (.cons (.var 0) (.cons (.var 1) .nil))))
  (.seq (.set 4 (.call i_told_frames_of (.cons (.var 0) .nil)))
  (.ret (.call i_share (.cons (.bin .sub (.bin .mul (.var 2) (.var 4)) (.bin .mul (.bin .add (.bin .mul (.call i_told_time (.cons (.var 1) .nil)) (.var 4)) (.ix (.var 1) (.c (.int 3)))) (.var 3))) (.cons (.bin .mul (.var 3) (.var 4)) .nil)))))))⟩
def F_look_way : FD := ⟨1, 1, false,
  (.ifs (.or (.not (.isi (.var 0) .str)) (.cmp .notIn (.var 0) (.gl 4)))
  (.raise 3)
  .skip)⟩
def F_rounded : FD := ⟨3, 3, false,
  (.seq (.ifs (.cmp .eq (.var 2) (.c (.str ⟨#[100, 111, 119, 110]⟩)))
  (.ret (.bin .fdiv (.var 0) (.var 1)))
  .skip)
  (.seq (.ifs (.cmp .eq (.var 2) (.c (.str ⟨#[117, 112]⟩)))
  (.ret (.bin .sub (.c (.int 0)) (.bin .fdiv (.bin .sub (.c (.int 0)) (.var 0)) (.var 1))))
  .skip)
  (.ret (.bin .fdiv (.bin .add (.bin .mul (.c (.int 2)) (.var 0)) (.var 1)) (.bin .mul (.c (.int 2)) (.var 1))))))⟩
def F_frames_at : FD := ⟨3, 5, false,
  (.seq (.unp (.tc (.nm 3) (.tc (.nm 4) .tn)) (.call i_true_frames (.cons (.var 0) .nil)))
  (.ret (.call i_rounded (.cons (.bin .mul (.ix (.var 1) (.c (.int 0))) (.var 3)) (.cons (.bin .mul (.ix (.var 1) (.c (.int 1))) (.var 4)) (.cons (.var 2) .nil))))))⟩
def F_led : FD := ⟨4, 5, false,
  (.seq (.expr (.call i_look_code (.cons (.var 0) (.cons (.var 1) .nil))))
  (.seq (.expr (.call i_look_rate (.cons (.var 2) .nil)))
  (.seq (.expr (.call i_look_way (.cons (.var 3) .nil)))
  (.seq (.set 4 (.call i_frames_at (.cons (.var 2) (.cons (.call i_true_time (.cons (.var 0) (.cons (.var 1) .nil))) (.cons (.var 3) .nil)))))
  (.seq (.ifs (.cmp .ge (.var 4) (.call i_day_frames (.cons (.var 2) .nil)))
  (.raise 5)
  .skip)
  (.ret (.call i_code_of (.cons (.var 2) (.cons (.var 4) .nil)))))))))⟩
def F_is_exact : FD := ⟨3, 4, false,
  (.seq (.expr (.call i_look_code (.cons (.var 0) (.cons (.var 1) .nil))))
  (.seq (.expr (.call i_look_rate (.cons (.var 2) .nil)))
  (.seq (.set 3 (.call i_true_time (.cons (.var 0) (.cons (.var 1) .nil))))
  (.ret (.cmp .eq (.call i_frames_at (.cons (.var 2) (.cons (.var 3) (.cons (.c (.str ⟨#[100, 111, 119, 110]⟩)) .nil)))) (.call i_frames_at (.cons (.var 2) (.cons (.var 3) (.cons (.c (.str ⟨#[117, 112]⟩)) .nil)))))))))⟩
def F_exact_step : FD := ⟨2, 4, false,
  (.seq (.expr (.call i_look_rate (.cons (.var 0) .nil)))
  (.seq (.expr (.call i_look_rate (.cons (.var 1) .nil)))
  (.seq (.par [2, 3] [false, false] (.cons (.call i_true_frames (.cons (.var 0) .nil)) (.cons (.call i_true_frames (.cons (.var 1) .nil)) .nil)))
  (.ret (.ix (.call i_share (.cons (.bin .mul (.ix (.var 2) (.c (.int 0))) (.ix (.var 3) (.c (.int 1)))) (.cons (.bin .mul (.ix (.var 2) (.c (.int 1))) (.ix (.var 3) (.c (.int 0)))) .nil))) (.c (.int 0)))))))⟩
def X_is_time_0 : E := (.and (.isi (.var 1) .int) (.not (.isi (.var 1) .bool)))
def F_is_time : FD := ⟨1, 2, false,
  (.seq (.ifs (.or (.not (.isi (.var 0) .tup)) (.cmp .ne (.b1 .len (.var 0)) (.c (.int 2))))
  (.ret (.c (.bl false)))
  .skip)
  (.seq (.ifs (.not (.b1 .all (.lc X_is_time_0 (.nm 1) (.e (.var 0)) none)))
  (.ret (.c (.bl false)))
  .skip)
  (.ret (.and (.cmp .ge (.ix (.var 0) (.c (.int 0))) (.c (.int 0))) (.and (.cmp .gt (.ix (.var 0) (.c (.int 1))) (.c (.int 0))) (.cmp .eq (.call i_share (.cons (.ix (.var 0) (.c (.int 0))) (.cons (.ix (.var 0) (.c (.int 1))) .nil))) (.var 0)))))))⟩
def F_code_at_time : FD := ⟨3, 4, false,
  (.seq (.expr (.call i_look_rate (.cons (.var 0) .nil)))
  (.seq (.expr (.call i_look_way (.cons (.var 2) .nil)))
  (.seq (.ifs (.not (.call i_is_time (.cons (.var 1) .nil)))
  (.raise 3)
  .skip)
  (.seq (.set 3 (.call i_frames_at (.cons (.var 0) (.cons (.var 1) (.cons (.var 2) .nil)))))
  (.seq (.ifs (.cmp .ge (.var 3) (.call i_day_frames (.cons (.var 0) .nil)))
  (.raise 5)
  .skip)
  (.ret (.call i_code_of (.cons (.var 0) (.cons (.var 3) .nil)))))))))⟩
def F_law_do_4 : FD := ⟨5, 8, false,
  (.seq (.set 5 (.c .non))
  (.seq (.set 6 (.c .non))
  (.seq (.tryK (.ifs (.cmp .lt (.var 0) (.c (.int 2)))
  (.set 6 (.callix [i_true_time, i_drift] (.var 0) (.cons (.var 1) (.cons (.var 2) .nil))))
  (.ifs (.cmp .lt (.var 0) (.c (.int 4)))
  (.set 6 (.ite (.cmp .eq (.var 0) (.c (.int 2))) (.call i_led (.cons (.var 1) (.cons (.var 2) (.cons (.var 3) (.cons (.var 4) .nil))))) (.call i_is_exact (.cons (.var 1) (.cons (.var 2) (.cons (.var 3) .nil))))))
  (.set 6 (.ite (.cmp .eq (.var 0) (.c (.int 4))) (.call i_exact_step (.cons (.var 1) (.cons (.var 3) .nil))) (.call i_code_at_time (.cons (.var 1) (.cons (.var 2) (.cons (.var 4) .nil)))))))) 0 7 5)
  (.seq (.ifs (.cmp .is (.var 5) (.c .non))
  (.ret (.var 6))
  .skip)
  (.ret (.call i_law_word (.cons (.var 5) .nil)))))))⟩
def F_law_rounded : FD := ⟨3, 4, false,
  (.seq (.set 3 (.bin .fdiv (.var 0) (.var 1)))
  (.seq (.ifs (.or (.and (.cmp .eq (.var 2) (.c (.str ⟨#[117, 112]⟩))) (.cmp .lt (.bin .mul (.var 3) (.var 1)) (.var 0))) (.and (.cmp .eq (.var 2) (.c (.str ⟨#[110, 101, 97, 114]⟩))) (.cmp .ge (.bin .mul (.c (.int 2)) (.bin .sub (.var 0) (.bin .mul (.var 3) (.var 1)))) (.var 1))))
  (.set 3 (.bin .add (.var 3) (.c (.int 1))))
  .skip)
  (.ret (.var 3))))⟩
def X_law_refuses_0 : E := (.call i_law_do_4 (.cons (.c (.int 2)) (.cons (.c (.str ⟨#[102, 105, 108, 109]⟩)) (.cons (.var 4) (.cons (.c (.str ⟨#[100, 114, 111, 112]⟩)) (.cons (.var 6) .nil))))))
def X_law_refuses_1 : E := (.call i_law_do_4 (.cons (.var 9) (.cons (.var 1) (.cons (.var 8) (.cons (.c .non) (.cons (.c .non) .nil))))))
def X_law_refuses_2 : E := (.call i_law_do_4 (.cons (.var 9) (.cons (.var 1) (.cons (.var 2) (.cons (.c (.str ⟨#[110, 111, 110, 101]⟩)) (.cons (.c .non) .nil))))))
def X_law_refuses_3 : E := (.call i_law_do_4 (.cons (.var 9) (.cons (.c (.str ⟨#[110, 111, 110, 101]⟩)) (.cons (.c .non) (.cons (.c .non) (.cons (.c .non) .nil))))))
def F_law_refuses : FD := ⟨4, 10, false,
  (.seq (.set 4 (.tup (.cons (.c (.int 23)) (.cons (.c (.int 59)) (.cons (.c (.int 59)) (.cons (.c (.int 23)) .nil))))))
  (.seq (.setO 5 (.lc X_law_refuses_0 (.nm 6) (.e (.tup (.cons (.c (.str ⟨#[100, 111, 119, 110]⟩)) (.cons (.c (.str ⟨#[117, 112]⟩)) (.cons (.c (.str ⟨#[110, 101, 97, 114]⟩)) .nil))))) none))
  (.seq (.app 5 (.call i_law_do_4 (.cons (.c (.int 2)) (.cons (.c (.str ⟨#[112, 108, 97, 105, 110]⟩)) (.cons (.tup (.cons (.c (.int 23)) (.cons (.c (.int 59)) (.cons (.c (.int 59)) (.cons (.c (.int 29)) .nil))))) (.cons (.c (.str ⟨#[102, 105, 108, 109]⟩)) (.cons (.c (.str ⟨#[117, 112]⟩)) .nil)))))))
  (.seq (.ifs (.or (.cmp .ne (.brw 5) (.bin .mul (.lst (.cons (.c (.str ⟨#[116, 111, 111, 32, 102, 97, 114]⟩)) .nil)) (.c (.int 4)))) (.or (.call i_is_exact (.cons (.c (.str ⟨#[102, 105, 108, 109]⟩)) (.cons (.var 4) (.cons (.c (.str ⟨#[100, 114, 111, 112]⟩)) .nil)))) (.not (.call i_is_exact (.cons (.c (.str ⟨#[102, 105, 108, 109]⟩)) (.cons (.var 4) (.cons (.c (.str ⟨#[102, 105, 108, 109]⟩)) .nil)))))))
  (.ret (.c (.bl false)))
  .skip)
  (.seq (.set 7 (.ix (.lst (.cons (.c (.str ⟨#[]⟩)) (.cons (.c (.str ⟨#[85, 112]⟩)) (.cons (.c .non) (.cons (.c (.int 1)) .nil))))) (.call i_law_pick (.cons (.var 0) (.cons (.c (.int 5)) (.cons (.c (.int 4)) .nil))))))
  (.seq (.ifs (.cmp .ne (.lst (.cons (.call i_law_do_4 (.cons (.c (.int 2)) (.cons (.var 1) (.cons (.var 2) (.cons (.var 3) (.cons (.var 7) .nil)))))) (.cons (.call i_law_do_4 (.cons (.c (.int 5)) (.cons (.var 1) (.cons (.tup (.cons (.c (.int 1)) (.cons (.c (.int 2)) .nil))) (.cons (.c .non) (.cons (.var 7) .nil)))))) .nil))) (.bin .mul (.lst (.cons (.c (.str ⟨#[110, 111, 32, 110, 117, 109, 98, 101, 114]⟩)) .nil)) (.c (.int 2))))
  (.ret (.c (.bl false)))
  .skip)
  (.seq (.set 7 (.ix (.lst (.cons (.c .non) (.cons (.tup (.cons (.c (.int 2)) (.cons (.c (.int 4)) .nil))) (.cons (.tup (.cons (.c (.int 1)) (.cons (.c (.int 0)) .nil))) (.cons (.tup (.cons (.neg (.c (.int 1))) (.cons (.c (.int 2)) .nil))) (.cons (.c (.int 5)) (.cons (.tup (.cons (.c (.int 1)) (.cons (.c (.int 2)) (.cons (.c (.int 3)) .nil)))) (.cons (.tup (.cons (.c (.bl true)) (.cons (.c (.int 1)) .nil))) (.cons (.tup (.cons (.c (.int 0)) (.cons (.c (.int 2)) .nil))) .nil))))))))) (.call i_law_pick (.cons (.var 0) (.cons (.c (.int 6)) (.cons (.c (.int 8)) .nil))))))
  (.seq (.ifs (.or (.cmp .ne (.call i_law_do_4 (.cons (.c (.int 5)) (.cons (.var 1) (.cons (.var 7) (.cons (.c .non) (.cons (.c (.str ⟨#[117, 112]⟩)) .nil)))))) (.c (.str ⟨#[110, 111, 32, 110, 117, 109, 98, 101, 114]⟩))) (.cmp .ne (.call i_law_do_4 (.cons (.c (.int 5)) (.cons (.var 1) (.cons (.tup (.cons (.bin .pow (.c (.int 10)) (.c (.int 7))) (.cons (.c (.int 1)) .nil))) (.cons (.c .non) (.cons (.c (.str ⟨#[117, 112]⟩)) .nil)))))) (.c (.str ⟨#[116, 111, 111, 32, 102, 97, 114]⟩))))
  (.ret (.c (.bl false)))
  .skip)
  (.seq (.set 8 (.call i_law_spoilt_thing (.cons (.var 0) (.cons (.c (.int 300)) (.cons (.var 2) .nil)))))
  (.seq (.setO 5 (.lc X_law_refuses_1 (.nm 9) (.rg1 (.c (.int 4))) none))
  (.seq (.ifs (.and (.not (.call i_law_is_code (.cons (.var 1) (.cons (.var 8) .nil)))) (.cmp .ne (.brw 5) (.bin .mul (.lst (.cons (.c (.str ⟨#[110, 111, 32, 99, 111, 100, 101]⟩)) .nil)) (.c (.int 4)))))
  (.ret (.c (.bl false)))
  .skip)
  (.seq (.ifs (.cmp .ne (.lc X_law_refuses_2 (.nm 9) (.e (.tup (.cons (.c (.int 2)) (.cons (.c (.int 3)) (.cons (.c (.int 4)) .nil))))) none) (.bin .mul (.lst (.cons (.c (.str ⟨#[110, 111, 32, 114, 97, 116, 101]⟩)) .nil)) (.c (.int 3))))
  (.ret (.c (.bl false)))
  .skip)
  (.ret (.cmp .eq (.lc X_law_refuses_3 (.nm 9) (.rg1 (.c (.int 6))) none) (.bin .mul (.lst (.cons (.c (.str ⟨#[110, 111, 32, 114, 97, 116, 101]⟩)) .nil)) (.c (.int 6)))))))))))))))))⟩
def X_law_k10_0 : E := (.call i_law_do_4 (.cons (.c (.int 5)) (.cons (.var 1) (.cons (.call i_law_low (.cons (.bin .mul (.bin .sub (.var 18) (.var 19)) (.var 6)) (.cons (.var 5) .nil))) (.cons (.c .non) (.cons (.var 3) .nil))))))
def F_law_k10 : FD := ⟨1, 20, false,
  (.seq (.par [1, 2] [false, false] (.cons (.call i_law_rate (.cons (.var 0) (.cons (.c (.int 0)) .nil))) (.cons (.call i_law_rate (.cons (.var 0) (.cons (.c (.int 1)) .nil))) .nil)))
  (.seq (.set 3 (.ix (.lst (.cons (.c (.str ⟨#[100, 111, 119, 110]⟩)) (.cons (.c (.str ⟨#[117, 112]⟩)) (.cons (.c (.str ⟨#[110, 101, 97, 114]⟩)) .nil)))) (.call i_law_pick (.cons (.var 0) (.cons (.c (.int 2)) (.cons (.c (.int 3)) .nil))))))
  (.seq (.set 4 (.call i_law_code (.cons (.var 0) (.cons (.c (.int 20)) (.cons (.var 1) .nil)))))
  (.seq (.unp (.tc (.tc (.nm 5) (.tc (.nm 6) .tn)) (.tc (.tc (.nm 7) (.tc (.nm 8) .tn)) .tn)) (.tup (.cons (.call i_law_true (.cons (.var 1) .nil)) (.cons (.call i_law_true (.cons (.var 2) .nil)) .nil))))
  (.seq (.set 9 (.call i_law_low (.cons (.bin .mul (.call i_law_count (.cons (.var 1) (.cons (.var 4) .nil))) (.var 6)) (.cons (.var 5) .nil))))
  (.seq (.set 10 (.ix (.call i_law_facts (.cons (.var 1) .nil)) (.c (.int 0))))
  (.seq (.set 11 (.bin .add (.bin .mul (.bin .add (.bin .mul (.bin .add (.bin .mul (.ix (.var 4) (.c (.int 0))) (.c (.int 60))) (.ix (.var 4) (.c (.int 1)))) (.c (.int 60))) (.ix (.var 4) (.c (.int 2)))) (.var 10)) (.ix (.var 4) (.c (.int 3)))))
  (.seq (.set 12 (.call i_law_low (.cons (.bin .sub (.bin .mul (.ix (.var 9) (.c (.int 0))) (.var 10)) (.bin .mul (.var 11) (.ix (.var 9) (.c (.int 1))))) (.cons (.bin .mul (.ix (.var 9) (.c (.int 1))) (.var 10)) .nil))))
  (.seq (.ifs (.or (.cmp .ne (.call i_law_do_4 (.cons (.c (.int 0)) (.cons (.var 1) (.cons (.var 4) (.cons (.c .non) (.cons (.c .non) .nil)))))) (.var 9)) (.cmp .ne (.call i_law_do_4 (.cons (.c (.int 1)) (.cons (.var 1) (.cons (.var 4) (.cons (.c .non) (.cons (.c .non) .nil)))))) (.var 12)))
  (.ret (.c (.bl false)))
  .skip)
  (.seq (.ifs (.or (.cmp .ge (.bin .mul (.b1 .abs (.ix (.var 12) (.c (.int 0)))) (.c (.int 5))) (.ix (.var 12) (.c (.int 1)))) (.and (.cmp .eq (.ix (.call i_law_facts (.cons (.var 1) .nil)) (.c (.int 1))) (.c (.int 0))) (.cmp .ne (.var 12) (.tup (.cons (.c (.int 0)) (.cons (.c (.int 1)) .nil))))))
  (.ret (.c (.bl false)))
  .skip)
  (.seq (.set 13 (.call i_law_rounded (.cons (.bin .mul (.ix (.var 9) (.c (.int 0))) (.var 7)) (.cons (.bin .mul (.ix (.var 9) (.c (.int 1))) (.var 8)) (.cons (.var 3) .nil)))))
  (.seq (.set 14 (.ite (.cmp .lt (.var 13) (.call i_law_day (.cons (.var 2) .nil))) (.call i_law_at (.cons (.var 2) (.cons (.var 13) .nil))) (.c (.str ⟨#[116, 111, 111, 32, 102, 97, 114]⟩))))
  (.seq (.ifs (.or (.cmp .ne (.call i_law_do_4 (.cons (.c (.int 2)) (.cons (.var 1) (.cons (.var 4) (.cons (.var 2) (.cons (.var 3) .nil)))))) (.var 14)) (.cmp .ne (.call i_led (.cons (.var 1) (.cons (.var 4) (.cons (.var 1) (.cons (.var 3) .nil))))) (.var 4)))
  (.ret (.c (.bl false)))
  .skip)
  (.seq (.set 15 (.cmp .eq (.bin .mod (.bin .mul (.ix (.var 9) (.c (.int 0))) (.var 7)) (.bin .mul (.ix (.var 9) (.c (.int 1))) (.var 8))) (.c (.int 0))))
  (.seq (.ifs (.or (.cmp .ne (.call i_law_do_4 (.cons (.c (.int 5)) (.cons (.var 2) (.cons (.var 9) (.cons (.c .non) (.cons (.var 3) .nil)))))) (.var 14)) (.cmp .ne (.call i_law_do_4 (.cons (.c (.int 3)) (.cons (.var 1) (.cons (.var 4) (.cons (.var 2) (.cons (.c .non) .nil)))))) (.var 15)))
  (.ret (.c (.bl false)))
  .skip)
  (.seq (.set 16 (.call i_law_do_4 (.cons (.c (.int 4)) (.cons (.var 1) (.cons (.c .non) (.cons (.var 2) (.cons (.c .non) .nil)))))))
  (.seq (.ifs (.or (.cmp .ne (.var 16) (.ix (.call i_law_low (.cons (.bin .mul (.var 5) (.var 8)) (.cons (.bin .mul (.var 6) (.var 7)) .nil))) (.c (.int 0)))) (.cmp .ne (.bin .mod (.bin .mul (.bin .mul (.var 16) (.var 6)) (.var 7)) (.bin .mul (.var 5) (.var 8))) (.c (.int 0))))
  (.ret (.c (.bl false)))
  .skip)
  (.seq (.set 17 (.tup (.cons (.call i_law_pick (.cons (.var 0) (.cons (.c (.int 3)) (.cons (.bin .pow (.c (.int 10)) (.c (.int 6))) .nil)))) (.cons (.bin .add (.c (.int 1)) (.call i_law_pick (.cons (.var 0) (.cons (.c (.int 4)) (.cons (.c (.int 99)) .nil))))) .nil))))
  (.seq (.set 17 (.call i_law_low (.cons (.ix (.var 17) (.c (.int 0))) (.cons (.ix (.var 17) (.c (.int 1))) .nil))))
  (.seq (.set 13 (.call i_law_rounded (.cons (.bin .mul (.ix (.var 17) (.c (.int 0))) (.var 5)) (.cons (.bin .mul (.ix (.var 17) (.c (.int 1))) (.var 6)) (.cons (.var 3) .nil)))))
  (.seq (.ifs (.cmp .ne (.call i_law_do_4 (.cons (.c (.int 5)) (.cons (.var 1) (.cons (.var 17) (.cons (.c .non) (.cons (.var 3) .nil)))))) (.ite (.cmp .lt (.var 13) (.call i_law_day (.cons (.var 1) .nil))) (.call i_law_at (.cons (.var 1) (.cons (.var 13) .nil))) (.c (.str ⟨#[116, 111, 111, 32, 102, 97, 114]⟩))))
  (.ret (.c (.bl false)))
  .skip)
  (.seq (.set 18 (.call i_law_day (.cons (.var 1) .nil)))
  (.seq (.set 11 (.lc X_law_k10_0 (.nm 19) (.e (.tup (.cons (.c (.int 0)) (.cons (.c (.int 1)) (.cons (.var 18) .nil))))) none))
  (.seq (.ifs (.cmp .ne (.var 11) (.lst (.cons (.c (.str ⟨#[116, 111, 111, 32, 102, 97, 114]⟩)) (.cons (.call i_law_at (.cons (.var 1) (.cons (.bin .sub (.var 18) (.c (.int 1))) .nil))) (.cons (.tup (.cons (.c (.int 0)) (.cons (.c (.int 0)) (.cons (.c (.int 0)) (.cons (.c (.int 0)) .nil))))) .nil)))))
  (.ret (.c (.bl false)))
  .skip)
  (.ret (.call i_law_refuses (.cons (.var 0) (.cons (.var 1) (.cons (.var 4) (.cons (.var 2) .nil))))))))))))))))))))))))))))))⟩
def X_is_span_0 : E := (.call i_is_code (.cons (.var 0) (.cons (.var 2) .nil)))
def F_is_span : FD := ⟨2, 3, false,
  (.seq (.expr (.call i_look_rate (.cons (.var 0) .nil)))
  (.seq (.ifs (.or (.not (.isi (.var 1) .tup)) (.or (.cmp .ne (.b1 .len (.var 1)) (.c (.int 2))) (.not (.b1 .all (.lc X_is_span_0 (.nm 2) (.e (.var 1)) none)))))
  (.ret (.c (.bl false)))
  .skip)
  (.ret (.cmp .lt (.ix (.var 1) (.c (.int 0))) (.ix (.var 1) (.c (.int 1)))))))⟩
def F_look_span : FD := ⟨2, 2, false,
  (.ifs (.not (.call i_is_span (.cons (.var 0) (.cons (.var 1) .nil))))
  (.raise 4)
  .skip)⟩
def F_counts_in : FD := ⟨2, 2, false,
  (.ret (.tup (.cons (.call i_count_of (.cons (.var 0) (.cons (.ix (.var 1) (.c (.int 0))) .nil))) (.cons (.call i_count_of (.cons (.var 0) (.cons (.ix (.var 1) (.c (.int 1))) .nil))) .nil))))⟩
def F_span_of : FD := ⟨3, 3, false,
  (.ret (.tup (.cons (.call i_code_of (.cons (.var 0) (.cons (.var 1) .nil))) (.cons (.call i_code_of (.cons (.var 0) (.cons (.var 2) .nil))) .nil))))⟩
def F_long : FD := ⟨2, 4, false,
  (.seq (.expr (.call i_look_span (.cons (.var 0) (.cons (.var 1) .nil))))
  (.seq (.unp (.tc (.nm 2) (.tc (.nm 3) .tn)) (.call i_counts_in (.cons (.var 0) (.cons (.var 1) .nil))))
  (.ret (.bin .sub (.var 3) (.var 2)))))⟩
def F_shifted : FD := ⟨3, 5, false,
  (.seq (.expr (.call i_look_span (.cons (.var 0) (.cons (.var 1) .nil))))
  (.seq (.expr (.call i_look_by (.cons (.var 2) .nil)))
  (.seq (.unp (.tc (.nm 3) (.tc (.nm 4) .tn)) (.call i_counts_in (.cons (.var 0) (.cons (.var 1) .nil))))
  (.seq (.ifs (.or (.cmp .lt (.bin .add (.var 3) (.var 2)) (.c (.int 0))) (.cmp .ge (.bin .add (.var 4) (.var 2)) (.call i_day_frames (.cons (.var 0) .nil))))
  (.raise 5)
  .skip)
  (.ret (.call i_span_of (.cons (.var 0) (.cons (.bin .add (.var 3) (.var 2)) (.cons (.bin .add (.var 4) (.var 2)) .nil)))))))))⟩
def F_common : FD := ⟨3, 5, false,
  (.seq (.expr (.call i_look_span (.cons (.var 0) (.cons (.var 1) .nil))))
  (.seq (.expr (.call i_look_span (.cons (.var 0) (.cons (.var 2) .nil))))
  (.seq (.par [3, 4] [false, false] (.cons (.b2 .max (.ix (.var 1) (.c (.int 0))) (.ix (.var 2) (.c (.int 0)))) (.cons (.b2 .min (.ix (.var 1) (.c (.int 1))) (.ix (.var 2) (.c (.int 1)))) .nil)))
  (.ret (.ite (.cmp .lt (.var 3) (.var 4)) (.tup (.cons (.var 3) (.cons (.var 4) .nil))) (.c .non))))))⟩
def F_joined : FD := ⟨3, 3, false,
  (.seq (.expr (.call i_look_span (.cons (.var 0) (.cons (.var 1) .nil))))
  (.seq (.expr (.call i_look_span (.cons (.var 0) (.cons (.var 2) .nil))))
  (.seq (.ifs (.cmp .gt (.b2 .max (.ix (.var 1) (.c (.int 0))) (.ix (.var 2) (.c (.int 0)))) (.b2 .min (.ix (.var 1) (.c (.int 1))) (.ix (.var 2) (.c (.int 1)))))
  (.raise 6)
  .skip)
  (.ret (.tup (.cons (.b2 .min (.ix (.var 1) (.c (.int 0))) (.ix (.var 2) (.c (.int 0)))) (.cons (.b2 .max (.ix (.var 1) (.c (.int 1))) (.ix (.var 2) (.c (.int 1)))) .nil)))))))⟩
def F_law_do_5 : FD := ⟨4, 7, false,
  (.seq (.set 4 (.c .non))
  (.seq (.set 5 (.c .non))
  (.seq (.tryK (.ifs (.cmp .lt (.var 0) (.c (.int 2)))
  (.set 5 (.ite (.cmp .eq (.var 0) (.c (.int 0))) (.call i_long (.cons (.var 1) (.cons (.var 2) .nil))) (.call i_is_span (.cons (.var 1) (.cons (.var 2) .nil)))))
  (.set 5 (.callix [i_shifted, i_common, i_joined] (.bin .sub (.var 0) (.c (.int 2))) (.cons (.var 1) (.cons (.var 2) (.cons (.var 3) .nil)))))) 0 6 4)
  (.seq (.ifs (.cmp .is (.var 4) (.c .non))
  (.ret (.var 5))
  .skip)
  (.ret (.call i_law_word (.cons (.var 4) .nil)))))))⟩
def F_law_span : FD := ⟨4, 6, false,
  (.seq (.set 4 (.bin .add (.var 3) (.call i_law_pick (.cons (.var 0) (.cons (.var 1) (.cons (.c (.int 40)) .nil))))))
  (.seq (.set 5 (.b2 .min (.bin .sub (.call i_law_day (.cons (.var 2) .nil)) (.c (.int 1))) (.bin .add (.bin .add (.var 4) (.c (.int 1))) (.call i_law_pick (.cons (.var 0) (.cons (.bin .add (.var 1) (.c (.int 1))) (.cons (.c (.int 30)) .nil)))))))
  (.ret (.tup (.cons (.call i_law_at (.cons (.var 2) (.cons (.b2 .min (.var 4) (.bin .sub (.var 5) (.c (.int 1)))) .nil))) (.cons (.call i_law_at (.cons (.var 2) (.cons (.var 5) .nil))) .nil))))))⟩
def Y_law_is_span_0 : Option E := (some (.not (.call i_law_is_code (.cons (.var 0) (.cons (.var 2) .nil)))))
def X_law_is_span_1 : E := (.var 2)
def F_law_is_span : FD := ⟨2, 3, false,
  (.seq (.ifs (.or (.not (.isi (.var 1) .tup)) (.cmp .ne (.b1 .len (.var 1)) (.c (.int 2))))
  (.ret (.c (.bl false)))
  .skip)
  (.seq (.ifs (.cmp .ne (.lc X_law_is_span_1 (.nm 2) (.e (.var 1)) Y_law_is_span_0) (.lst .nil))
  (.ret (.c (.bl false)))
  .skip)
  (.ret (.cmp .lt (.call i_law_count (.cons (.var 0) (.cons (.ix (.var 1) (.c (.int 0))) .nil))) (.call i_law_count (.cons (.var 0) (.cons (.ix (.var 1) (.c (.int 1))) .nil)))))))⟩
def F_law_frames : FD := ⟨2, 2, false,
  (.ret (.lrg (.call i_law_count (.cons (.var 0) (.cons (.ix (.var 1) (.c (.int 0))) .nil))) (.call i_law_count (.cons (.var 0) (.cons (.ix (.var 1) (.c (.int 1))) .nil)))))⟩
def X_law_are_told_apart_0 : E := (.call i_law_do_5 (.cons (.var 7) (.cons (.var 1) (.cons (.var 4) (.cons (.c .non) .nil)))))
def X_law_are_told_apart_1 : E := (.call i_law_do_5 (.cons (.var 7) (.cons (.var 1) (.cons (.var 2) (.cons (.var 4) .nil)))))
def B_law_are_told_apart_2 : S := (.seq (.set 4 (.call i_law_spoilt_thing (.cons (.var 0) (.cons (.bin .add (.c (.int 300)) (.bin .mul (.c (.int 5)) (.var 3))) (.cons (.var 2) .nil)))))
  (.seq (.ifs (.cmp .lt (.var 3) (.c (.int 2)))
  (.set 4 (.tup (.cons (.ix (.var 2) (.c (.int 1))) (.cons (.ix (.var 2) (.var 3)) .nil))))
  .skip)
  (.seq (.set 5 (.call i_law_do_5 (.cons (.c (.int 1)) (.cons (.var 1) (.cons (.var 4) (.cons (.c .non) .nil))))))
  (.seq (.ifs (.or (.cmp .ne (.var 5) (.call i_law_is_span (.cons (.var 1) (.cons (.var 4) .nil)))) (.not (.isi (.var 5) .bool)))
  (.ret (.c (.bl false)))
  .skip)
  (.seq (.setO 6 (.lc X_law_are_told_apart_0 (.nm 7) (.e (.tup (.cons (.c (.int 0)) (.cons (.c (.int 2)) (.cons (.c (.int 3)) (.cons (.c (.int 4)) .nil)))))) none))
  (.seq (.ext 6 (.lc X_law_are_told_apart_1 (.nm 7) (.e (.tup (.cons (.c (.int 3)) (.cons (.c (.int 4)) .nil)))) none))
  (.ifs (.and (.not (.var 5)) (.cmp .ne (.brw 6) (.bin .mul (.lst (.cons (.c (.str ⟨#[110, 111, 32, 115, 112, 97, 110]⟩)) .nil)) (.c (.int 6)))))
  (.ret (.c (.bl false)))
  .skip)))))))
def X_law_are_told_apart_3 : E := (.call i_law_do_5 (.cons (.c (.int 2)) (.cons (.var 1) (.cons (.var 2) (.cons (.var 8) .nil)))))
def X_law_are_told_apart_4 : E := (.call i_law_do_5 (.cons (.var 7) (.cons (.c (.str ⟨#[110, 111, 110, 101]⟩)) (.cons (.c .non) (.cons (.c .non) .nil)))))
def F_law_are_told_apart : FD := ⟨3, 9, false,
  (.seq (.for_ (.nm 3) (.rg1 (.c (.int 6)))
  B_law_are_told_apart_2)
  (.seq (.ifs (.cmp .ne (.lc X_law_are_told_apart_3 (.nm 8) (.e (.tup (.cons (.c .non) (.cons (.c (.bl true)) (.cons (.c (.str ⟨#[49]⟩)) .nil))))) none) (.bin .mul (.lst (.cons (.c (.str ⟨#[110, 111, 32, 110, 117, 109, 98, 101, 114]⟩)) .nil)) (.c (.int 3))))
  (.ret (.c (.bl false)))
  .skip)
  (.ret (.cmp .eq (.lc X_law_are_told_apart_4 (.nm 7) (.rg1 (.c (.int 5))) none) (.bin .mul (.lst (.cons (.c (.str ⟨#[110, 111, 32, 114, 97, 116, 101]⟩)) .nil)) (.c (.int 5)))))))⟩
def B_law_k20_0 : S := (.seq (.par [11, 12] [false, false] (.cons (.bin .add (.ix (.var 6) (.c (.int 0))) (.var 9)) (.cons (.bin .add (.bin .add (.ix (.var 6) (.neg (.c (.int 1)))) (.c (.int 1))) (.var 9)) .nil)))
  (.seq (.set 10 (.ite (.and (.cmp .le (.c (.int 0)) (.var 11)) (.cmp .lt (.var 12) (.var 2))) (.tup (.cons (.call i_law_at (.cons (.var 1) (.cons (.var 11) .nil))) (.cons (.call i_law_at (.cons (.var 1) (.cons (.var 12) .nil))) .nil))) (.c (.str ⟨#[116, 111, 111, 32, 102, 97, 114]⟩))))
  (.ifs (.cmp .ne (.call i_law_do_5 (.cons (.c (.int 2)) (.cons (.var 1) (.cons (.var 4) (.cons (.var 9) .nil))))) (.var 10))
  (.ret (.c (.bl false)))
  .skip)))
def Y_law_k20_1 : Option E := (some (.cmp .isIn (.var 15) (.var 7)))
def X_law_k20_2 : E := (.var 15)
def F_law_k20 : FD := ⟨1, 16, false,
  (.seq (.set 1 (.call i_law_rate (.cons (.var 0) (.cons (.c (.int 0)) .nil))))
  (.seq (.set 2 (.call i_law_day (.cons (.var 1) .nil)))
  (.seq (.set 3 (.ix (.lst (.cons (.c (.int 0)) (.cons (.bin .sub (.bin .mul (.c (.int 60)) (.ix (.call i_law_facts (.cons (.var 1) .nil)) (.c (.int 0)))) (.c (.int 20))) (.cons (.bin .sub (.var 2) (.c (.int 60))) (.cons (.call i_law_pick (.cons (.var 0) (.cons (.c (.int 1)) (.cons (.bin .sub (.var 2) (.c (.int 100))) .nil)))) .nil))))) (.call i_law_pick (.cons (.var 0) (.cons (.c (.int 2)) (.cons (.c (.int 4)) .nil))))))
  (.seq (.par [4, 5] [false, false] (.cons (.call i_law_span (.cons (.var 0) (.cons (.c (.int 10)) (.cons (.var 1) (.cons (.var 3) .nil))))) (.cons (.call i_law_span (.cons (.var 0) (.cons (.c (.int 20)) (.cons (.var 1) (.cons (.var 3) .nil))))) .nil)))
  (.seq (.ifs (.and (.cmp .eq (.call i_law_pick (.cons (.var 0) (.cons (.c (.int 6)) (.cons (.c (.int 3)) .nil)))) (.c (.int 0))) (.cmp .lt (.ix (.var 4) (.c (.int 1))) (.call i_law_at (.cons (.var 1) (.cons (.bin .sub (.var 2) (.c (.int 30))) .nil)))))
  (.set 5 (.tup (.cons (.ix (.var 4) (.c (.int 1))) (.cons (.call i_law_at (.cons (.var 1) (.cons (.bin .add (.bin .add (.call i_law_count (.cons (.var 1) (.cons (.ix (.var 4) (.c (.int 1))) .nil))) (.c (.int 1))) (.call i_law_pick (.cons (.var 0) (.cons (.c (.int 7)) (.cons (.c (.int 9)) .nil))))) .nil))) .nil))))
  .skip)
  (.seq (.par [6, 7] [false, false] (.cons (.call i_law_frames (.cons (.var 1) (.cons (.var 4) .nil))) (.cons (.call i_law_frames (.cons (.var 1) (.cons (.var 5) .nil))) .nil)))
  (.seq (.ifs (.or (.cmp .ne (.call i_law_do_5 (.cons (.c (.int 0)) (.cons (.var 1) (.cons (.var 4) (.cons (.c .non) .nil))))) (.b1 .len (.var 6))) (.cmp .isnot (.call i_law_do_5 (.cons (.c (.int 1)) (.cons (.var 1) (.cons (.var 4) (.cons (.c .non) .nil))))) (.c (.bl true))))
  (.ret (.c (.bl false)))
  .skip)
  (.seq (.set 8 (.bin .mul (.call i_law_pick (.cons (.var 0) (.cons (.c (.int 3)) (.cons (.ix (.lst (.cons (.c (.int 50)) (.cons (.bin .mul (.c (.int 2)) (.var 2)) .nil))) (.call i_law_pick (.cons (.var 0) (.cons (.c (.int 4)) (.cons (.c (.int 2)) .nil))))) .nil)))) (.bin .sub (.c (.int 1)) (.bin .mul (.c (.int 2)) (.call i_law_pick (.cons (.var 0) (.cons (.c (.int 5)) (.cons (.c (.int 2)) .nil))))))))
  (.seq (.ifs (.cmp .eq (.call i_law_pick (.cons (.var 0) (.cons (.c (.int 8)) (.cons (.c (.int 3)) .nil)))) (.c (.int 0)))
  (.set 8 (.bin .sub (.bin .sub (.bin .sub (.var 2) (.c (.int 1))) (.ix (.var 6) (.neg (.c (.int 1))))) (.call i_law_pick (.cons (.var 0) (.cons (.c (.int 9)) (.cons (.c (.int 4)) .nil))))))
  .skip)
  (.seq (.for_ (.nm 9) (.e (.tup (.cons (.var 8) (.cons (.bin .sub (.c (.int 0)) (.ix (.var 6) (.c (.int 0)))) (.cons (.bin .sub (.neg (.c (.int 1))) (.ix (.var 6) (.c (.int 0)))) (.cons (.bin .sub (.bin .sub (.var 2) (.c (.int 2))) (.ix (.var 6) (.neg (.c (.int 1))))) (.cons (.bin .sub (.bin .sub (.var 2) (.c (.int 1))) (.ix (.var 6) (.neg (.c (.int 1))))) .nil)))))))
  B_law_k20_0)
  (.seq (.par [13, 14] [false, false] (.cons (.lc X_law_k20_2 (.nm 15) (.e (.var 6)) Y_law_k20_1) (.cons (.b1 .sortsetI (.bin .add (.var 6) (.var 7))) .nil)))
  (.seq (.set 10 (.ite (.cmp .ne (.var 13) (.lst .nil)) (.tup (.cons (.call i_law_at (.cons (.var 1) (.cons (.ix (.var 13) (.c (.int 0))) .nil))) (.cons (.call i_law_at (.cons (.var 1) (.cons (.bin .add (.ix (.var 13) (.neg (.c (.int 1)))) (.c (.int 1))) .nil))) .nil))) (.c .non)))
  (.seq (.ifs (.or (.cmp .ne (.call i_law_do_5 (.cons (.c (.int 3)) (.cons (.var 1) (.cons (.var 4) (.cons (.var 5) .nil))))) (.var 10)) (.cmp .ne (.call i_common (.cons (.var 1) (.cons (.var 5) (.cons (.var 4) .nil)))) (.var 10)))
  (.ret (.c (.bl false)))
  .skip)
  (.seq (.set 10 (.tup (.cons (.call i_law_at (.cons (.var 1) (.cons (.ix (.var 14) (.c (.int 0))) .nil))) (.cons (.call i_law_at (.cons (.var 1) (.cons (.bin .add (.ix (.var 14) (.neg (.c (.int 1)))) (.c (.int 1))) .nil))) .nil))))
  (.seq (.ifs (.cmp .ne (.call i_law_do_5 (.cons (.c (.int 4)) (.cons (.var 1) (.cons (.var 4) (.cons (.var 5) .nil))))) (.ite (.cmp .eq (.bin .add (.bin .sub (.ix (.var 14) (.neg (.c (.int 1)))) (.ix (.var 14) (.c (.int 0)))) (.c (.int 1))) (.b1 .len (.var 14))) (.var 10) (.c (.str ⟨#[110, 111, 32, 102, 105, 116]⟩))))
  (.ret (.c (.bl false)))
  .skip)
  (.ret (.call i_law_are_told_apart (.cons (.var 0) (.cons (.var 1) (.cons (.var 4) .nil))))))))))))))))))))⟩
def X_are_spans_0 : E := (.call i_is_span (.cons (.var 0) (.cons (.var 2) .nil)))
def F_are_spans : FD := ⟨2, 3, false,
  (.seq (.expr (.call i_look_rate (.cons (.var 0) .nil)))
  (.ret (.and (.isi (.var 1) .lst) (.and (.cmp .le (.b1 .len (.var 1)) (.c (.int 20))) (.b1 .all (.lc X_are_spans_0 (.nm 2) (.e (.var 1)) none))))))⟩
def F_look_spans : FD := ⟨2, 2, false,
  (.ifs (.not (.call i_are_spans (.cons (.var 0) (.cons (.var 1) .nil))))
  (.raise 4)
  .skip)⟩
def B_union_of_0 : S := (.ifs (.and (.cmp .ne (.brw 1) (.lst .nil)) (.cmp .le (.ix (.var 2) (.c (.int 0))) (.ix (.ix (.brw 1) (.neg (.c (.int 1)))) (.c (.int 1)))))
  (.setIx 1 (.neg (.c (.int 1))) (.tup (.cons (.ix (.ix (.brw 1) (.neg (.c (.int 1)))) (.c (.int 0))) (.cons (.b2 .max (.ix (.ix (.brw 1) (.neg (.c (.int 1)))) (.c (.int 1))) (.ix (.var 2) (.c (.int 1)))) .nil))))
  (.app 1 (.var 2)))
def F_union_of : FD := ⟨1, 3, false,
  (.seq (.setO 1 (.lst .nil))
  (.seq (.for_ (.nm 2) (.e (.b1 .sorted (.var 0)))
  B_union_of_0)
  (.seq (.frz 1)
  (.ret (.var 1)))))⟩
def F_union : FD := ⟨2, 2, false,
  (.seq (.expr (.call i_look_spans (.cons (.var 0) (.cons (.var 1) .nil))))
  (.ret (.call i_union_of (.cons (.var 1) .nil))))⟩
def B_gaps_0 : S := (.seq (.ifs (.cmp .gt (.var 5) (.var 4))
  (.app 3 (.tup (.cons (.var 4) (.cons (.b2 .min (.var 5) (.ix (.var 2) (.c (.int 1)))) .nil))))
  .skip)
  (.seq (.set 4 (.b2 .max (.var 4) (.var 6)))
  (.ifs (.cmp .ge (.var 4) (.ix (.var 2) (.c (.int 1))))
  .brk
  .skip)))
def Y_gaps_1 : Option E := (some (.cmp .lt (.ix (.var 7) (.c (.int 0))) (.ix (.var 7) (.c (.int 1)))))
def X_gaps_2 : E := (.var 7)
def F_gaps : FD := ⟨3, 8, false,
  (.seq (.expr (.call i_look_spans (.cons (.var 0) (.cons (.var 1) .nil))))
  (.seq (.expr (.call i_look_span (.cons (.var 0) (.cons (.var 2) .nil))))
  (.seq (.setO 3 (.lst .nil))
  (.seq (.set 4 (.ix (.var 2) (.c (.int 0))))
  (.seq (.for_ (.tc (.nm 5) (.tc (.nm 6) .tn)) (.e (.call i_union_of (.cons (.var 1) .nil)))
  B_gaps_0)
  (.seq (.ifs (.cmp .lt (.var 4) (.ix (.var 2) (.c (.int 1))))
  (.app 3 (.tup (.cons (.var 4) (.cons (.ix (.var 2) (.c (.int 1))) .nil))))
  .skip)
  (.seq (.frz 3)
  (.ret (.lc X_gaps_2 (.nm 7) (.e (.var 3)) Y_gaps_1)))))))))⟩
def X_whole_long_0 : E := (.call i_long (.cons (.var 0) (.cons (.var 2) .nil)))
def F_whole_long : FD := ⟨2, 3, false,
  (.ret (.b1 .sum (.lc X_whole_long_0 (.nm 2) (.e (.call i_union (.cons (.var 0) (.cons (.var 1) .nil)))) none)))⟩
def X_most_at_once_0 : E := (.ix (.var 5) (.c (.int 0)))
def Y_most_at_once_1 : Option E := (some (.chain .le .lt (.ix (.var 5) (.c (.int 0))) (.var 3) (.ix (.var 5) (.c (.int 1)))))
def X_most_at_once_2 : E := (.var 5)
def B_most_at_once_3 : S := (.seq (.set 4 (.b1 .len (.lc X_most_at_once_2 (.nm 5) (.e (.var 1)) Y_most_at_once_1)))
  (.ifs (.or (.cmp .is (.var 2) (.c .non)) (.cmp .gt (.var 4) (.ix (.var 2) (.c (.int 0)))))
  (.set 2 (.tup (.cons (.var 4) (.cons (.var 3) .nil))))
  .skip))
def F_most_at_once : FD := ⟨2, 6, false,
  (.seq (.expr (.call i_look_spans (.cons (.var 0) (.cons (.var 1) .nil))))
  (.seq (.set 2 (.c .non))
  (.seq (.for_ (.nm 3) (.e (.b1 .sortset (.lc X_most_at_once_0 (.nm 5) (.e (.var 1)) none)))
  B_most_at_once_3)
  (.ret (.var 2)))))⟩
def B_laid_0 : S := (.seq (.unp (.tc (.nm 6) (.tc (.nm 7) .tn)) (.call i_counts_in (.cons (.var 0) (.cons (.var 5) .nil))))
  (.seq (.ifs (.cmp .ge (.bin .sub (.bin .add (.var 3) (.var 7)) (.var 6)) (.call i_day_frames (.cons (.var 0) .nil)))
  (.raise 5)
  .skip)
  (.seq (.app 4 (.call i_span_of (.cons (.var 0) (.cons (.var 3) (.cons (.bin .sub (.bin .add (.var 3) (.var 7)) (.var 6)) .nil)))))
  (.set 3 (.bin .sub (.bin .add (.var 3) (.var 7)) (.var 6))))))
def F_laid : FD := ⟨3, 8, false,
  (.seq (.expr (.call i_look_spans (.cons (.var 0) (.cons (.var 1) .nil))))
  (.seq (.expr (.call i_look_code (.cons (.var 0) (.cons (.var 2) .nil))))
  (.seq (.set 3 (.call i_count_of (.cons (.var 0) (.cons (.var 2) .nil))))
  (.seq (.setO 4 (.lst .nil))
  (.seq (.for_ (.nm 5) (.e (.var 1))
  B_laid_0)
  (.seq (.frz 4)
  (.ret (.var 4))))))))⟩
def F_law_do_6 : FD := ⟨4, 7, false,
  (.seq (.set 4 (.c .non))
  (.seq (.set 5 (.c .non))
  (.seq (.tryK (.ifs (.cmp .lt (.var 0) (.c (.int 4)))
  (.set 5 (.callix [i_union, i_whole_long, i_most_at_once, i_are_spans] (.var 0) (.cons (.var 1) (.cons (.var 2) .nil))))
  (.set 5 (.ite (.cmp .eq (.var 0) (.c (.int 4))) (.call i_gaps (.cons (.var 1) (.cons (.var 2) (.cons (.var 3) .nil)))) (.call i_laid (.cons (.var 1) (.cons (.var 2) (.cons (.var 3) .nil))))))) 0 6 4)
  (.seq (.ifs (.cmp .is (.var 4) (.c .non))
  (.ret (.var 5))
  .skip)
  (.ret (.call i_law_word (.cons (.var 4) .nil)))))))⟩
def F_law_span_2 : FD := ⟨4, 6, false,
  (.seq (.set 4 (.bin .add (.var 3) (.call i_law_pick (.cons (.var 0) (.cons (.var 1) (.cons (.c (.int 60)) .nil))))))
  (.seq (.set 5 (.b2 .min (.bin .sub (.call i_law_day (.cons (.var 2) .nil)) (.c (.int 1))) (.bin .add (.bin .add (.var 4) (.c (.int 1))) (.call i_law_pick (.cons (.var 0) (.cons (.bin .add (.var 1) (.c (.int 1))) (.cons (.c (.int 20)) .nil)))))))
  (.ret (.tup (.cons (.call i_law_at (.cons (.var 2) (.cons (.b2 .min (.var 4) (.bin .sub (.var 5) (.c (.int 1)))) .nil))) (.cons (.call i_law_at (.cons (.var 2) (.cons (.var 5) .nil))) .nil))))))⟩
def B_law_as_spans_0 : S := (.ifs (.and (.cmp .ne (.brw2 2) (.lst .nil)) (.cmp .eq (.ix2 2 (.neg (.c (.int 1))) (.c (.int 1))) (.var 3)))
  (.setIx2 2 (.neg (.c (.int 1))) (.c (.int 1)) (.bin .add (.var 3) (.c (.int 1))))
  (.app2 2 (.cons (.var 3) (.cons (.bin .add (.var 3) (.c (.int 1))) .nil))))
def X_law_as_spans_1 : E := (.tup (.cons (.call i_law_at (.cons (.var 0) (.cons (.var 4) .nil))) (.cons (.call i_law_at (.cons (.var 0) (.cons (.var 5) .nil))) .nil)))
def F_law_as_spans : FD := ⟨2, 6, false,
  (.seq (.setO 2 (.lst .nil))
  (.seq (.for_ (.nm 3) (.e (.b1 .sorted (.var 1)))
  B_law_as_spans_0)
  (.seq (.frz 2)
  (.ret (.lc X_law_as_spans_1 (.tc (.nm 4) (.tc (.nm 5) .tn)) (.e (.var 2)) none)))))⟩
def X_law_are_refused_0 : E := (.call i_law_do_6 (.cons (.var 8) (.cons (.var 1) (.cons (.var 6) (.cons (.c .non) .nil)))))
def X_law_are_refused_1 : E := (.call i_law_do_6 (.cons (.var 8) (.cons (.c (.str ⟨#[110, 111, 110, 101]⟩)) (.cons (.var 2) (.cons (.c .non) .nil)))))
def F_law_are_refused : FD := ⟨5, 10, false,
  (.seq (.ifs (.or (.cmp .isnot (.call i_law_do_6 (.cons (.c (.int 3)) (.cons (.var 1) (.cons (.bin .mul (.lst (.cons (.var 3) .nil)) (.c (.int 20))) (.cons (.c .non) .nil))))) (.c (.bl true))) (.cmp .ne (.call i_union (.cons (.var 1) (.cons (.bin .mul (.lst (.cons (.var 3) .nil)) (.c (.int 20))) .nil))) (.lst (.cons (.var 3) .nil))))
  (.ret (.c (.bl false)))
  .skip)
  (.seq (.set 5 (.lst (.cons (.c .non) (.cons (.b1 .tuple (.var 2)) (.cons (.bin .add (.var 2) (.lst (.cons (.c .non) .nil))) (.cons (.bin .mul (.lst (.cons (.var 3) .nil)) (.c (.int 21))) (.cons (.bin .add (.var 2) (.lst (.cons (.tup (.cons (.ix (.var 3) (.c (.int 1))) (.cons (.ix (.var 3) (.c (.int 0))) .nil))) .nil))) .nil)))))))
  (.seq (.set 6 (.ix (.var 5) (.call i_law_pick (.cons (.var 0) (.cons (.c (.int 90)) (.cons (.c (.int 5)) .nil))))))
  (.seq (.set 7 (.lc X_law_are_refused_0 (.nm 8) (.e (.tup (.cons (.c (.int 0)) (.cons (.c (.int 1)) (.cons (.c (.int 2)) (.cons (.c (.int 4)) (.cons (.c (.int 5)) .nil))))))) none))
  (.seq (.ifs (.or (.cmp .isnot (.call i_law_do_6 (.cons (.c (.int 3)) (.cons (.var 1) (.cons (.var 6) (.cons (.c .non) .nil))))) (.c (.bl false))) (.cmp .ne (.var 7) (.bin .mul (.lst (.cons (.c (.str ⟨#[110, 111, 32, 115, 112, 97, 110]⟩)) .nil)) (.c (.int 5)))))
  (.ret (.c (.bl false)))
  .skip)
  (.seq (.set 9 (.call i_law_spoilt_thing (.cons (.var 0) (.cons (.c (.int 300)) (.cons (.var 4) .nil)))))
  (.seq (.ifs (.and (.not (.call i_law_is_code (.cons (.var 1) (.cons (.var 9) .nil)))) (.cmp .ne (.call i_law_do_6 (.cons (.c (.int 5)) (.cons (.var 1) (.cons (.var 2) (.cons (.var 9) .nil))))) (.c (.str ⟨#[110, 111, 32, 99, 111, 100, 101]⟩))))
  (.ret (.c (.bl false)))
  .skip)
  (.seq (.ifs (.cmp .ne (.call i_law_do_6 (.cons (.c (.int 4)) (.cons (.var 1) (.cons (.var 2) (.cons (.tup (.cons (.ix (.var 3) (.c (.int 1))) (.cons (.ix (.var 3) (.c (.int 0))) .nil))) .nil))))) (.c (.str ⟨#[110, 111, 32, 115, 112, 97, 110]⟩)))
  (.ret (.c (.bl false)))
  .skip)
  (.ret (.cmp .eq (.lc X_law_are_refused_1 (.nm 8) (.rg1 (.c (.int 6))) none) (.bin .mul (.lst (.cons (.c (.str ⟨#[110, 111, 32, 114, 97, 116, 101]⟩)) .nil)) (.c (.int 6)))))))))))))⟩
def B_law_is_laid_0 : S := (.seq (.app 7 (.tup (.cons (.var 6) (.cons (.bin .sub (.bin .add (.var 6) (.var 9)) (.var 8)) .nil))))
  (.set 6 (.bin .sub (.bin .add (.var 6) (.var 9)) (.var 8))))
def X_law_is_laid_1 : E := (.tup (.cons (.call i_law_at (.cons (.var 1) (.cons (.var 8) .nil))) (.cons (.call i_law_at (.cons (.var 1) (.cons (.var 9) .nil))) .nil)))
def B_law_is_laid_2 : S := (.seq (.par [11, 12] [false, false] (.cons (.tup (.cons (.call i_law_at (.cons (.var 1) (.cons (.var 8) .nil))) (.cons (.call i_law_at (.cons (.var 1) (.cons (.var 9) .nil))) .nil))) (.cons (.call i_law_at (.cons (.var 1) (.cons (.bin .add (.bin .sub (.var 4) (.var 9)) (.var 8)) .nil))) .nil)))
  (.ifs (.cmp .ne (.call i_law_do_6 (.cons (.c (.int 5)) (.cons (.var 1) (.cons (.lst (.cons (.var 11) .nil)) (.cons (.var 12) .nil))))) (.c (.str ⟨#[116, 111, 111, 32, 102, 97, 114]⟩)))
  (.ret (.c (.bl false)))
  .skip))
def F_law_is_laid : FD := ⟨4, 13, false,
  (.seq (.set 4 (.call i_law_day (.cons (.var 1) .nil)))
  (.seq (.set 5 (.ix (.lst (.cons (.call i_law_code (.cons (.var 0) (.cons (.c (.int 70)) (.cons (.var 1) .nil)))) (.cons (.call i_law_at (.cons (.var 1) (.cons (.bin .sub (.bin .sub (.var 4) (.c (.int 1))) (.call i_law_pick (.cons (.var 0) (.cons (.c (.int 80)) (.cons (.c (.int 60)) .nil))))) .nil))) .nil))) (.call i_law_pick (.cons (.var 0) (.cons (.c (.int 81)) (.cons (.c (.int 2)) .nil))))))
  (.seq (.par [6, 7] [false, true] (.cons (.call i_law_count (.cons (.var 1) (.cons (.var 5) .nil))) (.cons (.lst .nil) .nil)))
  (.seq (.for_ (.tc (.nm 8) (.tc (.nm 9) .tn)) (.e (.var 3))
  B_law_is_laid_0)
  (.seq (.set 10 (.call i_law_do_6 (.cons (.c (.int 5)) (.cons (.var 1) (.cons (.var 2) (.cons (.var 5) .nil))))))
  (.seq (.ifs (.and (.cmp .ne (.var 2) (.lst .nil)) (.cmp .ge (.var 6) (.var 4)))
  (.seq (.ifs (.cmp .ne (.var 10) (.c (.str ⟨#[116, 111, 111, 32, 102, 97, 114]⟩)))
  (.ret (.c (.bl false)))
  .skip) (.frz 7))
  (.seq (.frz 7)
  (.ifs (.cmp .ne (.var 10) (.lc X_law_is_laid_1 (.tc (.nm 8) (.tc (.nm 9) .tn)) (.e (.var 7)) none))
  (.ret (.c (.bl false)))
  .skip)))
  (.seq (.for_ (.tc (.nm 8) (.tc (.nm 9) .tn)) (.e (.sl (.var 3) none (some (.c (.int 2)))))
  B_law_is_laid_2)
  (.ret (.c (.bl true))))))))))⟩
def X_law_k21_0 : E := (.call i_law_span_2 (.cons (.var 0) (.cons (.bin .add (.c (.int 10)) (.bin .mul (.c (.int 5)) (.var 5))) (.cons (.var 1) (.cons (.var 3) .nil)))))
def X_law_k21_1 : E := (.tup (.cons (.call i_law_count (.cons (.var 1) (.cons (.var 7) .nil))) (.cons (.call i_law_count (.cons (.var 1) (.cons (.var 8) .nil))) .nil)))
def B_law_k21_2 : S := (.ext 9 (.lrg (.var 7) (.var 8)))
def X_law_k21_3 : E := (.m1 .count (.brw 9) (.var 12))
def Y_law_k21_4 : Option E := (some (.cmp .eq (.m1 .count (.brw 9) (.var 12)) (.var 11)))
def X_law_k21_5 : E := (.var 12)
def Y_law_k21_6 : Option E := (some (.cmp .notIn (.var 12) (.var 10)))
def X_law_k21_7 : E := (.var 12)
def F_law_k21 : FD := ⟨1, 16, false,
  (.seq (.set 1 (.call i_law_rate (.cons (.var 0) (.cons (.c (.int 0)) .nil))))
  (.seq (.set 2 (.call i_law_day (.cons (.var 1) .nil)))
  (.seq (.set 3 (.ix (.lst (.cons (.c (.int 0)) (.cons (.bin .sub (.bin .mul (.c (.int 60)) (.ix (.call i_law_facts (.cons (.var 1) .nil)) (.c (.int 0)))) (.c (.int 40))) (.cons (.bin .sub (.var 2) (.c (.int 90))) (.cons (.call i_law_pick (.cons (.var 0) (.cons (.c (.int 1)) (.cons (.bin .sub (.var 2) (.c (.int 100))) .nil)))) .nil))))) (.call i_law_pick (.cons (.var 0) (.cons (.c (.int 2)) (.cons (.c (.int 4)) .nil))))))
  (.seq (.set 4 (.lc X_law_k21_0 (.nm 5) (.rg1 (.call i_law_pick (.cons (.var 0) (.cons (.c (.int 3)) (.cons (.c (.int 8)) .nil))))) none))
  (.seq (.set 6 (.lc X_law_k21_1 (.tc (.nm 7) (.tc (.nm 8) .tn)) (.e (.var 4)) none))
  (.seq (.setO 9 (.lst .nil))
  (.seq (.for_ (.tc (.nm 7) (.tc (.nm 8) .tn)) (.e (.var 6))
  B_law_k21_2)
  (.seq (.set 10 (.b1 .sortsetI (.brw 9)))
  (.seq (.ifs (.or (.cmp .ne (.call i_law_do_6 (.cons (.c (.int 0)) (.cons (.var 1) (.cons (.var 4) (.cons (.c .non) .nil))))) (.call i_law_as_spans (.cons (.var 1) (.cons (.var 10) .nil)))) (.cmp .ne (.call i_law_do_6 (.cons (.c (.int 1)) (.cons (.var 1) (.cons (.var 4) (.cons (.c .non) .nil))))) (.b1 .len (.var 10))))
  (.ret (.c (.bl false)))
  .skip)
  (.seq (.ifs (.or (.cmp .ne (.call i_union (.cons (.var 1) (.cons (.rev (.var 4)) .nil))) (.call i_union (.cons (.var 1) (.cons (.var 4) .nil)))) (.cmp .isnot (.call i_law_do_6 (.cons (.c (.int 3)) (.cons (.var 1) (.cons (.var 4) (.cons (.c .non) .nil))))) (.c (.bl true))))
  (.ret (.c (.bl false)))
  .skip)
  (.seq (.set 11 (.b1 .max (.bin .add (.lst (.cons (.c (.int 0)) .nil)) (.lc X_law_k21_3 (.nm 12) (.e (.var 10)) none))))
  (.seq (.set 13 (.lc X_law_k21_5 (.nm 12) (.e (.var 10)) Y_law_k21_4))
  (.seq (.ifs (.cmp .ne (.call i_law_do_6 (.cons (.c (.int 2)) (.cons (.var 1) (.cons (.var 4) (.cons (.c .non) .nil))))) (.ite (.cmp .ne (.var 4) (.lst .nil)) (.tup (.cons (.var 11) (.cons (.call i_law_at (.cons (.var 1) (.cons (.ix (.var 13) (.c (.int 0))) .nil))) .nil))) (.c .non)))
  (.ret (.c (.bl false)))
  .skip)
  (.seq (.set 14 (.call i_law_span_2 (.cons (.var 0) (.cons (.c (.int 60)) (.cons (.var 1) (.cons (.var 3) .nil))))))
  (.seq (.set 15 (.lrg (.call i_law_count (.cons (.var 1) (.cons (.ix (.var 14) (.c (.int 0))) .nil))) (.call i_law_count (.cons (.var 1) (.cons (.ix (.var 14) (.c (.int 1))) .nil)))))
  (.seq (.set 15 (.lc X_law_k21_7 (.nm 12) (.e (.var 15)) Y_law_k21_6))
  (.seq (.ifs (.cmp .ne (.call i_law_do_6 (.cons (.c (.int 4)) (.cons (.var 1) (.cons (.var 4) (.cons (.var 14) .nil))))) (.call i_law_as_spans (.cons (.var 1) (.cons (.var 15) .nil))))
  (.ret (.c (.bl false)))
  .skip)
  (.seq (.ifs (.not (.call i_law_is_laid (.cons (.var 0) (.cons (.var 1) (.cons (.var 4) (.cons (.var 6) .nil))))))
  (.ret (.c (.bl false)))
  .skip)
  (.ret (.call i_law_are_refused (.cons (.var 0) (.cons (.var 1) (.cons (.var 4) (.cons (.var 14) (.cons (.call i_law_code (.cons (.var 0) (.cons (.c (.int 70)) (.cons (.var 1) .nil)))) .nil)))))))))))))))))))))))))⟩
def F_in_two : FD := ⟨1, 1, false,
  (.ret (.bin .add (.bin .mul (.c (.str ⟨#[48]⟩)) (.bin .sub (.c (.int 2)) (.b1 .len (.b1 .str (.var 0))))) (.b1 .str (.var 0))))⟩
def X_text_of_0 : E := (.call i_in_two (.cons (.var 3) .nil))
def F_text_of : FD := ⟨2, 4, false,
  (.seq (.set 2 (.ite (.cmp .isIn (.var 0) (.gl 2)) (.c (.str ⟨#[59]⟩)) (.c (.str ⟨#[58]⟩))))
  (.ret (.bin .add (.bin .add (.m1 .join (.c (.str ⟨#[58]⟩)) (.lc X_text_of_0 (.nm 3) (.e (.sl (.var 1) none (some (.c (.int 3))))) none)) (.var 2)) (.call i_in_two (.cons (.ix (.var 1) (.c (.int 3))) .nil)))))⟩
def F_code_text : FD := ⟨2, 2, false,
  (.seq (.expr (.call i_look_code (.cons (.var 0) (.cons (.var 1) .nil))))
  (.ret (.call i_text_of (.cons (.var 0) (.cons (.var 1) .nil)))))⟩
def X_parts_in_0 : E := (.cmp .isIn (.var 3) (.c (.str ⟨#[48, 49, 50, 51, 52, 53, 54, 55, 56, 57]⟩)))
def X_parts_in_1 : E := (.b1 .int (.var 5))
def F_parts_in : FD := ⟨2, 6, false,
  (.seq (.ifs (.or (.not (.isi (.var 1) .str)) (.cmp .ne (.b1 .len (.var 1)) (.c (.int 11))))
  (.raise 7)
  .skip)
  (.seq (.set 2 (.lst (.cons (.sl (.var 1) (some (.c (.int 0))) (some (.c (.int 2)))) (.cons (.sl (.var 1) (some (.c (.int 3))) (some (.c (.int 5)))) (.cons (.sl (.var 1) (some (.c (.int 6))) (some (.c (.int 8)))) (.cons (.sl (.var 1) (some (.c (.int 9))) (some (.c (.int 11)))) .nil))))))
  (.seq (.ifs (.not (.b1 .all (.lc X_parts_in_0 (.nm 3) (.e (.m1 .join (.c (.str ⟨#[]⟩)) (.var 2))) none)))
  (.raise 7)
  .skip)
  (.seq (.set 4 (.b1 .tuple (.lc X_parts_in_1 (.nm 5) (.e (.var 2)) none)))
  (.seq (.ifs (.cmp .ne (.bin .add (.bin .add (.ix (.var 1) (.c (.int 2))) (.ix (.var 1) (.c (.int 5)))) (.ix (.var 1) (.c (.int 8)))) (.bin .add (.c (.str ⟨#[58, 58]⟩)) (.ite (.cmp .isIn (.var 0) (.gl 2)) (.c (.str ⟨#[59]⟩)) (.c (.str ⟨#[58]⟩)))))
  (.raise 7)
  .skip)
  (.ret (.var 4)))))))⟩
def F_read_code : FD := ⟨2, 3, false,
  (.seq (.expr (.call i_look_rate (.cons (.var 0) .nil)))
  (.seq (.set 2 (.call i_parts_in (.cons (.var 0) (.cons (.var 1) .nil))))
  (.seq (.ifs (.not (.call i_is_code (.cons (.var 0) (.cons (.var 2) .nil))))
  (.raise 7)
  .skip)
  (.ret (.var 2)))))⟩
def B_read_any_0 : S := (.tryC (.app 1 (.tup (.cons (.var 2) (.cons (.call i_read_code (.cons (.var 2) (.cons (.var 0) .nil))) .nil)))) 7 none)
def F_read_any : FD := ⟨1, 3, false,
  (.seq (.setO 1 (.lst .nil))
  (.seq (.for_ (.nm 2) (.e (.tup (.cons (.c (.str ⟨#[102, 105, 108, 109]⟩)) (.cons (.c (.str ⟨#[101, 117, 114, 111, 112, 101]⟩)) (.cons (.c (.str ⟨#[112, 108, 97, 105, 110]⟩)) (.cons (.c (.str ⟨#[100, 114, 111, 112]⟩)) (.cons (.c (.str ⟨#[102, 97, 115, 116]⟩)) (.cons (.c (.str ⟨#[102, 97, 115, 116, 32, 100, 114, 111, 112]⟩)) .nil))))))))
  B_read_any_0)
  (.seq (.frz 1)
  (.ret (.var 1)))))⟩
def X_read_loose_0 : E := (.chain .le .le (.c (.int 1)) (.b1 .len (.var 3)) (.c (.int 2)))
def X_read_loose_1 : E := (.cmp .isIn (.var 4) (.c (.str ⟨#[48, 49, 50, 51, 52, 53, 54, 55, 56, 57]⟩)))
def X_read_loose_2 : E := (.b1 .all (.lc X_read_loose_1 (.nm 4) (.e (.var 3)) none))
def X_read_loose_3 : E := (.b1 .int (.var 3))
def F_read_loose : FD := ⟨2, 6, false,
  (.seq (.expr (.call i_look_rate (.cons (.var 0) .nil)))
  (.seq (.ifs (.not (.isi (.var 1) .str))
  (.raise 7)
  .skip)
  (.seq (.set 1 (.m2 .replace (.m2 .replace (.var 1) (.c (.str ⟨#[59]⟩)) (.c (.str ⟨#[58]⟩))) (.c (.str ⟨#[46]⟩)) (.c (.str ⟨#[58]⟩))))
  (.seq (.set 2 (.m1 .split (.var 1) (.c (.str ⟨#[58]⟩))))
  (.seq (.ifs (.or (.cmp .ne (.b1 .len (.var 2)) (.c (.int 4))) (.not (.b1 .all (.lc X_read_loose_0 (.nm 3) (.e (.var 2)) none))))
  (.raise 7)
  .skip)
  (.seq (.ifs (.not (.b1 .all (.lc X_read_loose_2 (.nm 3) (.e (.var 2)) none)))
  (.raise 7)
  .skip)
  (.seq (.set 5 (.b1 .tuple (.lc X_read_loose_3 (.nm 3) (.e (.var 2)) none)))
  (.seq (.ifs (.not (.call i_has_shape (.cons (.var 0) (.cons (.var 5) .nil))))
  (.raise 7)
  .skip)
  (.ret (.ite (.call i_is_left_out (.cons (.var 0) (.cons (.var 5) .nil))) (.bin .add (.sl (.var 5) none (some (.c (.int 3)))) (.tup (.cons (.ix (.gl 2) (.var 0)) .nil))) (.var 5)))))))))))⟩
def X_spans_text_0 : E := (.bin .add (.bin .add (.bin .add (.call i_text_of (.cons (.var 0) (.cons (.ix (.var 2) (.c (.int 0))) .nil))) (.c (.str ⟨#[32]⟩))) (.call i_text_of (.cons (.var 0) (.cons (.ix (.var 2) (.c (.int 1))) .nil)))) (.c (.str ⟨#[10]⟩)))
def F_spans_text : FD := ⟨2, 3, false,
  (.seq (.expr (.call i_look_spans (.cons (.var 0) (.cons (.var 1) .nil))))
  (.ret (.m1 .join (.c (.str ⟨#[]⟩)) (.lc X_spans_text_0 (.nm 2) (.e (.var 1)) none))))⟩
def B_read_spans_0 : S := (.seq (.set 5 (.m1 .split (.var 4) (.c (.str ⟨#[32]⟩))))
  (.seq (.ifs (.cmp .ne (.b1 .len (.var 5)) (.c (.int 2)))
  (.raise 7)
  .skip)
  (.app 3 (.tup (.cons (.call i_read_code (.cons (.var 0) (.cons (.ix (.var 5) (.c (.int 0))) .nil))) (.cons (.call i_read_code (.cons (.var 0) (.cons (.ix (.var 5) (.c (.int 1))) .nil))) .nil))))))
def F_read_spans : FD := ⟨2, 6, false,
  (.seq (.expr (.call i_look_rate (.cons (.var 0) .nil)))
  (.seq (.ifs (.not (.isi (.var 1) .str))
  (.raise 7)
  .skip)
  (.seq (.set 2 (.m1 .split (.var 1) (.c (.str ⟨#[10]⟩))))
  (.seq (.setO 3 (.lst .nil))
  (.seq (.for_ (.nm 4) (.e (.sl (.var 2) none (some (.neg (.c (.int 1))))))
  B_read_spans_0)
  (.seq (.frz 3)
  (.seq (.ifs (.or (.cmp .ne (.ix (.var 2) (.neg (.c (.int 1)))) (.c (.str ⟨#[]⟩))) (.not (.call i_are_spans (.cons (.var 0) (.cons (.var 3) .nil)))))
  (.raise 7)
  .skip)
  (.ret (.var 3)))))))))⟩
def F_law_spoilt : FD := ⟨3, 7, false,
  (.seq (.set 3 (.bin .mod (.var 1) (.bin .add (.b1 .len (.var 0)) (.c (.int 1)))))
  (.seq (.set 4 (.ix (.var 2) (.bin .mod (.bin .fdiv (.var 1) (.c (.int 1000))) (.b1 .len (.var 2)))))
  (.seq (.set 5 (.bin .add (.bin .add (.var 3) (.c (.int 1))) (.bin .mod (.bin .fdiv (.var 1) (.c (.int 7))) (.c (.int 9)))))
  (.seq (.set 6 (.bin .mod (.bin .fdiv (.var 1) (.c (.int 100000))) (.c (.int 8))))
  (.seq (.ifs (.cmp .lt (.var 6) (.c (.int 2)))
  (.ret (.bin .add (.bin .add (.sl (.var 0) none (some (.var 3))) (.var 4)) (.sl (.var 0) (some (.var 3)) none)))
  .skip)
  (.seq (.ifs (.cmp .eq (.var 6) (.c (.int 2)))
  (.ret (.bin .add (.sl (.var 0) none (some (.var 3))) (.sl (.var 0) (some (.bin .add (.var 3) (.c (.int 1)))) none)))
  .skip)
  (.seq (.ifs (.cmp .lt (.var 6) (.c (.int 5)))
  (.ret (.bin .add (.bin .add (.sl (.var 0) none (some (.var 3))) (.var 4)) (.sl (.var 0) (some (.bin .add (.var 3) (.c (.int 1)))) none)))
  .skip)
  (.seq (.ifs (.cmp .eq (.var 6) (.c (.int 5)))
  (.ret (.bin .add (.sl (.var 0) none (some (.var 3))) (.sl (.var 0) (some (.var 5)) none)))
  .skip)
  (.seq (.ifs (.cmp .eq (.var 6) (.c (.int 6)))
  (.ret (.bin .add (.sl (.var 0) none (some (.var 5))) (.sl (.var 0) (some (.var 3)) none)))
  .skip)
  (.ret (.ix (.lst (.cons (.bin .add (.var 0) (.c (.str ⟨#[32]⟩))) (.cons (.bin .add (.c (.str ⟨#[32]⟩)) (.var 0)) (.cons (.bin .add (.sl (.var 0) (some (.var 3)) none) (.sl (.var 0) none (some (.var 3)))) (.cons (.c (.str ⟨#[]⟩)) (.cons (.bin .add (.var 0) (.var 0)) .nil)))))) (.bin .mod (.var 1) (.c (.int 5))))))))))))))⟩
def F_law_do_7 : FD := ⟨3, 6, false,
  (.seq (.set 3 (.c .non))
  (.seq (.set 4 (.c .non))
  (.seq (.tryK (.ifs (.cmp .lt (.var 0) (.c (.int 5)))
  (.set 4 (.callix [i_code_text, i_read_code, i_read_loose, i_spans_text, i_read_spans] (.var 0) (.cons (.var 1) (.cons (.var 2) .nil))))
  (.set 4 (.call i_read_any (.cons (.var 2) .nil)))) 0 5 3)
  (.seq (.ifs (.cmp .is (.var 3) (.c .non))
  (.ret (.var 4))
  .skip)
  (.ret (.call i_law_word (.cons (.var 3) .nil)))))))⟩
def X_law_text_0 : E := (.sl (.b1 .str (.bin .add (.c (.int 100)) (.var 3))) (some (.c (.int 1))) none)
def F_law_text : FD := ⟨2, 4, false,
  (.seq (.set 2 (.lc X_law_text_0 (.nm 3) (.e (.var 1)) none))
  (.ret (.bin .add (.bin .add (.bin .add (.bin .add (.bin .add (.bin .add (.ix (.var 2) (.c (.int 0))) (.c (.str ⟨#[58]⟩))) (.ix (.var 2) (.c (.int 1)))) (.c (.str ⟨#[58]⟩))) (.ix (.var 2) (.c (.int 2)))) (.ite (.cmp .gt (.ix (.call i_law_facts (.cons (.var 0) .nil)) (.c (.int 1))) (.c (.int 0))) (.c (.str ⟨#[59]⟩)) (.c (.str ⟨#[58]⟩)))) (.ix (.var 2) (.c (.int 3))))))⟩
def Y_law_read_0 : Option E := (some (.cmp .notIn (.var 3) (.c (.str ⟨#[48, 49, 50, 51, 52, 53, 54, 55, 56, 57]⟩))))
def X_law_read_1 : E := (.var 3)
def X_law_read_2 : E := (.b1 .int (.var 5))
def F_law_read : FD := ⟨2, 6, false,
  (.seq (.set 2 (.lst (.cons (.sl (.var 1) none (some (.c (.int 2)))) (.cons (.sl (.var 1) (some (.c (.int 3))) (some (.c (.int 5)))) (.cons (.sl (.var 1) (some (.c (.int 6))) (some (.c (.int 8)))) (.cons (.sl (.var 1) (some (.c (.int 9))) none) .nil))))))
  (.seq (.ifs (.or (.cmp .ne (.b1 .len (.var 1)) (.c (.int 11))) (.cmp .ne (.lc X_law_read_1 (.nm 3) (.e (.m1 .join (.c (.str ⟨#[]⟩)) (.var 2))) Y_law_read_0) (.lst .nil)))
  (.ret (.c (.str ⟨#[110, 111, 32, 116, 101, 120, 116]⟩)))
  .skip)
  (.seq (.set 4 (.b1 .tuple (.lc X_law_read_2 (.nm 5) (.e (.var 2)) none)))
  (.ret (.ite (.and (.call i_law_is_code (.cons (.var 0) (.cons (.var 4) .nil))) (.cmp .eq (.call i_law_text (.cons (.var 0) (.cons (.var 4) .nil))) (.var 1))) (.var 4) (.c (.str ⟨#[110, 111, 32, 116, 101, 120, 116]⟩)))))))⟩
def X_law_loose_0 : E := (.ite (.cmp .isIn (.var 3) (.c (.str ⟨#[59, 46]⟩))) (.c (.str ⟨#[58]⟩)) (.var 3))
def Y_law_loose_1 : Option E := (some (.not (.chain .le .le (.c (.int 1)) (.b1 .len (.var 4)) (.c (.int 2)))))
def X_law_loose_2 : E := (.var 4)
def Y_law_loose_3 : Option E := (some (.cmp .notIn (.var 3) (.c (.str ⟨#[48, 49, 50, 51, 52, 53, 54, 55, 56, 57]⟩))))
def X_law_loose_4 : E := (.var 3)
def X_law_loose_5 : E := (.b1 .int (.var 4))
def F_law_loose : FD := ⟨2, 7, false,
  (.seq (.set 2 (.m1 .split (.m1 .join (.c (.str ⟨#[]⟩)) (.lc X_law_loose_0 (.nm 3) (.e (.var 1)) none)) (.c (.str ⟨#[58]⟩))))
  (.seq (.ifs (.or (.cmp .ne (.b1 .len (.var 2)) (.c (.int 4))) (.cmp .ne (.lc X_law_loose_2 (.nm 4) (.e (.var 2)) Y_law_loose_1) (.lst .nil)))
  (.ret (.c (.str ⟨#[110, 111, 32, 116, 101, 120, 116]⟩)))
  .skip)
  (.seq (.ifs (.cmp .ne (.lc X_law_loose_4 (.nm 3) (.e (.m1 .join (.c (.str ⟨#[]⟩)) (.var 2))) Y_law_loose_3) (.lst .nil))
  (.ret (.c (.str ⟨#[110, 111, 32, 116, 101, 120, 116]⟩)))
  .skip)
  (.seq (.set 5 (.b1 .tuple (.lc X_law_loose_5 (.nm 4) (.e (.var 2)) none)))
  (.seq (.ifs (.call i_law_is_code (.cons (.var 0) (.cons (.var 5) .nil)))
  (.ret (.var 5))
  .skip)
  (.seq (.set 6 (.bin .add (.sl (.var 5) none (some (.c (.int 3)))) (.tup (.cons (.ix (.call i_law_facts (.cons (.var 0) .nil)) (.c (.int 1))) .nil))))
  (.seq (.ifs (.and (.cmp .lt (.ix (.var 5) (.c (.int 3))) (.ix (.var 6) (.c (.int 3)))) (.and (.call i_law_is_code (.cons (.var 0) (.cons (.var 6) .nil))) (.call i_law_is_out (.cons (.var 0) (.cons (.var 5) .nil)))))
  (.ret (.var 6))
  .skip)
  (.ret (.c (.str ⟨#[110, 111, 32, 116, 101, 120, 116]⟩))))))))))⟩
def X_law_are_lines_read_0 : E := (.call i_law_do_7 (.cons (.c (.int 4)) (.cons (.var 0) (.cons (.var 3) .nil))))
def F_law_are_lines_read : FD := ⟨1, 4, false,
  (.seq (.set 1 (.bin .add (.bin .add (.bin .add (.call i_law_text (.cons (.var 0) (.cons (.tup (.cons (.c (.int 0)) (.cons (.c (.int 0)) (.cons (.c (.int 1)) (.cons (.c (.int 0)) .nil))))) .nil))) (.c (.str ⟨#[32]⟩))) (.call i_law_text (.cons (.var 0) (.cons (.tup (.cons (.c (.int 0)) (.cons (.c (.int 0)) (.cons (.c (.int 2)) (.cons (.c (.int 0)) .nil))))) .nil)))) (.c (.str ⟨#[10]⟩))))
  (.seq (.set 2 (.lst (.cons (.c (.str ⟨#[10]⟩)) (.cons (.bin .add (.sl (.var 1) none (some (.c (.int 11)))) (.c (.str ⟨#[10]⟩))) (.cons (.sl (.var 1) none (some (.neg (.c (.int 1))))) (.cons (.bin .add (.bin .add (.sl (.var 1) none (some (.neg (.c (.int 1))))) (.c (.str ⟨#[32]⟩))) (.var 1)) (.cons (.bin .add (.bin .add (.bin .add (.sl (.var 1) (some (.c (.int 12))) (some (.neg (.c (.int 1))))) (.c (.str ⟨#[32]⟩))) (.sl (.var 1) none (some (.c (.int 11))))) (.c (.str ⟨#[10]⟩))) .nil)))))))
  (.seq (.ifs (.cmp .ne (.lc X_law_are_lines_read_0 (.nm 3) (.e (.var 2)) none) (.bin .mul (.lst (.cons (.c (.str ⟨#[110, 111, 32, 116, 101, 120, 116]⟩)) .nil)) (.c (.int 5))))
  (.ret (.c (.bl false)))
  .skip)
  (.seq (.ifs (.or (.cmp .ne (.call i_law_do_7 (.cons (.c (.int 4)) (.cons (.var 0) (.cons (.bin .mul (.var 1) (.c (.int 21))) .nil)))) (.c (.str ⟨#[110, 111, 32, 116, 101, 120, 116]⟩))) (.cmp .ne (.b1 .len (.call i_read_spans (.cons (.var 0) (.cons (.bin .mul (.var 1) (.c (.int 20))) .nil)))) (.c (.int 20))))
  (.ret (.c (.bl false)))
  .skip)
  (.ret (.c (.bl true)))))))⟩
def B_law_are_spans_read_0 : S := (.seq (.set 5 (.b1 .sorted (.lst (.cons (.call i_law_code (.cons (.var 0) (.cons (.bin .add (.c (.int 110)) (.bin .mul (.c (.int 20)) (.var 4))) (.cons (.var 1) .nil)))) (.cons (.call i_law_code (.cons (.var 0) (.cons (.bin .add (.c (.int 120)) (.bin .mul (.c (.int 20)) (.var 4))) (.cons (.var 1) .nil)))) .nil)))))
  (.ext 3 (.ite (.cmp .lt (.ix (.var 5) (.c (.int 0))) (.ix (.var 5) (.c (.int 1)))) (.lst (.cons (.b1 .tuple (.var 5)) .nil)) (.lst .nil))))
def X_law_are_spans_read_1 : E := (.bin .add (.bin .add (.bin .add (.call i_law_text (.cons (.var 1) (.cons (.var 7) .nil))) (.c (.str ⟨#[32]⟩))) (.call i_law_text (.cons (.var 1) (.cons (.var 8) .nil)))) (.c (.str ⟨#[10]⟩)))
def X_law_are_spans_read_2 : E := (.m1 .split (.var 13) (.c (.str ⟨#[32]⟩)))
def X_law_are_spans_read_3 : E := (.call i_law_read (.cons (.var 1) (.cons (.var 15) .nil)))
def X_law_are_spans_read_4 : E := (.b1 .tuple (.lc X_law_are_spans_read_3 (.nm 15) (.e (.var 14)) none))
def Y_law_are_spans_read_5 : Option E := (some (.or (.cmp .ne (.b1 .len (.var 14)) (.c (.int 2))) (.or (.cmp .isIn (.c (.str ⟨#[110, 111, 32, 116, 101, 120, 116]⟩)) (.var 14)) (.not (.cmp .lt (.ix (.var 14) (.c (.int 0))) (.ix (.var 14) (.c (.int 1))))))))
def X_law_are_spans_read_6 : E := (.var 14)
def B_law_are_spans_read_7 : S := (.seq (.set 9 (.call i_law_spoilt (.cons (.var 6) (.cons (.call i_law_pick (.cons (.var 0) (.cons (.bin .add (.c (.int 200)) (.var 4)) (.cons (.bin .pow (.c (.int 10)) (.c (.int 9))) .nil)))) (.cons (.ix (.lst (.cons (.c (.str ⟨#[48, 49, 53, 57, 58, 59, 32, 10]⟩)) (.cons (.c (.str ⟨#[43, 45, 95, 97, 120, 126, 47, 35, 48]⟩)) .nil))) (.bin .mod (.var 4) (.c (.int 2)))) .nil)))))
  (.seq (.set 10 (.call i_law_do_7 (.cons (.c (.int 4)) (.cons (.var 1) (.cons (.var 9) .nil)))))
  (.seq (.set 11 (.lc X_law_are_spans_read_2 (.nm 13) (.e (.m1 .split (.var 9) (.c (.str ⟨#[10]⟩)))) none))
  (.seq (.set 11 (.lc X_law_are_spans_read_4 (.nm 14) (.e (.var 11)) none))
  (.seq (.set 12 (.and (.cmp .eq (.ix (.var 11) (.neg (.c (.int 1)))) (.tup (.cons (.c (.str ⟨#[110, 111, 32, 116, 101, 120, 116]⟩)) .nil))) (.cmp .isIn (.sl (.var 9) (some (.neg (.c (.int 1)))) none) (.tup (.cons (.c (.str ⟨#[]⟩)) (.cons (.c (.str ⟨#[10]⟩)) .nil))))))
  (.seq (.ifs (.cmp .ne (.lc X_law_are_spans_read_6 (.nm 14) (.e (.sl (.var 11) none (some (.neg (.c (.int 1)))))) Y_law_are_spans_read_5) (.lst .nil))
  (.set 12 (.c (.bl false)))
  .skip)
  (.ifs (.cmp .ne (.var 10) (.ite (.var 12) (.sl (.var 11) none (some (.neg (.c (.int 1))))) (.c (.str ⟨#[110, 111, 32, 116, 101, 120, 116]⟩))))
  (.ret (.c (.bl false)))
  .skip)))))))
def X_law_are_spans_read_8 : E := (.call i_law_do_7 (.cons (.var 17) (.cons (.var 1) (.cons (.var 16) .nil))))
def X_law_are_spans_read_9 : E := (.call i_law_do_7 (.cons (.var 17) (.cons (.var 1) (.cons (.var 16) .nil))))
def X_law_are_spans_read_10 : E := (.call i_law_do_7 (.cons (.var 17) (.cons (.c (.str ⟨#[110, 111, 110, 101]⟩)) (.cons (.c .non) .nil))))
def F_law_are_spans_read : FD := ⟨3, 19, false,
  (.seq (.setO 3 (.lst .nil))
  (.seq (.for_ (.nm 4) (.rg1 (.call i_law_pick (.cons (.var 0) (.cons (.c (.int 100)) (.cons (.c (.int 4)) .nil)))))
  B_law_are_spans_read_0)
  (.seq (.frz 3)
  (.seq (.set 6 (.m1 .join (.c (.str ⟨#[]⟩)) (.lc X_law_are_spans_read_1 (.tc (.nm 7) (.tc (.nm 8) .tn)) (.e (.var 3)) none)))
  (.seq (.ifs (.or (.cmp .ne (.call i_law_do_7 (.cons (.c (.int 3)) (.cons (.var 1) (.cons (.var 3) .nil)))) (.var 6)) (.cmp .ne (.call i_law_do_7 (.cons (.c (.int 4)) (.cons (.var 1) (.cons (.var 6) .nil)))) (.var 3)))
  (.ret (.c (.bl false)))
  .skip)
  (.seq (.for_ (.nm 4) (.rg1 (.c (.int 4)))
  B_law_are_spans_read_7)
  (.seq (.ifs (.not (.call i_law_are_lines_read (.cons (.var 1) .nil)))
  (.ret (.c (.bl false)))
  .skip)
  (.seq (.set 16 (.ix (.lst (.cons (.c (.str ⟨#[43, 49, 58, 48, 48, 58, 48, 48, 58, 48, 48]⟩)) (.cons (.c (.str ⟨#[45, 48, 58, 48, 48, 58, 48, 48, 58, 48, 48]⟩)) (.cons (.c (.str ⟨#[49, 95, 58, 48, 48, 58, 48, 48, 58, 48, 48]⟩)) .nil)))) (.call i_law_pick (.cons (.var 0) (.cons (.c (.int 211)) (.cons (.c (.int 3)) .nil))))))
  (.seq (.ifs (.or (.cmp .ne (.lc X_law_are_spans_read_8 (.nm 17) (.e (.tup (.cons (.c (.int 1)) (.cons (.c (.int 2)) .nil)))) none) (.bin .mul (.lst (.cons (.c (.str ⟨#[110, 111, 32, 116, 101, 120, 116]⟩)) .nil)) (.c (.int 2)))) (.cmp .ne (.call i_law_do_7 (.cons (.c (.int 5)) (.cons (.c .non) (.cons (.var 16) .nil)))) (.lst .nil)))
  (.ret (.c (.bl false)))
  .skip)
  (.seq (.set 16 (.ix (.lst (.cons (.c .non) (.cons (.c (.int 5)) (.cons (.tup (.cons (.c (.str ⟨#[97]⟩)) .nil)) (.cons (.lst (.cons (.c (.str ⟨#[48, 48, 58, 48, 48, 58, 48, 48, 58, 48, 48]⟩)) .nil)) .nil))))) (.call i_law_pick (.cons (.var 0) (.cons (.c (.int 210)) (.cons (.c (.int 4)) .nil))))))
  (.seq (.ifs (.cmp .ne (.lc X_law_are_spans_read_9 (.nm 17) (.e (.tup (.cons (.c (.int 1)) (.cons (.c (.int 2)) (.cons (.c (.int 4)) .nil))))) none) (.bin .mul (.lst (.cons (.c (.str ⟨#[110, 111, 32, 116, 101, 120, 116]⟩)) .nil)) (.c (.int 3))))
  (.ret (.c (.bl false)))
  .skip)
  (.seq (.set 18 (.call i_law_spoilt_thing (.cons (.var 0) (.cons (.c (.int 300)) (.cons (.var 2) .nil)))))
  (.seq (.ifs (.or (.and (.not (.call i_law_is_code (.cons (.var 1) (.cons (.var 18) .nil)))) (.cmp .ne (.call i_law_do_7 (.cons (.c (.int 0)) (.cons (.var 1) (.cons (.var 18) .nil)))) (.c (.str ⟨#[110, 111, 32, 99, 111, 100, 101]⟩)))) (.cmp .ne (.call i_law_do_7 (.cons (.c (.int 3)) (.cons (.var 1) (.cons (.lst (.cons (.var 18) .nil)) .nil)))) (.c (.str ⟨#[110, 111, 32, 115, 112, 97, 110]⟩))))
  (.ret (.c (.bl false)))
  .skip)
  (.ret (.cmp .eq (.lc X_law_are_spans_read_10 (.nm 17) (.rg1 (.c (.int 5))) none) (.bin .mul (.lst (.cons (.c (.str ⟨#[110, 111, 32, 114, 97, 116, 101]⟩)) .nil)) (.c (.int 5))))))))))))))))))⟩
def X_law_k30_0 : E := (.b1 .str (.var 10))
def X_law_k30_1 : E := (.tup (.cons (.var 8) (.cons (.call i_law_read (.cons (.var 8) (.cons (.var 6) .nil))) .nil)))
def Y_law_k30_2 : Option E := (some (.cmp .ne (.ix (.var 9) (.c (.int 1))) (.c (.str ⟨#[110, 111, 32, 116, 101, 120, 116]⟩))))
def X_law_k30_3 : E := (.var 9)
def B_law_k30_4 : S := (.seq (.set 6 (.call i_law_spoilt (.cons (.var 4) (.cons (.call i_law_pick (.cons (.var 0) (.cons (.bin .add (.c (.int 40)) (.var 5)) (.cons (.bin .pow (.c (.int 10)) (.c (.int 9))) .nil)))) (.cons (.ix (.lst (.cons (.c (.str ⟨#[48, 49, 50, 51, 53, 54, 57, 58, 59, 46, 32]⟩)) (.cons (.c (.str ⟨#[43, 45, 95, 97, 120, 126, 47, 35, 48]⟩)) .nil))) (.bin .mod (.var 5) (.c (.int 2)))) .nil)))))
  (.seq (.ifs (.cmp .gt (.var 5) (.c (.int 2)))
  (.set 6 (.ix (.lst (.cons (.call i_law_text (.cons (.var 1) (.cons (.var 3) .nil))) (.cons (.m1 .join (.c (.str ⟨#[58]⟩)) (.lc X_law_k30_0 (.nm 10) (.e (.var 3)) none)) (.cons (.c (.str ⟨#[49, 46, 50, 46, 51, 46, 52]⟩)) .nil)))) (.bin .sub (.var 5) (.c (.int 3)))))
  .skip)
  (.seq (.ifs (.or (.cmp .ne (.call i_law_do_7 (.cons (.c (.int 1)) (.cons (.var 1) (.cons (.var 6) .nil)))) (.call i_law_read (.cons (.var 1) (.cons (.var 6) .nil)))) (.cmp .ne (.call i_law_do_7 (.cons (.c (.int 2)) (.cons (.var 1) (.cons (.var 6) .nil)))) (.call i_law_loose (.cons (.var 1) (.cons (.var 6) .nil)))))
  (.ret (.c (.bl false)))
  .skip)
  (.seq (.set 7 (.lc X_law_k30_1 (.nm 8) (.e (.tup (.cons (.c (.str ⟨#[102, 105, 108, 109]⟩)) (.cons (.c (.str ⟨#[101, 117, 114, 111, 112, 101]⟩)) (.cons (.c (.str ⟨#[112, 108, 97, 105, 110]⟩)) (.cons (.c (.str ⟨#[100, 114, 111, 112]⟩)) (.cons (.c (.str ⟨#[102, 97, 115, 116]⟩)) (.cons (.c (.str ⟨#[102, 97, 115, 116, 32, 100, 114, 111, 112]⟩)) .nil)))))))) none))
  (.ifs (.cmp .ne (.call i_law_do_7 (.cons (.c (.int 5)) (.cons (.c .non) (.cons (.var 6) .nil)))) (.lc X_law_k30_3 (.nm 9) (.e (.var 7)) Y_law_k30_2))
  (.ret (.c (.bl false)))
  .skip)))))
def F_law_k30 : FD := ⟨1, 11, false,
  (.seq (.set 1 (.call i_law_rate (.cons (.var 0) (.cons (.c (.int 0)) .nil))))
  (.seq (.par [2, 3] [false, false] (.cons (.call i_law_code (.cons (.var 0) (.cons (.c (.int 20)) (.cons (.var 1) .nil)))) (.cons (.call i_law_shape (.cons (.var 0) (.cons (.c (.int 30)) (.cons (.var 1) .nil)))) .nil)))
  (.seq (.set 4 (.call i_law_text (.cons (.var 1) (.cons (.var 2) .nil))))
  (.seq (.ifs (.or (.cmp .ne (.call i_law_do_7 (.cons (.c (.int 0)) (.cons (.var 1) (.cons (.var 2) .nil)))) (.var 4)) (.cmp .ne (.call i_law_do_7 (.cons (.c (.int 1)) (.cons (.var 1) (.cons (.var 4) .nil)))) (.var 2)))
  (.ret (.c (.bl false)))
  .skip)
  (.seq (.for_ (.nm 5) (.rg1 (.c (.int 6)))
  B_law_k30_4)
  (.ret (.call i_law_are_spans_read (.cons (.var 0) (.cons (.var 1) (.cons (.var 2) .nil))))))))))⟩
def F_law_do_8 : FD := ⟨5, 8, false,
  (.seq (.set 5 (.c .non))
  (.seq (.set 6 (.c .non))
  (.seq (.tryK (.ifs (.cmp .lt (.var 0) (.c (.int 3)))
  (.set 6 (.callix [i_later, i_shifted, i_code_at_time] (.var 0) (.cons (.var 1) (.cons (.var 2) (.cons (.var 3) .nil)))))
  (.set 6 (.ite (.cmp .eq (.var 0) (.c (.int 3))) (.call i_led (.cons (.var 1) (.cons (.var 2) (.cons (.var 3) (.cons (.var 4) .nil))))) (.call i_laid (.cons (.var 1) (.cons (.var 2) (.cons (.var 3) .nil))))))) 0 7 5)
  (.seq (.ifs (.cmp .is (.var 5) (.c .non))
  (.ret (.var 6))
  .skip)
  (.ret (.call i_law_word (.cons (.var 5) .nil)))))))⟩
def F_law_lists : FD := ⟨3, 4, false,
  (.seq (.set 3 (.lst (.cons (.call i_union (.cons (.var 0) (.cons (.var 1) .nil))) (.cons (.call i_gaps (.cons (.var 0) (.cons (.var 1) (.cons (.var 2) .nil)))) (.cons (.call i_laid (.cons (.var 0) (.cons (.var 1) (.cons (.tup (.cons (.c (.int 0)) (.cons (.c (.int 0)) (.cons (.c (.int 0)) (.cons (.c (.int 0)) .nil))))) .nil)))) (.cons (.call i_read_any (.cons (.c (.str ⟨#[48, 48, 58, 48, 48, 58, 49, 48, 58, 48, 48]⟩)) .nil)) .nil))))))
  (.ret (.bin .add (.var 3) (.lst (.cons (.call i_read_spans (.cons (.var 0) (.cons (.call i_spans_text (.cons (.var 0) (.cons (.var 1) .nil))) .nil))) .nil)))))⟩
def F_law_do_9 : FD := ⟨5, 8, false,
  (.seq (.set 5 (.c .non))
  (.seq (.set 6 (.c .non))
  (.seq (.tryK (.ifs (.cmp .lt (.var 0) (.c (.int 6)))
  (.set 6 (.callix [i_count, i_mended, i_code_at, i_drift, i_true_time, i_exact_step] (.var 0) (.cons (.var 1) (.cons (.var 2) .nil))))
  (.ifs (.cmp .lt (.var 0) (.c (.int 11)))
  (.set 6 (.callix [i_later, i_round_later, i_between, i_is_exact, i_code_at_time] (.bin .sub (.var 0) (.c (.int 6))) (.cons (.var 1) (.cons (.var 2) (.cons (.var 3) .nil)))))
  (.ifs (.cmp .lt (.var 0) (.c (.int 16)))
  (.set 6 (.callix [i_shifted, i_common, i_joined, i_gaps, i_laid] (.bin .sub (.var 0) (.c (.int 11))) (.cons (.var 1) (.cons (.var 2) (.cons (.var 3) .nil)))))
  (.set 6 (.call i_led (.cons (.var 1) (.cons (.var 2) (.cons (.var 3) (.cons (.var 4) .nil))))))))) 0 7 5)
  (.seq (.ifs (.cmp .is (.var 5) (.c .non))
  (.ret (.var 6))
  .skip)
  (.ret (.call i_law_word (.cons (.var 5) .nil)))))))⟩
def F_law_word_of : FD := ⟨2, 3, false,
  (.seq (.set 2 (.call i_law_do_9 (.cons (.var 0) (.cons (.ix (.var 1) (.c (.int 0))) (.cons (.ix (.var 1) (.c (.int 1))) (.cons (.ix (.var 1) (.c (.int 2))) (.cons (.ix (.var 1) (.c (.int 3))) .nil)))))))
  (.ret (.ite (.isi (.var 2) .str) (.var 2) (.c (.str ⟨#[]⟩)))))⟩
def F_law_kinds : FD := ⟨1, 2, false,
  (.seq (.setO 1 (.lst (.cons (.c (.str ⟨#[99, 111, 100, 101]⟩)) (.cons (.c (.str ⟨#[99, 111, 100, 101]⟩)) (.cons (.c (.str ⟨#[110, 117, 109, 98, 101, 114]⟩)) (.cons (.c (.str ⟨#[99, 111, 100, 101]⟩)) (.cons (.c (.str ⟨#[99, 111, 100, 101]⟩)) (.cons (.c (.str ⟨#[114, 97, 116, 101]⟩)) (.cons (.c (.str ⟨#[99, 111, 100, 101, 32, 98, 121]⟩)) (.cons (.c (.str ⟨#[99, 111, 100, 101, 32, 98, 121]⟩)) (.cons (.c (.str ⟨#[99, 111, 100, 101, 32, 99, 111, 100, 101]⟩)) .nil)))))))))))
  (.seq (.ext 1 (.lst (.cons (.c (.str ⟨#[99, 111, 100, 101, 32, 114, 97, 116, 101]⟩)) (.cons (.c (.str ⟨#[116, 105, 109, 101, 32, 119, 97, 121]⟩)) .nil))))
  (.seq (.ext 1 (.lst (.cons (.c (.str ⟨#[115, 112, 97, 110, 32, 98, 121]⟩)) (.cons (.c (.str ⟨#[115, 112, 97, 110, 32, 115, 112, 97, 110]⟩)) (.cons (.c (.str ⟨#[115, 112, 97, 110, 32, 115, 112, 97, 110]⟩)) (.cons (.c (.str ⟨#[115, 112, 97, 110, 115, 32, 115, 112, 97, 110]⟩)) (.cons (.c (.str ⟨#[115, 112, 97, 110, 115, 32, 99, 111, 100, 101]⟩)) (.cons (.c (.str ⟨#[99, 111, 100, 101, 32, 114, 97, 116, 101, 32, 119, 97, 121]⟩)) .nil))))))))
  (.ret (.m1 .split (.bin .add (.c (.str ⟨#[114, 97, 116, 101, 32]⟩)) (.ix (.brw 1) (.var 0))) (.c (.str ⟨#[32]⟩)))))))⟩
def X_is_reel_0 : E := (.cmp .isIn (.var 1) (.gl 5))
def F_is_reel : FD := ⟨1, 2, false,
  (.ret (.and (.isi (.var 0) .str) (.and (.chain .le .le (.c (.int 1)) (.b1 .len (.var 0)) (.gl 6)) (.b1 .all (.lc X_is_reel_0 (.nm 1) (.e (.var 0)) none)))))⟩
def F_is_clip_of : FD := ⟨2, 2, false,
  (.ret (.and (.isi (.var 1) .tup) (.and (.cmp .eq (.b1 .len (.var 1)) (.c (.int 2))) (.and (.call i_is_reel (.cons (.ix (.var 1) (.c (.int 0))) .nil)) (.call i_is_span (.cons (.var 0) (.cons (.ix (.var 1) (.c (.int 1))) .nil)))))))⟩
def F_is_clip : FD := ⟨2, 2, false,
  (.seq (.expr (.call i_look_rate (.cons (.var 0) .nil)))
  (.ret (.call i_is_clip_of (.cons (.var 0) (.cons (.var 1) .nil)))))⟩
def X_is_cut_0 : E := (.call i_is_clip_of (.cons (.var 0) (.cons (.var 2) .nil)))
def F_is_cut : FD := ⟨2, 3, false,
  (.seq (.expr (.call i_look_rate (.cons (.var 0) .nil)))
  (.ret (.and (.isi (.var 1) .tup) (.and (.cmp .le (.b1 .len (.var 1)) (.gl 7)) (.b1 .all (.lc X_is_cut_0 (.nm 2) (.e (.var 1)) none))))))⟩
def F_look_cut : FD := ⟨2, 2, false,
  (.ifs (.not (.call i_is_cut (.cons (.var 0) (.cons (.var 1) .nil))))
  (.raise 9)
  .skip)⟩
def F_look_reel : FD := ⟨1, 1, false,
  (.ifs (.not (.call i_is_reel (.cons (.var 0) .nil)))
  (.raise 8)
  .skip)⟩
def X_pieces_of_0 : E := (.bin .add (.tup (.cons (.var 2) .nil)) (.call i_counts_in (.cons (.var 0) (.cons (.var 3) .nil))))
def F_pieces_of : FD := ⟨2, 4, false,
  (.ret (.lc X_pieces_of_0 (.tc (.nm 2) (.tc (.nm 3) .tn)) (.e (.var 1)) none))⟩
def X_many_in_0 : E := (.bin .sub (.var 3) (.var 2))
def F_many_in : FD := ⟨1, 4, false,
  (.ret (.b1 .sum (.lc X_many_in_0 (.tc (.nm 1) (.tc (.nm 2) (.tc (.nm 3) .tn))) (.e (.var 0)) none)))⟩
def F_cut_long : FD := ⟨2, 2, false,
  (.seq (.expr (.call i_look_cut (.cons (.var 0) (.cons (.var 1) .nil))))
  (.ret (.call i_many_in (.cons (.call i_pieces_of (.cons (.var 0) (.cons (.var 1) .nil))) .nil))))⟩
def B_frame_at_0 : S := (.seq (.ifs (.chain .le .lt (.c (.int 0)) (.var 3) (.bin .sub (.var 6) (.var 5)))
  (.ret (.tup (.cons (.var 4) (.cons (.call i_code_of (.cons (.var 0) (.cons (.bin .add (.var 5) (.var 3)) .nil))) .nil))))
  .skip)
  (.set 3 (.bin .sub (.var 3) (.bin .sub (.var 6) (.var 5)))))
def F_frame_at : FD := ⟨3, 7, false,
  (.seq (.expr (.call i_look_cut (.cons (.var 0) (.cons (.var 1) .nil))))
  (.seq (.expr (.call i_look_by (.cons (.var 2) .nil)))
  (.seq (.set 3 (.var 2))
  (.seq (.for_ (.tc (.nm 4) (.tc (.nm 5) (.tc (.nm 6) .tn))) (.e (.call i_pieces_of (.cons (.var 0) (.cons (.var 1) .nil))))
  B_frame_at_0)
  (.raise 5)))))⟩
def B_frames_of_0 : S := (.seq (.ifs (.and (.cmp .eq (.var 7) (.var 2)) (.chain .le .lt (.var 8) (.var 4) (.var 9)))
  (.app 5 (.bin .sub (.bin .add (.var 6) (.var 4)) (.var 8)))
  .skip)
  (.set 6 (.bin .sub (.bin .add (.var 6) (.var 9)) (.var 8))))
def F_frames_of : FD := ⟨4, 10, false,
  (.seq (.expr (.call i_look_cut (.cons (.var 0) (.cons (.var 1) .nil))))
  (.seq (.expr (.call i_look_reel (.cons (.var 2) .nil)))
  (.seq (.expr (.call i_look_code (.cons (.var 0) (.cons (.var 3) .nil))))
  (.seq (.set 4 (.call i_count_of (.cons (.var 0) (.cons (.var 3) .nil))))
  (.seq (.setO 5 (.lst .nil))
  (.seq (.set 6 (.c (.int 0)))
  (.seq (.for_ (.tc (.nm 7) (.tc (.nm 8) (.tc (.nm 9) .tn))) (.e (.call i_pieces_of (.cons (.var 0) (.cons (.var 1) .nil))))
  B_frames_of_0)
  (.seq (.frz 5)
  (.ret (.var 5))))))))))⟩
def B_law_cut_0 : S := (.seq (.set 8 (.bin .add (.bin .add (.var 1) (.c (.int 11))) (.bin .mul (.c (.int 4)) (.var 7))))
  (.seq (.set 9 (.bin .add (.var 4) (.call i_law_pick (.cons (.var 0) (.cons (.bin .add (.var 8) (.c (.int 1))) (.cons (.c (.int 20)) .nil))))))
  (.seq (.set 9 (.ite (.cmp .eq (.call i_law_pick (.cons (.var 0) (.cons (.var 8) (.cons (.c (.int 3)) .nil)))) (.c (.int 0))) (.var 6) (.var 9)))
  (.seq (.set 10 (.b2 .min (.bin .add (.bin .add (.var 9) (.c (.int 1))) (.call i_law_pick (.cons (.var 0) (.cons (.bin .add (.var 8) (.c (.int 2))) (.cons (.c (.int 6)) .nil))))) (.bin .sub (.call i_law_day (.cons (.var 2) .nil)) (.c (.int 1)))))
  (.seq (.set 11 (.ix (.lst (.cons (.c (.str ⟨#[97]⟩)) (.cons (.c (.str ⟨#[97]⟩)) (.cons (.c (.str ⟨#[98]⟩)) (.cons (.c (.str ⟨#[99, 117, 116]⟩)) .nil))))) (.call i_law_pick (.cons (.var 0) (.cons (.bin .add (.var 8) (.c (.int 3))) (.cons (.c (.int 4)) .nil))))))
  (.seq (.app 5 (.tup (.cons (.var 11) (.cons (.tup (.cons (.call i_law_at (.cons (.var 2) (.cons (.b2 .min (.var 9) (.bin .sub (.var 10) (.c (.int 1)))) .nil))) (.cons (.call i_law_at (.cons (.var 2) (.cons (.var 10) .nil))) .nil))) .nil))))
  (.set 6 (.b2 .min (.var 10) (.bin .sub (.call i_law_day (.cons (.var 2) .nil)) (.c (.int 2)))))))))))
def F_law_cut : FD := ⟨4, 12, false,
  (.seq (.set 4 (.b2 .min (.call i_law_count (.cons (.var 2) (.cons (.call i_law_code (.cons (.var 0) (.cons (.var 1) (.cons (.var 2) .nil)))) .nil))) (.bin .sub (.call i_law_day (.cons (.var 2) .nil)) (.c (.int 90)))))
  (.seq (.par [5, 6] [true, false] (.cons (.lst .nil) (.cons (.var 4) .nil)))
  (.seq (.for_ (.nm 7) (.rg1 (.call i_law_pick (.cons (.var 0) (.cons (.bin .add (.var 1) (.c (.int 10))) (.cons (.bin .add (.var 3) (.c (.int 1))) .nil)))))
  B_law_cut_0)
  (.ret (.b1 .tuple (.brw 5))))))⟩
def X_law_frames_2_0 : E := (.tup (.cons (.var 3) (.cons (.var 5) .nil)))
def B_law_frames_2_1 : S := (.ext 2 (.lc X_law_frames_2_0 (.nm 5) (.rg2 (.call i_law_count (.cons (.var 0) (.cons (.ix (.var 4) (.c (.int 0))) .nil))) (.call i_law_count (.cons (.var 0) (.cons (.ix (.var 4) (.c (.int 1))) .nil)))) none))
def F_law_frames_2 : FD := ⟨2, 6, false,
  (.seq (.setO 2 (.lst .nil))
  (.seq (.for_ (.tc (.nm 3) (.tc (.nm 4) .tn)) (.e (.var 1))
  B_law_frames_2_1)
  (.seq (.frz 2)
  (.ret (.var 2)))))⟩
def B_law_clips_0 : S := (.ifs (.and (.cmp .ne (.brw2 2) (.lst .nil)) (.and (.cmp .eq (.ix2 2 (.neg (.c (.int 1))) (.c (.int 0))) (.var 3)) (.cmp .eq (.ix2 2 (.neg (.c (.int 1))) (.c (.int 2))) (.var 4))))
  (.setIx2 2 (.neg (.c (.int 1))) (.c (.int 2)) (.bin .add (.var 4) (.c (.int 1))))
  (.app2 2 (.cons (.var 3) (.cons (.var 4) (.cons (.bin .add (.var 4) (.c (.int 1))) .nil)))))
def X_law_clips_1 : E := (.tup (.cons (.var 3) (.cons (.tup (.cons (.call i_law_at (.cons (.var 0) (.cons (.var 5) .nil))) (.cons (.call i_law_at (.cons (.var 0) (.cons (.var 6) .nil))) .nil))) .nil)))
def F_law_clips : FD := ⟨2, 7, false,
  (.seq (.setO 2 (.lst .nil))
  (.seq (.for_ (.tc (.nm 3) (.tc (.nm 4) .tn)) (.e (.var 1))
  B_law_clips_0)
  (.seq (.frz 2)
  (.ret (.b1 .tuple (.lc X_law_clips_1 (.tc (.nm 3) (.tc (.nm 5) (.tc (.nm 6) .tn))) (.e (.var 2)) none))))))⟩
def B_law_k51_0 : S := (.ifs (.cmp .ne (.call i_frame_at (.cons (.var 1) (.cons (.var 2) (.cons (.var 4) .nil)))) (.tup (.cons (.var 5) (.cons (.call i_law_at (.cons (.var 1) (.cons (.var 6) .nil))) .nil))))
  (.ret (.c (.bl false)))
  .skip)
def Y_law_k51_1 : Option E := (some (.cmp .eq (.ix (.var 3) (.var 8)) (.tup (.cons (.var 5) (.cons (.var 6) .nil)))))
def X_law_k51_2 : E := (.var 8)
def B_law_k51_3 : S := (.seq (.unp (.tc (.nm 5) (.tc (.nm 6) .tn)) (.ite (.cmp .eq (.var 3) (.lst .nil)) (.tup (.cons (.c (.str ⟨#[98]⟩)) (.cons (.c (.int 5)) .nil))) (.ix (.var 3) (.call i_law_pick (.cons (.var 0) (.cons (.bin .add (.c (.int 90)) (.var 4)) (.cons (.b1 .len (.var 3)) .nil)))))))
  (.seq (.set 5 (.ix (.lst (.cons (.c (.str ⟨#[97]⟩)) (.cons (.c (.str ⟨#[98]⟩)) (.cons (.c (.str ⟨#[122, 122]⟩)) (.cons (.var 5) (.cons (.var 5) .nil)))))) (.call i_law_pick (.cons (.var 0) (.cons (.bin .add (.c (.int 95)) (.var 4)) (.cons (.c (.int 5)) .nil))))))
  (.seq (.set 7 (.lc X_law_k51_2 (.nm 8) (.rg1 (.b1 .len (.var 3))) Y_law_k51_1))
  (.ifs (.cmp .ne (.call i_frames_of (.cons (.var 1) (.cons (.var 2) (.cons (.var 5) (.cons (.call i_law_at (.cons (.var 1) (.cons (.var 6) .nil))) .nil))))) (.var 7))
  (.ret (.c (.bl false)))
  .skip))))
def Y_law_k51_4 : Option E := (some (.cmp .isnot (.call i_is_clip (.cons (.var 1) (.cons (.var 11) .nil))) (.c (.bl false))))
def X_law_k51_5 : E := (.var 11)
def Y_law_k51_6 : Option E := (some (.cmp .isnot (.call i_is_cut (.cons (.var 1) (.cons (.var 11) .nil))) (.c (.bl false))))
def X_law_k51_7 : E := (.var 11)
def F_law_k51 : FD := ⟨1, 13, false,
  (.seq (.set 1 (.call i_law_rate (.cons (.var 0) (.cons (.c (.int 0)) .nil))))
  (.seq (.set 2 (.call i_law_cut (.cons (.var 0) (.cons (.c (.int 10)) (.cons (.var 1) (.cons (.c (.int 4)) .nil))))))
  (.seq (.set 3 (.call i_law_frames_2 (.cons (.var 1) (.cons (.var 2) .nil))))
  (.seq (.ifs (.or (.cmp .isnot (.call i_is_cut (.cons (.var 1) (.cons (.var 2) .nil))) (.c (.bl true))) (.cmp .ne (.call i_cut_long (.cons (.var 1) (.cons (.var 2) .nil))) (.b1 .len (.var 3))))
  (.ret (.c (.bl false)))
  .skip)
  (.seq (.for_ (.tc (.nm 4) (.tc (.tc (.nm 5) (.tc (.nm 6) .tn)) .tn)) (.enum (.var 3))
  B_law_k51_0)
  (.seq (.for_ (.nm 4) (.rg1 (.c (.int 3)))
  B_law_k51_3)
  (.seq (.set 9 (.tup (.cons (.call i_law_at (.cons (.var 1) (.cons (.c (.int 7)) .nil))) (.cons (.call i_law_at (.cons (.var 1) (.cons (.c (.int 9)) .nil))) .nil))))
  (.seq (.ifs (.or (.cmp .isnot (.call i_is_clip (.cons (.var 1) (.cons (.tup (.cons (.c (.str ⟨#[97, 98, 99, 100]⟩)) (.cons (.var 9) .nil))) .nil))) (.c (.bl true))) (.cmp .isnot (.call i_is_cut (.cons (.var 1) (.cons (.bin .mul (.tup (.cons (.tup (.cons (.c (.str ⟨#[122]⟩)) (.cons (.var 9) .nil))) .nil)) (.c (.int 20))) .nil))) (.c (.bl true))))
  (.ret (.c (.bl false)))
  .skip)
  (.seq (.setO 10 (.lst (.cons (.tup (.cons (.c (.str ⟨#[97, 98, 99, 100, 101]⟩)) (.cons (.var 9) .nil))) (.cons (.tup (.cons (.c (.str ⟨#[]⟩)) (.cons (.var 9) .nil))) (.cons (.tup (.cons (.c (.str ⟨#[65]⟩)) (.cons (.var 9) .nil))) (.cons (.tup (.cons (.c .non) (.cons (.var 9) .nil))) (.cons (.tup (.cons (.c (.str ⟨#[97]⟩)) (.cons (.rev (.var 9)) .nil))) (.cons (.tup (.cons (.c (.str ⟨#[97]⟩)) (.cons (.tup (.cons (.ix (.var 9) (.c (.int 0))) (.cons (.ix (.var 9) (.c (.int 0))) .nil))) .nil))) .nil))))))))
  (.seq (.ext 10 (.lst (.cons (.lst (.cons (.c (.str ⟨#[97]⟩)) (.cons (.var 9) .nil))) (.cons (.bin .add (.tup (.cons (.c (.str ⟨#[97]⟩)) .nil)) (.var 9)) (.cons (.tup (.cons (.c (.str ⟨#[97]⟩)) (.cons (.b1 .list (.var 9)) .nil))) (.cons (.c .non) (.cons (.c (.str ⟨#[97]⟩)) (.cons (.tup (.cons (.c (.str ⟨#[97]⟩)) (.cons (.tup (.cons (.ix (.var 9) (.c (.int 0))) (.cons (.tup (.cons (.c (.int 0)) (.cons (.c (.int 0)) (.cons (.c (.int 0)) (.cons (.c (.bl true)) .nil))))) .nil))) .nil))) .nil))))))))
  (.seq (.frz 10)
  (.seq (.ifs (.cmp .ne (.lc X_law_k51_5 (.nm 11) (.e (.var 10)) Y_law_k51_4) (.lst .nil))
  (.ret (.c (.bl false)))
  .skip)
  (.seq (.set 12 (.lst (.cons (.c .non) (.cons (.lst (.cons (.tup (.cons (.c (.str ⟨#[97]⟩)) (.cons (.var 9) .nil))) .nil)) (.cons (.bin .mul (.tup (.cons (.tup (.cons (.c (.str ⟨#[97]⟩)) (.cons (.var 9) .nil))) .nil)) (.c (.int 21))) (.cons (.tup (.cons (.tup (.cons (.c (.str ⟨#[97]⟩)) (.cons (.var 9) .nil))) (.cons (.c .non) .nil))) (.cons (.tup (.cons (.c (.str ⟨#[97]⟩)) (.cons (.var 9) .nil))) .nil)))))))
  (.ret (.cmp .eq (.lc X_law_k51_7 (.nm 11) (.e (.var 12)) Y_law_k51_6) (.lst .nil))))))))))))))))⟩
def B_closed_up_0 : S := (.seq (.ifs (.cmp .eq (.var 3) (.var 4))
  .cont
  .skip)
  (.ifs (.and (.cmp .ne (.brw 1) (.lst .nil)) (.and (.cmp .eq (.ix (.ix (.brw 1) (.neg (.c (.int 1)))) (.c (.int 0))) (.var 2)) (.cmp .eq (.ix (.ix (.brw 1) (.neg (.c (.int 1)))) (.c (.int 2))) (.var 3))))
  (.setIx 1 (.neg (.c (.int 1))) (.tup (.cons (.var 2) (.cons (.ix (.ix (.brw 1) (.neg (.c (.int 1)))) (.c (.int 1))) (.cons (.var 4) .nil)))))
  (.app 1 (.tup (.cons (.var 2) (.cons (.var 3) (.cons (.var 4) .nil)))))))
def F_closed_up : FD := ⟨1, 5, false,
  (.seq (.setO 1 (.lst .nil))
  (.seq (.for_ (.tc (.nm 2) (.tc (.nm 3) (.tc (.nm 4) .tn))) (.e (.var 0))
  B_closed_up_0)
  (.seq (.frz 1)
  (.ret (.var 1)))))⟩
def X_cut_from_0 : E := (.tup (.cons (.var 3) (.cons (.call i_span_of (.cons (.var 0) (.cons (.var 4) (.cons (.var 5) .nil)))) .nil)))
def F_cut_from : FD := ⟨2, 6, false,
  (.seq (.set 2 (.b1 .tuple (.lc X_cut_from_0 (.tc (.nm 3) (.tc (.nm 4) (.tc (.nm 5) .tn))) (.e (.call i_closed_up (.cons (.var 1) .nil))) none)))
  (.seq (.ifs (.cmp .gt (.b1 .len (.var 2)) (.gl 7))
  (.raise 9)
  .skip)
  (.ret (.var 2))))⟩
def F_merged : FD := ⟨2, 2, false,
  (.seq (.expr (.call i_look_cut (.cons (.var 0) (.cons (.var 1) .nil))))
  (.ret (.call i_cut_from (.cons (.var 0) (.cons (.call i_pieces_of (.cons (.var 0) (.cons (.var 1) .nil))) .nil)))))⟩
def F_are_same : FD := ⟨3, 3, false,
  (.seq (.expr (.call i_look_cut (.cons (.var 0) (.cons (.var 1) .nil))))
  (.seq (.expr (.call i_look_cut (.cons (.var 0) (.cons (.var 2) .nil))))
  (.ret (.cmp .eq (.call i_closed_up (.cons (.call i_pieces_of (.cons (.var 0) (.cons (.var 1) .nil))) .nil)) (.call i_closed_up (.cons (.call i_pieces_of (.cons (.var 0) (.cons (.var 2) .nil))) .nil))))))⟩
def X_reels_0 : E := (.var 2)
def F_reels : FD := ⟨2, 4, false,
  (.seq (.expr (.call i_look_cut (.cons (.var 0) (.cons (.var 1) .nil))))
  (.ret (.b1 .sortset (.lc X_reels_0 (.tc (.nm 2) (.tc (.nm 3) .tn)) (.e (.var 1)) none))))⟩
def Y_used_0 : Option E := (some (.cmp .eq (.var 4) (.var 2)))
def X_used_1 : E := (.tup (.cons (.var 5) (.cons (.var 6) .nil)))
def X_used_2 : E := (.call i_span_of (.cons (.var 0) (.cons (.var 5) (.cons (.var 6) .nil))))
def F_used : FD := ⟨3, 7, false,
  (.seq (.expr (.call i_look_cut (.cons (.var 0) (.cons (.var 1) .nil))))
  (.seq (.expr (.call i_look_reel (.cons (.var 2) .nil)))
  (.seq (.set 3 (.call i_union_of (.cons (.lc X_used_1 (.tc (.nm 4) (.tc (.nm 5) (.tc (.nm 6) .tn))) (.e (.call i_pieces_of (.cons (.var 0) (.cons (.var 1) .nil)))) Y_used_0) .nil)))
  (.ret (.lc X_used_2 (.tc (.nm 5) (.tc (.nm 6) .tn)) (.e (.var 3)) none)))))⟩
def B_law_k52_0 : S := (.set 5 (.bin .add (.var 5) (.tup (.cons (.tup (.cons (.var 6) (.cons (.tup (.cons (.call i_law_at (.cons (.var 1) (.cons (.var 7) .nil))) (.cons (.call i_law_at (.cons (.var 1) (.cons (.bin .add (.var 7) (.c (.int 1))) .nil))) .nil))) .nil))) .nil))))
def B_law_k52_1 : S := (.seq (.set 9 (.cmp .eq (.call i_law_frames_2 (.cons (.var 1) (.cons (.var 8) .nil))) (.var 4)))
  (.ifs (.or (.cmp .ne (.call i_are_same (.cons (.var 1) (.cons (.var 2) (.cons (.var 8) .nil)))) (.var 9)) (.cmp .isnot (.call i_are_same (.cons (.var 1) (.cons (.var 8) (.cons (.var 8) .nil)))) (.c (.bl true))))
  (.ret (.c (.bl false)))
  .skip))
def X_law_k52_2 : E := (.var 6)
def Y_law_k52_3 : Option E := (some (.cmp .eq (.ix (.var 8) (.c (.int 0))) (.var 6)))
def X_law_k52_4 : E := (.var 8)
def X_law_k52_5 : E := (.var 12)
def B_law_k52_6 : S := (.seq (.set 10 (.b1 .sortset (.lc X_law_k52_4 (.nm 8) (.e (.var 4)) Y_law_k52_3)))
  (.ifs (.cmp .ne (.call i_used (.cons (.var 1) (.cons (.var 2) (.cons (.var 6) .nil)))) (.lc X_law_k52_5 (.tc (.nm 11) (.tc (.nm 12) .tn)) (.e (.call i_law_clips (.cons (.var 1) (.cons (.var 10) .nil)))) none))
  (.ret (.c (.bl false)))
  .skip))
def F_law_k52 : FD := ⟨1, 13, false,
  (.seq (.set 1 (.call i_law_rate (.cons (.var 0) (.cons (.c (.int 0)) .nil))))
  (.seq (.par [2, 3] [false, false] (.cons (.call i_law_cut (.cons (.var 0) (.cons (.c (.int 10)) (.cons (.var 1) (.cons (.c (.int 5)) .nil))))) (.cons (.call i_law_cut (.cons (.var 0) (.cons (.c (.int 50)) (.cons (.var 1) (.cons (.c (.int 2)) .nil))))) .nil)))
  (.seq (.set 4 (.call i_law_frames_2 (.cons (.var 1) (.cons (.var 2) .nil))))
  (.seq (.ifs (.or (.cmp .ne (.call i_merged (.cons (.var 1) (.cons (.var 2) .nil))) (.call i_law_clips (.cons (.var 1) (.cons (.var 4) .nil)))) (.cmp .isnot (.call i_are_same (.cons (.var 1) (.cons (.var 2) (.cons (.call i_merged (.cons (.var 1) (.cons (.var 2) .nil))) .nil)))) (.c (.bl true))))
  (.ret (.c (.bl false)))
  .skip)
  (.seq (.set 5 (.tup .nil))
  (.seq (.for_ (.tc (.nm 6) (.tc (.nm 7) .tn)) (.e (.sl (.var 4) none (some (.c (.int 20)))))
  B_law_k52_0)
  (.seq (.ifs (.cmp .ne (.call i_merged (.cons (.var 1) (.cons (.var 5) .nil))) (.call i_law_clips (.cons (.var 1) (.cons (.sl (.var 4) none (some (.c (.int 20)))) .nil))))
  (.ret (.c (.bl false)))
  .skip)
  (.seq (.for_ (.nm 8) (.e (.tup (.cons (.var 3) (.cons (.var 5) (.cons (.rev (.var 2)) (.cons (.sl (.var 2) (some (.c (.int 1))) none) .nil))))))
  B_law_k52_1)
  (.seq (.ifs (.cmp .ne (.call i_reels (.cons (.var 1) (.cons (.var 2) .nil))) (.b1 .sortset (.lc X_law_k52_2 (.tc (.nm 6) (.tc (.nm 7) .tn)) (.e (.var 4)) none)))
  (.ret (.c (.bl false)))
  .skip)
  (.seq (.for_ (.nm 6) (.e (.tup (.cons (.c (.str ⟨#[97]⟩)) (.cons (.c (.str ⟨#[98]⟩)) (.cons (.c (.str ⟨#[122, 122, 122]⟩)) .nil)))))
  B_law_k52_6)
  (.ret (.c (.bl true)))))))))))))⟩
def F_law_word_2 : FD := ⟨1, 3, false,
  (.seq (.set 1 (.lst (.cons (.isi (.var 0) (.exc 8)) (.cons (.isi (.var 0) (.exc 2)) (.cons (.isi (.var 0) (.exc 9)) (.cons (.isi (.var 0) (.exc 10)) .nil))))))
  (.seq (.set 1 (.bin .add (.var 1) (.lst (.cons (.isi (.var 0) (.exc 6)) (.cons (.isi (.var 0) (.exc 11)) (.cons (.isi (.var 0) (.exc 3)) .nil))))))
  (.seq (.set 1 (.bin .add (.var 1) (.lst (.cons (.isi (.var 0) (.exc 1)) (.cons (.isi (.var 0) (.exc 4)) (.cons (.isi (.var 0) (.exc 12)) .nil))))))
  (.seq (.set 1 (.bin .add (.var 1) (.lst (.cons (.isi (.var 0) (.exc 7)) (.cons (.isi (.var 0) (.exc 5)) .nil)))))
  (.seq (.ifs (.or (.cmp .ne (.m1 .count (.var 1) (.c (.bl true))) (.c (.int 1))) (.not (.isi (.var 0) .verr)))
  (.ret (.c (.str ⟨#[119, 114, 111, 110, 103]⟩)))
  .skip)
  (.seq (.set 2 (.lst (.cons (.c (.str ⟨#[110, 111, 32, 99, 108, 105, 112]⟩)) (.cons (.c (.str ⟨#[110, 111, 32, 99, 111, 100, 101]⟩)) (.cons (.c (.str ⟨#[110, 111, 32, 99, 117, 116]⟩)) (.cons (.c (.str ⟨#[110, 111, 32, 101, 118, 101, 110, 116]⟩)) (.cons (.c (.str ⟨#[110, 111, 32, 102, 105, 116]⟩)) (.cons (.c (.str ⟨#[110, 111, 32, 109, 97, 114, 107]⟩)) (.cons (.c (.str ⟨#[110, 111, 32, 110, 117, 109, 98, 101, 114]⟩)) (.cons (.c (.str ⟨#[110, 111, 32, 114, 97, 116, 101]⟩)) (.cons (.c (.str ⟨#[110, 111, 32, 115, 112, 97, 110]⟩)) .nil)))))))))))
  (.ret (.ix (.bin .add (.var 2) (.lst (.cons (.c (.str ⟨#[110, 111, 32, 115, 116, 101, 112]⟩)) (.cons (.c (.str ⟨#[110, 111, 32, 116, 101, 120, 116]⟩)) (.cons (.c (.str ⟨#[116, 111, 111, 32, 102, 97, 114]⟩)) .nil))))) (.m1 .index (.var 1) (.c (.bl true)))))))))))⟩
def F_law_all : FD := ⟨4, 5, false,
  (.seq (.setO 4 (.lst (.cons (.told 9000 i_law_word_2 (.call i_cut_long (.cons (.var 0) (.cons (.var 1) .nil)))) .nil)))
  (.seq (.app 4 (.told 9000 i_law_word_2 (.call i_frame_at (.cons (.var 0) (.cons (.var 1) (.cons (.c .non) .nil))))))
  (.seq (.app 4 (.told 9000 i_law_word_2 (.call i_frames_of (.cons (.var 0) (.cons (.var 1) (.cons (.var 2) (.cons (.var 3) .nil)))))))
  (.seq (.app 4 (.told 9000 i_law_word_2 (.call i_merged (.cons (.var 0) (.cons (.var 1) .nil)))))
  (.seq (.app 4 (.told 9000 i_law_word_2 (.call i_are_same (.cons (.var 0) (.cons (.var 1) (.cons (.var 1) .nil))))))
  (.seq (.app 4 (.told 9000 i_law_word_2 (.call i_reels (.cons (.var 0) (.cons (.var 1) .nil)))))
  (.seq (.app 4 (.told 9000 i_law_word_2 (.call i_used (.cons (.var 0) (.cons (.var 1) (.cons (.var 2) .nil))))))
  (.seq (.frz 4)
  (.ret (.var 4))))))))))⟩
def X_law_k53_0 : E := (.told 9000 i_law_word_2 (.call i_frame_at (.cons (.var 1) (.cons (.var 2) (.cons (.var 7) .nil)))))
def X_law_k53_1 : E := (.told 9000 i_law_word_2 (.call i_frame_at (.cons (.var 1) (.cons (.var 2) (.cons (.var 7) .nil)))))
def F_law_k53 : FD := ⟨1, 8, false,
  (.seq (.set 1 (.call i_law_rate (.cons (.var 0) (.cons (.c (.int 0)) .nil))))
  (.seq (.set 2 (.call i_law_cut (.cons (.var 0) (.cons (.c (.int 10)) (.cons (.var 1) (.cons (.c (.int 4)) .nil))))))
  (.seq (.set 3 (.ix (.lst (.cons (.c .non) (.cons (.b1 .list (.var 2)) (.cons (.bin .add (.var 2) (.tup (.cons (.c .non) .nil))) (.cons (.tup (.cons (.tup (.cons (.c (.str ⟨#[97]⟩)) (.cons (.c (.str ⟨#[98]⟩)) .nil))) .nil)) (.cons (.c (.str ⟨#[97]⟩)) (.cons (.c (.int 5)) .nil))))))) (.call i_law_pick (.cons (.var 0) (.cons (.c (.int 90)) (.cons (.c (.int 6)) .nil))))))
  (.seq (.set 4 (.ix (.lst (.cons (.c (.str ⟨#[]⟩)) (.cons (.c (.str ⟨#[65]⟩)) (.cons (.c (.str ⟨#[97, 98, 99, 100, 101]⟩)) (.cons (.c .non) (.cons (.c (.int 5)) (.cons (.tup (.cons (.c (.str ⟨#[97]⟩)) .nil)) .nil))))))) (.call i_law_pick (.cons (.var 0) (.cons (.c (.int 91)) (.cons (.c (.int 6)) .nil))))))
  (.seq (.ifs (.cmp .ne (.call i_law_all (.cons (.var 1) (.cons (.var 3) (.cons (.var 4) (.cons (.c .non) .nil))))) (.bin .mul (.lst (.cons (.c (.str ⟨#[110, 111, 32, 99, 117, 116]⟩)) .nil)) (.c (.int 7))))
  (.ret (.c (.bl false)))
  .skip)
  (.seq (.ifs (.cmp .ne (.call i_law_all (.cons (.ix (.lst (.cons (.c (.str ⟨#[102, 105, 108, 109, 115]⟩)) (.cons (.c .non) (.cons (.c (.int 24)) (.cons (.c (.str ⟨#[]⟩)) (.cons (.tup (.cons (.c (.str ⟨#[102, 105, 108, 109]⟩)) .nil)) .nil)))))) (.call i_law_pick (.cons (.var 0) (.cons (.c (.int 92)) (.cons (.c (.int 5)) .nil))))) (.cons (.var 3) (.cons (.var 4) (.cons (.c .non) .nil))))) (.bin .mul (.lst (.cons (.c (.str ⟨#[110, 111, 32, 114, 97, 116, 101]⟩)) .nil)) (.c (.int 7))))
  (.ret (.c (.bl false)))
  .skip)
  (.seq (.ifs (.cmp .ne (.told 9000 i_law_word_2 (.call i_is_cut (.cons (.c (.str ⟨#[115, 108, 111, 119]⟩)) (.cons (.var 2) .nil)))) (.c (.str ⟨#[110, 111, 32, 114, 97, 116, 101]⟩)))
  (.ret (.c (.bl false)))
  .skip)
  (.seq (.ifs (.cmp .ne (.told 9000 i_law_word_2 (.call i_are_same (.cons (.var 1) (.cons (.var 2) (.cons (.var 3) .nil))))) (.c (.str ⟨#[110, 111, 32, 99, 117, 116]⟩)))
  (.ret (.c (.bl false)))
  .skip)
  (.seq (.ifs (.cmp .ne (.told 9000 i_law_word_2 (.call i_is_clip (.cons (.c (.str ⟨#[115, 108, 111, 119]⟩)) (.cons (.var 2) .nil)))) (.c (.str ⟨#[110, 111, 32, 114, 97, 116, 101]⟩)))
  (.ret (.c (.bl false)))
  .skip)
  (.seq (.setO 5 (.lst (.cons (.told 9000 i_law_word_2 (.call i_frames_of (.cons (.var 1) (.cons (.var 2) (.cons (.var 4) (.cons (.c .non) .nil)))))) .nil)))
  (.seq (.app 5 (.told 9000 i_law_word_2 (.call i_used (.cons (.var 1) (.cons (.var 2) (.cons (.var 4) .nil))))))
  (.seq (.app 5 (.told 9000 i_law_word_2 (.call i_frames_of (.cons (.var 1) (.cons (.var 2) (.cons (.c (.str ⟨#[97]⟩)) (.cons (.tup (.cons (.c (.int 0)) (.cons (.c (.int 0)) (.cons (.c (.int 0)) (.cons (.c (.int 60)) .nil))))) .nil)))))))
  (.seq (.ifs (.cmp .ne (.brw 5) (.lst (.cons (.c (.str ⟨#[110, 111, 32, 99, 108, 105, 112]⟩)) (.cons (.c (.str ⟨#[110, 111, 32, 99, 108, 105, 112]⟩)) (.cons (.c (.str ⟨#[110, 111, 32, 99, 111, 100, 101]⟩)) .nil)))))
  (.ret (.c (.bl false)))
  .skip)
  (.seq (.set 6 (.b1 .len (.call i_law_frames_2 (.cons (.var 1) (.cons (.var 2) .nil)))))
  (.seq (.ifs (.cmp .ne (.lc X_law_k53_0 (.nm 7) (.e (.tup (.cons (.c .non) (.cons (.c (.str ⟨#[48]⟩)) (.cons (.c (.bl true)) (.cons (.tup (.cons (.c (.int 0)) .nil)) .nil)))))) none) (.bin .mul (.lst (.cons (.c (.str ⟨#[110, 111, 32, 110, 117, 109, 98, 101, 114]⟩)) .nil)) (.c (.int 4))))
  (.ret (.c (.bl false)))
  .skip)
  (.ret (.cmp .eq (.lc X_law_k53_1 (.nm 7) (.e (.tup (.cons (.neg (.c (.int 1))) (.cons (.var 6) (.cons (.bin .add (.var 6) (.c (.int 7))) (.cons (.bin .sub (.neg (.var 6)) (.c (.int 1))) .nil)))))) none) (.bin .mul (.lst (.cons (.c (.str ⟨#[116, 111, 111, 32, 102, 97, 114]⟩)) .nil)) (.c (.int 4))))))))))))))))))))⟩
def F_look_place : FD := ⟨2, 2, false,
  (.seq (.expr (.call i_look_by (.cons (.var 1) .nil)))
  (.ifs (.not (.chain .le .le (.c (.int 0)) (.var 1) (.call i_many_in (.cons (.var 0) .nil))))
  (.raise 5)
  .skip))⟩
def F_look_stretch : FD := ⟨3, 3, false,
  (.seq (.expr (.call i_look_place (.cons (.var 0) (.cons (.var 1) .nil))))
  (.seq (.expr (.call i_look_place (.cons (.var 0) (.cons (.var 2) .nil))))
  (.ifs (.cmp .lt (.var 2) (.var 1))
  (.raise 6)
  .skip)))⟩
def B_stretch_of_0 : S := (.seq (.par [8, 9] [false, false] (.cons (.b2 .max (.bin .sub (.var 1) (.var 4)) (.c (.int 0))) (.cons (.b2 .min (.bin .sub (.var 2) (.var 4)) (.bin .sub (.var 7) (.var 6))) .nil)))
  (.seq (.ifs (.cmp .lt (.var 8) (.var 9))
  (.app 3 (.tup (.cons (.var 5) (.cons (.bin .add (.var 6) (.var 8)) (.cons (.bin .add (.var 6) (.var 9)) .nil)))))
  .skip)
  (.set 4 (.bin .sub (.bin .add (.var 4) (.var 7)) (.var 6)))))
def F_stretch_of : FD := ⟨3, 10, false,
  (.seq (.setO 3 (.lst .nil))
  (.seq (.set 4 (.c (.int 0)))
  (.seq (.for_ (.tc (.nm 5) (.tc (.nm 6) (.tc (.nm 7) .tn))) (.e (.var 0))
  B_stretch_of_0)
  (.seq (.frz 3)
  (.ret (.var 3))))))⟩
def F_part : FD := ⟨4, 5, false,
  (.seq (.expr (.call i_look_cut (.cons (.var 0) (.cons (.var 1) .nil))))
  (.seq (.set 4 (.call i_pieces_of (.cons (.var 0) (.cons (.var 1) .nil))))
  (.seq (.expr (.call i_look_stretch (.cons (.var 4) (.cons (.var 2) (.cons (.var 3) .nil)))))
  (.ret (.call i_cut_from (.cons (.var 0) (.cons (.call i_stretch_of (.cons (.var 4) (.cons (.var 2) (.cons (.var 3) .nil)))) .nil)))))))⟩
def F_exchanged : FD := ⟨4, 4, false,
  (.ret (.call i_closed_up (.cons (.bin .add (.bin .add (.call i_stretch_of (.cons (.var 0) (.cons (.c (.int 0)) (.cons (.var 1) .nil)))) (.var 3)) (.call i_stretch_of (.cons (.var 0) (.cons (.var 2) (.cons (.call i_many_in (.cons (.var 0) .nil)) .nil))))) .nil)))⟩
def F_cut_out : FD := ⟨4, 5, false,
  (.seq (.expr (.call i_look_cut (.cons (.var 0) (.cons (.var 1) .nil))))
  (.seq (.set 4 (.call i_pieces_of (.cons (.var 0) (.cons (.var 1) .nil))))
  (.seq (.expr (.call i_look_stretch (.cons (.var 4) (.cons (.var 2) (.cons (.var 3) .nil)))))
  (.ret (.call i_cut_from (.cons (.var 0) (.cons (.call i_exchanged (.cons (.var 4) (.cons (.var 2) (.cons (.var 3) (.cons (.lst .nil) .nil))))) .nil)))))))⟩
def F_put_in : FD := ⟨4, 5, false,
  (.seq (.expr (.call i_look_cut (.cons (.var 0) (.cons (.var 1) .nil))))
  (.seq (.set 4 (.call i_pieces_of (.cons (.var 0) (.cons (.var 1) .nil))))
  (.seq (.expr (.call i_look_place (.cons (.var 4) (.cons (.var 2) .nil))))
  (.seq (.expr (.call i_look_cut (.cons (.var 0) (.cons (.var 3) .nil))))
  (.ret (.call i_cut_from (.cons (.var 0) (.cons (.call i_exchanged (.cons (.var 4) (.cons (.var 2) (.cons (.var 2) (.cons (.call i_pieces_of (.cons (.var 0) (.cons (.var 3) .nil))) .nil))))) .nil))))))))⟩
def X_law_k54_0 : E := (.call i_law_pick (.cons (.var 0) (.cons (.bin .add (.bin .add (.c (.int 90)) (.bin .mul (.c (.int 2)) (.var 4))) (.var 11)) (.cons (.bin .add (.b1 .len (.var 3)) (.c (.int 1))) .nil))))
def B_law_k54_1 : S := (.seq (.set 5 (.lc X_law_k54_0 (.nm 11) (.rg1 (.c (.int 2))) none))
  (.seq (.unp (.tc (.nm 7) (.tc (.nm 8) .tn)) (.b1 .sorted (.var 5)))
  (.seq (.par [9, 10] [false, false] (.cons (.call i_part (.cons (.var 1) (.cons (.var 2) (.cons (.var 7) (.cons (.var 8) .nil))))) (.cons (.call i_cut_out (.cons (.var 1) (.cons (.var 2) (.cons (.var 7) (.cons (.var 8) .nil))))) .nil)))
  (.seq (.set 6 (.bin .add (.sl (.var 3) none (some (.var 7))) (.sl (.var 3) (some (.var 8)) none)))
  (.seq (.ifs (.or (.cmp .ne (.var 9) (.call i_law_clips (.cons (.var 1) (.cons (.sl (.var 3) (some (.var 7)) (some (.var 8))) .nil)))) (.cmp .ne (.var 10) (.call i_law_clips (.cons (.var 1) (.cons (.var 6) .nil)))))
  (.ret (.c (.bl false)))
  .skip)
  (.seq (.ifs (.or (.cmp .ne (.call i_put_in (.cons (.var 1) (.cons (.var 10) (.cons (.var 7) (.cons (.var 9) .nil))))) (.call i_merged (.cons (.var 1) (.cons (.var 2) .nil)))) (.cmp .ne (.call i_cut_long (.cons (.var 1) (.cons (.var 9) .nil))) (.bin .sub (.var 8) (.var 7))))
  (.ret (.c (.bl false)))
  .skip)
  (.ifs (.cmp .ne (.call i_put_in (.cons (.var 1) (.cons (.call i_part (.cons (.var 1) (.cons (.var 2) (.cons (.c (.int 0)) (.cons (.var 7) .nil))))) (.cons (.var 7) (.cons (.call i_part (.cons (.var 1) (.cons (.var 2) (.cons (.var 7) (.cons (.b1 .len (.var 3)) .nil))))) .nil))))) (.call i_merged (.cons (.var 1) (.cons (.var 2) .nil))))
  (.ret (.c (.bl false)))
  .skip)))))))
def F_law_k54 : FD := ⟨1, 12, false,
  (.seq (.set 1 (.call i_law_rate (.cons (.var 0) (.cons (.c (.int 0)) .nil))))
  (.seq (.set 2 (.call i_law_cut (.cons (.var 0) (.cons (.c (.int 10)) (.cons (.var 1) (.cons (.c (.int 5)) .nil))))))
  (.seq (.set 3 (.call i_law_frames_2 (.cons (.var 1) (.cons (.var 2) .nil))))
  (.seq (.for_ (.nm 4) (.rg1 (.c (.int 3)))
  B_law_k54_1)
  (.ret (.and (.cmp .eq (.call i_part (.cons (.var 1) (.cons (.var 2) (.cons (.c (.int 0)) (.cons (.b1 .len (.var 3)) .nil))))) (.call i_merged (.cons (.var 1) (.cons (.var 2) .nil)))) (.cmp .eq (.call i_cut_out (.cons (.var 1) (.cons (.var 2) (.cons (.c (.int 0)) (.cons (.b1 .len (.var 3)) .nil))))) (.tup .nil))))))))⟩
def F_put_over : FD := ⟨4, 6, false,
  (.seq (.expr (.call i_look_cut (.cons (.var 0) (.cons (.var 1) .nil))))
  (.seq (.set 4 (.call i_pieces_of (.cons (.var 0) (.cons (.var 1) .nil))))
  (.seq (.expr (.call i_look_place (.cons (.var 4) (.cons (.var 2) .nil))))
  (.seq (.expr (.call i_look_cut (.cons (.var 0) (.cons (.var 3) .nil))))
  (.seq (.set 5 (.call i_pieces_of (.cons (.var 0) (.cons (.var 3) .nil))))
  (.seq (.ifs (.cmp .gt (.bin .add (.var 2) (.call i_many_in (.cons (.var 5) .nil))) (.call i_many_in (.cons (.var 4) .nil)))
  (.raise 5)
  .skip)
  (.ret (.call i_cut_from (.cons (.var 0) (.cons (.call i_exchanged (.cons (.var 4) (.cons (.var 2) (.cons (.bin .add (.var 2) (.call i_many_in (.cons (.var 5) .nil))) (.cons (.var 5) .nil))))) .nil))))))))))⟩
def B_law_k55_0 : S := (.seq (.set 7 (.call i_law_pick (.cons (.var 0) (.cons (.bin .add (.c (.int 90)) (.var 6)) (.cons (.bin .add (.b1 .len (.var 4)) (.c (.int 1))) .nil)))))
  (.seq (.ifs (.cmp .ne (.call i_put_in (.cons (.var 1) (.cons (.var 2) (.cons (.var 7) (.cons (.var 3) .nil))))) (.call i_law_clips (.cons (.var 1) (.cons (.bin .add (.bin .add (.sl (.var 4) none (some (.var 7))) (.var 5)) (.sl (.var 4) (some (.var 7)) none)) .nil))))
  (.ret (.c (.bl false)))
  .skip)
  (.seq (.ifs (.cmp .gt (.bin .add (.var 7) (.b1 .len (.var 5))) (.b1 .len (.var 4)))
  (.seq (.ifs (.cmp .ne (.told 9000 i_law_word_2 (.call i_put_over (.cons (.var 1) (.cons (.var 2) (.cons (.var 7) (.cons (.var 3) .nil)))))) (.c (.str ⟨#[116, 111, 111, 32, 102, 97, 114]⟩)))
  (.ret (.c (.bl false)))
  .skip)
  .cont)
  .skip)
  (.seq (.set 8 (.call i_put_over (.cons (.var 1) (.cons (.var 2) (.cons (.var 7) (.cons (.var 3) .nil))))))
  (.seq (.ifs (.cmp .ne (.var 8) (.call i_law_clips (.cons (.var 1) (.cons (.bin .add (.bin .add (.sl (.var 4) none (some (.var 7))) (.var 5)) (.sl (.var 4) (some (.bin .add (.var 7) (.b1 .len (.var 5)))) none)) .nil))))
  (.ret (.c (.bl false)))
  .skip)
  (.seq (.ifs (.cmp .ne (.var 8) (.call i_put_in (.cons (.var 1) (.cons (.call i_cut_out (.cons (.var 1) (.cons (.var 2) (.cons (.var 7) (.cons (.bin .add (.var 7) (.b1 .len (.var 5))) .nil))))) (.cons (.var 7) (.cons (.var 3) .nil))))))
  (.ret (.c (.bl false)))
  .skip)
  (.seq (.set 9 (.call i_part (.cons (.var 1) (.cons (.var 2) (.cons (.var 7) (.cons (.bin .add (.var 7) (.b1 .len (.var 5))) .nil))))))
  (.ifs (.cmp .ne (.call i_put_over (.cons (.var 1) (.cons (.var 8) (.cons (.var 7) (.cons (.var 9) .nil))))) (.call i_law_clips (.cons (.var 1) (.cons (.var 4) .nil))))
  (.ret (.c (.bl false)))
  .skip))))))))
def F_law_k55 : FD := ⟨1, 10, false,
  (.seq (.set 1 (.call i_law_rate (.cons (.var 0) (.cons (.c (.int 0)) .nil))))
  (.seq (.par [2, 3] [false, false] (.cons (.call i_law_cut (.cons (.var 0) (.cons (.c (.int 10)) (.cons (.var 1) (.cons (.c (.int 4)) .nil))))) (.cons (.call i_law_cut (.cons (.var 0) (.cons (.c (.int 50)) (.cons (.var 1) (.cons (.c (.int 3)) .nil))))) .nil)))
  (.seq (.par [4, 5] [false, false] (.cons (.call i_law_frames_2 (.cons (.var 1) (.cons (.var 2) .nil))) (.cons (.call i_law_frames_2 (.cons (.var 1) (.cons (.var 3) .nil))) .nil)))
  (.seq (.for_ (.nm 6) (.rg1 (.c (.int 3)))
  B_law_k55_0)
  (.ret (.c (.bl true)))))))⟩
def B_alike_ahead_0 : S := (.seq (.ifs (.cmp .ne (.sl (.var 3) none (some (.c (.int 2)))) (.sl (.var 4) none (some (.c (.int 2)))))
  (.ret (.var 2))
  .skip)
  (.seq (.set 5 (.bin .sub (.b2 .min (.ix (.var 3) (.c (.int 2))) (.ix (.var 4) (.c (.int 2)))) (.ix (.var 3) (.c (.int 1)))))
  (.seq (.set 2 (.bin .add (.var 2) (.var 5)))
  (.ifs (.cmp .ne (.ix (.var 3) (.c (.int 2))) (.ix (.var 4) (.c (.int 2))))
  (.ret (.var 2))
  .skip))))
def F_alike_ahead : FD := ⟨2, 6, false,
  (.seq (.set 2 (.c (.int 0)))
  (.seq (.for_ (.tc (.nm 3) (.tc (.nm 4) .tn)) (.zip (.var 0) (.var 1))
  B_alike_ahead_0)
  (.ret (.var 2))))⟩
def X_turned_about_0 : E := (.tup (.cons (.var 1) (.cons (.bin .sub (.c (.int 0)) (.var 3)) (.cons (.bin .sub (.c (.int 0)) (.var 2)) .nil))))
def F_turned_about : FD := ⟨1, 4, false,
  (.ret (.lc X_turned_about_0 (.tc (.nm 1) (.tc (.nm 2) (.tc (.nm 3) .tn))) (.e (.rev (.var 0))) none))⟩
def F_change : FD := ⟨3, 9, false,
  (.seq (.expr (.call i_look_cut (.cons (.var 0) (.cons (.var 1) .nil))))
  (.seq (.expr (.call i_look_cut (.cons (.var 0) (.cons (.var 2) .nil))))
  (.seq (.par [3, 4] [false, false] (.cons (.call i_closed_up (.cons (.call i_pieces_of (.cons (.var 0) (.cons (.var 1) .nil))) .nil)) (.cons (.call i_closed_up (.cons (.call i_pieces_of (.cons (.var 0) (.cons (.var 2) .nil))) .nil)) .nil)))
  (.seq (.set 5 (.call i_alike_ahead (.cons (.var 3) (.cons (.var 4) .nil))))
  (.seq (.set 6 (.call i_closed_up (.cons (.call i_stretch_of (.cons (.var 3) (.cons (.var 5) (.cons (.call i_many_in (.cons (.var 3) .nil)) .nil)))) .nil)))
  (.seq (.set 7 (.call i_closed_up (.cons (.call i_stretch_of (.cons (.var 4) (.cons (.var 5) (.cons (.call i_many_in (.cons (.var 4) .nil)) .nil)))) .nil)))
  (.seq (.set 8 (.call i_alike_ahead (.cons (.call i_turned_about (.cons (.var 6) .nil)) (.cons (.call i_turned_about (.cons (.var 7) .nil)) .nil))))
  (.seq (.set 7 (.call i_stretch_of (.cons (.var 7) (.cons (.c (.int 0)) (.cons (.bin .sub (.call i_many_in (.cons (.var 7) .nil)) (.var 8)) .nil)))))
  (.ret (.tup (.cons (.var 5) (.cons (.bin .sub (.call i_many_in (.cons (.var 3) .nil)) (.var 8)) (.cons (.call i_cut_from (.cons (.var 0) (.cons (.var 7) .nil))) .nil)))))))))))))⟩
def X_law_k56_0 : E := (.and (.cmp .lt (.var 10) (.b2 .min (.b1 .len (.var 4)) (.b1 .len (.var 9)))) (.cmp .eq (.ix (.var 4) (.var 10)) (.ix (.var 9) (.var 10))))
def B_law_k56_1 : S := (.set 10 (.bin .add (.var 10) (.c (.int 1))))
def X_law_k56_2 : E := (.and (.cmp .lt (.var 11) (.bin .sub (.b2 .min (.b1 .len (.var 4)) (.b1 .len (.var 9))) (.var 10))) (.cmp .eq (.ix (.var 4) (.bin .sub (.neg (.c (.int 1))) (.var 11))) (.ix (.var 9) (.bin .sub (.neg (.c (.int 1))) (.var 11)))))
def B_law_k56_3 : S := (.set 11 (.bin .add (.var 11) (.c (.int 1))))
def B_law_k56_4 : S := (.seq (.par [9, 10, 11] [false, false, false] (.cons (.call i_law_frames_2 (.cons (.var 1) (.cons (.var 7) .nil))) (.cons (.c (.int 0)) (.cons (.c (.int 0)) .nil))))
  (.seq (.while_ X_law_k56_0
  B_law_k56_1)
  (.seq (.while_ X_law_k56_2
  B_law_k56_3)
  (.seq (.set 8 (.call i_change (.cons (.var 1) (.cons (.var 2) (.cons (.var 7) .nil)))))
  (.seq (.ifs (.cmp .ne (.var 8) (.tup (.cons (.var 10) (.cons (.bin .sub (.b1 .len (.var 4)) (.var 11)) (.cons (.call i_law_clips (.cons (.var 1) (.cons (.sl (.var 9) (some (.var 10)) (some (.bin .sub (.b1 .len (.var 9)) (.var 11)))) .nil))) .nil)))))
  (.ret (.c (.bl false)))
  .skip)
  (.ifs (.cmp .ne (.call i_put_in (.cons (.var 1) (.cons (.call i_cut_out (.cons (.var 1) (.cons (.var 2) (.cons (.ix (.var 8) (.c (.int 0))) (.cons (.ix (.var 8) (.c (.int 1))) .nil))))) (.cons (.ix (.var 8) (.c (.int 0))) (.cons (.ix (.var 8) (.c (.int 2))) .nil))))) (.call i_merged (.cons (.var 1) (.cons (.var 7) .nil))))
  (.ret (.c (.bl false)))
  .skip))))))
def F_law_k56 : FD := ⟨1, 12, false,
  (.seq (.set 1 (.call i_law_rate (.cons (.var 0) (.cons (.c (.int 0)) .nil))))
  (.seq (.par [2, 3] [false, false] (.cons (.call i_law_cut (.cons (.var 0) (.cons (.c (.int 10)) (.cons (.var 1) (.cons (.c (.int 4)) .nil))))) (.cons (.call i_law_cut (.cons (.var 0) (.cons (.c (.int 50)) (.cons (.var 1) (.cons (.c (.int 2)) .nil))))) .nil)))
  (.seq (.set 4 (.call i_law_frames_2 (.cons (.var 1) (.cons (.var 2) .nil))))
  (.seq (.set 5 (.b1 .sorted (.lst (.cons (.call i_law_pick (.cons (.var 0) (.cons (.c (.int 90)) (.cons (.bin .add (.b1 .len (.var 4)) (.c (.int 1))) .nil)))) (.cons (.call i_law_pick (.cons (.var 0) (.cons (.c (.int 91)) (.cons (.bin .add (.b1 .len (.var 4)) (.c (.int 1))) .nil)))) .nil)))))
  (.seq (.setO 6 (.lst (.cons (.var 3) (.cons (.var 2) (.cons (.call i_put_in (.cons (.var 1) (.cons (.call i_cut_out (.cons (.var 1) (.cons (.var 2) (.cons (.ix (.var 5) (.c (.int 0))) (.cons (.ix (.var 5) (.c (.int 1))) .nil))))) (.cons (.ix (.var 5) (.c (.int 0))) (.cons (.var 3) .nil))))) .nil)))))
  (.seq (.app 6 (.call i_put_in (.cons (.var 1) (.cons (.var 2) (.cons (.ix (.var 5) (.c (.int 0))) (.cons (.call i_part (.cons (.var 1) (.cons (.var 2) (.cons (.ix (.var 5) (.c (.int 0))) (.cons (.ix (.var 5) (.c (.int 1))) .nil))))) .nil))))))
  (.seq (.frz 6)
  (.seq (.for_ (.nm 7) (.e (.var 6))
  B_law_k56_4)
  (.ret (.c (.bl true)))))))))))⟩
def F_law_all_2 : FD := ⟨4, 5, false,
  (.seq (.setO 4 (.lst (.cons (.told 9000 i_law_word_2 (.call i_part (.cons (.var 0) (.cons (.var 1) (.cons (.var 2) (.cons (.c (.int 0)) .nil)))))) .nil)))
  (.seq (.app 4 (.told 9000 i_law_word_2 (.call i_cut_out (.cons (.var 0) (.cons (.var 1) (.cons (.c (.int 0)) (.cons (.var 2) .nil)))))))
  (.seq (.app 4 (.told 9000 i_law_word_2 (.call i_put_in (.cons (.var 0) (.cons (.var 1) (.cons (.var 2) (.cons (.var 3) .nil)))))))
  (.seq (.app 4 (.told 9000 i_law_word_2 (.call i_put_over (.cons (.var 0) (.cons (.var 1) (.cons (.var 2) (.cons (.var 3) .nil)))))))
  (.seq (.frz 4)
  (.ret (.var 4)))))))⟩
def X_law_k57_0 : E := (.tup (.cons (.call i_law_at (.cons (.var 1) (.cons (.bin .mul (.c (.int 2)) (.var 8)) .nil))) (.cons (.call i_law_at (.cons (.var 1) (.cons (.bin .add (.bin .mul (.c (.int 2)) (.var 8)) (.c (.int 1))) .nil))) .nil)))
def X_law_k57_1 : E := (.tup (.cons (.c (.str ⟨#[97]⟩)) (.cons (.var 10) .nil)))
def F_law_k57 : FD := ⟨1, 12, false,
  (.seq (.set 1 (.call i_law_rate (.cons (.var 0) (.cons (.c (.int 0)) .nil))))
  (.seq (.set 2 (.call i_law_cut (.cons (.var 0) (.cons (.c (.int 10)) (.cons (.var 1) (.cons (.c (.int 4)) .nil))))))
  (.seq (.set 3 (.b1 .len (.call i_law_frames_2 (.cons (.var 1) (.cons (.var 2) .nil)))))
  (.seq (.set 4 (.ix (.lst (.cons (.c .non) (.cons (.c (.bl true)) (.cons (.c (.str ⟨#[49]⟩)) (.cons (.tup (.cons (.c (.int 1)) .nil)) .nil))))) (.call i_law_pick (.cons (.var 0) (.cons (.c (.int 90)) (.cons (.c (.int 4)) .nil))))))
  (.seq (.set 5 (.ix (.lst (.cons (.neg (.c (.int 1))) (.cons (.bin .add (.var 3) (.c (.int 1))) (.cons (.bin .add (.var 3) (.c (.int 9))) .nil)))) (.call i_law_pick (.cons (.var 0) (.cons (.c (.int 91)) (.cons (.c (.int 3)) .nil))))))
  (.seq (.set 6 (.ix (.lst (.cons (.c .non) (.cons (.b1 .list (.var 2)) (.cons (.bin .add (.var 2) (.tup (.cons (.c .non) .nil))) (.cons (.c (.str ⟨#[97]⟩)) .nil))))) (.call i_law_pick (.cons (.var 0) (.cons (.c (.int 92)) (.cons (.c (.int 4)) .nil))))))
  (.seq (.ifs (.or (.cmp .ne (.call i_law_all_2 (.cons (.var 1) (.cons (.var 2) (.cons (.var 4) (.cons (.var 2) .nil))))) (.bin .mul (.lst (.cons (.c (.str ⟨#[110, 111, 32, 110, 117, 109, 98, 101, 114]⟩)) .nil)) (.c (.int 4)))) (.cmp .ne (.call i_law_all_2 (.cons (.var 1) (.cons (.var 2) (.cons (.var 5) (.cons (.var 2) .nil))))) (.bin .mul (.lst (.cons (.c (.str ⟨#[116, 111, 111, 32, 102, 97, 114]⟩)) .nil)) (.c (.int 4)))))
  (.ret (.c (.bl false)))
  .skip)
  (.seq (.ifs (.or (.cmp .ne (.call i_law_all_2 (.cons (.var 1) (.cons (.var 6) (.cons (.var 4) (.cons (.var 2) .nil))))) (.bin .mul (.lst (.cons (.c (.str ⟨#[110, 111, 32, 99, 117, 116]⟩)) .nil)) (.c (.int 4)))) (.cmp .ne (.call i_law_all_2 (.cons (.c (.str ⟨#[115, 108, 111, 119]⟩)) (.cons (.var 6) (.cons (.var 4) (.cons (.var 6) .nil))))) (.bin .mul (.lst (.cons (.c (.str ⟨#[110, 111, 32, 114, 97, 116, 101]⟩)) .nil)) (.c (.int 4)))))
  (.ret (.c (.bl false)))
  .skip)
  (.seq (.ifs (.cmp .ne (.sl (.call i_law_all_2 (.cons (.var 1) (.cons (.var 2) (.cons (.c (.int 0)) (.cons (.var 6) .nil))))) (some (.c (.int 2))) none) (.bin .mul (.lst (.cons (.c (.str ⟨#[110, 111, 32, 99, 117, 116]⟩)) .nil)) (.c (.int 2))))
  (.ret (.c (.bl false)))
  .skip)
  (.seq (.ifs (.cmp .ne (.told 9000 i_law_word_2 (.call i_change (.cons (.var 1) (.cons (.var 2) (.cons (.var 6) .nil))))) (.c (.str ⟨#[110, 111, 32, 99, 117, 116]⟩)))
  (.ret (.c (.bl false)))
  .skip)
  (.seq (.ifs (.cmp .ne (.told 9000 i_law_word_2 (.call i_change (.cons (.var 1) (.cons (.var 6) (.cons (.var 2) .nil))))) (.c (.str ⟨#[110, 111, 32, 99, 117, 116]⟩)))
  (.ret (.c (.bl false)))
  .skip)
  (.seq (.ifs (.cmp .ne (.told 9000 i_law_word_2 (.call i_change (.cons (.c (.str ⟨#[115, 108, 111, 119]⟩)) (.cons (.var 6) (.cons (.var 6) .nil))))) (.c (.str ⟨#[110, 111, 32, 114, 97, 116, 101]⟩)))
  (.ret (.c (.bl false)))
  .skip)
  (.seq (.ifs (.cmp .gt (.var 3) (.c (.int 0)))
  (.seq (.ifs (.cmp .ne (.told 9000 i_law_word_2 (.call i_part (.cons (.var 1) (.cons (.var 2) (.cons (.var 3) (.cons (.bin .sub (.var 3) (.c (.int 1))) .nil)))))) (.c (.str ⟨#[110, 111, 32, 102, 105, 116]⟩)))
  (.ret (.c (.bl false)))
  .skip)
  (.ifs (.cmp .ne (.told 9000 i_law_word_2 (.call i_cut_out (.cons (.var 1) (.cons (.var 2) (.cons (.var 3) (.cons (.bin .sub (.var 3) (.c (.int 1))) .nil)))))) (.c (.str ⟨#[110, 111, 32, 102, 105, 116]⟩)))
  (.ret (.c (.bl false)))
  .skip))
  .skip)
  (.seq (.set 7 (.lc X_law_k57_0 (.nm 8) (.rg1 (.c (.int 20))) none))
  (.seq (.set 9 (.b1 .tuple (.lc X_law_k57_1 (.nm 10) (.e (.var 7)) none)))
  (.seq (.ifs (.cmp .ne (.told 9000 i_law_word_2 (.call i_put_in (.cons (.var 1) (.cons (.var 9) (.cons (.c (.int 20)) (.cons (.tup (.cons (.tup (.cons (.c (.str ⟨#[97]⟩)) (.cons (.tup (.cons (.call i_law_at (.cons (.var 1) (.cons (.c (.int 70)) .nil))) (.cons (.call i_law_at (.cons (.var 1) (.cons (.c (.int 71)) .nil))) .nil))) .nil))) .nil)) .nil)))))) (.c (.str ⟨#[110, 111, 32, 99, 117, 116]⟩)))
  (.ret (.c (.bl false)))
  .skip)
  (.seq (.set 11 (.tup (.cons (.tup (.cons (.c (.str ⟨#[97]⟩)) (.cons (.tup (.cons (.call i_law_at (.cons (.var 1) (.cons (.c (.int 39)) .nil))) (.cons (.call i_law_at (.cons (.var 1) (.cons (.c (.int 41)) .nil))) .nil))) .nil))) .nil)))
  (.ret (.cmp .eq (.call i_put_in (.cons (.var 1) (.cons (.var 9) (.cons (.c (.int 20)) (.cons (.var 11) .nil))))) (.bin .add (.sl (.var 9) none (some (.c (.int 19)))) (.tup (.cons (.tup (.cons (.c (.str ⟨#[97]⟩)) (.cons (.tup (.cons (.call i_law_at (.cons (.var 1) (.cons (.c (.int 38)) .nil))) (.cons (.call i_law_at (.cons (.var 1) (.cons (.c (.int 41)) .nil))) .nil))) .nil))) .nil))))))))))))))))))))))⟩
def F_is_event_of : FD := ⟨2, 4, false,
  (.seq (.ifs (.or (.not (.isi (.var 1) .tup)) (.or (.cmp .ne (.b1 .len (.var 1)) (.c (.int 2))) (.or (.not (.call i_is_clip_of (.cons (.var 0) (.cons (.ix (.var 1) (.c (.int 0))) .nil)))) (.not (.call i_is_span (.cons (.var 0) (.cons (.ix (.var 1) (.c (.int 1))) .nil)))))))
  (.ret (.c (.bl false)))
  .skip)
  (.seq (.par [2, 3] [false, false] (.cons (.call i_counts_in (.cons (.var 0) (.cons (.ix (.ix (.var 1) (.c (.int 0))) (.c (.int 1))) .nil))) (.cons (.call i_counts_in (.cons (.var 0) (.cons (.ix (.var 1) (.c (.int 1))) .nil))) .nil)))
  (.ret (.cmp .eq (.bin .sub (.ix (.var 2) (.c (.int 1))) (.ix (.var 2) (.c (.int 0)))) (.bin .sub (.ix (.var 3) (.c (.int 1))) (.ix (.var 3) (.c (.int 0))))))))⟩
def F_is_event : FD := ⟨2, 2, false,
  (.seq (.expr (.call i_look_rate (.cons (.var 0) .nil)))
  (.ret (.call i_is_event_of (.cons (.var 0) (.cons (.var 1) .nil)))))⟩
def X_look_events_0 : E := (.call i_is_event_of (.cons (.var 0) (.cons (.var 2) .nil)))
def F_look_events : FD := ⟨2, 3, false,
  (.seq (.expr (.call i_look_rate (.cons (.var 0) .nil)))
  (.ifs (.or (.not (.isi (.var 1) .lst)) (.or (.cmp .gt (.b1 .len (.var 1)) (.gl 7)) (.not (.b1 .all (.lc X_look_events_0 (.nm 2) (.e (.var 1)) none)))))
  (.raise 10)
  .skip))⟩
def B_events_0 : S := (.seq (.set 7 (.bin .sub (.bin .add (.var 4) (.ix (.var 6) (.c (.int 2)))) (.ix (.var 6) (.c (.int 1)))))
  (.seq (.ifs (.cmp .ge (.var 7) (.call i_day_frames (.cons (.var 0) .nil)))
  (.raise 5)
  .skip)
  (.seq (.app 3 (.tup (.cons (.var 5) (.cons (.call i_span_of (.cons (.var 0) (.cons (.var 4) (.cons (.var 7) .nil)))) .nil))))
  (.set 4 (.var 7)))))
def F_events : FD := ⟨3, 8, false,
  (.seq (.expr (.call i_look_cut (.cons (.var 0) (.cons (.var 1) .nil))))
  (.seq (.expr (.call i_look_code (.cons (.var 0) (.cons (.var 2) .nil))))
  (.seq (.setO 3 (.lst .nil))
  (.seq (.set 4 (.call i_count_of (.cons (.var 0) (.cons (.var 2) .nil))))
  (.seq (.for_ (.tc (.nm 5) (.tc (.nm 6) .tn)) (.zip (.var 1) (.call i_pieces_of (.cons (.var 0) (.cons (.var 1) .nil))))
  B_events_0)
  (.seq (.frz 3)
  (.ret (.var 3))))))))⟩
def B_cut_of_0 : S := (.ifs (.cmp .ne (.ix (.ix (.var 2) (.c (.int 1))) (.c (.int 1))) (.ix (.ix (.var 3) (.c (.int 1))) (.c (.int 0))))
  (.raise 6)
  .skip)
def X_cut_of_1 : E := (.var 4)
def F_cut_of : FD := ⟨2, 6, false,
  (.seq (.expr (.call i_look_events (.cons (.var 0) (.cons (.var 1) .nil))))
  (.seq (.for_ (.tc (.nm 2) (.tc (.nm 3) .tn)) (.zip (.var 1) (.sl (.var 1) (some (.c (.int 1))) none))
  B_cut_of_0)
  (.ret (.b1 .tuple (.lc X_cut_of_1 (.tc (.nm 4) (.tc (.nm 5) .tn)) (.e (.var 1)) none)))))⟩
def B_event_at_0 : S := (.seq (.unp (.tc (.nm 7) (.tc (.nm 8) .tn)) (.call i_counts_in (.cons (.var 0) (.cons (.var 6) .nil))))
  (.ifs (.chain .le .lt (.var 7) (.var 3) (.var 8))
  (.ret (.var 4))
  .skip))
def F_event_at : FD := ⟨3, 9, false,
  (.seq (.expr (.call i_look_events (.cons (.var 0) (.cons (.var 1) .nil))))
  (.seq (.expr (.call i_look_code (.cons (.var 0) (.cons (.var 2) .nil))))
  (.seq (.set 3 (.call i_count_of (.cons (.var 0) (.cons (.var 2) .nil))))
  (.seq (.for_ (.tc (.nm 4) (.tc (.tc (.nm 5) (.tc (.nm 6) .tn)) .tn)) (.enum (.var 1))
  B_event_at_0)
  (.ret (.c .non))))))⟩
def B_law_k58_0 : S := (.seq (.set 12 (.bin .add (.var 10) (.b1 .len (.call i_law_frames_2 (.cons (.var 1) (.cons (.tup (.cons (.var 11) .nil)) .nil))))))
  (.seq (.app 9 (.tup (.cons (.var 11) (.cons (.tup (.cons (.call i_law_at (.cons (.var 1) (.cons (.var 10) .nil))) (.cons (.call i_law_at (.cons (.var 1) (.cons (.var 12) .nil))) .nil))) .nil))))
  (.set 10 (.var 12))))
def Y_law_k58_1 : Option E := (some (.cmp .isnot (.call i_is_event (.cons (.var 1) (.cons (.var 13) .nil))) (.c (.bl true))))
def X_law_k58_2 : E := (.var 13)
def Y_law_k58_3 : Option E := (some (.chain .le .lt (.ix (.var 17) (.c (.int 0))) (.call i_law_at (.cons (.var 1) (.cons (.var 14) .nil))) (.ix (.var 17) (.c (.int 1)))))
def X_law_k58_4 : E := (.var 16)
def B_law_k58_5 : S := (.ifs (.chain .le .lt (.c (.int 0)) (.var 14) (.var 3))
  (.seq (.set 15 (.lc X_law_k58_4 (.tc (.nm 16) (.tc (.tc (.nm 11) (.tc (.nm 17) .tn)) .tn)) (.enum (.var 9)) Y_law_k58_3))
  (.ifs (.cmp .ne (.call i_event_at (.cons (.var 1) (.cons (.var 9) (.cons (.call i_law_at (.cons (.var 1) (.cons (.var 14) .nil))) .nil)))) (.ite (.cmp .ne (.var 15) (.lst .nil)) (.ix (.var 15) (.c (.int 0))) (.c .non)))
  (.ret (.c (.bl false)))
  .skip))
  .skip)
def F_law_k58 : FD := ⟨1, 18, false,
  (.seq (.set 1 (.call i_law_rate (.cons (.var 0) (.cons (.c (.int 0)) .nil))))
  (.seq (.set 2 (.call i_law_cut (.cons (.var 0) (.cons (.c (.int 10)) (.cons (.var 1) (.cons (.c (.int 4)) .nil))))))
  (.seq (.par [3, 4] [false, false] (.cons (.call i_law_day (.cons (.var 1) .nil)) (.cons (.b1 .len (.call i_law_frames_2 (.cons (.var 1) (.cons (.var 2) .nil)))) .nil)))
  (.seq (.set 5 (.call i_law_count (.cons (.var 1) (.cons (.call i_law_code (.cons (.var 0) (.cons (.c (.int 60)) (.cons (.var 1) .nil)))) .nil))))
  (.seq (.set 6 (.b2 .max (.c (.int 0)) (.bin .sub (.bin .sub (.var 3) (.c (.int 1))) (.call i_law_pick (.cons (.var 0) (.cons (.c (.int 70)) (.cons (.bin .add (.var 4) (.c (.int 3))) .nil)))))))
  (.seq (.set 5 (.ix (.lst (.cons (.var 5) (.cons (.bin .sub (.bin .sub (.var 3) (.c (.int 1))) (.var 4)) (.cons (.bin .sub (.var 3) (.var 4)) (.cons (.var 6) .nil))))) (.call i_law_pick (.cons (.var 0) (.cons (.c (.int 71)) (.cons (.c (.int 4)) .nil))))))
  (.seq (.set 7 (.call i_law_at (.cons (.var 1) (.cons (.b2 .min (.var 5) (.bin .sub (.var 3) (.c (.int 1)))) .nil))))
  (.seq (.set 5 (.b2 .min (.var 5) (.bin .sub (.var 3) (.c (.int 1)))))
  (.seq (.set 8 (.told 9000 i_law_word_2 (.call i_events (.cons (.var 1) (.cons (.var 2) (.cons (.var 7) .nil))))))
  (.seq (.ifs (.and (.cmp .ne (.var 2) (.tup .nil)) (.cmp .ge (.bin .add (.var 5) (.var 4)) (.var 3)))
  (.ret (.cmp .eq (.var 8) (.c (.str ⟨#[116, 111, 111, 32, 102, 97, 114]⟩))))
  .skip)
  (.seq (.par [9, 10] [true, false] (.cons (.lst .nil) (.cons (.var 5) .nil)))
  (.seq (.for_ (.nm 11) (.e (.var 2))
  B_law_k58_0)
  (.seq (.frz 9)
  (.seq (.ifs (.or (.cmp .ne (.var 8) (.brw 9)) (.or (.cmp .ne (.call i_cut_of (.cons (.var 1) (.cons (.var 9) .nil))) (.var 2)) (.cmp .ne (.lc X_law_k58_2 (.nm 13) (.e (.var 9)) Y_law_k58_1) (.lst .nil))))
  (.ret (.c (.bl false)))
  .skip)
  (.seq (.for_ (.nm 14) (.e (.lst (.cons (.bin .sub (.var 5) (.c (.int 1))) (.cons (.var 5) (.cons (.bin .sub (.var 10) (.c (.int 1))) (.cons (.var 10) (.cons (.bin .add (.var 5) (.call i_law_pick (.cons (.var 0) (.cons (.c (.int 72)) (.cons (.bin .add (.var 4) (.c (.int 1))) .nil))))) .nil)))))))
  B_law_k58_5)
  (.seq (.ifs (.and (.cmp .gt (.b1 .len (.var 9)) (.c (.int 1))) (.cmp .ne (.told 9000 i_law_word_2 (.call i_cut_of (.cons (.var 1) (.cons (.rev (.var 9)) .nil)))) (.c (.str ⟨#[110, 111, 32, 102, 105, 116]⟩))))
  (.ret (.c (.bl false)))
  .skip)
  (.ret (.or (.cmp .lt (.b1 .len (.var 9)) (.c (.int 3))) (.cmp .eq (.told 9000 i_law_word_2 (.call i_cut_of (.cons (.var 1) (.cons (.bin .add (.sl (.var 9) none (some (.c (.int 1)))) (.sl (.var 9) (some (.c (.int 2))) none)) .nil)))) (.c (.str ⟨#[110, 111, 32, 102, 105, 116]⟩)))))))))))))))))))))⟩
def X_event_text_0 : E := (.call i_text_of (.cons (.var 0) (.cons (.var 7) .nil)))
def F_event_text : FD := ⟨3, 8, false,
  (.seq (.unp (.tc (.tc (.nm 4) (.tc (.nm 5) .tn)) (.tc (.nm 3) .tn)) (.var 2))
  (.seq (.set 6 (.bin .add (.lst (.cons (.sl (.bin .add (.c (.str ⟨#[48, 48]⟩)) (.b1 .str (.var 1))) (some (.neg (.c (.int 3)))) none) (.cons (.var 4) .nil))) (.lc X_event_text_0 (.nm 7) (.e (.bin .add (.var 5) (.var 3))) none)))
  (.ret (.bin .add (.m1 .join (.c (.str ⟨#[32]⟩)) (.var 6)) (.c (.str ⟨#[10]⟩))))))⟩
def X_text_in_0 : E := (.call i_event_text (.cons (.var 0) (.cons (.bin .add (.var 2) (.c (.int 1))) (.cons (.var 3) .nil))))
def F_text_in : FD := ⟨2, 4, false,
  (.ret (.m1 .join (.c (.str ⟨#[]⟩)) (.lc X_text_in_0 (.tc (.nm 2) (.tc (.nm 3) .tn)) (.enum (.var 1)) none)))⟩
def F_events_text : FD := ⟨2, 2, false,
  (.seq (.expr (.call i_look_events (.cons (.var 0) (.cons (.var 1) .nil))))
  (.ret (.call i_text_in (.cons (.var 0) (.cons (.var 1) .nil)))))⟩
def F_code_in : FD := ⟨2, 3, false,
  (.seq (.set 2 (.call i_parts_in (.cons (.var 0) (.cons (.var 1) .nil))))
  (.ret (.ite (.and (.cmp .isnot (.var 2) (.c .non)) (.call i_is_code (.cons (.var 0) (.cons (.var 2) .nil)))) (.var 2) (.tup .nil))))⟩
def X_read_events_0 : E := (.call i_code_in (.cons (.var 0) (.cons (.var 6) .nil)))
def B_read_events_1 : S := (.seq (.set 4 (.m1 .split (.var 3) (.c (.str ⟨#[32]⟩))))
  (.seq (.ifs (.cmp .ne (.b1 .len (.var 4)) (.c (.int 6)))
  (.raise 7)
  .skip)
  (.seq (.set 5 (.lc X_read_events_0 (.nm 6) (.e (.sl (.var 4) (some (.c (.int 2))) none)) none))
  (.app 2 (.tup (.cons (.tup (.cons (.ix (.var 4) (.c (.int 1))) (.cons (.b1 .tuple (.sl (.var 5) none (some (.c (.int 2))))) .nil))) (.cons (.b1 .tuple (.sl (.var 5) (some (.c (.int 2))) none)) .nil)))))))
def X_read_events_2 : E := (.call i_is_event_of (.cons (.var 0) (.cons (.var 7) .nil)))
def F_read_events : FD := ⟨2, 8, false,
  (.seq (.expr (.call i_look_rate (.cons (.var 0) .nil)))
  (.seq (.ifs (.not (.isi (.var 1) .str))
  (.raise 7)
  .skip)
  (.seq (.setO 2 (.lst .nil))
  (.seq (.for_ (.nm 3) (.e (.sl (.m1 .split (.var 1) (.c (.str ⟨#[10]⟩))) none (some (.neg (.c (.int 1))))))
  B_read_events_1)
  (.seq (.frz 2)
  (.seq (.ifs (.or (.cmp .gt (.b1 .len (.brw 2)) (.gl 7)) (.or (.not (.b1 .all (.lc X_read_events_2 (.nm 7) (.e (.var 2)) none))) (.cmp .ne (.call i_text_in (.cons (.var 0) (.cons (.var 2) .nil))) (.var 1))))
  (.raise 7)
  .skip)
  (.ret (.var 2))))))))⟩
def X_law_written_0 : E := (.sl (.bin .add (.c (.str ⟨#[48]⟩)) (.b1 .str (.var 3))) (some (.neg (.c (.int 2)))) none)
def F_law_written : FD := ⟨2, 4, false,
  (.seq (.set 2 (.lc X_law_written_0 (.nm 3) (.e (.var 1)) none))
  (.ret (.bin .add (.bin .add (.m1 .join (.c (.str ⟨#[58]⟩)) (.sl (.var 2) none (some (.c (.int 3))))) (.ite (.cmp .gt (.ix (.call i_law_facts (.cons (.var 0) .nil)) (.c (.int 1))) (.c (.int 0))) (.c (.str ⟨#[59]⟩)) (.c (.str ⟨#[58]⟩)))) (.ix (.var 2) (.c (.int 3))))))⟩
def X_law_k59_0 : E := (.call i_law_written (.cons (.var 1) (.cons (.var 11) .nil)))
def B_law_k59_1 : S := (.seq (.set 7 (.lc X_law_k59_0 (.nm 11) (.e (.bin .add (.var 10) (.var 8))) none))
  (.set 5 (.bin .add (.bin .add (.bin .add (.bin .add (.bin .add (.bin .add (.bin .add (.var 5) (.c (.str ⟨#[48, 48]⟩))) (.b1 .str (.bin .add (.var 6) (.c (.int 1))))) (.c (.str ⟨#[32]⟩))) (.var 9)) (.c (.str ⟨#[32]⟩))) (.m1 .join (.c (.str ⟨#[32]⟩)) (.var 7))) (.c (.str ⟨#[10]⟩)))))
def F_law_k59 : FD := ⟨1, 13, false,
  (.seq (.par [1, 2] [false, false] (.cons (.call i_law_rate (.cons (.var 0) (.cons (.c (.int 0)) .nil))) (.cons (.call i_law_rate (.cons (.var 0) (.cons (.c (.int 1)) .nil))) .nil)))
  (.seq (.set 3 (.call i_law_cut (.cons (.var 0) (.cons (.c (.int 10)) (.cons (.var 1) (.cons (.c (.int 4)) .nil))))))
  (.seq (.set 4 (.call i_events (.cons (.var 1) (.cons (.var 3) (.cons (.call i_law_at (.cons (.var 1) (.cons (.call i_law_pick (.cons (.var 0) (.cons (.c (.int 60)) (.cons (.c (.int 99999)) .nil)))) .nil))) .nil)))))
  (.seq (.set 5 (.c (.str ⟨#[]⟩)))
  (.seq (.for_ (.tc (.nm 6) (.tc (.tc (.tc (.nm 9) (.tc (.nm 10) .tn)) (.tc (.nm 8) .tn)) .tn)) (.enum (.var 4))
  B_law_k59_1)
  (.seq (.ifs (.or (.cmp .ne (.call i_events_text (.cons (.var 1) (.cons (.var 4) .nil))) (.var 5)) (.cmp .ne (.call i_read_events (.cons (.var 1) (.cons (.var 5) .nil))) (.var 4)))
  (.ret (.c (.bl false)))
  .skip)
  (.seq (.set 12 (.told 9000 i_law_word_2 (.call i_read_events (.cons (.var 2) (.cons (.var 5) .nil)))))
  (.seq (.ifs (.or (.cmp .eq (.var 2) (.var 1)) (.cmp .eq (.var 5) (.c (.str ⟨#[]⟩))))
  (.ret (.cmp .eq (.var 12) (.var 4)))
  .skip)
  (.seq (.ifs (.cmp .ne (.cmp .gt (.ix (.call i_law_facts (.cons (.var 1) .nil)) (.c (.int 1))) (.c (.int 0))) (.cmp .gt (.ix (.call i_law_facts (.cons (.var 2) .nil)) (.c (.int 1))) (.c (.int 0))))
  (.ret (.cmp .eq (.var 12) (.c (.str ⟨#[110, 111, 32, 116, 101, 120, 116]⟩))))
  .skip)
  (.ret (.or (.cmp .eq (.var 12) (.c (.str ⟨#[110, 111, 32, 116, 101, 120, 116]⟩))) (.and (.cmp .eq (.var 12) (.var 4)) (.cmp .eq (.call i_events_text (.cons (.var 2) (.cons (.var 4) .nil))) (.var 5))))))))))))))⟩
def B_law_k60_0 : S := (.seq (.set 8 (.bin .add (.bin .mul (.call i_law_cell (.cons (.var 0) (.cons (.bin .add (.c (.int 700)) (.var 7)) .nil))) (.c (.int 7919))) (.call i_law_pick (.cons (.var 0) (.cons (.bin .add (.c (.int 720)) (.var 7)) (.cons (.c (.int 999983)) .nil))))))
  (.seq (.app 6 (.call i_law_spoilt (.cons (.var 4) (.cons (.var 8) (.cons (.c (.str ⟨#[48, 49, 50, 51, 52, 53, 54, 55, 56, 57, 58, 59, 32, 97, 98, 10]⟩)) .nil)))))
  (.seq (.set 9 (.call i_law_pick (.cons (.var 0) (.cons (.bin .add (.c (.int 740)) (.var 7)) (.cons (.b1 .len (.var 5)) .nil)))))
  (.seq (.app 6 (.m1 .join (.c (.str ⟨#[10]⟩)) (.bin .add (.sl (.var 5) none (some (.var 9))) (.sl (.var 5) (some (.bin .add (.var 9) (.c (.int 1)))) none))))
  (.app 6 (.m1 .join (.c (.str ⟨#[10]⟩)) (.bin .add (.sl (.var 5) none (some (.bin .add (.var 9) (.c (.int 1))))) (.sl (.var 5) (some (.var 9)) none))))))))
def B_law_k60_1 : S := (.seq (.set 11 (.told 9000 i_law_word_2 (.call i_events_text (.cons (.var 1) (.cons (.call i_read_events (.cons (.var 1) (.cons (.var 10) .nil))) .nil)))))
  (.ifs (.and (.cmp .ne (.var 11) (.var 10)) (.cmp .ne (.var 11) (.c (.str ⟨#[110, 111, 32, 116, 101, 120, 116]⟩))))
  (.ret (.c (.bl false)))
  .skip))
def X_law_k60_2 : E := (.told 9000 i_law_word_2 (.call i_read_events (.cons (.var 1) (.cons (.var 10) .nil))))
def F_law_k60 : FD := ⟨1, 15, false,
  (.seq (.set 1 (.call i_law_rate (.cons (.var 0) (.cons (.c (.int 0)) .nil))))
  (.seq (.set 2 (.call i_law_cut (.cons (.var 0) (.cons (.c (.int 10)) (.cons (.var 1) (.cons (.c (.int 4)) .nil))))))
  (.seq (.set 3 (.call i_events (.cons (.var 1) (.cons (.var 2) (.cons (.call i_law_at (.cons (.var 1) (.cons (.call i_law_pick (.cons (.var 0) (.cons (.c (.int 60)) (.cons (.c (.int 99999)) .nil)))) .nil))) .nil)))))
  (.seq (.set 4 (.call i_events_text (.cons (.var 1) (.cons (.var 3) .nil))))
  (.seq (.par [5, 6] [false, true] (.cons (.m1 .split (.var 4) (.c (.str ⟨#[10]⟩))) (.cons (.lst (.cons (.var 4) .nil)) .nil)))
  (.seq (.for_ (.nm 7) (.rg1 (.c (.int 2)))
  B_law_k60_0)
  (.seq (.frz 6)
  (.seq (.for_ (.nm 10) (.e (.var 6))
  B_law_k60_1)
  (.seq (.set 12 (.tup (.cons (.c (.str ⟨#[97]⟩)) (.cons (.tup (.cons (.call i_law_at (.cons (.var 1) (.cons (.c (.int 0)) .nil))) (.cons (.call i_law_at (.cons (.var 1) (.cons (.c (.int 5)) .nil))) .nil))) .nil))))
  (.seq (.set 13 (.call i_events_text (.cons (.var 1) (.cons (.call i_events (.cons (.var 1) (.cons (.bin .mul (.tup (.cons (.var 12) .nil)) (.c (.int 20))) (.cons (.call i_law_at (.cons (.var 1) (.cons (.c (.int 0)) .nil))) .nil)))) .nil))))
  (.seq (.ifs (.or (.cmp .ne (.b1 .len (.call i_read_events (.cons (.var 1) (.cons (.var 13) .nil)))) (.c (.int 20))) (.cmp .ne (.call i_read_events (.cons (.var 1) (.cons (.var 4) .nil))) (.var 3)))
  (.ret (.c (.bl false)))
  .skip)
  (.seq (.set 14 (.lst (.cons (.c .non) (.cons (.c (.int 5)) (.cons (.tup (.cons (.var 4) .nil)) (.cons (.bin .add (.bin .add (.var 13) (.m2 .replace (.ix (.m1 .split (.var 13) (.c (.str ⟨#[10]⟩))) (.c (.int 0))) (.c (.str ⟨#[48, 48, 49]⟩)) (.c (.str ⟨#[48, 50, 49]⟩)))) (.c (.str ⟨#[10]⟩))) (.cons (.sl (.var 13) none (some (.neg (.c (.int 1))))) (.cons (.c (.str ⟨#[97]⟩)) (.cons (.c (.str ⟨#[10]⟩)) .nil)))))))))
  (.ret (.cmp .eq (.lc X_law_k60_2 (.nm 10) (.e (.var 14)) none) (.bin .mul (.lst (.cons (.c (.str ⟨#[110, 111, 32, 116, 101, 120, 116]⟩)) .nil)) (.c (.int 7)))))))))))))))))⟩
def F_law_all_3 : FD := ⟨2, 3, false,
  (.seq (.setO 2 (.lst (.cons (.told 9000 i_law_word_2 (.call i_cut_of (.cons (.var 0) (.cons (.var 1) .nil)))) .nil)))
  (.seq (.app 2 (.told 9000 i_law_word_2 (.call i_event_at (.cons (.var 0) (.cons (.var 1) (.cons (.c .non) .nil))))))
  (.seq (.app 2 (.told 9000 i_law_word_2 (.call i_events_text (.cons (.var 0) (.cons (.var 1) .nil)))))
  (.seq (.frz 2)
  (.ret (.var 2))))))⟩
def Y_law_k61_0 : Option E := (some (.cmp .isnot (.call i_is_event (.cons (.var 1) (.cons (.var 7) .nil))) (.c (.bl false))))
def X_law_k61_1 : E := (.var 7)
def F_law_k61 : FD := ⟨1, 10, false,
  (.seq (.set 1 (.call i_law_rate (.cons (.var 0) (.cons (.c (.int 0)) .nil))))
  (.seq (.set 2 (.call i_law_cut (.cons (.var 0) (.cons (.c (.int 10)) (.cons (.var 1) (.cons (.c (.int 4)) .nil))))))
  (.seq (.par [3, 4] [false, false] (.cons (.tup (.cons (.c (.str ⟨#[97]⟩)) (.cons (.tup (.cons (.call i_law_at (.cons (.var 1) (.cons (.c (.int 3)) .nil))) (.cons (.call i_law_at (.cons (.var 1) (.cons (.c (.int 8)) .nil))) .nil))) .nil))) (.cons (.tup (.cons (.call i_law_at (.cons (.var 1) (.cons (.c (.int 10)) .nil))) (.cons (.call i_law_at (.cons (.var 1) (.cons (.c (.int 15)) .nil))) .nil))) .nil)))
  (.seq (.set 5 (.tup (.cons (.var 3) (.cons (.var 4) .nil))))
  (.seq (.setO 6 (.lst (.cons (.tup (.cons (.var 3) (.cons (.tup (.cons (.ix (.var 4) (.c (.int 0))) (.cons (.call i_law_at (.cons (.var 1) (.cons (.c (.int 16)) .nil))) .nil))) .nil))) (.cons (.tup (.cons (.var 3) (.cons (.tup (.cons (.ix (.var 4) (.c (.int 0))) (.cons (.call i_law_at (.cons (.var 1) (.cons (.c (.int 14)) .nil))) .nil))) .nil))) .nil))))
  (.seq (.ext 6 (.lst (.cons (.tup (.cons (.var 4) (.cons (.var 3) .nil))) (.cons (.lst (.cons (.var 3) (.cons (.var 4) .nil))) .nil))))
  (.seq (.ext 6 (.lst (.cons (.c .non) (.cons (.tup (.cons (.var 3) .nil)) (.cons (.tup (.cons (.var 3) (.cons (.var 4) (.cons (.c (.int 1)) .nil)))) (.cons (.tup (.cons (.var 3) (.cons (.rev (.var 4)) .nil))) (.cons (.tup (.cons (.tup (.cons (.c (.str ⟨#[]⟩)) (.cons (.ix (.var 3) (.c (.int 1))) .nil))) (.cons (.var 4) .nil))) .nil)))))))
  (.seq (.ext 6 (.lst (.cons (.tup (.cons (.var 3) (.cons (.b1 .list (.var 4)) .nil))) .nil)))
  (.seq (.frz 6)
  (.seq (.ifs (.or (.cmp .ne (.lc X_law_k61_1 (.nm 7) (.e (.var 6)) Y_law_k61_0) (.lst .nil)) (.cmp .isnot (.call i_is_event (.cons (.var 1) (.cons (.var 5) .nil))) (.c (.bl true))))
  (.ret (.c (.bl false)))
  .skip)
  (.seq (.set 8 (.ix (.lst (.cons (.c .non) (.cons (.tup (.cons (.var 5) .nil)) (.cons (.lst (.cons (.var 5) (.cons (.c .non) .nil))) (.cons (.bin .mul (.lst (.cons (.var 5) .nil)) (.c (.int 21))) (.cons (.lst (.cons (.ix (.var 6) (.call i_law_pick (.cons (.var 0) (.cons (.c (.int 90)) (.cons (.c (.int 10)) .nil))))) .nil)) .nil)))))) (.call i_law_pick (.cons (.var 0) (.cons (.c (.int 91)) (.cons (.c (.int 5)) .nil))))))
  (.seq (.ifs (.or (.cmp .ne (.call i_law_all_3 (.cons (.var 1) (.cons (.var 8) .nil))) (.bin .mul (.lst (.cons (.c (.str ⟨#[110, 111, 32, 101, 118, 101, 110, 116]⟩)) .nil)) (.c (.int 3)))) (.cmp .ne (.call i_law_all_3 (.cons (.c (.str ⟨#[115, 108, 111, 119]⟩)) (.cons (.var 8) .nil))) (.bin .mul (.lst (.cons (.c (.str ⟨#[110, 111, 32, 114, 97, 116, 101]⟩)) .nil)) (.c (.int 3)))))
  (.ret (.c (.bl false)))
  .skip)
  (.seq (.ifs (.or (.cmp .ne (.told 9000 i_law_word_2 (.call i_event_at (.cons (.var 1) (.cons (.lst (.cons (.var 5) .nil)) (.cons (.tup (.cons (.c (.int 0)) (.cons (.c (.int 0)) (.cons (.c (.int 0)) (.cons (.c (.int 60)) .nil))))) .nil))))) (.c (.str ⟨#[110, 111, 32, 99, 111, 100, 101]⟩))) (.cmp .ne (.call i_cut_of (.cons (.var 1) (.cons (.lst .nil) .nil))) (.tup .nil)))
  (.ret (.c (.bl false)))
  .skip)
  (.seq (.setO 9 (.lst (.cons (.told 9000 i_law_word_2 (.call i_events (.cons (.var 1) (.cons (.c .non) (.cons (.c .non) .nil))))) .nil)))
  (.seq (.app 9 (.told 9000 i_law_word_2 (.call i_events (.cons (.var 1) (.cons (.var 2) (.cons (.tup (.cons (.c (.int 0)) (.cons (.c (.int 0)) .nil))) .nil))))))
  (.seq (.app 9 (.told 9000 i_law_word_2 (.call i_events (.cons (.c (.str ⟨#[115, 108, 111, 119]⟩)) (.cons (.c .non) (.cons (.c .non) .nil))))))
  (.seq (.app 9 (.told 9000 i_law_word_2 (.call i_read_events (.cons (.c (.str ⟨#[115, 108, 111, 119]⟩)) (.cons (.c .non) .nil)))))
  (.seq (.app 9 (.told 9000 i_law_word_2 (.call i_is_event (.cons (.c (.str ⟨#[115, 108, 111, 119]⟩)) (.cons (.var 5) .nil)))))
  (.ret (.cmp .eq (.brw 9) (.lst (.cons (.c (.str ⟨#[110, 111, 32, 99, 117, 116]⟩)) (.cons (.c (.str ⟨#[110, 111, 32, 99, 111, 100, 101]⟩)) (.cons (.c (.str ⟨#[110, 111, 32, 114, 97, 116, 101]⟩)) (.cons (.c (.str ⟨#[110, 111, 32, 114, 97, 116, 101]⟩)) (.cons (.c (.str ⟨#[110, 111, 32, 114, 97, 116, 101]⟩)) .nil))))))))))))))))))))))))))⟩
def F_look_number : FD := ⟨2, 2, false,
  (.seq (.ifs (.or (.not (.isi (.var 0) .int)) (.or (.isi (.var 0) .bool) (.cmp .lt (.var 0) (.c (.int 0)))))
  (.raise 3)
  .skip)
  (.ifs (.and (.cmp .isnot (.var 1) (.c .non)) (.not (.call i_is_whole (.cons (.var 0) (.cons (.c (.int 0)) (.cons (.var 1) .nil))))))
  (.raise 3)
  .skip))⟩
def F_look_both : FD := ⟨2, 2, false,
  (.seq (.expr (.call i_look_rate (.cons (.var 0) .nil)))
  (.expr (.call i_look_rate (.cons (.var 1) .nil))))⟩
def F_begun : FD := ⟨3, 5, false,
  (.seq (.par [3, 4] [false, false] (.cons (.call i_true_frames (.cons (.var 0) .nil)) (.cons (.call i_true_frames (.cons (.var 1) .nil)) .nil)))
  (.ret (.bin .fdiv (.bin .mul (.bin .mul (.var 2) (.ix (.var 3) (.c (.int 0)))) (.ix (.var 4) (.c (.int 1)))) (.bin .mul (.ix (.var 3) (.c (.int 1))) (.ix (.var 4) (.c (.int 0)))))))⟩
def F_first_after : FD := ⟨3, 7, false,
  (.seq (.par [3, 4] [false, false] (.cons (.call i_true_frames (.cons (.var 0) .nil)) (.cons (.call i_true_frames (.cons (.var 1) .nil)) .nil)))
  (.seq (.par [5, 6] [false, false] (.cons (.bin .mul (.bin .mul (.var 2) (.ix (.var 3) (.c (.int 1)))) (.ix (.var 4) (.c (.int 0)))) (.cons (.bin .mul (.ix (.var 3) (.c (.int 0))) (.ix (.var 4) (.c (.int 1)))) .nil)))
  (.ret (.bin .sub (.c (.int 0)) (.bin .fdiv (.bin .sub (.c (.int 0)) (.var 5)) (.var 6))))))⟩
def X_shown_0 : E := (.call i_begun (.cons (.var 0) (.cons (.var 1) (.cons (.var 3) .nil))))
def F_shown : FD := ⟨3, 4, false,
  (.seq (.expr (.call i_look_both (.cons (.var 0) (.cons (.var 1) .nil))))
  (.seq (.expr (.call i_look_number (.cons (.var 2) (.cons (.gl 8) .nil))))
  (.ret (.lc X_shown_0 (.nm 3) (.rg1 (.var 2)) none))))⟩
def F_shows : FD := ⟨3, 3, false,
  (.seq (.expr (.call i_look_both (.cons (.var 0) (.cons (.var 1) .nil))))
  (.seq (.expr (.call i_look_number (.cons (.var 2) (.cons (.c .non) .nil))))
  (.ret (.bin .sub (.call i_first_after (.cons (.var 0) (.cons (.var 1) (.cons (.bin .add (.var 2) (.c (.int 1))) .nil)))) (.call i_first_after (.cons (.var 0) (.cons (.var 1) (.cons (.var 2) .nil))))))))⟩
def F_first_shown : FD := ⟨3, 3, false,
  (.seq (.ifs (.cmp .eq (.call i_shows (.cons (.var 0) (.cons (.var 1) (.cons (.var 2) .nil)))) (.c (.int 0)))
  (.ret (.c .non))
  .skip)
  (.ret (.call i_first_after (.cons (.var 0) (.cons (.var 1) (.cons (.var 2) .nil))))))⟩
def X_law_k62_0 : E := (.bin .fdiv (.bin .mul (.var 8) (.var 5)) (.var 6))
def Y_law_k62_1 : Option E := (some (.cmp .eq (.ix (.var 7) (.var 11)) (.var 8)))
def X_law_k62_2 : E := (.var 11)
def B_law_k62_3 : S := (.seq (.set 10 (.lc X_law_k62_2 (.nm 11) (.rg1 (.c (.int 60))) Y_law_k62_1))
  (.ifs (.or (.cmp .ne (.call i_shows (.cons (.var 1) (.cons (.var 2) (.cons (.var 8) .nil)))) (.b1 .len (.var 10))) (.cmp .ne (.call i_first_shown (.cons (.var 1) (.cons (.var 2) (.cons (.var 8) .nil)))) (.ix (.bin .add (.var 10) (.lst (.cons (.c .non) .nil))) (.c (.int 0)))))
  (.ret (.c (.bl false)))
  .skip))
def X_law_k62_4 : E := (.cmp .eq (.bin .fdiv (.bin .mul (.bin .add (.var 14) (.c (.int 1))) (.var 5)) (.var 6)) (.var 12))
def B_law_k62_5 : S := (.set 14 (.bin .add (.var 14) (.c (.int 1))))
def F_law_k62 : FD := ⟨1, 15, false,
  (.seq (.par [1, 2] [false, false] (.cons (.call i_law_rate (.cons (.var 0) (.cons (.c (.int 0)) .nil))) (.cons (.call i_law_rate (.cons (.var 0) (.cons (.c (.int 1)) .nil))) .nil)))
  (.seq (.par [3, 4] [false, false] (.cons (.call i_law_true (.cons (.var 1) .nil)) (.cons (.call i_law_true (.cons (.var 2) .nil)) .nil)))
  (.seq (.unp (.tc (.nm 5) (.tc (.nm 6) .tn)) (.call i_law_low (.cons (.bin .mul (.ix (.var 3) (.c (.int 0))) (.ix (.var 4) (.c (.int 1)))) (.cons (.bin .mul (.ix (.var 3) (.c (.int 1))) (.ix (.var 4) (.c (.int 0)))) .nil))))
  (.seq (.set 7 (.lc X_law_k62_0 (.nm 8) (.rg1 (.c (.int 60))) none))
  (.seq (.set 9 (.call i_law_pick (.cons (.var 0) (.cons (.c (.int 2)) (.cons (.c (.int 41)) .nil)))))
  (.seq (.ifs (.or (.cmp .ne (.call i_shown (.cons (.var 1) (.cons (.var 2) (.cons (.var 9) .nil)))) (.sl (.var 7) none (some (.var 9)))) (.cmp .ne (.call i_shown (.cons (.var 1) (.cons (.var 2) (.cons (.c (.int 60)) .nil)))) (.var 7)))
  (.ret (.c (.bl false)))
  .skip)
  (.seq (.for_ (.nm 8) (.rg1 (.b2 .min (.c (.int 20)) (.ix (.var 7) (.neg (.c (.int 1))))))
  B_law_k62_3)
  (.seq (.set 12 (.call i_law_pick (.cons (.var 0) (.cons (.c (.int 3)) (.cons (.c (.int 9999999)) .nil)))))
  (.seq (.set 13 (.bin .sub (.c (.int 0)) (.bin .fdiv (.bin .sub (.c (.int 0)) (.bin .mul (.var 12) (.var 6))) (.var 5))))
  (.seq (.ifs (.cmp .ne (.bin .fdiv (.bin .mul (.var 13) (.var 5)) (.var 6)) (.var 12))
  (.ret (.and (.cmp .eq (.call i_shows (.cons (.var 1) (.cons (.var 2) (.cons (.var 12) .nil)))) (.c (.int 0))) (.cmp .is (.call i_first_shown (.cons (.var 1) (.cons (.var 2) (.cons (.var 12) .nil)))) (.c .non))))
  .skip)
  (.seq (.set 14 (.var 13))
  (.seq (.while_ X_law_k62_4
  B_law_k62_5)
  (.ret (.and (.cmp .eq (.call i_shows (.cons (.var 1) (.cons (.var 2) (.cons (.var 12) .nil)))) (.bin .add (.bin .sub (.var 14) (.var 13)) (.c (.int 1)))) (.cmp .eq (.call i_first_shown (.cons (.var 1) (.cons (.var 2) (.cons (.var 12) .nil)))) (.var 13))))))))))))))))⟩
def X_pattern_0 : E := (.call i_shows (.cons (.var 0) (.cons (.var 1) (.cons (.var 2) .nil))))
def F_pattern : FD := ⟨2, 3, false,
  (.seq (.expr (.call i_look_both (.cons (.var 0) (.cons (.var 1) .nil))))
  (.ret (.lc X_pattern_0 (.nm 2) (.rg1 (.call i_exact_step (.cons (.var 0) (.cons (.var 1) .nil)))) none)))⟩
def B_law_k63_0 : S := (.seq (.set 7 (.call i_law_pick (.cons (.var 0) (.cons (.bin .add (.c (.int 2)) (.var 6)) (.cons (.var 4) .nil)))))
  (.seq (.ifs (.or (.cmp .ne (.call i_shows (.cons (.var 1) (.cons (.var 2) (.cons (.var 7) .nil)))) (.ix (.var 3) (.var 7))) (.cmp .ne (.call i_shows (.cons (.var 1) (.cons (.var 2) (.cons (.bin .add (.var 7) (.bin .mul (.c (.int 7)) (.var 4))) .nil)))) (.ix (.var 3) (.var 7))))
  (.ret (.c (.bl false)))
  .skip)
  (.seq (.set 8 (.call i_first_shown (.cons (.var 1) (.cons (.var 2) (.cons (.var 7) .nil)))))
  (.ifs (.or (.cmp .ne (.cmp .is (.var 8) (.c .non)) (.cmp .eq (.ix (.var 3) (.var 7)) (.c (.int 0)))) (.and (.cmp .isnot (.var 8) (.c .non)) (.cmp .ne (.var 8) (.b1 .sum (.sl (.var 3) none (some (.var 7)))))))
  (.ret (.c (.bl false)))
  .skip))))
def B_law_k63_1 : S := (.seq (.ext 10 (.bin .mul (.lst (.cons (.var 7) .nil)) (.ix (.var 3) (.var 7))))
  (.ifs (.cmp .gt (.b1 .len (.brw 10)) (.c (.int 60)))
  .brk
  .skip))
def F_law_k63 : FD := ⟨1, 11, false,
  (.seq (.par [1, 2] [false, false] (.cons (.call i_law_rate (.cons (.var 0) (.cons (.c (.int 0)) .nil))) (.cons (.call i_law_rate (.cons (.var 0) (.cons (.c (.int 1)) .nil))) .nil)))
  (.seq (.par [3, 4, 5] [false, false, false] (.cons (.call i_pattern (.cons (.var 1) (.cons (.var 2) .nil))) (.cons (.call i_exact_step (.cons (.var 1) (.cons (.var 2) .nil))) (.cons (.call i_exact_step (.cons (.var 2) (.cons (.var 1) .nil))) .nil))))
  (.seq (.ifs (.or (.cmp .ne (.b1 .len (.var 3)) (.var 4)) (.or (.cmp .ne (.b1 .sum (.var 3)) (.var 5)) (.cmp .ne (.call i_pattern (.cons (.var 1) (.cons (.var 1) .nil))) (.lst (.cons (.c (.int 1)) .nil)))))
  (.ret (.c (.bl false)))
  .skip)
  (.seq (.for_ (.nm 6) (.rg1 (.c (.int 4)))
  B_law_k63_0)
  (.seq (.set 9 (.b2 .min (.c (.int 60)) (.b1 .sum (.var 3))))
  (.seq (.setO 10 (.lst .nil))
  (.seq (.for_ (.nm 7) (.rg1 (.var 4))
  B_law_k63_1)
  (.ret (.cmp .eq (.call i_shown (.cons (.var 1) (.cons (.var 2) (.cons (.var 9) .nil)))) (.sl (.brw 10) none (some (.var 9))))))))))))⟩
def B_law_k64_0 : S := (.seq (.set 7 (.ite (.cmp .isIn (.var 4) (.tup (.cons (.var 5) (.cons (.var 6) .nil)))) (.c (.str ⟨#[110, 111, 32, 114, 97, 116, 101]⟩)) (.c (.str ⟨#[110, 111, 32, 110, 117, 109, 98, 101, 114]⟩))))
  (.seq (.setO 8 (.lst (.cons (.told 9000 i_law_word_2 (.call i_shown (.cons (.var 5) (.cons (.var 6) (.cons (.var 3) .nil))))) .nil)))
  (.seq (.app 8 (.told 9000 i_law_word_2 (.call i_shows (.cons (.var 5) (.cons (.var 6) (.cons (.var 3) .nil))))))
  (.seq (.app 8 (.told 9000 i_law_word_2 (.call i_first_shown (.cons (.var 5) (.cons (.var 6) (.cons (.var 3) .nil))))))
  (.seq (.ifs (.cmp .ne (.brw 8) (.bin .mul (.lst (.cons (.var 7) .nil)) (.c (.int 3))))
  (.ret (.c (.bl false)))
  .skip)
  (.ifs (.and (.cmp .eq (.var 7) (.c (.str ⟨#[110, 111, 32, 114, 97, 116, 101]⟩))) (.cmp .ne (.told 9000 i_law_word_2 (.call i_pattern (.cons (.var 5) (.cons (.var 6) .nil)))) (.var 7)))
  (.ret (.c (.bl false)))
  .skip))))))
def F_law_k64 : FD := ⟨1, 9, false,
  (.seq (.par [1, 2] [false, false] (.cons (.call i_law_rate (.cons (.var 0) (.cons (.c (.int 0)) .nil))) (.cons (.call i_law_rate (.cons (.var 0) (.cons (.c (.int 1)) .nil))) .nil)))
  (.seq (.set 3 (.ix (.lst (.cons (.neg (.c (.int 1))) (.cons (.c .non) (.cons (.c (.bl true)) (.cons (.c (.str ⟨#[49]⟩)) (.cons (.tup (.cons (.c (.int 1)) .nil)) .nil)))))) (.call i_law_pick (.cons (.var 0) (.cons (.c (.int 2)) (.cons (.c (.int 5)) .nil))))))
  (.seq (.set 4 (.ix (.lst (.cons (.c (.str ⟨#[115, 108, 111, 119]⟩)) (.cons (.c .non) (.cons (.c (.int 24)) (.cons (.c (.str ⟨#[]⟩)) (.cons (.tup (.cons (.c (.str ⟨#[102, 105, 108, 109]⟩)) .nil)) .nil)))))) (.call i_law_pick (.cons (.var 0) (.cons (.c (.int 3)) (.cons (.c (.int 5)) .nil))))))
  (.seq (.for_ (.tc (.nm 5) (.tc (.nm 6) .tn)) (.e (.tup (.cons (.tup (.cons (.var 1) (.cons (.var 2) .nil))) (.cons (.tup (.cons (.var 4) (.cons (.var 2) .nil))) (.cons (.tup (.cons (.var 1) (.cons (.var 4) .nil))) (.cons (.tup (.cons (.var 4) (.cons (.var 4) .nil))) .nil))))))
  B_law_k64_0)
  (.seq (.ifs (.or (.cmp .ne (.told 9000 i_law_word_2 (.call i_shown (.cons (.var 1) (.cons (.var 2) (.cons (.c (.int 2001)) .nil))))) (.c (.str ⟨#[110, 111, 32, 110, 117, 109, 98, 101, 114]⟩))) (.cmp .ne (.call i_shown (.cons (.var 1) (.cons (.var 2) (.cons (.c (.int 0)) .nil)))) (.lst .nil)))
  (.ret (.c (.bl false)))
  .skip)
  (.ret (.or (.cmp .gt (.call i_law_pick (.cons (.var 0) (.cons (.c (.int 4)) (.cons (.c (.int 8)) .nil)))) (.c (.int 0))) (.cmp .eq (.b1 .len (.call i_shown (.cons (.var 1) (.cons (.var 2) (.cons (.c (.int 2000)) .nil))))) (.c (.int 2000))))))))))⟩
def X_wall_0 : E := (.c (.bl true))
def B_wall_1 : S := .skip
def F_wall : FD := ⟨1, 1, false,
  (.while_ X_wall_0
  B_wall_1)⟩
def F_law_deed : FD := ⟨3, 13, false,
  (.seq (.unp (.tc (.nm 3) (.tc (.nm 4) (.tc (.nm 5) .tn))) (.var 2))
  (.seq (.set 6 (.b1 .len (.var 4)))
  (.seq (.set 7 (.ix (.lst (.cons (.c (.str ⟨#[112, 117, 116]⟩)) (.cons (.c (.str ⟨#[112, 117, 116]⟩)) (.cons (.c (.str ⟨#[112, 117, 116]⟩)) (.cons (.c (.str ⟨#[111, 118, 101, 114]⟩)) (.cons (.c (.str ⟨#[111, 117, 116]⟩)) (.cons (.c (.str ⟨#[111, 117, 116]⟩)) (.cons (.c (.str ⟨#[109, 97, 114, 107]⟩)) (.cons (.c (.str ⟨#[109, 97, 114, 107]⟩)) (.cons (.c (.str ⟨#[114, 117, 98]⟩)) .nil)))))))))) (.call i_law_pick (.cons (.var 0) (.cons (.var 1) (.cons (.c (.int 9)) .nil))))))
  (.seq (.set 8 (.call i_law_pick (.cons (.var 0) (.cons (.bin .add (.var 1) (.c (.int 1))) (.cons (.bin .add (.var 6) (.c (.int 1))) .nil)))))
  (.seq (.ifs (.cmp .isIn (.var 7) (.tup (.cons (.c (.str ⟨#[112, 117, 116]⟩)) (.cons (.c (.str ⟨#[111, 118, 101, 114]⟩)) .nil))))
  (.seq (.set 9 (.bin .add (.call i_law_pick (.cons (.var 0) (.cons (.bin .add (.var 1) (.c (.int 2))) (.cons (.c (.int 30)) .nil)))) (.c (.int 1790))))
  (.seq (.set 10 (.bin .add (.bin .add (.var 9) (.c (.int 1))) (.call i_law_pick (.cons (.var 0) (.cons (.bin .add (.var 1) (.c (.int 3))) (.cons (.c (.int 5)) .nil))))))
  (.ret (.tup (.cons (.var 7) (.cons (.var 8) (.cons (.tup (.cons (.ix (.lst (.cons (.c (.str ⟨#[97]⟩)) (.cons (.c (.str ⟨#[98]⟩)) .nil))) (.call i_law_pick (.cons (.var 0) (.cons (.bin .add (.var 1) (.c (.int 4))) (.cons (.c (.int 2)) .nil))))) (.cons (.tup (.cons (.call i_law_at (.cons (.var 3) (.cons (.var 9) .nil))) (.cons (.call i_law_at (.cons (.var 3) (.cons (.var 10) .nil))) .nil))) .nil))) .nil)))))))
  .skip)
  (.seq (.ifs (.cmp .eq (.var 7) (.c (.str ⟨#[111, 117, 116]⟩)))
  (.seq (.set 11 (.b2 .min (.var 6) (.bin .add (.var 8) (.call i_law_pick (.cons (.var 0) (.cons (.bin .add (.var 1) (.c (.int 2))) (.cons (.c (.int 6)) .nil)))))))
  (.ret (.tup (.cons (.var 7) (.cons (.var 8) (.cons (.var 11) .nil))))))
  .skip)
  (.seq (.set 12 (.ix (.lst (.cons (.c (.str ⟨#[109]⟩)) (.cons (.c (.str ⟨#[105, 110]⟩)) (.cons (.c (.str ⟨#[111, 117, 116]⟩)) .nil)))) (.call i_law_pick (.cons (.var 0) (.cons (.bin .add (.var 1) (.c (.int 2))) (.cons (.c (.int 3)) .nil))))))
  (.ret (.tup (.cons (.var 7) (.cons (.var 12) (.cons (.var 8) .nil))))))))))))⟩
def X_law_due_0 : E := (.tup (.cons (.ix (.var 3) (.var 4)) (.cons (.var 4) .nil)))
def F_law_due : FD := ⟨1, 5, false,
  (.seq (.unp (.tc (.nm 1) (.tc (.nm 2) (.tc (.nm 3) .tn))) (.var 0))
  (.ret (.lst (.cons (.var 1) (.cons (.call i_law_clips (.cons (.var 1) (.cons (.var 2) .nil))) (.cons (.b1 .len (.var 2)) (.cons (.b1 .sorted (.lc X_law_due_0 (.nm 4) (.e (.var 3)) none)) .nil)))))))⟩
def X_mark_in_0 : E := (.cmp .isIn (.var 1) (.gl 10))
def F_mark_in : FD := ⟨1, 2, false,
  (.seq (.ifs (.or (.cmp .ne (.b1 .len (.var 0)) (.c (.int 3))) (.or (.not (.call i_is_reel (.cons (.ix (.var 0) (.c (.int 1))) .nil))) (.not (.chain .le .le (.c (.int 1)) (.b1 .len (.ix (.var 0) (.c (.int 2)))) (.c (.int 9))))))
  (.ret (.c .non))
  .skip)
  (.seq (.ifs (.not (.b1 .all (.lc X_mark_in_0 (.nm 1) (.e (.ix (.var 0) (.c (.int 2)))) none)))
  (.ret (.c .non))
  .skip)
  (.ret (.tup (.cons (.ix (.var 0) (.c (.int 1))) (.cons (.b1 .int (.ix (.var 0) (.c (.int 2)))) .nil))))))⟩
def F_is_mark_row : FD := ⟨1, 1, false,
  (.ret (.and (.cmp .eq (.ix (.var 0) (.c (.int 0))) (.c (.str ⟨#[109, 97, 114, 107]⟩))) (.and (.cmp .eq (.b1 .len (.var 0)) (.c (.int 3))) (.cmp .notIn (.c (.str ⟨#[58]⟩)) (.ix (.var 0) (.c (.int 1)))))))⟩
def B_law_k74_0 : S := (.seq (.par [6, 7] [false, false] (.cons (.call i_law_code (.cons (.var 0) (.cons (.bin .add (.c (.int 10)) (.bin .mul (.c (.int 20)) (.var 3))) (.cons (.var 1) .nil)))) (.cons (.call i_law_code (.cons (.var 0) (.cons (.bin .add (.c (.int 20)) (.bin .mul (.c (.int 20)) (.var 3))) (.cons (.var 1) .nil)))) .nil)))
  (.seq (.par [8, 9] [false, false] (.cons (.bin .sub (.call i_law_pick (.cons (.var 0) (.cons (.bin .add (.c (.int 100)) (.var 3)) (.cons (.c (.int 9999999)) .nil)))) (.c (.int 5000000))) (.cons (.bin .sub (.call i_law_pick (.cons (.var 0) (.cons (.bin .add (.c (.int 110)) (.var 3)) (.cons (.c (.int 99999)) .nil)))) (.c (.int 50000))) .nil)))
  (.seq (.set 4 (.call i_round_later (.cons (.var 1) (.cons (.var 6) (.cons (.var 8) .nil)))))
  (.seq (.ifs (.cmp .ne (.call i_round_later (.cons (.var 1) (.cons (.var 4) (.cons (.var 9) .nil)))) (.call i_round_later (.cons (.var 1) (.cons (.var 6) (.cons (.bin .add (.var 8) (.var 9)) .nil)))))
  (.ret (.c (.bl false)))
  .skip)
  (.seq (.ifs (.cmp .ne (.call i_round_later (.cons (.var 1) (.cons (.var 4) (.cons (.neg (.var 8)) .nil)))) (.var 6))
  (.ret (.c (.bl false)))
  .skip)
  (.seq (.ifs (.or (.cmp .ne (.call i_round_later (.cons (.var 1) (.cons (.var 6) (.cons (.var 2) .nil)))) (.var 6)) (.cmp .ne (.call i_round_later (.cons (.var 1) (.cons (.var 6) (.cons (.bin .mul (.neg (.c (.int 3))) (.var 2)) .nil)))) (.var 6)))
  (.ret (.c (.bl false)))
  .skip)
  (.seq (.set 5 (.call i_between (.cons (.var 1) (.cons (.var 6) (.cons (.var 7) .nil)))))
  (.seq (.ifs (.or (.cmp .ne (.call i_later (.cons (.var 1) (.cons (.var 6) (.cons (.var 5) .nil)))) (.var 7)) (.cmp .ne (.var 5) (.bin .sub (.call i_count (.cons (.var 1) (.cons (.var 7) .nil))) (.call i_count (.cons (.var 1) (.cons (.var 6) .nil))))))
  (.ret (.c (.bl false)))
  .skip)
  (.seq (.ifs (.cmp .ne (.call i_between (.cons (.var 1) (.cons (.var 7) (.cons (.var 6) .nil)))) (.neg (.var 5)))
  (.ret (.c (.bl false)))
  .skip)
  (.ifs (.or (.cmp .ne (.cmp .lt (.var 6) (.var 7)) (.cmp .gt (.var 5) (.c (.int 0)))) (.cmp .ne (.call i_round_later (.cons (.var 1) (.cons (.var 6) (.cons (.bin .add (.var 5) (.bin .mul (.c (.int 2)) (.var 2))) .nil)))) (.var 7)))
  (.ret (.c (.bl false)))
  .skip))))))))))
def F_law_k74 : FD := ⟨1, 10, false,
  (.seq (.set 1 (.call i_law_rate (.cons (.var 0) (.cons (.c (.int 0)) .nil))))
  (.seq (.set 2 (.call i_day_frames (.cons (.var 1) .nil)))
  (.seq (.ifs (.or (.cmp .ne (.var 2) (.call i_law_day (.cons (.var 1) .nil))) (.or (.cmp .ne (.call i_count (.cons (.var 1) (.cons (.call i_last_code (.cons (.var 1) .nil)) .nil))) (.bin .sub (.var 2) (.c (.int 1)))) (.cmp .ne (.call i_code_at (.cons (.var 1) (.cons (.bin .sub (.var 2) (.c (.int 1))) .nil))) (.call i_last_code (.cons (.var 1) .nil)))))
  (.ret (.c (.bl false)))
  .skip)
  (.seq (.for_ (.nm 3) (.rg1 (.c (.int 4)))
  B_law_k74_0)
  (.ret (.c (.bl true)))))))⟩
def B_law_k75_0 : S := (.ifs (.or (.cmp .ne (.call i_code_at_time (.cons (.var 1) (.cons (.var 8) (.cons (.var 6) .nil)))) (.var 5)) (.cmp .ne (.call i_led (.cons (.var 1) (.cons (.var 5) (.cons (.var 1) (.cons (.var 6) .nil))))) (.var 5)))
  (.ret (.c (.bl false)))
  .skip)
def B_law_k75_1 : S := (.seq (.set 5 (.call i_law_code (.cons (.var 0) (.cons (.bin .add (.c (.int 10)) (.bin .mul (.c (.int 20)) (.var 4))) (.cons (.var 1) .nil)))))
  (.seq (.par [8, 9] [false, false] (.cons (.call i_true_time (.cons (.var 1) (.cons (.var 5) .nil))) (.cons (.call i_drift (.cons (.var 1) (.cons (.var 5) .nil))) .nil)))
  (.seq (.ifs (.cmp .ne (.bin .mul (.ix (.var 8) (.c (.int 0))) (.var 2)) (.bin .mul (.bin .mul (.call i_count (.cons (.var 1) (.cons (.var 5) .nil))) (.var 3)) (.ix (.var 8) (.c (.int 1)))))
  (.ret (.c (.bl false)))
  .skip)
  (.seq (.ifs (.or (.cmp .ge (.bin .mul (.b1 .abs (.ix (.var 9) (.c (.int 0)))) (.c (.int 5))) (.ix (.var 9) (.c (.int 1)))) (.or (.cmp .lt (.ix (.var 9) (.c (.int 1))) (.c (.int 1))) (.and (.cmp .eq (.call i_left_out (.cons (.var 1) .nil)) (.c (.int 0))) (.cmp .ne (.var 9) (.tup (.cons (.c (.int 0)) (.cons (.c (.int 1)) .nil)))))))
  (.ret (.c (.bl false)))
  .skip)
  (.seq (.for_ (.nm 6) (.e (.tup (.cons (.c (.str ⟨#[100, 111, 119, 110]⟩)) (.cons (.c (.str ⟨#[117, 112]⟩)) (.cons (.c (.str ⟨#[110, 101, 97, 114]⟩)) .nil)))))
  B_law_k75_0)
  (.seq (.ifs (.cmp .isnot (.call i_is_exact (.cons (.var 1) (.cons (.var 5) (.cons (.var 1) .nil)))) (.c (.bl true)))
  (.ret (.c (.bl false)))
  .skip)
  (.seq (.set 7 (.call i_round_later (.cons (.var 1) (.cons (.var 5) (.cons (.c (.int 1)) .nil)))))
  (.ifs (.cmp .gt (.var 7) (.var 5))
  (.seq (.set 10 (.call i_true_time (.cons (.var 1) (.cons (.var 7) .nil))))
  (.seq (.set 11 (.bin .sub (.bin .mul (.ix (.var 10) (.c (.int 0))) (.ix (.var 8) (.c (.int 1)))) (.bin .mul (.ix (.var 8) (.c (.int 0))) (.ix (.var 10) (.c (.int 1))))))
  (.ifs (.cmp .ne (.bin .mul (.var 11) (.var 2)) (.bin .mul (.bin .mul (.var 3) (.ix (.var 8) (.c (.int 1)))) (.ix (.var 10) (.c (.int 1)))))
  (.ret (.c (.bl false)))
  .skip)))
  .skip))))))))
def F_law_k75 : FD := ⟨1, 12, false,
  (.seq (.set 1 (.call i_law_rate (.cons (.var 0) (.cons (.c (.int 0)) .nil))))
  (.seq (.unp (.tc (.nm 2) (.tc (.nm 3) .tn)) (.call i_true_frames (.cons (.var 1) .nil)))
  (.seq (.for_ (.nm 4) (.rg1 (.c (.int 4)))
  B_law_k75_1)
  (.ret (.and (.cmp .eq (.call i_true_time (.cons (.var 1) (.cons (.tup (.cons (.c (.int 0)) (.cons (.c (.int 0)) (.cons (.c (.int 0)) (.cons (.c (.int 0)) .nil))))) .nil))) (.tup (.cons (.c (.int 0)) (.cons (.c (.int 1)) .nil)))) (.cmp .eq (.call i_drift (.cons (.var 1) (.cons (.tup (.cons (.c (.int 0)) (.cons (.c (.int 0)) (.cons (.c (.int 0)) (.cons (.c (.int 0)) .nil))))) .nil))) (.tup (.cons (.c (.int 0)) (.cons (.c (.int 1)) .nil)))))))))⟩
def X_law_k76_0 : E := (.call i_led (.cons (.var 1) (.cons (.var 6) (.cons (.var 2) (.cons (.var 11) .nil)))))
def B_law_k76_1 : S := (.seq (.set 5 (.bin .mod (.call i_count (.cons (.var 1) (.cons (.call i_law_code (.cons (.var 0) (.cons (.bin .add (.c (.int 10)) (.bin .mul (.c (.int 20)) (.var 4))) (.cons (.var 1) .nil)))) .nil))) (.c (.int 2000000))))
  (.seq (.set 5 (.ix (.lst (.cons (.var 5) (.cons (.bin .sub (.var 5) (.bin .mod (.var 5) (.var 3))) .nil))) (.call i_law_pick (.cons (.var 0) (.cons (.bin .add (.c (.int 100)) (.var 4)) (.cons (.c (.int 2)) .nil))))))
  (.seq (.set 6 (.call i_code_at (.cons (.var 1) (.cons (.var 5) .nil))))
  (.seq (.unp (.tc (.nm 8) (.tc (.nm 9) (.tc (.nm 10) .tn))) (.lc X_law_k76_0 (.nm 11) (.e (.tup (.cons (.c (.str ⟨#[100, 111, 119, 110]⟩)) (.cons (.c (.str ⟨#[110, 101, 97, 114]⟩)) (.cons (.c (.str ⟨#[117, 112]⟩)) .nil))))) none))
  (.seq (.set 7 (.call i_is_exact (.cons (.var 1) (.cons (.var 6) (.cons (.var 2) .nil)))))
  (.seq (.ifs (.or (.not (.chain .le .le (.var 8) (.var 9) (.var 10))) (.or (.cmp .notIn (.call i_between (.cons (.var 2) (.cons (.var 8) (.cons (.var 10) .nil)))) (.tup (.cons (.c (.int 0)) (.cons (.c (.int 1)) .nil)))) (.cmp .ne (.cmp .eq (.var 8) (.var 10)) (.var 7))))
  (.ret (.c (.bl false)))
  .skip)
  (.ifs (.or (.cmp .ne (.var 7) (.cmp .eq (.bin .mod (.var 5) (.var 3)) (.c (.int 0)))) (.and (.var 7) (.cmp .ne (.call i_led (.cons (.var 2) (.cons (.var 8) (.cons (.var 1) (.cons (.c (.str ⟨#[110, 101, 97, 114]⟩)) .nil))))) (.var 6))))
  (.ret (.c (.bl false)))
  .skip)))))))
def F_law_k76 : FD := ⟨1, 12, false,
  (.seq (.par [1, 2] [false, false] (.cons (.call i_law_rate (.cons (.var 0) (.cons (.c (.int 0)) .nil))) (.cons (.call i_law_rate (.cons (.var 0) (.cons (.c (.int 1)) .nil))) .nil)))
  (.seq (.set 3 (.call i_exact_step (.cons (.var 1) (.cons (.var 2) .nil))))
  (.seq (.for_ (.nm 4) (.rg1 (.c (.int 4)))
  B_law_k76_1)
  (.ret (.and (.cmp .eq (.call i_exact_step (.cons (.var 1) (.cons (.var 1) .nil))) (.c (.int 1))) (.cmp .is (.call i_is_exact (.cons (.var 1) (.cons (.call i_code_at (.cons (.var 1) (.cons (.var 3) .nil))) (.cons (.var 2) .nil)))) (.c (.bl true))))))))⟩
def F_law_joined : FD := ⟨3, 3, false,
  (.tryC (.ret (.call i_joined (.cons (.var 0) (.cons (.var 1) (.cons (.var 2) .nil))))) 6 (some .non))⟩
def B_law_k77_0 : S := (.seq (.set 5 (.bin .add (.var 2) (.call i_law_pick (.cons (.var 0) (.cons (.bin .add (.c (.int 30)) (.var 4)) (.cons (.c (.int 20)) .nil))))))
  (.app 3 (.tup (.cons (.call i_law_at (.cons (.var 1) (.cons (.var 5) .nil))) (.cons (.call i_law_at (.cons (.var 1) (.cons (.bin .add (.bin .add (.var 5) (.c (.int 1))) (.call i_law_pick (.cons (.var 0) (.cons (.bin .add (.c (.int 40)) (.var 4)) (.cons (.c (.int 20)) .nil))))) .nil))) .nil)))))
def X_law_k77_1 : E := (.call i_shifted (.cons (.var 1) (.cons (.var 13) (.cons (.var 11) .nil))))
def F_law_k77 : FD := ⟨1, 15, false,
  (.seq (.set 1 (.call i_law_rate (.cons (.var 0) (.cons (.c (.int 0)) .nil))))
  (.seq (.set 2 (.b2 .min (.call i_law_count (.cons (.var 1) (.cons (.call i_law_code (.cons (.var 0) (.cons (.c (.int 10)) (.cons (.var 1) .nil)))) .nil))) (.bin .sub (.call i_law_day (.cons (.var 1) .nil)) (.c (.int 200)))))
  (.seq (.setO 3 (.lst .nil))
  (.seq (.for_ (.nm 4) (.rg1 (.c (.int 2)))
  B_law_k77_0)
  (.seq (.frz 3)
  (.seq (.unp (.tc (.nm 6) (.tc (.nm 7) .tn)) (.var 3))
  (.seq (.par [8, 9] [false, false] (.cons (.call i_common (.cons (.var 1) (.cons (.var 6) (.cons (.var 7) .nil)))) (.cons (.call i_law_joined (.cons (.var 1) (.cons (.var 6) (.cons (.var 7) .nil)))) .nil)))
  (.seq (.ifs (.or (.cmp .ne (.call i_common (.cons (.var 1) (.cons (.var 7) (.cons (.var 6) .nil)))) (.var 8)) (.cmp .ne (.call i_law_joined (.cons (.var 1) (.cons (.var 7) (.cons (.var 6) .nil)))) (.var 9)))
  (.ret (.c (.bl false)))
  .skip)
  (.seq (.ifs (.cmp .isnot (.var 8) (.c .non))
  (.seq (.set 10 (.bin .add (.call i_long (.cons (.var 1) (.cons (.var 6) .nil))) (.call i_long (.cons (.var 1) (.cons (.var 7) .nil)))))
  (.seq (.ifs (.or (.cmp .is (.var 9) (.c .non)) (.cmp .ne (.bin .add (.call i_long (.cons (.var 1) (.cons (.var 8) .nil))) (.call i_long (.cons (.var 1) (.cons (.var 9) .nil)))) (.var 10)))
  (.ret (.c (.bl false)))
  .skip)
  (.ifs (.or (.cmp .ne (.call i_common (.cons (.var 1) (.cons (.var 8) (.cons (.var 6) .nil)))) (.var 8)) (.or (.cmp .ne (.call i_joined (.cons (.var 1) (.cons (.var 8) (.cons (.var 7) .nil)))) (.var 7)) (.cmp .ne (.call i_joined (.cons (.var 1) (.cons (.var 9) (.cons (.var 6) .nil)))) (.var 9))))
  (.ret (.c (.bl false)))
  .skip)))
  (.ifs (.and (.cmp .isnot (.var 9) (.c .non)) (.cmp .ne (.call i_long (.cons (.var 1) (.cons (.var 9) .nil))) (.bin .add (.call i_long (.cons (.var 1) (.cons (.var 6) .nil))) (.call i_long (.cons (.var 1) (.cons (.var 7) .nil))))))
  (.ret (.c (.bl false)))
  .skip))
  (.seq (.set 11 (.call i_law_pick (.cons (.var 0) (.cons (.c (.int 50)) (.cons (.c (.int 90)) .nil)))))
  (.seq (.set 12 (.lc X_law_k77_1 (.nm 13) (.e (.var 3)) none))
  (.seq (.ifs (.cmp .ne (.call i_common (.cons (.var 1) (.cons (.ix (.var 12) (.c (.int 0))) (.cons (.ix (.var 12) (.c (.int 1))) .nil)))) (.ite (.cmp .is (.var 8) (.c .non)) (.c .non) (.call i_shifted (.cons (.var 1) (.cons (.var 8) (.cons (.var 11) .nil))))))
  (.ret (.c (.bl false)))
  .skip)
  (.seq (.ifs (.or (.cmp .ne (.call i_shifted (.cons (.var 1) (.cons (.ix (.var 12) (.c (.int 0))) (.cons (.neg (.var 11)) .nil)))) (.var 6)) (.cmp .ne (.call i_long (.cons (.var 1) (.cons (.ix (.var 12) (.c (.int 0))) .nil))) (.call i_long (.cons (.var 1) (.cons (.var 6) .nil)))))
  (.ret (.c (.bl false)))
  .skip)
  (.seq (.set 14 (.tup (.cons (.ix (.var 6) (.c (.int 1))) (.cons (.ix (.call i_shifted (.cons (.var 1) (.cons (.var 6) (.cons (.c (.int 3)) .nil)))) (.c (.int 1))) .nil))))
  (.seq (.ifs (.cmp .isnot (.call i_common (.cons (.var 1) (.cons (.var 6) (.cons (.var 14) .nil)))) (.c .non))
  (.ret (.c (.bl false)))
  .skip)
  (.ret (.cmp .eq (.call i_long (.cons (.var 1) (.cons (.call i_joined (.cons (.var 1) (.cons (.var 6) (.cons (.var 14) .nil)))) .nil))) (.bin .add (.call i_long (.cons (.var 1) (.cons (.var 6) .nil))) (.c (.int 3))))))))))))))))))))⟩
def B_law_k78_0 : S := (.seq (.set 5 (.bin .add (.var 2) (.call i_law_pick (.cons (.var 0) (.cons (.bin .add (.c (.int 30)) (.var 4)) (.cons (.c (.int 40)) .nil))))))
  (.app 3 (.tup (.cons (.call i_law_at (.cons (.var 1) (.cons (.var 5) .nil))) (.cons (.call i_law_at (.cons (.var 1) (.cons (.bin .add (.bin .add (.var 5) (.c (.int 1))) (.call i_law_pick (.cons (.var 0) (.cons (.bin .add (.c (.int 40)) (.var 4)) (.cons (.c (.int 20)) .nil))))) .nil))) .nil)))))
def X_law_k78_1 : E := (.call i_long (.cons (.var 1) (.cons (.var 9) .nil)))
def Y_law_k78_2 : Option E := (some (.chain .le .lt (.ix (.var 9) (.c (.int 0))) (.var 11) (.ix (.var 9) (.c (.int 1)))))
def X_law_k78_3 : E := (.var 9)
def X_law_k78_4 : E := (.ix (.var 9) (.c (.int 0)))
def X_law_k78_5 : E := (.call i_long (.cons (.var 1) (.cons (.var 9) .nil)))
def X_law_k78_6 : E := (.call i_long (.cons (.var 1) (.cons (.var 9) .nil)))
def Y_law_k78_7 : Option E := (some (.cmp .ne (.ix (.ix (.var 12) (.var 4)) (.c (.int 0))) (.ix (.ix (.var 12) (.bin .sub (.var 4) (.c (.int 1)))) (.c (.int 1)))))
def X_law_k78_8 : E := (.var 4)
def F_law_k78 : FD := ⟨1, 14, false,
  (.seq (.set 1 (.call i_law_rate (.cons (.var 0) (.cons (.c (.int 0)) .nil))))
  (.seq (.set 2 (.b2 .min (.call i_law_count (.cons (.var 1) (.cons (.call i_law_code (.cons (.var 0) (.cons (.c (.int 10)) (.cons (.var 1) .nil)))) .nil))) (.bin .sub (.call i_law_day (.cons (.var 1) .nil)) (.c (.int 400)))))
  (.seq (.setO 3 (.lst .nil))
  (.seq (.for_ (.nm 4) (.rg1 (.bin .add (.c (.int 1)) (.call i_law_pick (.cons (.var 0) (.cons (.c (.int 29)) (.cons (.c (.int 6)) .nil))))))
  B_law_k78_0)
  (.seq (.frz 3)
  (.seq (.par [6, 7] [false, false] (.cons (.call i_union (.cons (.var 1) (.cons (.var 3) .nil))) (.cons (.tup (.cons (.call i_law_at (.cons (.var 1) (.cons (.var 2) .nil))) (.cons (.call i_law_at (.cons (.var 1) (.cons (.bin .add (.var 2) (.c (.int 100))) .nil))) .nil))) .nil)))
  (.seq (.set 8 (.call i_gaps (.cons (.var 1) (.cons (.var 3) (.cons (.var 7) .nil)))))
  (.seq (.ifs (.or (.cmp .ne (.call i_union (.cons (.var 1) (.cons (.bin .add (.var 6) (.var 8)) .nil))) (.lst (.cons (.var 7) .nil))) (.cmp .ne (.call i_gaps (.cons (.var 1) (.cons (.var 8) (.cons (.var 7) .nil)))) (.var 6)))
  (.ret (.c (.bl false)))
  .skip)
  (.seq (.ifs (.cmp .ne (.call i_whole_long (.cons (.var 1) (.cons (.var 3) .nil))) (.b1 .sum (.lc X_law_k78_1 (.nm 9) (.e (.var 6)) none)))
  (.ret (.c (.bl false)))
  .skip)
  (.seq (.ifs (.cmp .ne (.bin .add (.call i_whole_long (.cons (.var 1) (.cons (.var 8) .nil))) (.call i_whole_long (.cons (.var 1) (.cons (.var 3) .nil)))) (.call i_long (.cons (.var 1) (.cons (.var 7) .nil))))
  (.ret (.c (.bl false)))
  .skip)
  (.seq (.ifs (.or (.cmp .ne (.call i_union (.cons (.var 1) (.cons (.rev (.var 3)) .nil))) (.var 6)) (.or (.cmp .ne (.call i_union (.cons (.var 1) (.cons (.var 6) .nil))) (.var 6)) (.cmp .ne (.call i_union (.cons (.var 1) (.cons (.bin .add (.var 3) (.sl (.var 3) none (some (.c (.int 1))))) .nil))) (.var 6))))
  (.ret (.c (.bl false)))
  .skip)
  (.seq (.unp (.tc (.nm 10) (.tc (.nm 11) .tn)) (.call i_most_at_once (.cons (.var 1) (.cons (.var 3) .nil))))
  (.seq (.ifs (.or (.cmp .ne (.call i_most_at_once (.cons (.var 1) (.cons (.rev (.var 3)) .nil))) (.tup (.cons (.var 10) (.cons (.var 11) .nil)))) (.cmp .ne (.call i_most_at_once (.cons (.var 1) (.cons (.var 6) .nil))) (.tup (.cons (.c (.int 1)) (.cons (.ix (.ix (.var 6) (.c (.int 0))) (.c (.int 0))) .nil)))))
  (.ret (.c (.bl false)))
  .skip)
  (.seq (.ifs (.or (.cmp .ne (.b1 .len (.lc X_law_k78_3 (.nm 9) (.e (.var 3)) Y_law_k78_2)) (.var 10)) (.cmp .notIn (.var 11) (.lc X_law_k78_4 (.nm 9) (.e (.var 3)) none)))
  (.ret (.c (.bl false)))
  .skip)
  (.seq (.set 12 (.call i_laid (.cons (.var 1) (.cons (.var 3) (.cons (.ix (.var 7) (.c (.int 0))) .nil)))))
  (.seq (.set 13 (.lc X_law_k78_5 (.nm 9) (.e (.var 3)) none))
  (.seq (.ifs (.or (.cmp .ne (.lc X_law_k78_6 (.nm 9) (.e (.var 12)) none) (.var 13)) (.cmp .ne (.ix (.ix (.var 12) (.c (.int 0))) (.c (.int 0))) (.ix (.var 7) (.c (.int 0)))))
  (.ret (.c (.bl false)))
  .skip)
  (.seq (.ifs (.cmp .ne (.lc X_law_k78_8 (.nm 4) (.rg2 (.c (.int 1)) (.b1 .len (.var 12))) Y_law_k78_7) (.lst .nil))
  (.ret (.c (.bl false)))
  .skip)
  (.ret (.cmp .eq (.call i_union (.cons (.var 1) (.cons (.var 12) .nil))) (.lst (.cons (.tup (.cons (.ix (.ix (.var 12) (.c (.int 0))) (.c (.int 0))) (.cons (.ix (.ix (.var 12) (.neg (.c (.int 1)))) (.c (.int 1))) .nil))) .nil))))))))))))))))))))))⟩
def X_law_k79_0 : E := (.var 7)
def X_law_k79_1 : E := (.call i_long (.cons (.var 1) (.cons (.var 8) .nil)))
def B_law_k79_2 : S := (.seq (.set 11 (.call i_law_pick (.cons (.var 0) (.cons (.bin .add (.c (.int 62)) (.var 10)) (.cons (.call i_cut_long (.cons (.var 1) (.cons (.var 2) .nil))) .nil)))))
  (.seq (.set 12 (.call i_round_later (.cons (.var 1) (.cons (.var 3) (.cons (.var 11) .nil)))))
  (.seq (.set 13 (.call i_event_at (.cons (.var 1) (.cons (.var 4) (.cons (.var 12) .nil)))))
  (.seq (.unp (.tc (.tc (.nm 15) (.tc (.nm 8) .tn)) (.tc (.nm 7) .tn)) (.ix (.var 4) (.var 13)))
  (.seq (.set 14 (.call i_round_later (.cons (.var 1) (.cons (.ix (.var 8) (.c (.int 0))) (.cons (.bin .sub (.call i_law_count (.cons (.var 1) (.cons (.var 12) .nil))) (.call i_law_count (.cons (.var 1) (.cons (.ix (.var 7) (.c (.int 0))) .nil)))) .nil)))))
  (.seq (.ifs (.cmp .ne (.call i_frame_at (.cons (.var 1) (.cons (.var 2) (.cons (.var 11) .nil)))) (.tup (.cons (.var 15) (.cons (.var 14) .nil))))
  (.ret (.c (.bl false)))
  .skip)
  (.ifs (.cmp .ne (.call i_frame_at (.cons (.var 1) (.cons (.call i_merged (.cons (.var 1) (.cons (.var 2) .nil))) (.cons (.var 11) .nil)))) (.tup (.cons (.var 15) (.cons (.var 14) .nil))))
  (.ret (.c (.bl false)))
  .skip)))))))
def F_law_k79 : FD := ⟨1, 16, false,
  (.seq (.set 1 (.call i_law_rate (.cons (.var 0) (.cons (.c (.int 0)) .nil))))
  (.seq (.set 2 (.call i_law_cut (.cons (.var 0) (.cons (.c (.int 10)) (.cons (.var 1) (.cons (.c (.int 5)) .nil))))))
  (.seq (.set 3 (.call i_law_at (.cons (.var 1) (.cons (.bin .add (.c (.int 100)) (.call i_law_pick (.cons (.var 0) (.cons (.c (.int 60)) (.cons (.c (.int 99999)) .nil))))) .nil))))
  (.seq (.set 4 (.call i_events (.cons (.var 1) (.cons (.var 2) (.cons (.var 3) .nil)))))
  (.seq (.ifs (.cmp .eq (.var 2) (.tup .nil))
  (.ret (.and (.cmp .eq (.var 4) (.lst .nil)) (.cmp .eq (.call i_cut_of (.cons (.var 1) (.cons (.var 4) .nil))) (.tup .nil))))
  .skip)
  (.seq (.set 5 (.lc X_law_k79_0 (.tc (.nm 6) (.tc (.nm 7) .tn)) (.e (.var 4)) none))
  (.seq (.ifs (.cmp .ne (.call i_union (.cons (.var 1) (.cons (.var 5) .nil))) (.lst (.cons (.tup (.cons (.var 3) (.cons (.ix (.ix (.var 5) (.neg (.c (.int 1)))) (.c (.int 1))) .nil))) .nil)))
  (.ret (.c (.bl false)))
  .skip)
  (.seq (.ifs (.cmp .ne (.call i_cut_long (.cons (.var 1) (.cons (.var 2) .nil))) (.b1 .sum (.lc X_law_k79_1 (.nm 8) (.e (.var 5)) none)))
  (.ret (.c (.bl false)))
  .skip)
  (.seq (.set 9 (.call i_law_pick (.cons (.var 0) (.cons (.c (.int 61)) (.cons (.b1 .len (.var 2)) .nil)))))
  (.seq (.ifs (.cmp .ne (.bin .add (.call i_events (.cons (.var 1) (.cons (.sl (.var 2) none (some (.var 9))) (.cons (.var 3) .nil)))) (.call i_events (.cons (.var 1) (.cons (.sl (.var 2) (some (.var 9)) none) (.cons (.ix (.ix (.ix (.var 4) (.var 9)) (.c (.int 1))) (.c (.int 0))) .nil))))) (.var 4))
  (.ret (.c (.bl false)))
  .skip)
  (.seq (.for_ (.nm 10) (.rg1 (.c (.int 3)))
  B_law_k79_2)
  (.ret (.and (.cmp .is (.call i_event_at (.cons (.var 1) (.cons (.var 4) (.cons (.call i_round_later (.cons (.var 1) (.cons (.var 3) (.cons (.neg (.c (.int 1))) .nil)))) .nil)))) (.c .non)) (.cmp .is (.call i_event_at (.cons (.var 1) (.cons (.var 4) (.cons (.ix (.ix (.var 5) (.neg (.c (.int 1)))) (.c (.int 1))) .nil)))) (.c .non)))))))))))))))⟩
def F_law_read_2 : FD := ⟨2, 2, false,
  (.tryC (.ret (.call i_read_code (.cons (.var 0) (.cons (.var 1) .nil)))) 7 (some .non))⟩
def Y_law_k80_0 : Option E := (some (.cmp .isnot (.call i_law_read_2 (.cons (.var 11) (.cons (.var 7) .nil))) (.c .non)))
def X_law_k80_1 : E := (.tup (.cons (.var 11) (.cons (.call i_law_read_2 (.cons (.var 11) (.cons (.var 7) .nil))) .nil)))
def Y_law_k80_2 : Option E := (some (.cmp .ne (.call i_code_text (.cons (.var 11) (.cons (.var 12) .nil))) (.var 7)))
def X_law_k80_3 : E := (.var 11)
def X_law_k80_4 : E := (.b1 .str (.var 13))
def B_law_k80_5 : S := (.seq (.set 5 (.call i_law_shape (.cons (.var 0) (.cons (.bin .add (.c (.int 10)) (.bin .mul (.c (.int 20)) (.var 4))) (.cons (.var 1) .nil)))))
  (.seq (.set 6 (.call i_mended (.cons (.var 1) (.cons (.var 5) .nil))))
  (.seq (.set 7 (.call i_code_text (.cons (.var 1) (.cons (.var 6) .nil))))
  (.seq (.ifs (.or (.cmp .isnot (.call i_is_code (.cons (.var 1) (.cons (.var 6) .nil))) (.c (.bl true))) (.or (.cmp .ne (.call i_read_code (.cons (.var 1) (.cons (.var 7) .nil))) (.var 6)) (.cmp .ne (.call i_read_loose (.cons (.var 1) (.cons (.var 7) .nil))) (.var 6))))
  (.ret (.c (.bl false)))
  .skip)
  (.seq (.set 8 (.call i_read_any (.cons (.var 7) .nil)))
  (.seq (.ifs (.cmp .ne (.var 8) (.lc X_law_k80_1 (.nm 11) (.e (.var 2)) Y_law_k80_0))
  (.ret (.c (.bl false)))
  .skip)
  (.seq (.set 9 (.lc X_law_k80_3 (.tc (.nm 11) (.tc (.nm 12) .tn)) (.e (.var 8)) Y_law_k80_2))
  (.seq (.ifs (.or (.cmp .notIn (.tup (.cons (.var 1) (.cons (.var 6) .nil))) (.var 8)) (.cmp .ne (.var 9) (.lst .nil)))
  (.ret (.c (.bl false)))
  .skip)
  (.seq (.set 10 (.m1 .join (.c (.str ⟨#[46]⟩)) (.lc X_law_k80_4 (.nm 13) (.e (.var 5)) none)))
  (.seq (.ifs (.or (.cmp .ne (.call i_read_loose (.cons (.var 1) (.cons (.var 10) .nil))) (.var 6)) (.cmp .isnot (.call i_law_read_2 (.cons (.var 1) (.cons (.var 10) .nil))) (.c .non)))
  (.ret (.c (.bl false)))
  .skip)
  (.seq (.ifs (.and (.cmp .ne (.var 5) (.var 6)) (.cmp .isnot (.call i_is_code (.cons (.var 1) (.cons (.var 5) .nil))) (.c (.bl false))))
  (.ret (.c (.bl false)))
  .skip)
  (.app 3 (.var 6)))))))))))))
def F_law_k80 : FD := ⟨1, 16, false,
  (.seq (.set 1 (.call i_law_rate (.cons (.var 0) (.cons (.c (.int 0)) .nil))))
  (.seq (.set 2 (.lst (.cons (.c (.str ⟨#[102, 105, 108, 109]⟩)) (.cons (.c (.str ⟨#[101, 117, 114, 111, 112, 101]⟩)) (.cons (.c (.str ⟨#[112, 108, 97, 105, 110]⟩)) (.cons (.c (.str ⟨#[100, 114, 111, 112]⟩)) (.cons (.c (.str ⟨#[102, 97, 115, 116]⟩)) (.cons (.c (.str ⟨#[102, 97, 115, 116, 32, 100, 114, 111, 112]⟩)) .nil))))))))
  (.seq (.setO 3 (.lst .nil))
  (.seq (.for_ (.nm 4) (.rg1 (.c (.int 3)))
  B_law_k80_5)
  (.seq (.set 14 (.b1 .sortset (.brw 3)))
  (.seq (.set 15 (.lzip (.var 14) (.sl (.var 14) (some (.c (.int 1))) none)))
  (.ret (.and (.cmp .is (.call i_are_spans (.cons (.var 1) (.cons (.var 15) .nil))) (.c (.bl true))) (.cmp .eq (.call i_read_spans (.cons (.var 1) (.cons (.call i_spans_text (.cons (.var 1) (.cons (.var 15) .nil))) .nil))) (.var 15))))))))))⟩
def T : Tab := fun i => match i with
  | 1 => some F_is_rate
  | 2 => some F_look_rate
  | 3 => some F_told_frames
  | 4 => some F_left_out
  | 5 => some F_true_frames
  | 6 => some F_minute_frames
  | 7 => some F_ten_frames
  | 8 => some F_day_frames
  | 9 => some F_is_whole
  | 10 => some F_is_left_out
  | 11 => some F_has_shape
  | 12 => some F_is_code
  | 13 => some F_mended
  | 14 => some F_fault
  | 15 => some F_law_cell
  | 16 => some F_law_pick
  | 17 => some F_law_rate
  | 18 => some F_law_facts
  | 19 => some F_law_shape
  | 20 => some F_law_is_out
  | 21 => some F_law_code
  | 22 => some F_law_count
  | 23 => some F_law_day
  | 24 => some F_law_at
  | 25 => some F_law_low
  | 26 => some F_law_true
  | 27 => some F_law_places
  | 28 => some F_law_put
  | 29 => some F_law_spoilt_thing
  | 30 => some F_law_is_code
  | 31 => some F_law_word
  | 32 => some F_law_do
  | 33 => some F_law_fault
  | 34 => some F_law_k01
  | 35 => some F_look_code
  | 36 => some F_count_of
  | 37 => some F_count
  | 38 => some F_code_of
  | 39 => some F_look_count
  | 40 => some F_code_at
  | 41 => some F_last_code
  | 42 => some F_law_do_2
  | 43 => some F_law_k02
  | 44 => some F_look_by
  | 45 => some F_later
  | 46 => some F_round_later
  | 47 => some F_between
  | 48 => some F_law_do_3
  | 49 => some F_law_k03
  | 50 => some F_share
  | 51 => some F_seconds_at
  | 52 => some F_true_time
  | 53 => some F_told_time
  | 54 => some F_told_frames_of
  | 55 => some F_drift
  | 56 => some F_look_way
  | 57 => some F_rounded
  | 58 => some F_frames_at
  | 59 => some F_led
  | 60 => some F_is_exact
  | 61 => some F_exact_step
  | 62 => some F_is_time
  | 63 => some F_code_at_time
  | 64 => some F_law_do_4
  | 65 => some F_law_rounded
  | 66 => some F_law_refuses
  | 67 => some F_law_k10
  | 68 => some F_is_span
  | 69 => some F_look_span
  | 70 => some F_counts_in
  | 71 => some F_span_of
  | 72 => some F_long
  | 73 => some F_shifted
  | 74 => some F_common
  | 75 => some F_joined
  | 76 => some F_law_do_5
  | 77 => some F_law_span
  | 78 => some F_law_is_span
  | 79 => some F_law_frames
  | 80 => some F_law_are_told_apart
  | 81 => some F_law_k20
  | 82 => some F_are_spans
  | 83 => some F_look_spans
  | 84 => some F_union_of
  | 85 => some F_union
  | 86 => some F_gaps
  | 87 => some F_whole_long
  | 88 => some F_most_at_once
  | 89 => some F_laid
  | 90 => some F_law_do_6
  | 91 => some F_law_span_2
  | 92 => some F_law_as_spans
  | 93 => some F_law_are_refused
  | 94 => some F_law_is_laid
  | 95 => some F_law_k21
  | 96 => some F_in_two
  | 97 => some F_text_of
  | 98 => some F_code_text
  | 99 => some F_parts_in
  | 100 => some F_read_code
  | 101 => some F_read_any
  | 102 => some F_read_loose
  | 103 => some F_spans_text
  | 104 => some F_read_spans
  | 105 => some F_law_spoilt
  | 106 => some F_law_do_7
  | 107 => some F_law_text
  | 108 => some F_law_read
  | 109 => some F_law_loose
  | 110 => some F_law_are_lines_read
  | 111 => some F_law_are_spans_read
  | 112 => some F_law_k30
  | 113 => some F_law_do_8
  | 114 => some F_law_lists
  | 115 => some F_law_do_9
  | 116 => some F_law_word_of
  | 117 => some F_law_kinds
  | 118 => some F_is_reel
  | 119 => some F_is_clip_of
  | 120 => some F_is_clip
  | 121 => some F_is_cut
  | 122 => some F_look_cut
  | 123 => some F_look_reel
  | 124 => some F_pieces_of
  | 125 => some F_many_in
  | 126 => some F_cut_long
  | 127 => some F_frame_at
  | 128 => some F_frames_of
  | 129 => some F_law_cut
  | 130 => some F_law_frames_2
  | 131 => some F_law_clips
  | 132 => some F_law_k51
  | 133 => some F_closed_up
  | 134 => some F_cut_from
  | 135 => some F_merged
  | 136 => some F_are_same
  | 137 => some F_reels
  | 138 => some F_used
  | 139 => some F_law_k52
  | 140 => some F_law_word_2
  | 141 => some F_law_all
  | 142 => some F_law_k53
  | 143 => some F_look_place
  | 144 => some F_look_stretch
  | 145 => some F_stretch_of
  | 146 => some F_part
  | 147 => some F_exchanged
  | 148 => some F_cut_out
  | 149 => some F_put_in
  | 150 => some F_law_k54
  | 151 => some F_put_over
  | 152 => some F_law_k55
  | 153 => some F_alike_ahead
  | 154 => some F_turned_about
  | 155 => some F_change
  | 156 => some F_law_k56
  | 157 => some F_law_all_2
  | 158 => some F_law_k57
  | 159 => some F_is_event_of
  | 160 => some F_is_event
  | 161 => some F_look_events
  | 162 => some F_events
  | 163 => some F_cut_of
  | 164 => some F_event_at
  | 165 => some F_law_k58
  | 166 => some F_event_text
  | 167 => some F_text_in
  | 168 => some F_events_text
  | 169 => some F_code_in
  | 170 => some F_read_events
  | 171 => some F_law_written
  | 172 => some F_law_k59
  | 173 => some F_law_k60
  | 174 => some F_law_all_3
  | 175 => some F_law_k61
  | 176 => some F_look_number
  | 177 => some F_look_both
  | 178 => some F_begun
  | 179 => some F_first_after
  | 180 => some F_shown
  | 181 => some F_shows
  | 182 => some F_first_shown
  | 183 => some F_law_k62
  | 184 => some F_pattern
  | 185 => some F_law_k63
  | 186 => some F_law_k64
  | 187 => some F_wall
  | 188 => some F_law_deed
  | 189 => some F_law_due
  | 190 => some F_mark_in
  | 191 => some F_is_mark_row
  | 192 => some F_law_k74
  | 193 => some F_law_k75
  | 194 => some F_law_k76
  | 195 => some F_law_joined
  | 196 => some F_law_k77
  | 197 => some F_law_k78
  | 198 => some F_law_k79
  | 199 => some F_law_read_2
  | 200 => some F_law_k80
  | _ => none
theorem T_is_rate : T i_is_rate = some F_is_rate := rfl
theorem T_look_rate : T i_look_rate = some F_look_rate := rfl
theorem T_told_frames : T i_told_frames = some F_told_frames := rfl
theorem T_left_out : T i_left_out = some F_left_out := rfl
theorem T_true_frames : T i_true_frames = some F_true_frames := rfl
theorem T_minute_frames : T i_minute_frames = some F_minute_frames := rfl
theorem T_ten_frames : T i_ten_frames = some F_ten_frames := rfl
theorem T_day_frames : T i_day_frames = some F_day_frames := rfl
theorem T_is_whole : T i_is_whole = some F_is_whole := rfl
theorem T_is_left_out : T i_is_left_out = some F_is_left_out := rfl
theorem T_has_shape : T i_has_shape = some F_has_shape := rfl
theorem T_is_code : T i_is_code = some F_is_code := rfl
theorem T_mended : T i_mended = some F_mended := rfl
theorem T_fault : T i_fault = some F_fault := rfl
theorem T_law_cell : T i_law_cell = some F_law_cell := rfl
theorem T_law_pick : T i_law_pick = some F_law_pick := rfl
theorem T_law_rate : T i_law_rate = some F_law_rate := rfl
theorem T_law_facts : T i_law_facts = some F_law_facts := rfl
theorem T_law_shape : T i_law_shape = some F_law_shape := rfl
theorem T_law_is_out : T i_law_is_out = some F_law_is_out := rfl
theorem T_law_code : T i_law_code = some F_law_code := rfl
theorem T_law_count : T i_law_count = some F_law_count := rfl
theorem T_law_day : T i_law_day = some F_law_day := rfl
theorem T_law_at : T i_law_at = some F_law_at := rfl
theorem T_law_low : T i_law_low = some F_law_low := rfl
theorem T_law_true : T i_law_true = some F_law_true := rfl
theorem T_law_places : T i_law_places = some F_law_places := rfl
theorem T_law_put : T i_law_put = some F_law_put := rfl
theorem T_law_spoilt_thing : T i_law_spoilt_thing = some F_law_spoilt_thing := rfl
theorem T_law_is_code : T i_law_is_code = some F_law_is_code := rfl
theorem T_law_word : T i_law_word = some F_law_word := rfl
theorem T_law_do : T i_law_do = some F_law_do := rfl
theorem T_law_fault : T i_law_fault = some F_law_fault := rfl
theorem T_law_k01 : T i_law_k01 = some F_law_k01 := rfl
theorem T_look_code : T i_look_code = some F_look_code := rfl
theorem T_count_of : T i_count_of = some F_count_of := rfl
theorem T_count : T i_count = some F_count := rfl
theorem T_code_of : T i_code_of = some F_code_of := rfl
theorem T_look_count : T i_look_count = some F_look_count := rfl
theorem T_code_at : T i_code_at = some F_code_at := rfl
theorem T_last_code : T i_last_code = some F_last_code := rfl
theorem T_law_do_2 : T i_law_do_2 = some F_law_do_2 := rfl
theorem T_law_k02 : T i_law_k02 = some F_law_k02 := rfl
theorem T_look_by : T i_look_by = some F_look_by := rfl
theorem T_later : T i_later = some F_later := rfl
theorem T_round_later : T i_round_later = some F_round_later := rfl
theorem T_between : T i_between = some F_between := rfl
theorem T_law_do_3 : T i_law_do_3 = some F_law_do_3 := rfl
theorem T_law_k03 : T i_law_k03 = some F_law_k03 := rfl
theorem T_share : T i_share = some F_share := rfl
theorem T_seconds_at : T i_seconds_at = some F_seconds_at := rfl
theorem T_true_time : T i_true_time = some F_true_time := rfl
theorem T_told_time : T i_told_time = some F_told_time := rfl
theorem T_told_frames_of : T i_told_frames_of = some F_told_frames_of := rfl
theorem T_drift : T i_drift = some F_drift := rfl
theorem T_look_way : T i_look_way = some F_look_way := rfl
theorem T_rounded : T i_rounded = some F_rounded := rfl
theorem T_frames_at : T i_frames_at = some F_frames_at := rfl
theorem T_led : T i_led = some F_led := rfl
theorem T_is_exact : T i_is_exact = some F_is_exact := rfl
theorem T_exact_step : T i_exact_step = some F_exact_step := rfl
theorem T_is_time : T i_is_time = some F_is_time := rfl
theorem T_code_at_time : T i_code_at_time = some F_code_at_time := rfl
theorem T_law_do_4 : T i_law_do_4 = some F_law_do_4 := rfl
theorem T_law_rounded : T i_law_rounded = some F_law_rounded := rfl
theorem T_law_refuses : T i_law_refuses = some F_law_refuses := rfl
theorem T_law_k10 : T i_law_k10 = some F_law_k10 := rfl
theorem T_is_span : T i_is_span = some F_is_span := rfl
theorem T_look_span : T i_look_span = some F_look_span := rfl
theorem T_counts_in : T i_counts_in = some F_counts_in := rfl
theorem T_span_of : T i_span_of = some F_span_of := rfl
theorem T_long : T i_long = some F_long := rfl
theorem T_shifted : T i_shifted = some F_shifted := rfl
theorem T_common : T i_common = some F_common := rfl
theorem T_joined : T i_joined = some F_joined := rfl
theorem T_law_do_5 : T i_law_do_5 = some F_law_do_5 := rfl
theorem T_law_span : T i_law_span = some F_law_span := rfl
theorem T_law_is_span : T i_law_is_span = some F_law_is_span := rfl
theorem T_law_frames : T i_law_frames = some F_law_frames := rfl
theorem T_law_are_told_apart : T i_law_are_told_apart = some F_law_are_told_apart := rfl
theorem T_law_k20 : T i_law_k20 = some F_law_k20 := rfl
theorem T_are_spans : T i_are_spans = some F_are_spans := rfl
theorem T_look_spans : T i_look_spans = some F_look_spans := rfl
theorem T_union_of : T i_union_of = some F_union_of := rfl
theorem T_union : T i_union = some F_union := rfl
theorem T_gaps : T i_gaps = some F_gaps := rfl
theorem T_whole_long : T i_whole_long = some F_whole_long := rfl
theorem T_most_at_once : T i_most_at_once = some F_most_at_once := rfl
theorem T_laid : T i_laid = some F_laid := rfl
theorem T_law_do_6 : T i_law_do_6 = some F_law_do_6 := rfl
theorem T_law_span_2 : T i_law_span_2 = some F_law_span_2 := rfl
theorem T_law_as_spans : T i_law_as_spans = some F_law_as_spans := rfl
theorem T_law_are_refused : T i_law_are_refused = some F_law_are_refused := rfl
theorem T_law_is_laid : T i_law_is_laid = some F_law_is_laid := rfl
theorem T_law_k21 : T i_law_k21 = some F_law_k21 := rfl
theorem T_in_two : T i_in_two = some F_in_two := rfl
theorem T_text_of : T i_text_of = some F_text_of := rfl
theorem T_code_text : T i_code_text = some F_code_text := rfl
theorem T_parts_in : T i_parts_in = some F_parts_in := rfl
theorem T_read_code : T i_read_code = some F_read_code := rfl
theorem T_read_any : T i_read_any = some F_read_any := rfl
theorem T_read_loose : T i_read_loose = some F_read_loose := rfl
theorem T_spans_text : T i_spans_text = some F_spans_text := rfl
theorem T_read_spans : T i_read_spans = some F_read_spans := rfl
theorem T_law_spoilt : T i_law_spoilt = some F_law_spoilt := rfl
theorem T_law_do_7 : T i_law_do_7 = some F_law_do_7 := rfl
theorem T_law_text : T i_law_text = some F_law_text := rfl
theorem T_law_read : T i_law_read = some F_law_read := rfl
theorem T_law_loose : T i_law_loose = some F_law_loose := rfl
theorem T_law_are_lines_read : T i_law_are_lines_read = some F_law_are_lines_read := rfl
theorem T_law_are_spans_read : T i_law_are_spans_read = some F_law_are_spans_read := rfl
theorem T_law_k30 : T i_law_k30 = some F_law_k30 := rfl
theorem T_law_do_8 : T i_law_do_8 = some F_law_do_8 := rfl
theorem T_law_lists : T i_law_lists = some F_law_lists := rfl
theorem T_law_do_9 : T i_law_do_9 = some F_law_do_9 := rfl
theorem T_law_word_of : T i_law_word_of = some F_law_word_of := rfl
theorem T_law_kinds : T i_law_kinds = some F_law_kinds := rfl
theorem T_is_reel : T i_is_reel = some F_is_reel := rfl
theorem T_is_clip_of : T i_is_clip_of = some F_is_clip_of := rfl
theorem T_is_clip : T i_is_clip = some F_is_clip := rfl
theorem T_is_cut : T i_is_cut = some F_is_cut := rfl
theorem T_look_cut : T i_look_cut = some F_look_cut := rfl
theorem T_look_reel : T i_look_reel = some F_look_reel := rfl
theorem T_pieces_of : T i_pieces_of = some F_pieces_of := rfl
theorem T_many_in : T i_many_in = some F_many_in := rfl
theorem T_cut_long : T i_cut_long = some F_cut_long := rfl
theorem T_frame_at : T i_frame_at = some F_frame_at := rfl
theorem T_frames_of : T i_frames_of = some F_frames_of := rfl
theorem T_law_cut : T i_law_cut = some F_law_cut := rfl
theorem T_law_frames_2 : T i_law_frames_2 = some F_law_frames_2 := rfl
theorem T_law_clips : T i_law_clips = some F_law_clips := rfl
theorem T_law_k51 : T i_law_k51 = some F_law_k51 := rfl
theorem T_closed_up : T i_closed_up = some F_closed_up := rfl
theorem T_cut_from : T i_cut_from = some F_cut_from := rfl
theorem T_merged : T i_merged = some F_merged := rfl
theorem T_are_same : T i_are_same = some F_are_same := rfl
theorem T_reels : T i_reels = some F_reels := rfl
theorem T_used : T i_used = some F_used := rfl
theorem T_law_k52 : T i_law_k52 = some F_law_k52 := rfl
theorem T_law_word_2 : T i_law_word_2 = some F_law_word_2 := rfl
theorem T_law_all : T i_law_all = some F_law_all := rfl
theorem T_law_k53 : T i_law_k53 = some F_law_k53 := rfl
theorem T_look_place : T i_look_place = some F_look_place := rfl
theorem T_look_stretch : T i_look_stretch = some F_look_stretch := rfl
theorem T_stretch_of : T i_stretch_of = some F_stretch_of := rfl
theorem T_part : T i_part = some F_part := rfl
theorem T_exchanged : T i_exchanged = some F_exchanged := rfl
theorem T_cut_out : T i_cut_out = some F_cut_out := rfl
theorem T_put_in : T i_put_in = some F_put_in := rfl
theorem T_law_k54 : T i_law_k54 = some F_law_k54 := rfl
theorem T_put_over : T i_put_over = some F_put_over := rfl
theorem T_law_k55 : T i_law_k55 = some F_law_k55 := rfl
theorem T_alike_ahead : T i_alike_ahead = some F_alike_ahead := rfl
theorem T_turned_about : T i_turned_about = some F_turned_about := rfl
theorem T_change : T i_change = some F_change := rfl
theorem T_law_k56 : T i_law_k56 = some F_law_k56 := rfl
theorem T_law_all_2 : T i_law_all_2 = some F_law_all_2 := rfl
theorem T_law_k57 : T i_law_k57 = some F_law_k57 := rfl
theorem T_is_event_of : T i_is_event_of = some F_is_event_of := rfl
theorem T_is_event : T i_is_event = some F_is_event := rfl
theorem T_look_events : T i_look_events = some F_look_events := rfl
theorem T_events : T i_events = some F_events := rfl
theorem T_cut_of : T i_cut_of = some F_cut_of := rfl
theorem T_event_at : T i_event_at = some F_event_at := rfl
theorem T_law_k58 : T i_law_k58 = some F_law_k58 := rfl
theorem T_event_text : T i_event_text = some F_event_text := rfl
theorem T_text_in : T i_text_in = some F_text_in := rfl
theorem T_events_text : T i_events_text = some F_events_text := rfl
theorem T_code_in : T i_code_in = some F_code_in := rfl
theorem T_read_events : T i_read_events = some F_read_events := rfl
theorem T_law_written : T i_law_written = some F_law_written := rfl
theorem T_law_k59 : T i_law_k59 = some F_law_k59 := rfl
theorem T_law_k60 : T i_law_k60 = some F_law_k60 := rfl
theorem T_law_all_3 : T i_law_all_3 = some F_law_all_3 := rfl
theorem T_law_k61 : T i_law_k61 = some F_law_k61 := rfl
theorem T_look_number : T i_look_number = some F_look_number := rfl
theorem T_look_both : T i_look_both = some F_look_both := rfl
theorem T_begun : T i_begun = some F_begun := rfl
theorem T_first_after : T i_first_after = some F_first_after := rfl
theorem T_shown : T i_shown = some F_shown := rfl
theorem T_shows : T i_shows = some F_shows := rfl
theorem T_first_shown : T i_first_shown = some F_first_shown := rfl
theorem T_law_k62 : T i_law_k62 = some F_law_k62 := rfl
theorem T_pattern : T i_pattern = some F_pattern := rfl
theorem T_law_k63 : T i_law_k63 = some F_law_k63 := rfl
theorem T_law_k64 : T i_law_k64 = some F_law_k64 := rfl
theorem T_wall : T i_wall = some F_wall := rfl
theorem T_law_deed : T i_law_deed = some F_law_deed := rfl
theorem T_law_due : T i_law_due = some F_law_due := rfl
theorem T_mark_in : T i_mark_in = some F_mark_in := rfl
theorem T_is_mark_row : T i_is_mark_row = some F_is_mark_row := rfl
theorem T_law_k74 : T i_law_k74 = some F_law_k74 := rfl
theorem T_law_k75 : T i_law_k75 = some F_law_k75 := rfl
theorem T_law_k76 : T i_law_k76 = some F_law_k76 := rfl
theorem T_law_joined : T i_law_joined = some F_law_joined := rfl
theorem T_law_k77 : T i_law_k77 = some F_law_k77 := rfl
theorem T_law_k78 : T i_law_k78 = some F_law_k78 := rfl
theorem T_law_k79 : T i_law_k79 = some F_law_k79 := rfl
theorem T_law_read_2 : T i_law_read_2 = some F_law_read_2 := rfl
theorem T_law_k80 : T i_law_k80 = some F_law_k80 := rfl
def G : Nat → R D := fun n => match n with
  | 0 => .ok (.tup [(.str ⟨#[102, 105, 108, 109]⟩), (.str ⟨#[101, 117, 114, 111, 112, 101]⟩), (.str ⟨#[112, 108, 97, 105, 110]⟩), (.str ⟨#[100, 114, 111, 112]⟩), (.str ⟨#[102, 97, 115, 116]⟩), (.str ⟨#[102, 97, 115, 116, 32, 100, 114, 111, 112]⟩)])
  | 1 => .ok (.dic [.inr ⟨#[102, 105, 108, 109]⟩, .inr ⟨#[101, 117, 114, 111, 112, 101]⟩, .inr ⟨#[112, 108, 97, 105, 110]⟩, .inr ⟨#[100, 114, 111, 112]⟩, .inr ⟨#[102, 97, 115, 116]⟩, .inr ⟨#[102, 97, 115, 116, 32, 100, 114, 111, 112]⟩] [.int 24, .int 25, .int 30, .int 30, .int 60, .int 60])
  | 2 => .ok (.dic [.inr ⟨#[100, 114, 111, 112]⟩, .inr ⟨#[102, 97, 115, 116, 32, 100, 114, 111, 112]⟩] [.int 2, .int 4])
  | 3 => .ok ((.int 24))
  | 4 => .ok (.tup [(.str ⟨#[100, 111, 119, 110]⟩), (.str ⟨#[117, 112]⟩), (.str ⟨#[110, 101, 97, 114]⟩)])
  | 5 => .ok ((.str ⟨#[97, 98, 99, 100, 101, 102, 103, 104, 105, 106, 107, 108, 109, 110, 111, 112, 113, 114, 115, 116, 117, 118, 119, 120, 121, 122]⟩))
  | 6 => .ok ((.int 4))
  | 7 => .ok ((.int 20))
  | 8 => .ok ((.int 2000))
  | 9 => .ok (.dic [.inr ⟨#[102, 105, 108, 109]⟩, .inr ⟨#[101, 117, 114, 111, 112, 101]⟩, .inr ⟨#[112, 108, 97, 105, 110]⟩, .inr ⟨#[100, 114, 111, 112]⟩, .inr ⟨#[102, 97, 115, 116]⟩, .inr ⟨#[102, 97, 115, 116, 32, 100, 114, 111, 112]⟩] [.int 24, .int 25, .int 30, .int 30, .int 60, .int 60])
  | 10 => .ok ((.str ⟨#[48, 49, 50, 51, 52, 53, 54, 55, 56, 57]⟩))
  | _ => .stk
@[irreducible] def FF : Nat := 100000000
theorem FF_big : 60060000 < FF := by unfold FF; decide
/-- a call, k deep -/
def C (k f : Nat) (a : List D) : R D := callF T G FF k f a
theorem C_run {k f : Nat} {fd : FD} {a : List D} (h : T f = some fd) (hk : 0 < k) (hl : a.length = fd.np) : C k f a = fin fd.fresh (evst G (C (k - 1)) FF fd.fresh (a.map Sl.val ++ List.replicate (fd.ns - fd.np) Sl.no) fd.body) := by
  obtain ⟨k, rfl⟩ : ∃ j, k = j + 1 := ⟨k - 1, by omega⟩
  show callF T G FF (k + 1) f a = _
  simp only [callF, h, body, hl, if_true, Nat.add_sub_cancel]
  have e : C k = callF T G FF k := rfl
  rw [e]
  cases evst G (callF T G FF k) FF fd.fresh (a.map Sl.val ++ List.replicate (fd.ns - fd.np) Sl.no) fd.body <;> rfl
theorem R_is_rate {k : Nat} {a0 : D} (hk : 0 < k) : C k i_is_rate [a0] = fin false (evst G (C (k - 1)) FF false [.val a0] F_is_rate.body) := C_run (f := i_is_rate) (fd := F_is_rate) (a := [a0]) T_is_rate hk rfl
theorem R_look_rate {k : Nat} {a0 : D} (hk : 0 < k) : C k i_look_rate [a0] = fin false (evst G (C (k - 1)) FF false [.val a0] F_look_rate.body) := C_run (f := i_look_rate) (fd := F_look_rate) (a := [a0]) T_look_rate hk rfl
theorem R_told_frames {k : Nat} {a0 : D} (hk : 0 < k) : C k i_told_frames [a0] = fin false (evst G (C (k - 1)) FF false [.val a0] F_told_frames.body) := C_run (f := i_told_frames) (fd := F_told_frames) (a := [a0]) T_told_frames hk rfl
theorem R_left_out {k : Nat} {a0 : D} (hk : 0 < k) : C k i_left_out [a0] = fin false (evst G (C (k - 1)) FF false [.val a0] F_left_out.body) := C_run (f := i_left_out) (fd := F_left_out) (a := [a0]) T_left_out hk rfl
theorem R_true_frames {k : Nat} {a0 : D} (hk : 0 < k) : C k i_true_frames [a0] = fin false (evst G (C (k - 1)) FF false [.val a0] F_true_frames.body) := C_run (f := i_true_frames) (fd := F_true_frames) (a := [a0]) T_true_frames hk rfl
theorem R_minute_frames {k : Nat} {a0 : D} (hk : 0 < k) : C k i_minute_frames [a0] = fin false (evst G (C (k - 1)) FF false [.val a0] F_minute_frames.body) := C_run (f := i_minute_frames) (fd := F_minute_frames) (a := [a0]) T_minute_frames hk rfl
theorem R_ten_frames {k : Nat} {a0 : D} (hk : 0 < k) : C k i_ten_frames [a0] = fin false (evst G (C (k - 1)) FF false [.val a0] F_ten_frames.body) := C_run (f := i_ten_frames) (fd := F_ten_frames) (a := [a0]) T_ten_frames hk rfl
theorem R_day_frames {k : Nat} {a0 : D} (hk : 0 < k) : C k i_day_frames [a0] = fin false (evst G (C (k - 1)) FF false [.val a0] F_day_frames.body) := C_run (f := i_day_frames) (fd := F_day_frames) (a := [a0]) T_day_frames hk rfl
theorem R_is_whole {k : Nat} {a0 a1 a2 : D} (hk : 0 < k) : C k i_is_whole [a0, a1, a2] = fin false (evst G (C (k - 1)) FF false [.val a0, .val a1, .val a2] F_is_whole.body) := C_run (f := i_is_whole) (fd := F_is_whole) (a := [a0, a1, a2]) T_is_whole hk rfl
theorem R_is_left_out {k : Nat} {a0 a1 : D} (hk : 0 < k) : C k i_is_left_out [a0, a1] = fin false (evst G (C (k - 1)) FF false [.val a0, .val a1] F_is_left_out.body) := C_run (f := i_is_left_out) (fd := F_is_left_out) (a := [a0, a1]) T_is_left_out hk rfl
theorem R_has_shape {k : Nat} {a0 a1 : D} (hk : 0 < k) : C k i_has_shape [a0, a1] = fin false (evst G (C (k - 1)) FF false [.val a0, .val a1, .no, .no, .no] F_has_shape.body) := C_run (f := i_has_shape) (fd := F_has_shape) (a := [a0, a1]) T_has_shape hk rfl
theorem R_is_code {k : Nat} {a0 a1 : D} (hk : 0 < k) : C k i_is_code [a0, a1] = fin false (evst G (C (k - 1)) FF false [.val a0, .val a1] F_is_code.body) := C_run (f := i_is_code) (fd := F_is_code) (a := [a0, a1]) T_is_code hk rfl
theorem R_mended {k : Nat} {a0 a1 : D} (hk : 0 < k) : C k i_mended [a0, a1] = fin false (evst G (C (k - 1)) FF false [.val a0, .val a1] F_mended.body) := C_run (f := i_mended) (fd := F_mended) (a := [a0, a1]) T_mended hk rfl
theorem R_fault {k : Nat} {a0 a1 : D} (hk : 0 < k) : C k i_fault [a0, a1] = fin false (evst G (C (k - 1)) FF false [.val a0, .val a1, .no, .no, .no, .no] F_fault.body) := C_run (f := i_fault) (fd := F_fault) (a := [a0, a1]) T_fault hk rfl
theorem R_law_cell {k : Nat} {a0 a1 : D} (hk : 0 < k) : C k i_law_cell [a0, a1] = fin false (evst G (C (k - 1)) FF false [.val a0, .val a1] F_law_cell.body) := C_run (f := i_law_cell) (fd := F_law_cell) (a := [a0, a1]) T_law_cell hk rfl
theorem R_law_pick {k : Nat} {a0 a1 a2 : D} (hk : 0 < k) : C k i_law_pick [a0, a1, a2] = fin false (evst G (C (k - 1)) FF false [.val a0, .val a1, .val a2, .no] F_law_pick.body) := C_run (f := i_law_pick) (fd := F_law_pick) (a := [a0, a1, a2]) T_law_pick hk rfl
theorem R_law_rate {k : Nat} {a0 a1 : D} (hk : 0 < k) : C k i_law_rate [a0, a1] = fin false (evst G (C (k - 1)) FF false [.val a0, .val a1] F_law_rate.body) := C_run (f := i_law_rate) (fd := F_law_rate) (a := [a0, a1]) T_law_rate hk rfl
theorem R_law_facts {k : Nat} {a0 : D} (hk : 0 < k) : C k i_law_facts [a0] = fin false (evst G (C (k - 1)) FF false [.val a0, .no] F_law_facts.body) := C_run (f := i_law_facts) (fd := F_law_facts) (a := [a0]) T_law_facts hk rfl
theorem R_law_shape {k : Nat} {a0 a1 a2 : D} (hk : 0 < k) : C k i_law_shape [a0, a1, a2] = fin false (evst G (C (k - 1)) FF false [.val a0, .val a1, .val a2, .no, .no, .no, .no, .no] F_law_shape.body) := C_run (f := i_law_shape) (fd := F_law_shape) (a := [a0, a1, a2]) T_law_shape hk rfl
theorem R_law_is_out {k : Nat} {a0 a1 : D} (hk : 0 < k) : C k i_law_is_out [a0, a1] = fin false (evst G (C (k - 1)) FF false [.val a0, .val a1] F_law_is_out.body) := C_run (f := i_law_is_out) (fd := F_law_is_out) (a := [a0, a1]) T_law_is_out hk rfl
theorem R_law_code {k : Nat} {a0 a1 a2 : D} (hk : 0 < k) : C k i_law_code [a0, a1, a2] = fin false (evst G (C (k - 1)) FF false [.val a0, .val a1, .val a2, .no] F_law_code.body) := C_run (f := i_law_code) (fd := F_law_code) (a := [a0, a1, a2]) T_law_code hk rfl
theorem R_law_count {k : Nat} {a0 a1 : D} (hk : 0 < k) : C k i_law_count [a0, a1] = fin false (evst G (C (k - 1)) FF false [.val a0, .val a1, .no, .no, .no, .no, .no] F_law_count.body) := C_run (f := i_law_count) (fd := F_law_count) (a := [a0, a1]) T_law_count hk rfl
theorem R_law_day {k : Nat} {a0 : D} (hk : 0 < k) : C k i_law_day [a0] = fin false (evst G (C (k - 1)) FF false [.val a0] F_law_day.body) := C_run (f := i_law_day) (fd := F_law_day) (a := [a0]) T_law_day hk rfl
theorem R_law_at {k : Nat} {a0 a1 : D} (hk : 0 < k) : C k i_law_at [a0, a1] = fin false (evst G (C (k - 1)) FF false [.val a0, .val a1, .no, .no, .no, .no, .no] F_law_at.body) := C_run (f := i_law_at) (fd := F_law_at) (a := [a0, a1]) T_law_at hk rfl
theorem R_law_low {k : Nat} {a0 a1 : D} (hk : 0 < k) : C k i_law_low [a0, a1] = fin false (evst G (C (k - 1)) FF false [.val a0, .val a1, .no, .no] F_law_low.body) := C_run (f := i_law_low) (fd := F_law_low) (a := [a0, a1]) T_law_low hk rfl
theorem R_law_true {k : Nat} {a0 : D} (hk : 0 < k) : C k i_law_true [a0] = fin false (evst G (C (k - 1)) FF false [.val a0, .no, .no] F_law_true.body) := C_run (f := i_law_true) (fd := F_law_true) (a := [a0]) T_law_true hk rfl
theorem R_law_places {k : Nat} {a0 : D} (hk : 0 < k) : C k i_law_places [a0] = fin false (evst G (C (k - 1)) FF false [.val a0, .no, .no, .no] F_law_places.body) := C_run (f := i_law_places) (fd := F_law_places) (a := [a0]) T_law_places hk rfl
theorem R_law_put {k : Nat} {a0 a1 a2 : D} (hk : 0 < k) : C k i_law_put [a0, a1, a2] = fin false (evst G (C (k - 1)) FF false [.val a0, .val a1, .val a2, .no] F_law_put.body) := C_run (f := i_law_put) (fd := F_law_put) (a := [a0, a1, a2]) T_law_put hk rfl
theorem R_law_spoilt_thing {k : Nat} {a0 a1 a2 : D} (hk : 0 < k) : C k i_law_spoilt_thing [a0, a1, a2] = fin false (evst G (C (k - 1)) FF false [.val a0, .val a1, .val a2, .no, .no, .no, .no, .no, .no] F_law_spoilt_thing.body) := C_run (f := i_law_spoilt_thing) (fd := F_law_spoilt_thing) (a := [a0, a1, a2]) T_law_spoilt_thing hk rfl
theorem R_law_is_code {k : Nat} {a0 a1 : D} (hk : 0 < k) : C k i_law_is_code [a0, a1] = fin false (evst G (C (k - 1)) FF false [.val a0, .val a1, .no, .no] F_law_is_code.body) := C_run (f := i_law_is_code) (fd := F_law_is_code) (a := [a0, a1]) T_law_is_code hk rfl
theorem R_law_word {k : Nat} {a0 : D} (hk : 0 < k) : C k i_law_word [a0] = fin false (evst G (C (k - 1)) FF false [.val a0, .no] F_law_word.body) := C_run (f := i_law_word) (fd := F_law_word) (a := [a0]) T_law_word hk rfl
theorem R_law_do {k : Nat} {a0 a1 a2 : D} (hk : 0 < k) : C k i_law_do [a0, a1, a2] = fin false (evst G (C (k - 1)) FF false [.val a0, .val a1, .val a2, .no, .no, .no] F_law_do.body) := C_run (f := i_law_do) (fd := F_law_do) (a := [a0, a1, a2]) T_law_do hk rfl
theorem R_law_fault {k : Nat} {a0 a1 : D} (hk : 0 < k) : C k i_law_fault [a0, a1] = fin false (evst G (C (k - 1)) FF false [.val a0, .val a1, .no, .no, .no, .no] F_law_fault.body) := C_run (f := i_law_fault) (fd := F_law_fault) (a := [a0, a1]) T_law_fault hk rfl
theorem R_law_k01 {k : Nat} {a0 : D} (hk : 0 < k) : C k i_law_k01 [a0] = fin false (evst G (C (k - 1)) FF false [.val a0, .no, .no, .no, .no, .no, .no, .no, .no, .no, .no, .no] F_law_k01.body) := C_run (f := i_law_k01) (fd := F_law_k01) (a := [a0]) T_law_k01 hk rfl
theorem R_look_code {k : Nat} {a0 a1 : D} (hk : 0 < k) : C k i_look_code [a0, a1] = fin false (evst G (C (k - 1)) FF false [.val a0, .val a1] F_look_code.body) := C_run (f := i_look_code) (fd := F_look_code) (a := [a0, a1]) T_look_code hk rfl
theorem R_count_of {k : Nat} {a0 a1 : D} (hk : 0 < k) : C k i_count_of [a0, a1] = fin false (evst G (C (k - 1)) FF false [.val a0, .val a1, .no, .no, .no, .no, .no, .no] F_count_of.body) := C_run (f := i_count_of) (fd := F_count_of) (a := [a0, a1]) T_count_of hk rfl
theorem R_count {k : Nat} {a0 a1 : D} (hk : 0 < k) : C k i_count [a0, a1] = fin false (evst G (C (k - 1)) FF false [.val a0, .val a1] F_count.body) := C_run (f := i_count) (fd := F_count) (a := [a0, a1]) T_count hk rfl
theorem R_code_of {k : Nat} {a0 a1 : D} (hk : 0 < k) : C k i_code_of [a0, a1] = fin false (evst G (C (k - 1)) FF false [.val a0, .val a1, .no, .no, .no, .no, .no] F_code_of.body) := C_run (f := i_code_of) (fd := F_code_of) (a := [a0, a1]) T_code_of hk rfl
theorem R_look_count {k : Nat} {a0 a1 : D} (hk : 0 < k) : C k i_look_count [a0, a1] = fin false (evst G (C (k - 1)) FF false [.val a0, .val a1] F_look_count.body) := C_run (f := i_look_count) (fd := F_look_count) (a := [a0, a1]) T_look_count hk rfl
theorem R_code_at {k : Nat} {a0 a1 : D} (hk : 0 < k) : C k i_code_at [a0, a1] = fin false (evst G (C (k - 1)) FF false [.val a0, .val a1] F_code_at.body) := C_run (f := i_code_at) (fd := F_code_at) (a := [a0, a1]) T_code_at hk rfl
theorem R_last_code {k : Nat} {a0 : D} (hk : 0 < k) : C k i_last_code [a0] = fin false (evst G (C (k - 1)) FF false [.val a0] F_last_code.body) := C_run (f := i_last_code) (fd := F_last_code) (a := [a0]) T_last_code hk rfl
theorem R_law_do_2 {k : Nat} {a0 a1 a2 : D} (hk : 0 < k) : C k i_law_do_2 [a0, a1, a2] = fin false (evst G (C (k - 1)) FF false [.val a0, .val a1, .val a2, .no, .no, .no] F_law_do_2.body) := C_run (f := i_law_do_2) (fd := F_law_do_2) (a := [a0, a1, a2]) T_law_do_2 hk rfl
theorem R_law_k02 {k : Nat} {a0 : D} (hk : 0 < k) : C k i_law_k02 [a0] = fin false (evst G (C (k - 1)) FF false [.val a0, .no, .no, .no, .no, .no, .no, .no, .no, .no, .no, .no, .no] F_law_k02.body) := C_run (f := i_law_k02) (fd := F_law_k02) (a := [a0]) T_law_k02 hk rfl
theorem R_look_by {k : Nat} {a0 : D} (hk : 0 < k) : C k i_look_by [a0] = fin false (evst G (C (k - 1)) FF false [.val a0] F_look_by.body) := C_run (f := i_look_by) (fd := F_look_by) (a := [a0]) T_look_by hk rfl
theorem R_later {k : Nat} {a0 a1 a2 : D} (hk : 0 < k) : C k i_later [a0, a1, a2] = fin false (evst G (C (k - 1)) FF false [.val a0, .val a1, .val a2] F_later.body) := C_run (f := i_later) (fd := F_later) (a := [a0, a1, a2]) T_later hk rfl
theorem R_round_later {k : Nat} {a0 a1 a2 : D} (hk : 0 < k) : C k i_round_later [a0, a1, a2] = fin false (evst G (C (k - 1)) FF false [.val a0, .val a1, .val a2] F_round_later.body) := C_run (f := i_round_later) (fd := F_round_later) (a := [a0, a1, a2]) T_round_later hk rfl
theorem R_between {k : Nat} {a0 a1 a2 : D} (hk : 0 < k) : C k i_between [a0, a1, a2] = fin false (evst G (C (k - 1)) FF false [.val a0, .val a1, .val a2] F_between.body) := C_run (f := i_between) (fd := F_between) (a := [a0, a1, a2]) T_between hk rfl
theorem R_law_do_3 {k : Nat} {a0 a1 a2 a3 : D} (hk : 0 < k) : C k i_law_do_3 [a0, a1, a2, a3] = fin false (evst G (C (k - 1)) FF false [.val a0, .val a1, .val a2, .val a3, .no, .no, .no] F_law_do_3.body) := C_run (f := i_law_do_3) (fd := F_law_do_3) (a := [a0, a1, a2, a3]) T_law_do_3 hk rfl
theorem R_law_k03 {k : Nat} {a0 : D} (hk : 0 < k) : C k i_law_k03 [a0] = fin false (evst G (C (k - 1)) FF false [.val a0, .no, .no, .no, .no, .no, .no, .no, .no, .no, .no, .no, .no, .no, .no] F_law_k03.body) := C_run (f := i_law_k03) (fd := F_law_k03) (a := [a0]) T_law_k03 hk rfl
theorem R_share {k : Nat} {a0 a1 : D} (hk : 0 < k) : C k i_share [a0, a1] = fin false (evst G (C (k - 1)) FF false [.val a0, .val a1, .no, .no] F_share.body) := C_run (f := i_share) (fd := F_share) (a := [a0, a1]) T_share hk rfl
theorem R_seconds_at {k : Nat} {a0 a1 : D} (hk : 0 < k) : C k i_seconds_at [a0, a1] = fin false (evst G (C (k - 1)) FF false [.val a0, .val a1, .no, .no] F_seconds_at.body) := C_run (f := i_seconds_at) (fd := F_seconds_at) (a := [a0, a1]) T_seconds_at hk rfl
theorem R_true_time {k : Nat} {a0 a1 : D} (hk : 0 < k) : C k i_true_time [a0, a1] = fin false (evst G (C (k - 1)) FF false [.val a0, .val a1] F_true_time.body) := C_run (f := i_true_time) (fd := F_true_time) (a := [a0, a1]) T_true_time hk rfl
theorem R_told_time {k : Nat} {a0 : D} (hk : 0 < k) : C k i_told_time [a0] = fin false (evst G (C (k - 1)) FF false [.val a0] F_told_time.body) := C_run (f := i_told_time) (fd := F_told_time) (a := [a0]) T_told_time hk rfl
theorem R_told_frames_of {k : Nat} {a0 : D} (hk : 0 < k) : C k i_told_frames_of [a0] = fin false (evst G (C (k - 1)) FF false [.val a0, .no, .no] F_told_frames_of.body) := C_run (f := i_told_frames_of) (fd := F_told_frames_of) (a := [a0]) T_told_frames_of hk rfl
theorem R_drift {k : Nat} {a0 a1 : D} (hk : 0 < k) : C k i_drift [a0, a1] = fin false (evst G (C (k - 1)) FF false [.val a0, .val a1, .no, .no, .no] F_drift.body) := C_run (f := i_drift) (fd := F_drift) (a := [a0, a1]) T_drift hk rfl
theorem R_look_way {k : Nat} {a0 : D} (hk : 0 < k) : C k i_look_way [a0] = fin false (evst G (C (k - 1)) FF false [.val a0] F_look_way.body) := C_run (f := i_look_way) (fd := F_look_way) (a := [a0]) T_look_way hk rfl
theorem R_rounded {k : Nat} {a0 a1 a2 : D} (hk : 0 < k) : C k i_rounded [a0, a1, a2] = fin false (evst G (C (k - 1)) FF false [.val a0, .val a1, .val a2] F_rounded.body) := C_run (f := i_rounded) (fd := F_rounded) (a := [a0, a1, a2]) T_rounded hk rfl
theorem R_frames_at {k : Nat} {a0 a1 a2 : D} (hk : 0 < k) : C k i_frames_at [a0, a1, a2] = fin false (evst G (C (k - 1)) FF false [.val a0, .val a1, .val a2, .no, .no] F_frames_at.body) := C_run (f := i_frames_at) (fd := F_frames_at) (a := [a0, a1, a2]) T_frames_at hk rfl
theorem R_led {k : Nat} {a0 a1 a2 a3 : D} (hk : 0 < k) : C k i_led [a0, a1, a2, a3] = fin false (evst G (C (k - 1)) FF false [.val a0, .val a1, .val a2, .val a3, .no] F_led.body) := C_run (f := i_led) (fd := F_led) (a := [a0, a1, a2, a3]) T_led hk rfl
theorem R_is_exact {k : Nat} {a0 a1 a2 : D} (hk : 0 < k) : C k i_is_exact [a0, a1, a2] = fin false (evst G (C (k - 1)) FF false [.val a0, .val a1, .val a2, .no] F_is_exact.body) := C_run (f := i_is_exact) (fd := F_is_exact) (a := [a0, a1, a2]) T_is_exact hk rfl
theorem R_exact_step {k : Nat} {a0 a1 : D} (hk : 0 < k) : C k i_exact_step [a0, a1] = fin false (evst G (C (k - 1)) FF false [.val a0, .val a1, .no, .no] F_exact_step.body) := C_run (f := i_exact_step) (fd := F_exact_step) (a := [a0, a1]) T_exact_step hk rfl
theorem R_is_time {k : Nat} {a0 : D} (hk : 0 < k) : C k i_is_time [a0] = fin false (evst G (C (k - 1)) FF false [.val a0, .no] F_is_time.body) := C_run (f := i_is_time) (fd := F_is_time) (a := [a0]) T_is_time hk rfl
theorem R_code_at_time {k : Nat} {a0 a1 a2 : D} (hk : 0 < k) : C k i_code_at_time [a0, a1, a2] = fin false (evst G (C (k - 1)) FF false [.val a0, .val a1, .val a2, .no] F_code_at_time.body) := C_run (f := i_code_at_time) (fd := F_code_at_time) (a := [a0, a1, a2]) T_code_at_time hk rfl
theorem R_law_do_4 {k : Nat} {a0 a1 a2 a3 a4 : D} (hk : 0 < k) : C k i_law_do_4 [a0, a1, a2, a3, a4] = fin false (evst G (C (k - 1)) FF false [.val a0, .val a1, .val a2, .val a3, .val a4, .no, .no, .no] F_law_do_4.body) := C_run (f := i_law_do_4) (fd := F_law_do_4) (a := [a0, a1, a2, a3, a4]) T_law_do_4 hk rfl
theorem R_law_rounded {k : Nat} {a0 a1 a2 : D} (hk : 0 < k) : C k i_law_rounded [a0, a1, a2] = fin false (evst G (C (k - 1)) FF false [.val a0, .val a1, .val a2, .no] F_law_rounded.body) := C_run (f := i_law_rounded) (fd := F_law_rounded) (a := [a0, a1, a2]) T_law_rounded hk rfl
theorem R_law_refuses {k : Nat} {a0 a1 a2 a3 : D} (hk : 0 < k) : C k i_law_refuses [a0, a1, a2, a3] = fin false (evst G (C (k - 1)) FF false [.val a0, .val a1, .val a2, .val a3, .no, .no, .no, .no, .no, .no] F_law_refuses.body) := C_run (f := i_law_refuses) (fd := F_law_refuses) (a := [a0, a1, a2, a3]) T_law_refuses hk rfl
theorem R_law_k10 {k : Nat} {a0 : D} (hk : 0 < k) : C k i_law_k10 [a0] = fin false (evst G (C (k - 1)) FF false [.val a0, .no, .no, .no, .no, .no, .no, .no, .no, .no, .no, .no, .no, .no, .no, .no, .no, .no, .no, .no] F_law_k10.body) := C_run (f := i_law_k10) (fd := F_law_k10) (a := [a0]) T_law_k10 hk rfl
theorem R_is_span {k : Nat} {a0 a1 : D} (hk : 0 < k) : C k i_is_span [a0, a1] = fin false (evst G (C (k - 1)) FF false [.val a0, .val a1, .no] F_is_span.body) := C_run (f := i_is_span) (fd := F_is_span) (a := [a0, a1]) T_is_span hk rfl
theorem R_look_span {k : Nat} {a0 a1 : D} (hk : 0 < k) : C k i_look_span [a0, a1] = fin false (evst G (C (k - 1)) FF false [.val a0, .val a1] F_look_span.body) := C_run (f := i_look_span) (fd := F_look_span) (a := [a0, a1]) T_look_span hk rfl
theorem R_counts_in {k : Nat} {a0 a1 : D} (hk : 0 < k) : C k i_counts_in [a0, a1] = fin false (evst G (C (k - 1)) FF false [.val a0, .val a1] F_counts_in.body) := C_run (f := i_counts_in) (fd := F_counts_in) (a := [a0, a1]) T_counts_in hk rfl
theorem R_span_of {k : Nat} {a0 a1 a2 : D} (hk : 0 < k) : C k i_span_of [a0, a1, a2] = fin false (evst G (C (k - 1)) FF false [.val a0, .val a1, .val a2] F_span_of.body) := C_run (f := i_span_of) (fd := F_span_of) (a := [a0, a1, a2]) T_span_of hk rfl
theorem R_long {k : Nat} {a0 a1 : D} (hk : 0 < k) : C k i_long [a0, a1] = fin false (evst G (C (k - 1)) FF false [.val a0, .val a1, .no, .no] F_long.body) := C_run (f := i_long) (fd := F_long) (a := [a0, a1]) T_long hk rfl
theorem R_shifted {k : Nat} {a0 a1 a2 : D} (hk : 0 < k) : C k i_shifted [a0, a1, a2] = fin false (evst G (C (k - 1)) FF false [.val a0, .val a1, .val a2, .no, .no] F_shifted.body) := C_run (f := i_shifted) (fd := F_shifted) (a := [a0, a1, a2]) T_shifted hk rfl
theorem R_common {k : Nat} {a0 a1 a2 : D} (hk : 0 < k) : C k i_common [a0, a1, a2] = fin false (evst G (C (k - 1)) FF false [.val a0, .val a1, .val a2, .no, .no] F_common.body) := C_run (f := i_common) (fd := F_common) (a := [a0, a1, a2]) T_common hk rfl
theorem R_joined {k : Nat} {a0 a1 a2 : D} (hk : 0 < k) : C k i_joined [a0, a1, a2] = fin false (evst G (C (k - 1)) FF false [.val a0, .val a1, .val a2] F_joined.body) := C_run (f := i_joined) (fd := F_joined) (a := [a0, a1, a2]) T_joined hk rfl
theorem R_law_do_5 {k : Nat} {a0 a1 a2 a3 : D} (hk : 0 < k) : C k i_law_do_5 [a0, a1, a2, a3] = fin false (evst G (C (k - 1)) FF false [.val a0, .val a1, .val a2, .val a3, .no, .no, .no] F_law_do_5.body) := C_run (f := i_law_do_5) (fd := F_law_do_5) (a := [a0, a1, a2, a3]) T_law_do_5 hk rfl
theorem R_law_span {k : Nat} {a0 a1 a2 a3 : D} (hk : 0 < k) : C k i_law_span [a0, a1, a2, a3] = fin false (evst G (C (k - 1)) FF false [.val a0, .val a1, .val a2, .val a3, .no, .no] F_law_span.body) := C_run (f := i_law_span) (fd := F_law_span) (a := [a0, a1, a2, a3]) T_law_span hk rfl
theorem R_law_is_span {k : Nat} {a0 a1 : D} (hk : 0 < k) : C k i_law_is_span [a0, a1] = fin false (evst G (C (k - 1)) FF false [.val a0, .val a1, .no] F_law_is_span.body) := C_run (f := i_law_is_span) (fd := F_law_is_span) (a := [a0, a1]) T_law_is_span hk rfl
theorem R_law_frames {k : Nat} {a0 a1 : D} (hk : 0 < k) : C k i_law_frames [a0, a1] = fin false (evst G (C (k - 1)) FF false [.val a0, .val a1] F_law_frames.body) := C_run (f := i_law_frames) (fd := F_law_frames) (a := [a0, a1]) T_law_frames hk rfl
theorem R_law_are_told_apart {k : Nat} {a0 a1 a2 : D} (hk : 0 < k) : C k i_law_are_told_apart [a0, a1, a2] = fin false (evst G (C (k - 1)) FF false [.val a0, .val a1, .val a2, .no, .no, .no, .no, .no, .no] F_law_are_told_apart.body) := C_run (f := i_law_are_told_apart) (fd := F_law_are_told_apart) (a := [a0, a1, a2]) T_law_are_told_apart hk rfl
theorem R_law_k20 {k : Nat} {a0 : D} (hk : 0 < k) : C k i_law_k20 [a0] = fin false (evst G (C (k - 1)) FF false [.val a0, .no, .no, .no, .no, .no, .no, .no, .no, .no, .no, .no, .no, .no, .no, .no] F_law_k20.body) := C_run (f := i_law_k20) (fd := F_law_k20) (a := [a0]) T_law_k20 hk rfl
theorem R_are_spans {k : Nat} {a0 a1 : D} (hk : 0 < k) : C k i_are_spans [a0, a1] = fin false (evst G (C (k - 1)) FF false [.val a0, .val a1, .no] F_are_spans.body) := C_run (f := i_are_spans) (fd := F_are_spans) (a := [a0, a1]) T_are_spans hk rfl
theorem R_look_spans {k : Nat} {a0 a1 : D} (hk : 0 < k) : C k i_look_spans [a0, a1] = fin false (evst G (C (k - 1)) FF false [.val a0, .val a1] F_look_spans.body) := C_run (f := i_look_spans) (fd := F_look_spans) (a := [a0, a1]) T_look_spans hk rfl
theorem R_union_of {k : Nat} {a0 : D} (hk : 0 < k) : C k i_union_of [a0] = fin false (evst G (C (k - 1)) FF false [.val a0, .no, .no] F_union_of.body) := C_run (f := i_union_of) (fd := F_union_of) (a := [a0]) T_union_of hk rfl
theorem R_union {k : Nat} {a0 a1 : D} (hk : 0 < k) : C k i_union [a0, a1] = fin false (evst G (C (k - 1)) FF false [.val a0, .val a1] F_union.body) := C_run (f := i_union) (fd := F_union) (a := [a0, a1]) T_union hk rfl
theorem R_gaps {k : Nat} {a0 a1 a2 : D} (hk : 0 < k) : C k i_gaps [a0, a1, a2] = fin false (evst G (C (k - 1)) FF false [.val a0, .val a1, .val a2, .no, .no, .no, .no, .no] F_gaps.body) := C_run (f := i_gaps) (fd := F_gaps) (a := [a0, a1, a2]) T_gaps hk rfl
theorem R_whole_long {k : Nat} {a0 a1 : D} (hk : 0 < k) : C k i_whole_long [a0, a1] = fin false (evst G (C (k - 1)) FF false [.val a0, .val a1, .no] F_whole_long.body) := C_run (f := i_whole_long) (fd := F_whole_long) (a := [a0, a1]) T_whole_long hk rfl
theorem R_most_at_once {k : Nat} {a0 a1 : D} (hk : 0 < k) : C k i_most_at_once [a0, a1] = fin false (evst G (C (k - 1)) FF false [.val a0, .val a1, .no, .no, .no, .no] F_most_at_once.body) := C_run (f := i_most_at_once) (fd := F_most_at_once) (a := [a0, a1]) T_most_at_once hk rfl
theorem R_laid {k : Nat} {a0 a1 a2 : D} (hk : 0 < k) : C k i_laid [a0, a1, a2] = fin false (evst G (C (k - 1)) FF false [.val a0, .val a1, .val a2, .no, .no, .no, .no, .no] F_laid.body) := C_run (f := i_laid) (fd := F_laid) (a := [a0, a1, a2]) T_laid hk rfl
theorem R_law_do_6 {k : Nat} {a0 a1 a2 a3 : D} (hk : 0 < k) : C k i_law_do_6 [a0, a1, a2, a3] = fin false (evst G (C (k - 1)) FF false [.val a0, .val a1, .val a2, .val a3, .no, .no, .no] F_law_do_6.body) := C_run (f := i_law_do_6) (fd := F_law_do_6) (a := [a0, a1, a2, a3]) T_law_do_6 hk rfl
theorem R_law_span_2 {k : Nat} {a0 a1 a2 a3 : D} (hk : 0 < k) : C k i_law_span_2 [a0, a1, a2, a3] = fin false (evst G (C (k - 1)) FF false [.val a0, .val a1, .val a2, .val a3, .no, .no] F_law_span_2.body) := C_run (f := i_law_span_2) (fd := F_law_span_2) (a := [a0, a1, a2, a3]) T_law_span_2 hk rfl
theorem R_law_as_spans {k : Nat} {a0 a1 : D} (hk : 0 < k) : C k i_law_as_spans [a0, a1] = fin false (evst G (C (k - 1)) FF false [.val a0, .val a1, .no, .no, .no, .no] F_law_as_spans.body) := C_run (f := i_law_as_spans) (fd := F_law_as_spans) (a := [a0, a1]) T_law_as_spans hk rfl
theorem R_law_are_refused {k : Nat} {a0 a1 a2 a3 a4 : D} (hk : 0 < k) : C k i_law_are_refused [a0, a1, a2, a3, a4] = fin false (evst G (C (k - 1)) FF false [.val a0, .val a1, .val a2, .val a3, .val a4, .no, .no, .no, .no, .no] F_law_are_refused.body) := C_run (f := i_law_are_refused) (fd := F_law_are_refused) (a := [a0, a1, a2, a3, a4]) T_law_are_refused hk rfl
theorem R_law_is_laid {k : Nat} {a0 a1 a2 a3 : D} (hk : 0 < k) : C k i_law_is_laid [a0, a1, a2, a3] = fin false (evst G (C (k - 1)) FF false [.val a0, .val a1, .val a2, .val a3, .no, .no, .no, .no, .no, .no, .no, .no, .no] F_law_is_laid.body) := C_run (f := i_law_is_laid) (fd := F_law_is_laid) (a := [a0, a1, a2, a3]) T_law_is_laid hk rfl
theorem R_law_k21 {k : Nat} {a0 : D} (hk : 0 < k) : C k i_law_k21 [a0] = fin false (evst G (C (k - 1)) FF false [.val a0, .no, .no, .no, .no, .no, .no, .no, .no, .no, .no, .no, .no, .no, .no, .no] F_law_k21.body) := C_run (f := i_law_k21) (fd := F_law_k21) (a := [a0]) T_law_k21 hk rfl
theorem R_in_two {k : Nat} {a0 : D} (hk : 0 < k) : C k i_in_two [a0] = fin false (evst G (C (k - 1)) FF false [.val a0] F_in_two.body) := C_run (f := i_in_two) (fd := F_in_two) (a := [a0]) T_in_two hk rfl
theorem R_text_of {k : Nat} {a0 a1 : D} (hk : 0 < k) : C k i_text_of [a0, a1] = fin false (evst G (C (k - 1)) FF false [.val a0, .val a1, .no, .no] F_text_of.body) := C_run (f := i_text_of) (fd := F_text_of) (a := [a0, a1]) T_text_of hk rfl
theorem R_code_text {k : Nat} {a0 a1 : D} (hk : 0 < k) : C k i_code_text [a0, a1] = fin false (evst G (C (k - 1)) FF false [.val a0, .val a1] F_code_text.body) := C_run (f := i_code_text) (fd := F_code_text) (a := [a0, a1]) T_code_text hk rfl
theorem R_parts_in {k : Nat} {a0 a1 : D} (hk : 0 < k) : C k i_parts_in [a0, a1] = fin false (evst G (C (k - 1)) FF false [.val a0, .val a1, .no, .no, .no, .no] F_parts_in.body) := C_run (f := i_parts_in) (fd := F_parts_in) (a := [a0, a1]) T_parts_in hk rfl
theorem R_read_code {k : Nat} {a0 a1 : D} (hk : 0 < k) : C k i_read_code [a0, a1] = fin false (evst G (C (k - 1)) FF false [.val a0, .val a1, .no] F_read_code.body) := C_run (f := i_read_code) (fd := F_read_code) (a := [a0, a1]) T_read_code hk rfl
theorem R_read_any {k : Nat} {a0 : D} (hk : 0 < k) : C k i_read_any [a0] = fin false (evst G (C (k - 1)) FF false [.val a0, .no, .no] F_read_any.body) := C_run (f := i_read_any) (fd := F_read_any) (a := [a0]) T_read_any hk rfl
theorem R_read_loose {k : Nat} {a0 a1 : D} (hk : 0 < k) : C k i_read_loose [a0, a1] = fin false (evst G (C (k - 1)) FF false [.val a0, .val a1, .no, .no, .no, .no] F_read_loose.body) := C_run (f := i_read_loose) (fd := F_read_loose) (a := [a0, a1]) T_read_loose hk rfl
theorem R_spans_text {k : Nat} {a0 a1 : D} (hk : 0 < k) : C k i_spans_text [a0, a1] = fin false (evst G (C (k - 1)) FF false [.val a0, .val a1, .no] F_spans_text.body) := C_run (f := i_spans_text) (fd := F_spans_text) (a := [a0, a1]) T_spans_text hk rfl
theorem R_read_spans {k : Nat} {a0 a1 : D} (hk : 0 < k) : C k i_read_spans [a0, a1] = fin false (evst G (C (k - 1)) FF false [.val a0, .val a1, .no, .no, .no, .no] F_read_spans.body) := C_run (f := i_read_spans) (fd := F_read_spans) (a := [a0, a1]) T_read_spans hk rfl
theorem R_law_spoilt {k : Nat} {a0 a1 a2 : D} (hk : 0 < k) : C k i_law_spoilt [a0, a1, a2] = fin false (evst G (C (k - 1)) FF false [.val a0, .val a1, .val a2, .no, .no, .no, .no] F_law_spoilt.body) := C_run (f := i_law_spoilt) (fd := F_law_spoilt) (a := [a0, a1, a2]) T_law_spoilt hk rfl
theorem R_law_do_7 {k : Nat} {a0 a1 a2 : D} (hk : 0 < k) : C k i_law_do_7 [a0, a1, a2] = fin false (evst G (C (k - 1)) FF false [.val a0, .val a1, .val a2, .no, .no, .no] F_law_do_7.body) := C_run (f := i_law_do_7) (fd := F_law_do_7) (a := [a0, a1, a2]) T_law_do_7 hk rfl
theorem R_law_text {k : Nat} {a0 a1 : D} (hk : 0 < k) : C k i_law_text [a0, a1] = fin false (evst G (C (k - 1)) FF false [.val a0, .val a1, .no, .no] F_law_text.body) := C_run (f := i_law_text) (fd := F_law_text) (a := [a0, a1]) T_law_text hk rfl
theorem R_law_read {k : Nat} {a0 a1 : D} (hk : 0 < k) : C k i_law_read [a0, a1] = fin false (evst G (C (k - 1)) FF false [.val a0, .val a1, .no, .no, .no, .no] F_law_read.body) := C_run (f := i_law_read) (fd := F_law_read) (a := [a0, a1]) T_law_read hk rfl
theorem R_law_loose {k : Nat} {a0 a1 : D} (hk : 0 < k) : C k i_law_loose [a0, a1] = fin false (evst G (C (k - 1)) FF false [.val a0, .val a1, .no, .no, .no, .no, .no] F_law_loose.body) := C_run (f := i_law_loose) (fd := F_law_loose) (a := [a0, a1]) T_law_loose hk rfl
theorem R_law_are_lines_read {k : Nat} {a0 : D} (hk : 0 < k) : C k i_law_are_lines_read [a0] = fin false (evst G (C (k - 1)) FF false [.val a0, .no, .no, .no] F_law_are_lines_read.body) := C_run (f := i_law_are_lines_read) (fd := F_law_are_lines_read) (a := [a0]) T_law_are_lines_read hk rfl
theorem R_law_are_spans_read {k : Nat} {a0 a1 a2 : D} (hk : 0 < k) : C k i_law_are_spans_read [a0, a1, a2] = fin false (evst G (C (k - 1)) FF false [.val a0, .val a1, .val a2, .no, .no, .no, .no, .no, .no, .no, .no, .no, .no, .no, .no, .no, .no, .no, .no] F_law_are_spans_read.body) := C_run (f := i_law_are_spans_read) (fd := F_law_are_spans_read) (a := [a0, a1, a2]) T_law_are_spans_read hk rfl
theorem R_law_k30 {k : Nat} {a0 : D} (hk : 0 < k) : C k i_law_k30 [a0] = fin false (evst G (C (k - 1)) FF false [.val a0, .no, .no, .no, .no, .no, .no, .no, .no, .no, .no] F_law_k30.body) := C_run (f := i_law_k30) (fd := F_law_k30) (a := [a0]) T_law_k30 hk rfl
theorem R_law_do_8 {k : Nat} {a0 a1 a2 a3 a4 : D} (hk : 0 < k) : C k i_law_do_8 [a0, a1, a2, a3, a4] = fin false (evst G (C (k - 1)) FF false [.val a0, .val a1, .val a2, .val a3, .val a4, .no, .no, .no] F_law_do_8.body) := C_run (f := i_law_do_8) (fd := F_law_do_8) (a := [a0, a1, a2, a3, a4]) T_law_do_8 hk rfl
theorem R_law_lists {k : Nat} {a0 a1 a2 : D} (hk : 0 < k) : C k i_law_lists [a0, a1, a2] = fin false (evst G (C (k - 1)) FF false [.val a0, .val a1, .val a2, .no] F_law_lists.body) := C_run (f := i_law_lists) (fd := F_law_lists) (a := [a0, a1, a2]) T_law_lists hk rfl
theorem R_law_do_9 {k : Nat} {a0 a1 a2 a3 a4 : D} (hk : 0 < k) : C k i_law_do_9 [a0, a1, a2, a3, a4] = fin false (evst G (C (k - 1)) FF false [.val a0, .val a1, .val a2, .val a3, .val a4, .no, .no, .no] F_law_do_9.body) := C_run (f := i_law_do_9) (fd := F_law_do_9) (a := [a0, a1, a2, a3, a4]) T_law_do_9 hk rfl
theorem R_law_word_of {k : Nat} {a0 a1 : D} (hk : 0 < k) : C k i_law_word_of [a0, a1] = fin false (evst G (C (k - 1)) FF false [.val a0, .val a1, .no] F_law_word_of.body) := C_run (f := i_law_word_of) (fd := F_law_word_of) (a := [a0, a1]) T_law_word_of hk rfl
theorem R_law_kinds {k : Nat} {a0 : D} (hk : 0 < k) : C k i_law_kinds [a0] = fin false (evst G (C (k - 1)) FF false [.val a0, .no] F_law_kinds.body) := C_run (f := i_law_kinds) (fd := F_law_kinds) (a := [a0]) T_law_kinds hk rfl
theorem R_is_reel {k : Nat} {a0 : D} (hk : 0 < k) : C k i_is_reel [a0] = fin false (evst G (C (k - 1)) FF false [.val a0, .no] F_is_reel.body) := C_run (f := i_is_reel) (fd := F_is_reel) (a := [a0]) T_is_reel hk rfl
theorem R_is_clip_of {k : Nat} {a0 a1 : D} (hk : 0 < k) : C k i_is_clip_of [a0, a1] = fin false (evst G (C (k - 1)) FF false [.val a0, .val a1] F_is_clip_of.body) := C_run (f := i_is_clip_of) (fd := F_is_clip_of) (a := [a0, a1]) T_is_clip_of hk rfl
theorem R_is_clip {k : Nat} {a0 a1 : D} (hk : 0 < k) : C k i_is_clip [a0, a1] = fin false (evst G (C (k - 1)) FF false [.val a0, .val a1] F_is_clip.body) := C_run (f := i_is_clip) (fd := F_is_clip) (a := [a0, a1]) T_is_clip hk rfl
theorem R_is_cut {k : Nat} {a0 a1 : D} (hk : 0 < k) : C k i_is_cut [a0, a1] = fin false (evst G (C (k - 1)) FF false [.val a0, .val a1, .no] F_is_cut.body) := C_run (f := i_is_cut) (fd := F_is_cut) (a := [a0, a1]) T_is_cut hk rfl
theorem R_look_cut {k : Nat} {a0 a1 : D} (hk : 0 < k) : C k i_look_cut [a0, a1] = fin false (evst G (C (k - 1)) FF false [.val a0, .val a1] F_look_cut.body) := C_run (f := i_look_cut) (fd := F_look_cut) (a := [a0, a1]) T_look_cut hk rfl
theorem R_look_reel {k : Nat} {a0 : D} (hk : 0 < k) : C k i_look_reel [a0] = fin false (evst G (C (k - 1)) FF false [.val a0] F_look_reel.body) := C_run (f := i_look_reel) (fd := F_look_reel) (a := [a0]) T_look_reel hk rfl
theorem R_pieces_of {k : Nat} {a0 a1 : D} (hk : 0 < k) : C k i_pieces_of [a0, a1] = fin false (evst G (C (k - 1)) FF false [.val a0, .val a1, .no, .no] F_pieces_of.body) := C_run (f := i_pieces_of) (fd := F_pieces_of) (a := [a0, a1]) T_pieces_of hk rfl
theorem R_many_in {k : Nat} {a0 : D} (hk : 0 < k) : C k i_many_in [a0] = fin false (evst G (C (k - 1)) FF false [.val a0, .no, .no, .no] F_many_in.body) := C_run (f := i_many_in) (fd := F_many_in) (a := [a0]) T_many_in hk rfl
theorem R_cut_long {k : Nat} {a0 a1 : D} (hk : 0 < k) : C k i_cut_long [a0, a1] = fin false (evst G (C (k - 1)) FF false [.val a0, .val a1] F_cut_long.body) := C_run (f := i_cut_long) (fd := F_cut_long) (a := [a0, a1]) T_cut_long hk rfl
theorem R_frame_at {k : Nat} {a0 a1 a2 : D} (hk : 0 < k) : C k i_frame_at [a0, a1, a2] = fin false (evst G (C (k - 1)) FF false [.val a0, .val a1, .val a2, .no, .no, .no, .no] F_frame_at.body) := C_run (f := i_frame_at) (fd := F_frame_at) (a := [a0, a1, a2]) T_frame_at hk rfl
theorem R_frames_of {k : Nat} {a0 a1 a2 a3 : D} (hk : 0 < k) : C k i_frames_of [a0, a1, a2, a3] = fin false (evst G (C (k - 1)) FF false [.val a0, .val a1, .val a2, .val a3, .no, .no, .no, .no, .no, .no] F_frames_of.body) := C_run (f := i_frames_of) (fd := F_frames_of) (a := [a0, a1, a2, a3]) T_frames_of hk rfl
theorem R_law_cut {k : Nat} {a0 a1 a2 a3 : D} (hk : 0 < k) : C k i_law_cut [a0, a1, a2, a3] = fin false (evst G (C (k - 1)) FF false [.val a0, .val a1, .val a2, .val a3, .no, .no, .no, .no, .no, .no, .no, .no] F_law_cut.body) := C_run (f := i_law_cut) (fd := F_law_cut) (a := [a0, a1, a2, a3]) T_law_cut hk rfl
theorem R_law_frames_2 {k : Nat} {a0 a1 : D} (hk : 0 < k) : C k i_law_frames_2 [a0, a1] = fin false (evst G (C (k - 1)) FF false [.val a0, .val a1, .no, .no, .no, .no] F_law_frames_2.body) := C_run (f := i_law_frames_2) (fd := F_law_frames_2) (a := [a0, a1]) T_law_frames_2 hk rfl
theorem R_law_clips {k : Nat} {a0 a1 : D} (hk : 0 < k) : C k i_law_clips [a0, a1] = fin false (evst G (C (k - 1)) FF false [.val a0, .val a1, .no, .no, .no, .no, .no] F_law_clips.body) := C_run (f := i_law_clips) (fd := F_law_clips) (a := [a0, a1]) T_law_clips hk rfl
theorem R_law_k51 {k : Nat} {a0 : D} (hk : 0 < k) : C k i_law_k51 [a0] = fin false (evst G (C (k - 1)) FF false [.val a0, .no, .no, .no, .no, .no, .no, .no, .no, .no, .no, .no, .no] F_law_k51.body) := C_run (f := i_law_k51) (fd := F_law_k51) (a := [a0]) T_law_k51 hk rfl
theorem R_closed_up {k : Nat} {a0 : D} (hk : 0 < k) : C k i_closed_up [a0] = fin false (evst G (C (k - 1)) FF false [.val a0, .no, .no, .no, .no] F_closed_up.body) := C_run (f := i_closed_up) (fd := F_closed_up) (a := [a0]) T_closed_up hk rfl
theorem R_cut_from {k : Nat} {a0 a1 : D} (hk : 0 < k) : C k i_cut_from [a0, a1] = fin false (evst G (C (k - 1)) FF false [.val a0, .val a1, .no, .no, .no, .no] F_cut_from.body) := C_run (f := i_cut_from) (fd := F_cut_from) (a := [a0, a1]) T_cut_from hk rfl
theorem R_merged {k : Nat} {a0 a1 : D} (hk : 0 < k) : C k i_merged [a0, a1] = fin false (evst G (C (k - 1)) FF false [.val a0, .val a1] F_merged.body) := C_run (f := i_merged) (fd := F_merged) (a := [a0, a1]) T_merged hk rfl
theorem R_are_same {k : Nat} {a0 a1 a2 : D} (hk : 0 < k) : C k i_are_same [a0, a1, a2] = fin false (evst G (C (k - 1)) FF false [.val a0, .val a1, .val a2] F_are_same.body) := C_run (f := i_are_same) (fd := F_are_same) (a := [a0, a1, a2]) T_are_same hk rfl
theorem R_reels {k : Nat} {a0 a1 : D} (hk : 0 < k) : C k i_reels [a0, a1] = fin false (evst G (C (k - 1)) FF false [.val a0, .val a1, .no, .no] F_reels.body) := C_run (f := i_reels) (fd := F_reels) (a := [a0, a1]) T_reels hk rfl
theorem R_used {k : Nat} {a0 a1 a2 : D} (hk : 0 < k) : C k i_used [a0, a1, a2] = fin false (evst G (C (k - 1)) FF false [.val a0, .val a1, .val a2, .no, .no, .no, .no] F_used.body) := C_run (f := i_used) (fd := F_used) (a := [a0, a1, a2]) T_used hk rfl
theorem R_law_k52 {k : Nat} {a0 : D} (hk : 0 < k) : C k i_law_k52 [a0] = fin false (evst G (C (k - 1)) FF false [.val a0, .no, .no, .no, .no, .no, .no, .no, .no, .no, .no, .no, .no] F_law_k52.body) := C_run (f := i_law_k52) (fd := F_law_k52) (a := [a0]) T_law_k52 hk rfl
theorem R_law_word_2 {k : Nat} {a0 : D} (hk : 0 < k) : C k i_law_word_2 [a0] = fin false (evst G (C (k - 1)) FF false [.val a0, .no, .no] F_law_word_2.body) := C_run (f := i_law_word_2) (fd := F_law_word_2) (a := [a0]) T_law_word_2 hk rfl
theorem R_law_all {k : Nat} {a0 a1 a2 a3 : D} (hk : 0 < k) : C k i_law_all [a0, a1, a2, a3] = fin false (evst G (C (k - 1)) FF false [.val a0, .val a1, .val a2, .val a3, .no] F_law_all.body) := C_run (f := i_law_all) (fd := F_law_all) (a := [a0, a1, a2, a3]) T_law_all hk rfl
theorem R_law_k53 {k : Nat} {a0 : D} (hk : 0 < k) : C k i_law_k53 [a0] = fin false (evst G (C (k - 1)) FF false [.val a0, .no, .no, .no, .no, .no, .no, .no] F_law_k53.body) := C_run (f := i_law_k53) (fd := F_law_k53) (a := [a0]) T_law_k53 hk rfl
theorem R_look_place {k : Nat} {a0 a1 : D} (hk : 0 < k) : C k i_look_place [a0, a1] = fin false (evst G (C (k - 1)) FF false [.val a0, .val a1] F_look_place.body) := C_run (f := i_look_place) (fd := F_look_place) (a := [a0, a1]) T_look_place hk rfl
theorem R_look_stretch {k : Nat} {a0 a1 a2 : D} (hk : 0 < k) : C k i_look_stretch [a0, a1, a2] = fin false (evst G (C (k - 1)) FF false [.val a0, .val a1, .val a2] F_look_stretch.body) := C_run (f := i_look_stretch) (fd := F_look_stretch) (a := [a0, a1, a2]) T_look_stretch hk rfl
theorem R_stretch_of {k : Nat} {a0 a1 a2 : D} (hk : 0 < k) : C k i_stretch_of [a0, a1, a2] = fin false (evst G (C (k - 1)) FF false [.val a0, .val a1, .val a2, .no, .no, .no, .no, .no, .no, .no] F_stretch_of.body) := C_run (f := i_stretch_of) (fd := F_stretch_of) (a := [a0, a1, a2]) T_stretch_of hk rfl
theorem R_part {k : Nat} {a0 a1 a2 a3 : D} (hk : 0 < k) : C k i_part [a0, a1, a2, a3] = fin false (evst G (C (k - 1)) FF false [.val a0, .val a1, .val a2, .val a3, .no] F_part.body) := C_run (f := i_part) (fd := F_part) (a := [a0, a1, a2, a3]) T_part hk rfl
theorem R_exchanged {k : Nat} {a0 a1 a2 a3 : D} (hk : 0 < k) : C k i_exchanged [a0, a1, a2, a3] = fin false (evst G (C (k - 1)) FF false [.val a0, .val a1, .val a2, .val a3] F_exchanged.body) := C_run (f := i_exchanged) (fd := F_exchanged) (a := [a0, a1, a2, a3]) T_exchanged hk rfl
theorem R_cut_out {k : Nat} {a0 a1 a2 a3 : D} (hk : 0 < k) : C k i_cut_out [a0, a1, a2, a3] = fin false (evst G (C (k - 1)) FF false [.val a0, .val a1, .val a2, .val a3, .no] F_cut_out.body) := C_run (f := i_cut_out) (fd := F_cut_out) (a := [a0, a1, a2, a3]) T_cut_out hk rfl
theorem R_put_in {k : Nat} {a0 a1 a2 a3 : D} (hk : 0 < k) : C k i_put_in [a0, a1, a2, a3] = fin false (evst G (C (k - 1)) FF false [.val a0, .val a1, .val a2, .val a3, .no] F_put_in.body) := C_run (f := i_put_in) (fd := F_put_in) (a := [a0, a1, a2, a3]) T_put_in hk rfl
theorem R_law_k54 {k : Nat} {a0 : D} (hk : 0 < k) : C k i_law_k54 [a0] = fin false (evst G (C (k - 1)) FF false [.val a0, .no, .no, .no, .no, .no, .no, .no, .no, .no, .no, .no] F_law_k54.body) := C_run (f := i_law_k54) (fd := F_law_k54) (a := [a0]) T_law_k54 hk rfl
theorem R_put_over {k : Nat} {a0 a1 a2 a3 : D} (hk : 0 < k) : C k i_put_over [a0, a1, a2, a3] = fin false (evst G (C (k - 1)) FF false [.val a0, .val a1, .val a2, .val a3, .no, .no] F_put_over.body) := C_run (f := i_put_over) (fd := F_put_over) (a := [a0, a1, a2, a3]) T_put_over hk rfl
theorem R_law_k55 {k : Nat} {a0 : D} (hk : 0 < k) : C k i_law_k55 [a0] = fin false (evst G (C (k - 1)) FF false [.val a0, .no, .no, .no, .no, .no, .no, .no, .no, .no] F_law_k55.body) := C_run (f := i_law_k55) (fd := F_law_k55) (a := [a0]) T_law_k55 hk rfl
theorem R_alike_ahead {k : Nat} {a0 a1 : D} (hk : 0 < k) : C k i_alike_ahead [a0, a1] = fin false (evst G (C (k - 1)) FF false [.val a0, .val a1, .no, .no, .no, .no] F_alike_ahead.body) := C_run (f := i_alike_ahead) (fd := F_alike_ahead) (a := [a0, a1]) T_alike_ahead hk rfl
theorem R_turned_about {k : Nat} {a0 : D} (hk : 0 < k) : C k i_turned_about [a0] = fin false (evst G (C (k - 1)) FF false [.val a0, .no, .no, .no] F_turned_about.body) := C_run (f := i_turned_about) (fd := F_turned_about) (a := [a0]) T_turned_about hk rfl
theorem R_change {k : Nat} {a0 a1 a2 : D} (hk : 0 < k) : C k i_change [a0, a1, a2] = fin false (evst G (C (k - 1)) FF false [.val a0, .val a1, .val a2, .no, .no, .no, .no, .no, .no] F_change.body) := C_run (f := i_change) (fd := F_change) (a := [a0, a1, a2]) T_change hk rfl
theorem R_law_k56 {k : Nat} {a0 : D} (hk : 0 < k) : C k i_law_k56 [a0] = fin false (evst G (C (k - 1)) FF false [.val a0, .no, .no, .no, .no, .no, .no, .no, .no, .no, .no, .no] F_law_k56.body) := C_run (f := i_law_k56) (fd := F_law_k56) (a := [a0]) T_law_k56 hk rfl
theorem R_law_all_2 {k : Nat} {a0 a1 a2 a3 : D} (hk : 0 < k) : C k i_law_all_2 [a0, a1, a2, a3] = fin false (evst G (C (k - 1)) FF false [.val a0, .val a1, .val a2, .val a3, .no] F_law_all_2.body) := C_run (f := i_law_all_2) (fd := F_law_all_2) (a := [a0, a1, a2, a3]) T_law_all_2 hk rfl
theorem R_law_k57 {k : Nat} {a0 : D} (hk : 0 < k) : C k i_law_k57 [a0] = fin false (evst G (C (k - 1)) FF false [.val a0, .no, .no, .no, .no, .no, .no, .no, .no, .no, .no, .no] F_law_k57.body) := C_run (f := i_law_k57) (fd := F_law_k57) (a := [a0]) T_law_k57 hk rfl
theorem R_is_event_of {k : Nat} {a0 a1 : D} (hk : 0 < k) : C k i_is_event_of [a0, a1] = fin false (evst G (C (k - 1)) FF false [.val a0, .val a1, .no, .no] F_is_event_of.body) := C_run (f := i_is_event_of) (fd := F_is_event_of) (a := [a0, a1]) T_is_event_of hk rfl
theorem R_is_event {k : Nat} {a0 a1 : D} (hk : 0 < k) : C k i_is_event [a0, a1] = fin false (evst G (C (k - 1)) FF false [.val a0, .val a1] F_is_event.body) := C_run (f := i_is_event) (fd := F_is_event) (a := [a0, a1]) T_is_event hk rfl
theorem R_look_events {k : Nat} {a0 a1 : D} (hk : 0 < k) : C k i_look_events [a0, a1] = fin false (evst G (C (k - 1)) FF false [.val a0, .val a1, .no] F_look_events.body) := C_run (f := i_look_events) (fd := F_look_events) (a := [a0, a1]) T_look_events hk rfl
theorem R_events {k : Nat} {a0 a1 a2 : D} (hk : 0 < k) : C k i_events [a0, a1, a2] = fin false (evst G (C (k - 1)) FF false [.val a0, .val a1, .val a2, .no, .no, .no, .no, .no] F_events.body) := C_run (f := i_events) (fd := F_events) (a := [a0, a1, a2]) T_events hk rfl
theorem R_cut_of {k : Nat} {a0 a1 : D} (hk : 0 < k) : C k i_cut_of [a0, a1] = fin false (evst G (C (k - 1)) FF false [.val a0, .val a1, .no, .no, .no, .no] F_cut_of.body) := C_run (f := i_cut_of) (fd := F_cut_of) (a := [a0, a1]) T_cut_of hk rfl
theorem R_event_at {k : Nat} {a0 a1 a2 : D} (hk : 0 < k) : C k i_event_at [a0, a1, a2] = fin false (evst G (C (k - 1)) FF false [.val a0, .val a1, .val a2, .no, .no, .no, .no, .no, .no] F_event_at.body) := C_run (f := i_event_at) (fd := F_event_at) (a := [a0, a1, a2]) T_event_at hk rfl
theorem R_law_k58 {k : Nat} {a0 : D} (hk : 0 < k) : C k i_law_k58 [a0] = fin false (evst G (C (k - 1)) FF false [.val a0, .no, .no, .no, .no, .no, .no, .no, .no, .no, .no, .no, .no, .no, .no, .no, .no, .no] F_law_k58.body) := C_run (f := i_law_k58) (fd := F_law_k58) (a := [a0]) T_law_k58 hk rfl
theorem R_event_text {k : Nat} {a0 a1 a2 : D} (hk : 0 < k) : C k i_event_text [a0, a1, a2] = fin false (evst G (C (k - 1)) FF false [.val a0, .val a1, .val a2, .no, .no, .no, .no, .no] F_event_text.body) := C_run (f := i_event_text) (fd := F_event_text) (a := [a0, a1, a2]) T_event_text hk rfl
theorem R_text_in {k : Nat} {a0 a1 : D} (hk : 0 < k) : C k i_text_in [a0, a1] = fin false (evst G (C (k - 1)) FF false [.val a0, .val a1, .no, .no] F_text_in.body) := C_run (f := i_text_in) (fd := F_text_in) (a := [a0, a1]) T_text_in hk rfl
theorem R_events_text {k : Nat} {a0 a1 : D} (hk : 0 < k) : C k i_events_text [a0, a1] = fin false (evst G (C (k - 1)) FF false [.val a0, .val a1] F_events_text.body) := C_run (f := i_events_text) (fd := F_events_text) (a := [a0, a1]) T_events_text hk rfl
theorem R_code_in {k : Nat} {a0 a1 : D} (hk : 0 < k) : C k i_code_in [a0, a1] = fin false (evst G (C (k - 1)) FF false [.val a0, .val a1, .no] F_code_in.body) := C_run (f := i_code_in) (fd := F_code_in) (a := [a0, a1]) T_code_in hk rfl
theorem R_read_events {k : Nat} {a0 a1 : D} (hk : 0 < k) : C k i_read_events [a0, a1] = fin false (evst G (C (k - 1)) FF false [.val a0, .val a1, .no, .no, .no, .no, .no, .no] F_read_events.body) := C_run (f := i_read_events) (fd := F_read_events) (a := [a0, a1]) T_read_events hk rfl
theorem R_law_written {k : Nat} {a0 a1 : D} (hk : 0 < k) : C k i_law_written [a0, a1] = fin false (evst G (C (k - 1)) FF false [.val a0, .val a1, .no, .no] F_law_written.body) := C_run (f := i_law_written) (fd := F_law_written) (a := [a0, a1]) T_law_written hk rfl
theorem R_law_k59 {k : Nat} {a0 : D} (hk : 0 < k) : C k i_law_k59 [a0] = fin false (evst G (C (k - 1)) FF false [.val a0, .no, .no, .no, .no, .no, .no, .no, .no, .no, .no, .no, .no] F_law_k59.body) := C_run (f := i_law_k59) (fd := F_law_k59) (a := [a0]) T_law_k59 hk rfl
theorem R_law_k60 {k : Nat} {a0 : D} (hk : 0 < k) : C k i_law_k60 [a0] = fin false (evst G (C (k - 1)) FF false [.val a0, .no, .no, .no, .no, .no, .no, .no, .no, .no, .no, .no, .no, .no, .no] F_law_k60.body) := C_run (f := i_law_k60) (fd := F_law_k60) (a := [a0]) T_law_k60 hk rfl
theorem R_law_all_3 {k : Nat} {a0 a1 : D} (hk : 0 < k) : C k i_law_all_3 [a0, a1] = fin false (evst G (C (k - 1)) FF false [.val a0, .val a1, .no] F_law_all_3.body) := C_run (f := i_law_all_3) (fd := F_law_all_3) (a := [a0, a1]) T_law_all_3 hk rfl
theorem R_law_k61 {k : Nat} {a0 : D} (hk : 0 < k) : C k i_law_k61 [a0] = fin false (evst G (C (k - 1)) FF false [.val a0, .no, .no, .no, .no, .no, .no, .no, .no, .no] F_law_k61.body) := C_run (f := i_law_k61) (fd := F_law_k61) (a := [a0]) T_law_k61 hk rfl
theorem R_look_number {k : Nat} {a0 a1 : D} (hk : 0 < k) : C k i_look_number [a0, a1] = fin false (evst G (C (k - 1)) FF false [.val a0, .val a1] F_look_number.body) := C_run (f := i_look_number) (fd := F_look_number) (a := [a0, a1]) T_look_number hk rfl
theorem R_look_both {k : Nat} {a0 a1 : D} (hk : 0 < k) : C k i_look_both [a0, a1] = fin false (evst G (C (k - 1)) FF false [.val a0, .val a1] F_look_both.body) := C_run (f := i_look_both) (fd := F_look_both) (a := [a0, a1]) T_look_both hk rfl
theorem R_begun {k : Nat} {a0 a1 a2 : D} (hk : 0 < k) : C k i_begun [a0, a1, a2] = fin false (evst G (C (k - 1)) FF false [.val a0, .val a1, .val a2, .no, .no] F_begun.body) := C_run (f := i_begun) (fd := F_begun) (a := [a0, a1, a2]) T_begun hk rfl
theorem R_first_after {k : Nat} {a0 a1 a2 : D} (hk : 0 < k) : C k i_first_after [a0, a1, a2] = fin false (evst G (C (k - 1)) FF false [.val a0, .val a1, .val a2, .no, .no, .no, .no] F_first_after.body) := C_run (f := i_first_after) (fd := F_first_after) (a := [a0, a1, a2]) T_first_after hk rfl
theorem R_shown {k : Nat} {a0 a1 a2 : D} (hk : 0 < k) : C k i_shown [a0, a1, a2] = fin false (evst G (C (k - 1)) FF false [.val a0, .val a1, .val a2, .no] F_shown.body) := C_run (f := i_shown) (fd := F_shown) (a := [a0, a1, a2]) T_shown hk rfl
theorem R_shows {k : Nat} {a0 a1 a2 : D} (hk : 0 < k) : C k i_shows [a0, a1, a2] = fin false (evst G (C (k - 1)) FF false [.val a0, .val a1, .val a2] F_shows.body) := C_run (f := i_shows) (fd := F_shows) (a := [a0, a1, a2]) T_shows hk rfl
theorem R_first_shown {k : Nat} {a0 a1 a2 : D} (hk : 0 < k) : C k i_first_shown [a0, a1, a2] = fin false (evst G (C (k - 1)) FF false [.val a0, .val a1, .val a2] F_first_shown.body) := C_run (f := i_first_shown) (fd := F_first_shown) (a := [a0, a1, a2]) T_first_shown hk rfl
theorem R_law_k62 {k : Nat} {a0 : D} (hk : 0 < k) : C k i_law_k62 [a0] = fin false (evst G (C (k - 1)) FF false [.val a0, .no, .no, .no, .no, .no, .no, .no, .no, .no, .no, .no, .no, .no, .no] F_law_k62.body) := C_run (f := i_law_k62) (fd := F_law_k62) (a := [a0]) T_law_k62 hk rfl
theorem R_pattern {k : Nat} {a0 a1 : D} (hk : 0 < k) : C k i_pattern [a0, a1] = fin false (evst G (C (k - 1)) FF false [.val a0, .val a1, .no] F_pattern.body) := C_run (f := i_pattern) (fd := F_pattern) (a := [a0, a1]) T_pattern hk rfl
theorem R_law_k63 {k : Nat} {a0 : D} (hk : 0 < k) : C k i_law_k63 [a0] = fin false (evst G (C (k - 1)) FF false [.val a0, .no, .no, .no, .no, .no, .no, .no, .no, .no, .no] F_law_k63.body) := C_run (f := i_law_k63) (fd := F_law_k63) (a := [a0]) T_law_k63 hk rfl
theorem R_law_k64 {k : Nat} {a0 : D} (hk : 0 < k) : C k i_law_k64 [a0] = fin false (evst G (C (k - 1)) FF false [.val a0, .no, .no, .no, .no, .no, .no, .no, .no] F_law_k64.body) := C_run (f := i_law_k64) (fd := F_law_k64) (a := [a0]) T_law_k64 hk rfl
theorem R_wall {k : Nat} {a0 : D} (hk : 0 < k) : C k i_wall [a0] = fin false (evst G (C (k - 1)) FF false [.val a0] F_wall.body) := C_run (f := i_wall) (fd := F_wall) (a := [a0]) T_wall hk rfl
theorem R_law_deed {k : Nat} {a0 a1 a2 : D} (hk : 0 < k) : C k i_law_deed [a0, a1, a2] = fin false (evst G (C (k - 1)) FF false [.val a0, .val a1, .val a2, .no, .no, .no, .no, .no, .no, .no, .no, .no, .no] F_law_deed.body) := C_run (f := i_law_deed) (fd := F_law_deed) (a := [a0, a1, a2]) T_law_deed hk rfl
theorem R_law_due {k : Nat} {a0 : D} (hk : 0 < k) : C k i_law_due [a0] = fin false (evst G (C (k - 1)) FF false [.val a0, .no, .no, .no, .no] F_law_due.body) := C_run (f := i_law_due) (fd := F_law_due) (a := [a0]) T_law_due hk rfl
theorem R_mark_in {k : Nat} {a0 : D} (hk : 0 < k) : C k i_mark_in [a0] = fin false (evst G (C (k - 1)) FF false [.val a0, .no] F_mark_in.body) := C_run (f := i_mark_in) (fd := F_mark_in) (a := [a0]) T_mark_in hk rfl
theorem R_is_mark_row {k : Nat} {a0 : D} (hk : 0 < k) : C k i_is_mark_row [a0] = fin false (evst G (C (k - 1)) FF false [.val a0] F_is_mark_row.body) := C_run (f := i_is_mark_row) (fd := F_is_mark_row) (a := [a0]) T_is_mark_row hk rfl
theorem R_law_k74 {k : Nat} {a0 : D} (hk : 0 < k) : C k i_law_k74 [a0] = fin false (evst G (C (k - 1)) FF false [.val a0, .no, .no, .no, .no, .no, .no, .no, .no, .no] F_law_k74.body) := C_run (f := i_law_k74) (fd := F_law_k74) (a := [a0]) T_law_k74 hk rfl
theorem R_law_k75 {k : Nat} {a0 : D} (hk : 0 < k) : C k i_law_k75 [a0] = fin false (evst G (C (k - 1)) FF false [.val a0, .no, .no, .no, .no, .no, .no, .no, .no, .no, .no, .no] F_law_k75.body) := C_run (f := i_law_k75) (fd := F_law_k75) (a := [a0]) T_law_k75 hk rfl
theorem R_law_k76 {k : Nat} {a0 : D} (hk : 0 < k) : C k i_law_k76 [a0] = fin false (evst G (C (k - 1)) FF false [.val a0, .no, .no, .no, .no, .no, .no, .no, .no, .no, .no, .no] F_law_k76.body) := C_run (f := i_law_k76) (fd := F_law_k76) (a := [a0]) T_law_k76 hk rfl
theorem R_law_joined {k : Nat} {a0 a1 a2 : D} (hk : 0 < k) : C k i_law_joined [a0, a1, a2] = fin false (evst G (C (k - 1)) FF false [.val a0, .val a1, .val a2] F_law_joined.body) := C_run (f := i_law_joined) (fd := F_law_joined) (a := [a0, a1, a2]) T_law_joined hk rfl
theorem R_law_k77 {k : Nat} {a0 : D} (hk : 0 < k) : C k i_law_k77 [a0] = fin false (evst G (C (k - 1)) FF false [.val a0, .no, .no, .no, .no, .no, .no, .no, .no, .no, .no, .no, .no, .no, .no] F_law_k77.body) := C_run (f := i_law_k77) (fd := F_law_k77) (a := [a0]) T_law_k77 hk rfl
theorem R_law_k78 {k : Nat} {a0 : D} (hk : 0 < k) : C k i_law_k78 [a0] = fin false (evst G (C (k - 1)) FF false [.val a0, .no, .no, .no, .no, .no, .no, .no, .no, .no, .no, .no, .no, .no] F_law_k78.body) := C_run (f := i_law_k78) (fd := F_law_k78) (a := [a0]) T_law_k78 hk rfl
theorem R_law_k79 {k : Nat} {a0 : D} (hk : 0 < k) : C k i_law_k79 [a0] = fin false (evst G (C (k - 1)) FF false [.val a0, .no, .no, .no, .no, .no, .no, .no, .no, .no, .no, .no, .no, .no, .no, .no] F_law_k79.body) := C_run (f := i_law_k79) (fd := F_law_k79) (a := [a0]) T_law_k79 hk rfl
theorem R_law_read_2 {k : Nat} {a0 a1 : D} (hk : 0 < k) : C k i_law_read_2 [a0, a1] = fin false (evst G (C (k - 1)) FF false [.val a0, .val a1] F_law_read_2.body) := C_run (f := i_law_read_2) (fd := F_law_read_2) (a := [a0, a1]) T_law_read_2 hk rfl
theorem R_law_k80 {k : Nat} {a0 : D} (hk : 0 < k) : C k i_law_k80 [a0] = fin false (evst G (C (k - 1)) FF false [.val a0, .no, .no, .no, .no, .no, .no, .no, .no, .no, .no, .no, .no, .no, .no, .no] F_law_k80.body) := C_run (f := i_law_k80) (fd := F_law_k80) (a := [a0]) T_law_k80 hk rfl
theorem G_nx : ∀ n c, G n ≠ .exc c := by
  intro n c
  unfold G
  split <;> simp
end Fc
/-! printed by gen.py: the functions of one law as terms of Ev1, and the law's record -/
namespace Fc
open PySem (Str)
def e_is_rate : Nat × Str × List Str × FD := (i_is_rate, "is_rate", ["thing"], F_is_rate)
def e_look_rate : Nat × Str × List Str × FD := (i_look_rate, "look_rate", ["rate"], F_look_rate)
def e_true_frames : Nat × Str × List Str × FD := (i_true_frames, "true_frames", ["rate"], F_true_frames)
def e_is_whole : Nat × Str × List Str × FD := (i_is_whole, "is_whole", ["thing", "low", "high"], F_is_whole)
def e_share : Nat × Str × List Str × FD := (i_share, "share", ["up", "down", "one", "other"], F_share)
def e_exact_step : Nat × Str × List Str × FD := (i_exact_step, "exact_step", ["rate", "other", "mine", "yours"], F_exact_step)
def e_look_number : Nat × Str × List Str × FD := (i_look_number, "look_number", ["number", "most"], F_look_number)
def e_look_both : Nat × Str × List Str × FD := (i_look_both, "look_both", ["rate", "other"], F_look_both)
def e_begun : Nat × Str × List Str × FD := (i_begun, "begun", ["rate", "other", "number", "mine", "yours"], F_begun)
def e_first_after : Nat × Str × List Str × FD := (i_first_after, "first_after", ["rate", "other", "number", "mine", "yours", "up", "down"], F_first_after)
def e_shown : Nat × Str × List Str × FD := (i_shown, "shown", ["rate", "other", "many", "number"], F_shown)
def e_shows : Nat × Str × List Str × FD := (i_shows, "shows", ["rate", "other", "number"], F_shows)
def e_first_shown : Nat × Str × List Str × FD := (i_first_shown, "first_shown", ["rate", "other", "number"], F_first_shown)
def e_pattern : Nat × Str × List Str × FD := (i_pattern, "pattern", ["rate", "other", "number"], F_pattern)
def e_law_cell : Nat × Str × List Str × FD := (i_law_cell, "_law_cell", ["_law_script", "_law_k"], F_law_cell)
def e_law_pick : Nat × Str × List Str × FD := (i_law_pick, "_law_pick", ["_law_script", "_law_k", "_law_many", "_law_drawn"], F_law_pick)
def e_law_rate : Nat × Str × List Str × FD := (i_law_rate, "_law_rate", ["_law_script", "_law_at"], F_law_rate)
def e_law_word_2 : Nat × Str × List Str × FD := (i_law_word_2, "_law_word", ["_law_kept", "_law_kinds", "_law_some"], F_law_word_2)
def e_law_k64 : Nat × Str × List Str × FD := (i_law_k64, "law", ["_law_script", "_law_rate_here", "_law_other", "_law_odd", "_law_bad", "_law_one", "_law_two", "_law_due", "_law_told_here"], F_law_k64)
def L : Law where
  fs := [e_is_rate, e_look_rate, e_true_frames, e_is_whole, e_share, e_exact_step, e_look_number, e_look_both, e_begun, e_first_after, e_shown, e_shows, e_first_shown, e_pattern, e_law_cell, e_law_pick, e_law_rate, e_law_word_2, e_law_k64]
  gs := [(0, "NAMES", .tup [(.str ⟨#[102, 105, 108, 109]⟩), (.str ⟨#[101, 117, 114, 111, 112, 101]⟩), (.str ⟨#[112, 108, 97, 105, 110]⟩), (.str ⟨#[100, 114, 111, 112]⟩), (.str ⟨#[102, 97, 115, 116]⟩), (.str ⟨#[102, 97, 115, 116, 32, 100, 114, 111, 112]⟩)]), (8, "MOST_SHOWN", (.int 2000))]
  ds := [(1, "FIGURES", [("film", 24), ("europe", 25), ("plain", 30), ("drop", 30), ("fast", 60), ("fast drop", 60)]), (2, "LEFT_OUT", [("drop", 2), ("fast drop", 4)])]
  xs := [(0, "CodeError"), (1, "NoRate"), (2, "NoCode"), (3, "NoNumber"), (4, "NoSpan"), (5, "TooFar"), (6, "NoFit"), (7, "NoText"), (8, "NoClip"), (9, "NoCut"), (10, "NoEvent"), (11, "NoMark"), (12, "NoStep")]
  law := i_law_k64
  ts := [(9000, i_law_word_2)]
  ms := [i_law_k64]
  tn := [(9000, "_law_told")]
end Fc
/-! Q1: numbers, rates, draws: what the functions tell. -/
namespace Fc
open PySem (Str)
open L2 (atI ixN)

@[simp] theorem mulL {i j : Int} (h1 : -4611686018427387904 < i) (h2 : i < 4611686018427387904) : binop .mul (.int i) (.int j) = .ok (.int (i * j)) := by
  refine op_mul ?_
  have : smallI i = true := by
    unfold smallI
    refine decide_eq_true ?_
    by_cases z : i.natAbs = 0
    · rw [z]; decide
    · exact (Nat.log2_lt z).mpr (by omega)
  rw [this]; rfl
@[simp] theorem mulR {i j : Int} (h1 : -4611686018427387904 < j) (h2 : j < 4611686018427387904) : binop .mul (.int i) (.int j) = .ok (.int (i * j)) := by
  refine op_mul ?_
  have : smallI j = true := by
    unfold smallI
    refine decide_eq_true ?_
    by_cases z : j.natAbs = 0
    · rw [z]; decide
    · exact (Nat.log2_lt z).mpr (by omega)
  rw [this]; simp
@[simp] theorem modL {i j : Int} (h : 0 < j) : binop .mod (.int i) (.int j) = .ok (.int (i % j)) := by
  rw [op_mod (by omega), Int.fmod_eq_emod_of_nonneg _ (by omega)]
@[simp] theorem fdivL {i j : Int} (h : 0 < j) (h2 : j < 1073741824) : binop .fdiv (.int i) (.int j) = .ok (.int (i / j)) := by
  rw [op_fdiv ⟨by omega, by omega⟩, Int.fdiv_eq_ediv_of_nonneg _ (by omega)]

theorem midR_of {i : Int} (h1 : -1000000000000 ≤ i) (h2 : i ≤ 1000000000000) : midR i = true := by
  unfold midR
  refine decide_eq_true ?_
  by_cases z : i.natAbs = 0
  · rw [z]; decide
  · exact (Nat.log2_lt z).mpr (by omega)

/-! ### rates -/
inductive Rt where
  | film | europe | plain | drop | fast | fastdrop
  deriving DecidableEq, Inhabited
namespace Rt
def s : Rt → Str
  | film => ⟨#[102, 105, 108, 109]⟩
  | europe => ⟨#[101, 117, 114, 111, 112, 101]⟩
  | plain => ⟨#[112, 108, 97, 105, 110]⟩
  | drop => ⟨#[100, 114, 111, 112]⟩
  | fast => ⟨#[102, 97, 115, 116]⟩
  | fastdrop => ⟨#[102, 97, 115, 116, 32, 100, 114, 111, 112]⟩
/-- frames a second -/
def fig : Rt → Int
  | film => 24 | europe => 25 | plain => 30 | drop => 30 | fast => 60 | fastdrop => 60
/-- numbers left out -/
def lo : Rt → Int
  | film => 0 | europe => 0 | plain => 0 | drop => 2 | fast => 0 | fastdrop => 4
/-- true frames: up, down -/
def up : Rt → Int
  | film => 24 | europe => 25 | plain => 30 | drop => 30000 | fast => 60 | fastdrop => 60000
def dn : Rt → Int
  | film => 1 | europe => 1 | plain => 1 | drop => 1001 | fast => 1 | fastdrop => 1001
def minF : Rt → Int
  | film => 1440 | europe => 1500 | plain => 1800 | drop => 1798 | fast => 3600 | fastdrop => 3596
def tenF : Rt → Int
  | film => 14400 | europe => 15000 | plain => 18000 | drop => 17982 | fast => 36000 | fastdrop => 35964
def day : Rt → Int
  | film => 2073600 | europe => 2160000 | plain => 2592000 | drop => 2589408 | fast => 5184000 | fastdrop => 5178816
def hour : Rt → Int
  | film => 86400 | europe => 90000 | plain => 108000 | drop => 107892 | fast => 216000 | fastdrop => 215784
def all : List Rt := [film, europe, plain, drop, fast, fastdrop, drop, fastdrop]
end Rt
theorem s_inj {a b : Rt} : a.s = b.s ↔ a = b := by cases a <;> cases b <;> decide
theorem dayB (r : Rt) : 2000000 < r.day ∧ r.day < 6000000 := by cases r <;> decide
theorem figB (r : Rt) : 24 ≤ r.fig ∧ r.fig ≤ 60 := by cases r <;> decide
theorem loB (r : Rt) : 0 ≤ r.lo ∧ r.lo ≤ 4 := by cases r <;> decide
theorem tenB (r : Rt) : 14400 ≤ r.tenF ∧ r.tenF ≤ 36000 := by cases r <;> decide
theorem minB (r : Rt) : 1440 ≤ r.minF ∧ r.minF ≤ 3600 := by cases r <;> decide
theorem hourB (r : Rt) : 86400 ≤ r.hour ∧ r.hour ≤ 216000 := by cases r <;> decide
theorem upB (r : Rt) : 24 ≤ r.up ∧ r.up ≤ 60000 := by cases r <;> decide
theorem dnB (r : Rt) : 1 ≤ r.dn ∧ r.dn ≤ 1001 := by cases r <;> decide
@[simp] theorem G3 : G 3 = .ok (.int 24) := id rfl
@[simp] theorem G6 : G 6 = .ok (.int 4) := id rfl
@[simp] theorem G7 : G 7 = .ok (.int 20) := id rfl
@[simp] theorem G8 : G 8 = .ok (.int 2000) := id rfl
def figD : D := .dic [.inr Rt.film.s, .inr Rt.europe.s, .inr Rt.plain.s, .inr Rt.drop.s, .inr Rt.fast.s, .inr Rt.fastdrop.s] [.int 24, .int 25, .int 30, .int 30, .int 60, .int 60]
def loD : D := .dic [.inr Rt.drop.s, .inr Rt.fastdrop.s] [.int 2, .int 4]
@[simp] theorem G1 : G 1 = .ok figD := id rfl
@[simp] theorem G2 : G 2 = .ok loD := id rfl
@[simp] theorem ix_fig (r : Rt) : ixD figD (.str r.s) = .ok (.int r.fig) := by cases r <;> rfl
@[simp] theorem rcv_lo : rcv2 .get loD = true := id rfl
@[simp] theorem get_lo (r : Rt) : m2 .get loD (.str r.s) (.int 0) = .ok (.int r.lo) := by cases r <;> rfl
@[simp] theorem in_lo (r : Rt) : cmpop .isIn (.str r.s) loD = .ok (decide (0 < r.lo)) := by cases r <;> rfl
theorem atI_ofQ {α : Type} {xs : List α} {i : Int} (h0 : 0 ≤ i) (h : i < xs.length) : atI xs i = xs[i.toNat]? := by
  obtain ⟨n, rfl⟩ : ∃ n : Nat, i = n := ⟨i.toNat, by omega⟩
  have hn : n < xs.length := by omega
  unfold atI ixN
  simp [hn]
/-- an item at a place -/
theorem ix_lst {xs : List D} {i : Int} (h0 : 0 ≤ i) (h : i < xs.length) : ixD (.lst xs) (.int i) = .ok (xs.getD i.toNat .non) := by
  show opt (atI xs i) = _
  rw [atI_ofQ h0 h]
  have hn : i.toNat < xs.length := by omega
  simp [hn]
theorem ix_tup {xs : List D} {i : Int} (h0 : 0 ≤ i) (h : i < xs.length) : ixD (.tup xs) (.int i) = .ok (xs.getD i.toNat .non) := by
  show opt (atI xs i) = _
  rw [atI_ofQ h0 h]
  have hn : i.toNat < xs.length := by omega
  simp [hn]
@[simp] theorem ix0 (x : D) (r : List D) : ixD (.tup (x :: r)) (.int 0) = .ok x := (ix_tup (by omega) (by simp only [List.length_cons]; omega)).trans rfl
@[simp] theorem ix1 (x y : D) (r : List D) : ixD (.tup (x :: y :: r)) (.int 1) = .ok y := (ix_tup (by omega) (by simp only [List.length_cons]; omega)).trans rfl
@[simp] theorem ix2 (x y z : D) (r : List D) : ixD (.tup (x :: y :: z :: r)) (.int 2) = .ok z := (ix_tup (by omega) (by simp only [List.length_cons]; omega)).trans rfl
@[simp] theorem ix3 (x y z w : D) (r : List D) : ixD (.tup (x :: y :: z :: w :: r)) (.int 3) = .ok w := (ix_tup (by omega) (by simp only [List.length_cons]; omega)).trans rfl
section
variable {k : Nat} {r o : Rt}
@[simp] theorem is_rate_ok (hk : 1 ≤ k) : C k i_is_rate [.str r.s] = .ok (.bl true) := by
  obtain ⟨k, rfl⟩ : ∃ j, k = j + 1 := ⟨k - 1, by omega⟩
  cases r <;> kernel_rfl
@[simp] theorem look_rate_ok (hk : 2 ≤ k) : C k i_look_rate [.str r.s] = .ok .non := by
  simp (disch := omega) [R_look_rate, F_look_rate]
@[simp] theorem told_frames_ok (hk : 3 ≤ k) : C k i_told_frames [.str r.s] = .ok (.int r.fig) := by
  simp (disch := omega) [R_told_frames, F_told_frames]
@[simp] theorem left_out_ok (hk : 3 ≤ k) : C k i_left_out [.str r.s] = .ok (.int r.lo) := by
  simp (disch := omega) [R_left_out, F_left_out]
@[simp] theorem true_frames_ok (hk : 3 ≤ k) : C k i_true_frames [.str r.s] = .ok (.tup [.int r.up, .int r.dn]) := by
  have := figB r
  simp (disch := omega) [R_true_frames, F_true_frames]
  cases r <;> simp [Rt.lo, Rt.up, Rt.dn, Rt.fig]
@[simp] theorem minute_frames_ok (hk : 1 ≤ k) : C k i_minute_frames [.str r.s] = .ok (.int r.minF) := by
  have := figB r
  simp (disch := omega) [R_minute_frames, F_minute_frames]
  cases r <;> rfl
@[simp] theorem ten_frames_ok (hk : 2 ≤ k) : C k i_ten_frames [.str r.s] = .ok (.int r.tenF) := by
  have := minB r
  simp (disch := omega) [R_ten_frames, F_ten_frames]
  cases r <;> rfl
@[simp] theorem day_frames_ok (hk : 3 ≤ k) : C k i_day_frames [.str r.s] = .ok (.int r.day) := by
  have := tenB r
  simp (disch := omega) [R_day_frames, F_day_frames]
  cases r <;> rfl
theorem is_whole_ok {n lo hi : Int} (hk : 1 ≤ k) : C k i_is_whole [.int n, .int lo, .int hi] = .ok (.bl (decide (lo ≤ n ∧ n ≤ hi))) := by
  simp (disch := omega) [R_is_whole, F_is_whole]
  by_cases h1 : lo ≤ n <;> simp [h1]
end

/-! ### draws -/
/-- a script -/
def scr (ns : List Int) : D := .lst (ns.map .int)
def cellI (ns : List Int) (j : Int) : Int := if j < ns.length then ns.getD j.toNat 0 else if ns = [] then 0 else ns.getD (j % ns.length).toNat 0 * 31 + j
def pk (ns : List Int) (j many : Int) : Int :=
  let d := (cellI ns j + 6151 * (j + 1)) * 40692 % 2147483399
  (d * d + d / 31) % 2147483629 % many
theorem pk_lo {ns : List Int} {j m : Int} (h : 0 < m) : 0 ≤ pk ns j m := Int.emod_nonneg _ (by omega)
theorem pk_hi {ns : List Int} {j m : Int} (h : 0 < m) : pk ns j m < m := Int.emod_lt_of_pos _ h
theorem pkB (ns : List Int) (j : Int) {m : Int} (h : 0 < m) : 0 ≤ pk ns j m ∧ pk ns j m < m := ⟨pk_lo h, pk_hi h⟩
theorem shpL_ints (n : Nat) : ∀ ns : List Int, D.shpL n (ns.map .int) = true
  | [] => rfl
  | x :: r => by simp [D.shpL, D.shp, shpL_ints n r]
theorem shp_ints (n : Nat) (ns : List Int) : D.shp (n + 1) (.lst (ns.map .int)) = true := by
  simp [D.shp, shpL_ints]
theorem eq_nil (ns : List Int) : cmpop .eq (.lst (ns.map .int)) (.lst []) = .ok (decide (ns = [])) := by
  have h := shp_ints 59 ns
  cases ns with
  | nil => rfl
  | cons x r =>
    show (if (D.shp 60 (.lst ((x :: r).map .int)) && D.shp 60 (.lst [])) = true then _ else _) = _
    rw [h]
    rfl
@[simp] theorem len_lst (ds : List D) : b1 .len (.lst ds) = .ok (.int ds.length) := id rfl
@[simp] theorem len_tup (ds : List D) : b1 .len (.tup ds) = .ok (.int ds.length) := id rfl
section
variable {k : Nat} {r o : Rt} {ns : List Int} {j m : Int}
theorem law_cell_ok (hk : 1 ≤ k) (h0 : 0 ≤ j) : C k i_law_cell [scr ns, .int j] = .ok (.int (cellI ns j)) := by
  rw [R_law_cell hk]
  unfold scr cellI
  by_cases h : j < ns.length
  · have e : ixD (.lst (ns.map .int)) (.int j) = .ok (.int (ns.getD j.toNat 0)) := by
      rw [ix_lst h0 (by simpa using h)]
      have hn : j.toNat < ns.length := by omega
      simp [hn]
    simp [F_law_cell, h, e]
  · by_cases hn : ns = []
    · subst hn
      have : ¬ j < 0 := by omega
      simp [F_law_cell, this, eq_nil, show cmpop .eq (.lst []) (.lst []) = .ok true from rfl]
    · have hl : 0 < ns.length := List.length_pos_iff.mpr hn
      have b1 := Int.emod_nonneg j (show (ns.length : Int) ≠ 0 by omega)
      have b2 := Int.emod_lt_of_pos j (show (0 : Int) < ns.length by omega)
      have e : ixD (.lst (ns.map .int)) (.int (j % ns.length)) = .ok (.int (ns.getD (j % ns.length).toNat 0)) := by
        rw [ix_lst b1 (by simpa using b2)]
        have hn : (j % ns.length).toNat < ns.length := by omega
        simp [hn]
      simp (disch := omega) [F_law_cell, h, e, hn, eq_nil]
@[simp] theorem law_pick_ok (hk : 2 ≤ k) (h0 : 0 ≤ j) (hm : 0 < m) : C k i_law_pick [scr ns, .int j, .int m] = .ok (.int (pk ns j m)) := by
  rw [R_law_pick (by omega)]
  have c := law_cell_ok (k := k - 1) (ns := ns) (j := j) (by omega) h0
  have b1 := Int.emod_nonneg ((cellI ns j + 6151 * (j + 1)) * 40692) (show (2147483399 : Int) ≠ 0 by decide)
  have b2 := Int.emod_lt_of_pos ((cellI ns j + 6151 * (j + 1)) * 40692) (show (0 : Int) < 2147483399 by decide)
  simp (disch := omega) [F_law_pick, c, pk]
def rtI (ns : List Int) (j : Int) : Rt := Rt.all.getD (pk ns j 8).toNat .film
@[simp] theorem law_rate_ok (hk : 3 ≤ k) (h0 : 0 ≤ j) : C k i_law_rate [scr ns, .int j] = .ok (.str (rtI ns j).s) := by
  rw [R_law_rate (by omega)]
  obtain ⟨b1, b2⟩ := pkB ns j (show (0 : Int) < 8 by decide)
  have e : ∀ i : Int, 0 ≤ i → i < 8 → ixD (.lst [.str Rt.film.s, .str Rt.europe.s, .str Rt.plain.s, .str Rt.drop.s, .str Rt.fast.s, .str Rt.fastdrop.s, .str Rt.drop.s, .str Rt.fastdrop.s]) (.int i) = .ok (.str (Rt.all.getD i.toNat .film).s) := fun i h1 h2 => by
    have : i = 0 ∨ i = 1 ∨ i = 2 ∨ i = 3 ∨ i = 4 ∨ i = 5 ∨ i = 6 ∨ i = 7 := by omega
    rcases this with h | h | h | h | h | h | h | h <;> subst h <;> rfl
  have e' := e _ b1 b2
  simp only [Rt.s] at e'
  simp (disch := omega) [F_law_rate, mkL, sizeMax, e', rtI]
  rfl
end
end Fc
/-! Q2: codes. -/
namespace Fc
open PySem (Str)
open L2 (atI ixN)

namespace Rt
/-- how many codes are ahead of one -/
def cnt (r : Rt) (h m s f : Int) : Int := (60 * (60 * h + m) + s) * r.fig + f - r.lo * ((60 * h + m) - (60 * h + m) / 10)
def shp (r : Rt) (h m s f : Int) : Prop := 0 ≤ h ∧ h ≤ 23 ∧ 0 ≤ m ∧ m ≤ 59 ∧ 0 ≤ s ∧ s ≤ 59 ∧ 0 ≤ f ∧ f ≤ r.fig - 1
def out (r : Rt) (m s f : Int) : Prop := s = 0 ∧ f < r.lo ∧ m % 10 ≠ 0
def ok (r : Rt) (h m s f : Int) : Prop := r.shp h m s f ∧ ¬ r.out m s f
def rst (r : Rt) (n : Int) : Int := n % r.tenF
def whl (r : Rt) (n : Int) : Int := 10 * (n / r.tenF) + (if 60 * r.fig ≤ n % r.tenF then 1 + (n % r.tenF - 60 * r.fig) / r.minF else 0)
def rem (r : Rt) (n : Int) : Int := if 60 * r.fig ≤ n % r.tenF then (n % r.tenF - 60 * r.fig) % r.minF + r.lo else n % r.tenF
def ch (r : Rt) (n : Int) : Int := r.whl n / 60
def cm (r : Rt) (n : Int) : Int := r.whl n % 60
def cs (r : Rt) (n : Int) : Int := r.rem n / r.fig
def cf (r : Rt) (n : Int) : Int := r.rem n % r.fig
end Rt
instance (r : Rt) (h m s f : Int) : Decidable (r.shp h m s f) := by unfold Rt.shp; infer_instance
instance (r : Rt) (m s f : Int) : Decidable (r.out m s f) := by unfold Rt.out; infer_instance
instance (r : Rt) (h m s f : Int) : Decidable (r.ok h m s f) := by unfold Rt.ok; infer_instance
theorem cat_ok (r : Rt) {n : Int} (h0 : 0 ≤ n) (h1 : n < r.day) : r.ok (r.ch n) (r.cm n) (r.cs n) (r.cf n) := by
  unfold Rt.ok Rt.shp Rt.out Rt.ch Rt.cm Rt.cs Rt.cf Rt.whl Rt.rem
  by_cases e : 60 * r.fig ≤ n % r.tenF <;> simp only [e, if_true, if_false] <;> cases r <;> simp only [Rt.fig, Rt.lo, Rt.tenF, Rt.minF, Rt.day] at * <;> omega
theorem cnt_cat (r : Rt) {n : Int} (h0 : 0 ≤ n) (h1 : n < r.day) : r.cnt (r.ch n) (r.cm n) (r.cs n) (r.cf n) = n := by
  unfold Rt.cnt Rt.ch Rt.cm Rt.cs Rt.cf Rt.whl Rt.rem
  by_cases e : 60 * r.fig ≤ n % r.tenF <;> simp only [e, if_true, if_false] <;> cases r <;> simp only [Rt.fig, Rt.lo, Rt.tenF, Rt.minF, Rt.day] at * <;> omega
theorem cnt_lo (r : Rt) {h m s f : Int} (k : r.ok h m s f) : 0 ≤ r.cnt h m s f := by
  revert k
  unfold Rt.ok Rt.shp Rt.out Rt.cnt
  cases r <;> simp only [Rt.fig, Rt.lo] <;> omega
theorem cnt_hi (r : Rt) {h m s f : Int} (k : r.ok h m s f) : r.cnt h m s f < r.day := by
  revert k
  unfold Rt.ok Rt.shp Rt.out Rt.cnt
  cases r <;> simp only [Rt.fig, Rt.lo, Rt.day] <;> omega
/-- the order of codes is that of their counts -/
def lexlt (h m s f h' m' s' f' : Int) : Prop := h < h' ∨ (h = h' ∧ (m < m' ∨ (m = m' ∧ (s < s' ∨ (s = s' ∧ f < f')))))
instance (h m s f h' m' s' f' : Int) : Decidable (lexlt h m s f h' m' s' f') := by unfold lexlt; infer_instance
theorem cnt_mono (r : Rt) {h m s f h' m' s' f' : Int} (k : r.ok h m s f) (k' : r.ok h' m' s' f') (l : lexlt h m s f h' m' s' f') : r.cnt h m s f < r.cnt h' m' s' f' := by
  revert k k' l
  unfold Rt.ok Rt.shp Rt.out Rt.cnt lexlt
  intro k k' l
  rcases l with l | ⟨rfl, l | ⟨rfl, l | ⟨rfl, l⟩⟩⟩
  · cases r <;> simp only [Rt.fig, Rt.lo] at * <;> omega
  · cases r <;> simp only [Rt.fig, Rt.lo] at * <;> omega
  · cases r <;> simp only [Rt.fig, Rt.lo] at * <;> omega
  · cases r <;> simp only [Rt.fig, Rt.lo] at * <;> omega
theorem lex_tri (h m s f h' m' s' f' : Int) : lexlt h m s f h' m' s' f' ∨ (h = h' ∧ m = m' ∧ s = s' ∧ f = f') ∨ lexlt h' m' s' f' h m s f := by
  unfold lexlt; omega
theorem cnt_inj (r : Rt) {h m s f h' m' s' f' : Int} (k : r.ok h m s f) (k' : r.ok h' m' s' f') (e : r.cnt h m s f = r.cnt h' m' s' f') : h = h' ∧ m = m' ∧ s = s' ∧ f = f' := by
  rcases lex_tri h m s f h' m' s' f' with l | l | l
  · have := cnt_mono r k k' l; omega
  · exact l
  · have := cnt_mono r k' k l; omega
theorem cnt_lt (r : Rt) {h m s f h' m' s' f' : Int} (k : r.ok h m s f) (k' : r.ok h' m' s' f') : lexlt h m s f h' m' s' f' ↔ r.cnt h m s f < r.cnt h' m' s' f' := by
  refine ⟨cnt_mono r k k', fun l => ?_⟩
  rcases lex_tri h m s f h' m' s' f' with q | ⟨rfl, rfl, rfl, rfl⟩ | q
  · exact q
  · omega
  · have := cnt_mono r k' k q; omega
/-- codes as data -/
abbrev cD (h m s f : Int) : D := .tup [.int h, .int m, .int s, .int f]
/-- the code with n ahead -/
def cd (r : Rt) (n : Int) : D := cD (r.ch n) (r.cm n) (r.cs n) (r.cf n)
theorem cd_cnt (r : Rt) {h m s f : Int} (k : r.ok h m s f) : cd r (r.cnt h m s f) = cD h m s f := by
  have l := cnt_lo r k
  have u := cnt_hi r k
  obtain ⟨e1, e2, e3, e4⟩ := cnt_inj r (cat_ok r l u) k (cnt_cat r l u)
  unfold cd; rw [e1, e2, e3, e4]
theorem of_ok (r : Rt) {h m s f : Int} (k : r.ok h m s f) : ∃ n, 0 ≤ n ∧ n < r.day ∧ cD h m s f = cd r n := ⟨_, cnt_lo r k, cnt_hi r k, (cd_cnt r k).symm⟩
theorem lt_cD (h m s f h' m' s' f' : Int) : D.lt (cD h m s f) (cD h' m' s' f') = decide (lexlt h m s f h' m' s' f') := by
  unfold cD lexlt
  simp only [D.lt, D.ltL, D.eqv]
  by_cases e1 : h = h'
  · subst e1
    by_cases e2 : m = m'
    · subst e2
      by_cases e3 : s = s'
      · subst e3
        by_cases e4 : f = f' <;> simp [e4]
      · simp [e3]
    · simp [e2]
  · simp [e1]
theorem eqv_cD (h m s f h' m' s' f' : Int) : D.eqv (cD h m s f) (cD h' m' s' f') = decide (h = h' ∧ m = m' ∧ s = s' ∧ f = f') := by
  unfold cD
  simp only [D.eqv, D.eqvL, Bool.and_true]
  by_cases e1 : h = h' <;> by_cases e2 : m = m' <;> by_cases e3 : s = s' <;> by_cases e4 : f = f' <;> simp [e1, e2, e3, e4]
@[simp] theorem shp_cD (n : Nat) (h m s f : Int) : D.shp (n + 1) (cD h m s f) = true := by simp [cD, D.shp, D.shpL]
@[simp] theorem alk_cD (h m s f h' m' s' f' : Int) : D.alk (cD h m s f) (cD h' m' s' f') = true := by simp [cD, D.alk, D.alkL]
@[simp] theorem shp_cd (n : Nat) (r : Rt) (a : Int) : D.shp (n + 1) (cd r a) = true := shp_cD ..
@[simp] theorem alk_cd (r : Rt) (a b : Int) : D.alk (cd r a) (cd r b) = true := alk_cD ..
section
variable {r : Rt} {a b : Int}
theorem lt_cd (a0 : 0 ≤ a) (a1 : a < r.day) (b0 : 0 ≤ b) (b1 : b < r.day) : D.lt (cd r a) (cd r b) = decide (a < b) := by
  unfold cd
  rw [lt_cD, decide_eq_decide, cnt_lt r (cat_ok r a0 a1) (cat_ok r b0 b1), cnt_cat r a0 a1, cnt_cat r b0 b1]
theorem eqv_cd (a0 : 0 ≤ a) (a1 : a < r.day) (b0 : 0 ≤ b) (b1 : b < r.day) : D.eqv (cd r a) (cd r b) = decide (a = b) := by
  unfold cd
  rw [eqv_cD, decide_eq_decide]
  constructor
  · rintro ⟨e1, e2, e3, e4⟩
    have h1 := cnt_cat r a0 a1
    have h2 := cnt_cat r b0 b1
    rw [e1, e2, e3, e4, h2] at h1
    exact h1.symm
  · rintro rfl; exact ⟨rfl, rfl, rfl, rfl⟩
@[simp] theorem clt_cd (a0 : 0 ≤ a) (a1 : a < r.day) (b0 : 0 ≤ b) (b1 : b < r.day) : cmpop .lt (cd r a) (cd r b) = .ok (decide (a < b)) := by
  simp [cmpop, lt_cd a0 a1 b0 b1]
@[simp] theorem cgt_cd (a0 : 0 ≤ a) (a1 : a < r.day) (b0 : 0 ≤ b) (b1 : b < r.day) : cmpop .gt (cd r a) (cd r b) = .ok (decide (b < a)) := by
  simp [cmpop, lt_cd b0 b1 a0 a1]
@[simp] theorem cle_cd (a0 : 0 ≤ a) (a1 : a < r.day) (b0 : 0 ≤ b) (b1 : b < r.day) : cmpop .le (cd r a) (cd r b) = .ok (decide (a ≤ b)) := by
  simp [cmpop, lt_cd b0 b1 a0 a1, ← decide_not]
@[simp] theorem cge_cd (a0 : 0 ≤ a) (a1 : a < r.day) (b0 : 0 ≤ b) (b1 : b < r.day) : cmpop .ge (cd r a) (cd r b) = .ok (decide (b ≤ a)) := by
  simp [cmpop, lt_cd a0 a1 b0 b1, ← decide_not]
@[simp] theorem ceq_cd (a0 : 0 ≤ a) (a1 : a < r.day) (b0 : 0 ≤ b) (b1 : b < r.day) : cmpop .eq (cd r a) (cd r b) = .ok (decide (a = b)) := by
  simp [cmpop, eqv_cd a0 a1 b0 b1]
@[simp] theorem cne_cd (a0 : 0 ≤ a) (a1 : a < r.day) (b0 : 0 ≤ b) (b1 : b < r.day) : cmpop .ne (cd r a) (cd r b) = .ok (decide (a ≠ b)) := by
  simp [cmpop, eqv_cd a0 a1 b0 b1]
end

/-! ### the program's -/
section
variable {k : Nat} {r o : Rt} {h m s f n : Int}
theorem is_left_out_ok (hk : 1 ≤ k) : C k i_is_left_out [.str r.s, cD h m s f] = .ok (.bl (decide (r.out m s f))) := by
  have := loB r
  rw [R_is_left_out hk]
  unfold cD Rt.out
  simp (disch := omega) [F_is_left_out]
  by_cases e1 : s = 0 <;> by_cases e2 : f < r.lo <;> by_cases e3 : m % 10 = 0 <;> simp [e1, e2, e3]
@[simp] theorem law_facts_ok (hk : 1 ≤ k) : C k i_law_facts [.str r.s] = .ok (.tup [.int r.fig, .int r.lo]) := by
  obtain ⟨k, rfl⟩ : ∃ j, k = j + 1 := ⟨k - 1, by omega⟩
  cases r <;> rfl
theorem count_of_cD (hk : 1 ≤ k) (e : r.shp h m s f) : C k i_count_of [.str r.s, cD h m s f] = .ok (.int (r.cnt h m s f)) := by
  have := loB r
  have := figB r
  rw [R_count_of hk]
  unfold cD Rt.cnt
  simp (disch := omega) [F_count_of, asg, asgL, seqD]
@[simp] theorem code_of_ok (hk : 3 ≤ k) (h0 : 0 ≤ n) (h1 : n < r.day) : C k i_code_of [.str r.s, .int n] = .ok (cd r n) := by
  have := loB r
  have := figB r
  have := tenB r
  have := minB r
  rw [R_code_of (by omega)]
  unfold cd cD Rt.ch Rt.cm Rt.cs Rt.cf Rt.whl Rt.rem
  by_cases e : 60 * r.fig ≤ n % r.tenF
  · have e' : ¬ (n % r.tenF < 60 * r.fig) := by omega
    simp (disch := omega) [F_code_of, e, e']
  · have e' : n % r.tenF < 60 * r.fig := by omega
    simp (disch := omega) [F_code_of, e, e']
end
end Fc
/-! Q3: the law's codes, counted and drawn. -/
namespace Fc
open PySem (Str)
open L2 (atI ixN)

section
variable {G : Nat → R D} {C : Nat → List D → R D} {F : Nat} {fr : Bool} {t : Tg} {b : S} {c : E}
/-- a for by its invariant -/
theorem fo_inv (I : Nat → List Sl → Prop) : ∀ (xs : List D) (n : Nat) (σ0 : List Sl), I n σ0 → (∀ i (hi : i < xs.length) σ, I (n + i) σ → ∃ σ1 σ2, asg t xs[i] σ = .ok σ1 ∧ (evst G C F fr σ1 b = .nx σ2 ∨ evst G C F fr σ1 b = .ct σ2) ∧ I (n + i + 1) σ2) → ∃ σ', foS G C F fr t b xs σ0 = .nx σ' ∧ I (n + xs.length) σ'
  | [], n, σ0, h, _ => ⟨σ0, rfl, h⟩
  | x :: r, n, σ0, h, k => by
    obtain ⟨σ1, σ2, ha, hb, hi⟩ := k 0 (by simp) σ0 h
    obtain ⟨σ', e, q⟩ := fo_inv I r (n + 1) σ2 hi fun i hi' σ hσ => by
      have := k (i + 1) (by simp; omega) σ (by rw [show n + (i + 1) = n + 1 + i by omega]; exact hσ)
      rw [show n + (i + 1) = n + 1 + i by omega] at this
      simpa using this
    refine ⟨σ', ?_, by rw [List.length_cons, show n + (r.length + 1) = n + 1 + r.length by omega]; exact q⟩
    have ha : asg t x σ0 = .ok σ1 := ha
    rcases hb with hb | hb
    · rw [fo_step (ha := ha) (h := hb)]; exact e
    · rw [fo_ct (ha := ha) (h := hb)]; exact e
/-- .. and what comes behind it -/
theorem fo_fin {I : Nat → List Sl → Prop} {xs : List D} {σ0 : List Sl} {K : List Sl → O} {fr2 : Bool} {res : R D} (h0 : I 0 σ0) (hs : ∀ i (hi : i < xs.length) σ, I i σ → ∃ σ1 σ2, asg t xs[i] σ = .ok σ1 ∧ (evst G C F fr σ1 b = .nx σ2 ∨ evst G C F fr σ1 b = .ct σ2) ∧ I (i + 1) σ2)
    (hk : ∀ σ, I xs.length σ → fin fr2 (K σ) = res) : fin fr2 ((foS G C F fr t b xs σ0).thn K) = res := by
  obtain ⟨σ', e, q⟩ := fo_inv (G := G) (C := C) (F := F) (fr := fr) (t := t) (b := b) I xs 0 σ0 h0 (by simpa using hs)
  rw [e]
  exact hk σ' (by simpa using q)
/-- a while by its invariant, d turns -/
theorem wh_inv (I : Nat → List Sl → Prop) (d : Nat) : ∀ (i fuel : Nat) (σ0 : List Sl), i ≤ d → d - i < fuel → I i σ0 → (∀ i σ, i < d → I i σ → (ev G C σ c).bind asB = .ok true ∧ ∃ σ', evst G C F fr σ b = .nx σ' ∧ I (i + 1) σ') → (∀ σ, I d σ → (ev G C σ c).bind asB = .ok false) → ∃ σ', whS G C F fr c b fuel σ0 = .nx σ' ∧ I d σ'
  | _, 0, _, _, h, _, _, _ => by omega
  | i, fuel + 1, σ0, hi, hf, h0, hs, he => by
    by_cases q : i = d
    · subst q
      exact ⟨σ0, by rw [wh_stop (t := he σ0 h0)], h0⟩
    · obtain ⟨t, σ1, hb, h1⟩ := hs i σ0 (by omega) h0
      obtain ⟨σ', e, q⟩ := wh_inv I d (i + 1) fuel σ1 (by omega) (by omega) h1 hs he
      exact ⟨σ', by rw [wh_step (t := t) (h := hb)]; exact e, q⟩
theorem wh_fin {I : Nat → List Sl → Prop} (d : Nat) {fuel : Nat} {σ0 : List Sl} {K : List Sl → O} {fr2 : Bool} {res : R D} (hf : d < fuel) (h0 : I 0 σ0) (hs : ∀ i σ, i < d → I i σ → (ev G C σ c).bind asB = .ok true ∧ ∃ σ', evst G C F fr σ b = .nx σ' ∧ I (i + 1) σ') (he : ∀ σ, I d σ → (ev G C σ c).bind asB = .ok false)
    (hk : ∀ σ, I d σ → fin fr2 (K σ) = res) : fin fr2 ((whS G C F fr c b fuel σ0).thn K) = res := by
  obtain ⟨σ', e, q⟩ := wh_inv (G := G) (C := C) (F := F) (fr := fr) (b := b) (c := c) I d 0 fuel σ0 (Nat.zero_le _) (by omega) h0 hs he
  rw [e]
  exact hk σ' q
end
theorem rangeD_len (lo : Int) (n : Nat) : (rangeD lo n).length = n := by simp [rangeD]
theorem rangeD_get (lo : Int) (n i : Nat) (h : i < (rangeD lo n).length) : (rangeD lo n)[i] = .int (lo + i) := by simp [rangeD]
theorem ix_ints (l : List Int) {i : Int} (h0 : 0 ≤ i) (h1 : i < l.length) : ixD (.lst (l.map .int)) (.int i) = .ok (.int (l.getD i.toNat 0)) := by
  rw [ix_lst h0 (by simpa using h1)]
  have : i.toNat < l.length := by omega
  simp [this]
theorem getD_all {l : List Int} {P : Int → Prop} (h : ∀ x ∈ l, P x) {i : Int} (h0 : 0 ≤ i) (h1 : i < l.length) : P (l.getD i.toNat 0) := by
  have : i.toNat < l.length := by omega
  rw [show l.getD i.toNat 0 = l[i.toNat] by simp [this]]
  exact h _ (List.getElem_mem this)
section
variable {k : Nat} {r o : Rt} {h m s f n : Int} {ns : List Int} {j : Int}
theorem law_is_out_ok (hk : 2 ≤ k) (e : r.shp h m s f) : C k i_law_is_out [.str r.s, cD h m s f] = .ok (.bl (decide (r.out m s f))) := by
  have := loB r
  unfold Rt.shp at e
  rw [R_law_is_out (by omega)]
  have em : cmpop .notIn (.int m) (.tup [.int 0, .int 10, .int 20, .int 30, .int 40, .int 50]) = .ok (decide (m % 10 ≠ 0)) := by
    simp [cmpop, memD, D.shp, D.shpL, D.eqv]
    by_cases q : m % 10 = 0
    · have : m = 0 ∨ m = 10 ∨ m = 20 ∨ m = 30 ∨ m = 40 ∨ m = 50 := by omega
      rcases this with h | h | h | h | h | h <;> subst h <;> decide
    · simp [q]; omega
  unfold cD Rt.out
  simp (disch := omega) [F_law_is_out, mkT, sizeMax, em]
  by_cases e1 : s = 0 <;> by_cases e2 : f < r.lo <;> by_cases e3 : m % 10 = 0 <;> simp [e1, e2, e3]
theorem law_count_cD (hk : 2 ≤ k) (e : r.shp h m s f) : C k i_law_count [.str r.s, cD h m s f] = .ok (.int (r.cnt h m s f)) := by
  have e' := e
  unfold Rt.shp at e
  have b1 := loB r
  have b2 := figB r
  rw [R_law_count (by omega)]
  have mr : midR m = true := midR_of (by omega) (by omega)
  simp (disch := omega) [F_law_count, cD, asg, asgL, seqD, mr]
  refine fo_fin (I := fun i σ => ∃ s6, σ = [.val (.str r.s), .val (cD h m s f), .val (.int r.fig), .val (.int r.lo), .val (.int (3600 * r.fig - 54 * r.lo)), .val (.int (h * (3600 * r.fig - 54 * r.lo) + (60 * i * r.fig - r.lo * ((i : Int) - ((i : Int) + 9) / 10)))), s6]) ⟨.no, by simp⟩ ?_ ?_
  · rintro i hi σ ⟨s6, rfl⟩
    rw [rangeD_len] at hi
    have hi' : (i : Int) < m := by omega
    rw [rangeD_get _ _ _ (by rw [rangeD_len]; exact hi)]
    have e3 : (60 * (i : Int) + 60) * r.fig = 60 * i * r.fig + 60 * r.fig := Int.add_mul ..
    by_cases q : 0 < (i : Int) % 10
    · have e2 : ((i : Int) + 1 + 9) / 10 = ((i : Int) + 9) / 10 := by omega
      refine ⟨_, _, rfl, .inl (by simp (disch := omega) [B_law_count_0, q]; rfl), .val (.int i), ?_⟩
      simp [e2, Int.mul_sub, Int.mul_add, e3]
      omega
    · have e2 : ((i : Int) + 1 + 9) / 10 = ((i : Int) + 9) / 10 + 1 := by omega
      refine ⟨_, _, rfl, .inl (by simp (disch := omega) [B_law_count_0, q]; rfl), .val (.int i), ?_⟩
      simp [e2, Int.mul_sub, Int.mul_add, e3]
      omega
  · rintro σ ⟨s6, rfl⟩
    rw [rangeD_len]
    have em : ((m.toNat : Nat) : Int) = m := Int.toNat_of_nonneg (by omega)
    by_cases q : 0 < m % 10
    · simp (disch := omega) [cD, q]
      unfold Rt.cnt
      cases r <;> simp only [Rt.fig, Rt.lo] <;> omega
    · simp (disch := omega) [cD, q]
      unfold Rt.cnt
      cases r <;> simp only [Rt.fig, Rt.lo] <;> omega
@[simp] theorem law_count_ok (hk : 2 ≤ k) (h0 : 0 ≤ n) (h1 : n < r.day) : C k i_law_count [.str r.s, cd r n] = .ok (.int n) := by
  have e := cat_ok r h0 h1
  unfold cd
  rw [law_count_cD hk e.1, cnt_cat r h0 h1]
@[simp] theorem law_day_ok (hk : 3 ≤ k) : C k i_law_day [.str r.s] = .ok (.int r.day) := by
  have b2 := figB r
  have e : r.shp 23 59 59 (r.fig - 1) := by unfold Rt.shp; omega
  have l := law_count_cD (k := k - 1) (by omega) e
  simp (disch := omega) [R_law_day, F_law_day, l]
  cases r <;> decide
def lo10 (r : Rt) (i : Int) : Int := if 0 < i % 10 then r.lo else 0
def base (r : Rt) (i : Int) : Int := 60 * i * r.fig - r.lo * (i - (i + 9) / 10)
theorem cat_parts (r : Rt) {n : Int} (h0 : 0 ≤ n) (h1 : n < r.day) : n = r.hour * r.ch n + base r (r.cm n) + (r.cs n * r.fig + r.cf n) - lo10 r (r.cm n) ∧ lo10 r (r.cm n) ≤ r.cs n * r.fig + r.cf n ∧ r.cs n * r.fig + r.cf n < 60 * r.fig := by
  have c := cat_ok r h0 h1
  have e := cnt_cat r h0 h1
  revert c e
  generalize r.ch n = h; generalize r.cm n = m; generalize r.cs n = s; generalize r.cf n = f
  unfold Rt.ok Rt.shp Rt.out Rt.cnt base lo10
  intro c e
  have w1 : (60 * h + m) / 10 = 6 * h + m / 10 := by omega
  rw [w1] at e
  by_cases q : 0 < m % 10
  · have w2 : (m + 9) / 10 = m / 10 + 1 := by omega
    simp only [q, if_true, w2]
    cases r <;> simp only [Rt.fig, Rt.lo, Rt.hour, Rt.day] at * <;> omega
  · have w2 : (m + 9) / 10 = m / 10 := by omega
    simp only [q, if_false, w2]
    cases r <;> simp only [Rt.fig, Rt.lo, Rt.hour, Rt.day] at * <;> omega
theorem base_mono (r : Rt) {i j : Int} (h0 : 0 ≤ i) (h : i ≤ j) (h1 : j ≤ 60) : base r i ≤ base r j := by
  unfold base; cases r <;> simp only [Rt.fig, Rt.lo] <;> omega
theorem base_step (r : Rt) (i : Int) : base r (i + 1) = base r i + 60 * r.fig - lo10 r i := by
  unfold base lo10
  by_cases q : 0 < i % 10 <;> simp only [q, if_true, if_false] <;> cases r <;> simp only [Rt.fig, Rt.lo] <;> omega
@[simp] theorem law_at_ok (hk : 2 ≤ k) (h0 : 0 ≤ n) (h1 : n < r.day) : C k i_law_at [.str r.s, .int n] = .ok (cd r n) := by
  have b1 := loB r
  have b2 := figB r
  have b3 := hourB r
  have eh : 3600 * r.fig - 54 * r.lo = r.hour := by cases r <;> decide
  have c := (cat_ok r h0 h1).1
  obtain ⟨p1, p2, p3⟩ := cat_parts r h0 h1
  unfold Rt.shp at c
  have p4 : base r (r.cm n) + 60 * r.fig - lo10 r (r.cm n) ≤ r.hour := by
    rw [← base_step]
    refine Int.le_trans (base_mono r (by omega) (show r.cm n + 1 ≤ 60 by omega) (by omega)) ?_
    cases r <;> decide
  have p5 : 0 ≤ base r (r.cm n) := Int.le_trans (by cases r <;> decide) (base_mono r (i := 0) (by omega) (show 0 ≤ r.cm n by omega) (by omega))
  have eq1 : n / r.hour = r.ch n := by
    refine Int.ediv_eq_iff_of_pos (by omega) |>.mpr ?_
    rw [Int.mul_comm r.hour] at p1
    omega
  have eq2 : n % r.hour = base r (r.cm n) + (r.cs n * r.fig + r.cf n) - lo10 r (r.cm n) := by
    have := Int.emod_add_mul_ediv n r.hour
    rw [eq1] at this
    omega
  rw [R_law_at (by omega)]
  simp (disch := omega) [F_law_at, eh]
  refine wh_fin (I := fun i σ => σ = [.val (.str r.s), .val (.int n), .val (.int r.fig), .val (.int r.lo), .val (.int r.hour), .val (.int (n % r.hour - base r i)), .val (.int i)]) (r.cm n).toNat (by have := FF_big; omega) (by simp [base]) ?_ ?_ ?_
  · rintro i σ hi rfl
    have m1 : base r ((i : Int) + 1) ≤ base r (r.cm n) := base_mono r (by omega) (by omega) (by omega)
    have st := base_step r i
    unfold lo10 at st
    by_cases q : 0 < (i : Int) % 10
    · rw [if_pos q] at st
      have t1 : ¬ (n % r.hour - base r i < 60 * r.fig - r.lo) := by omega
      refine ⟨by simp (disch := omega) [X_law_at_0, q]; omega, _, by simp (disch := omega) [B_law_at_1, q]; rfl, ?_⟩
      simp; omega
    · rw [if_neg q] at st
      have t1 : ¬ (n % r.hour - base r i < 60 * r.fig) := by omega
      refine ⟨by simp (disch := omega) [X_law_at_0, q]; omega, _, by simp (disch := omega) [B_law_at_1, q]; rfl, ?_⟩
      simp; omega
  · rintro σ rfl
    rw [Int.toNat_of_nonneg (by omega)]
    unfold lo10 at *
    by_cases q : 0 < r.cm n % 10
    · rw [if_pos q] at *
      have t1 : (n % r.hour - base r (r.cm n) < 60 * r.fig - r.lo) := by omega
      simp (disch := omega) [X_law_at_0, q, t1]
    · rw [if_neg q] at *
      have t1 : (n % r.hour - base r (r.cm n) < 60 * r.fig) := by omega
      simp (disch := omega) [X_law_at_0, q, t1]
  · rintro σ rfl
    rw [Int.toNat_of_nonneg (by omega)]
    have d1 : (r.cs n * r.fig + r.cf n) / r.fig = r.cs n := by
      refine Int.ediv_eq_iff_of_pos (by omega) |>.mpr ?_
      omega
    have d2 : (r.cs n * r.fig + r.cf n) % r.fig = r.cf n := by
      have := Int.emod_add_mul_ediv (r.cs n * r.fig + r.cf n) r.fig
      rw [d1, Int.mul_comm r.fig] at this
      omega
    unfold lo10 at *
    by_cases q : 0 < r.cm n % 10
    · rw [if_pos q] at *
      have t1 : n % r.hour - base r (r.cm n) + r.lo = r.cs n * r.fig + r.cf n := by omega
      simp (disch := omega) [q, t1, d1, d2, eq1, cd]
    · rw [if_neg q] at *
      have t1 : n % r.hour - base r (r.cm n) = r.cs n * r.fig + r.cf n := by omega
      simp (disch := omega) [q, t1, d1, d2, eq1, cd]
end
end Fc
/-! Q4: codes drawn; the program's functions of codes. -/
namespace Fc
open PySem (Str)
open L2 (atI ixN)

section
variable (G : Nat → R D) (C : Nat → List D → R D) (σ : List Sl)
@[simp] theorem lc_nil (elt : E) (t : Tg) (cond : Option E) : lcS G C σ elt t cond [] = .ok [] := id rfl
@[simp] theorem lc_cons (elt : E) (t : Tg) (cond : Option E) (x : D) (r : List D) : lcS G C σ elt t cond (x :: r) = (asg t x (wipeS σ (tgv t))).bind fun σ1 => (evc G C σ1 cond).bind fun b => ifR b ((ev G C σ1 elt).bind fun y => (lcS G C σ elt t cond r).bind fun ys => .ok (y :: ys)) (lcS G C σ elt t cond r) := by
  unfold lcS
  rw [lcGo]
  cases asg t x (wipeS σ (tgv t)) with
  | ok σ1 =>
    simp only [R.bind_ok]
    cases evc G C σ1 cond with
    | ok b => cases b <;> rfl
    | _ => rfl
  | _ => rfl
end
@[simp] theorem wipeS_nil (σ : List Sl) : wipeS σ [] = σ := id rfl
@[simp] theorem wipeS_cons (σ : List Sl) (v : Nat) (vs : List Nat) : wipeS σ (v :: vs) = st1 (wipeS σ vs) v .no := id rfl
@[simp] theorem tgv_nm (i : Nat) : tgv (.nm i) = [i] := id rfl
@[simp] theorem tgv_tn : tgv .tn = [] := id rfl
@[simp] theorem tgv_tc (a b : Tg) : tgv (.tc a b) = tgv a ++ tgv b := id rfl
@[simp] theorem all_lst (xs : List D) : b1 .all (.lst xs) = (opt (allB xs)).bind fun bs => .ok (.bl (bs.all id)) := id rfl
@[simp] theorem any_lst (xs : List D) : b1 .any (.lst xs) = (opt (allB xs)).bind fun bs => .ok (.bl (bs.any id)) := id rfl
@[simp] theorem allB_nil : allB [] = some [] := id rfl
@[simp] theorem allB_cons (b : Bool) (r : List D) : allB (.bl b :: r) = (allB r).map (b :: ·) := id rfl
@[simp] theorem mkL3 (a b c : D) : mkL [a, b, c] = .ok (.lst [a, b, c]) := mkL_ok (by simp [sizeMax])
@[simp] theorem mkL4 (a b c d : D) : mkL [a, b, c, d] = .ok (.lst [a, b, c, d]) := mkL_ok (by simp [sizeMax])
@[simp] theorem mkL5 (a b c d e : D) : mkL [a, b, c, d, e] = .ok (.lst [a, b, c, d, e]) := mkL_ok (by simp [sizeMax])
@[simp] theorem mkL6 (a b c d e f : D) : mkL [a, b, c, d, e, f] = .ok (.lst [a, b, c, d, e, f]) := mkL_ok (by simp [sizeMax])
@[simp] theorem mkL7 (a b c d e f g : D) : mkL [a, b, c, d, e, f, g] = .ok (.lst [a, b, c, d, e, f, g]) := mkL_ok (by simp [sizeMax])
@[simp] theorem mkL8 (a b c d e f g h : D) : mkL [a, b, c, d, e, f, g, h] = .ok (.lst [a, b, c, d, e, f, g, h]) := mkL_ok (by simp [sizeMax])
@[simp] theorem isTy_tup_tup (xs : List D) : isTy (.tup xs) .tup = .ok true := id rfl
@[simp] theorem zip2_nil (ys : List D) : zip2 [] ys = [] := by cases ys <;> rfl
@[simp] theorem zip2_cons (x y : D) (xs ys : List D) : zip2 (x :: xs) (y :: ys) = .tup [x, y] :: zip2 xs ys := id rfl
@[simp] theorem sl3 (a b c : D) (r : List D) : sliceD (.tup (a :: b :: c :: r)) none (some 3) = .ok (.tup [a, b, c]) := by
  show R.ok (D.tup (cut (a :: b :: c :: r) none (some ((3 : Nat) : Int)))) = _
  unfold cut
  rw [HT.sIx_nat]
  simp [HT.sIx, show min 3 (r.length + 1 + 1 + 1) = 3 by omega]
theorem add_tup {xs ys : List D} (h : xs.length + ys.length ≤ sizeMax) : binop .add (.tup xs) (.tup ys) = .ok (.tup (xs ++ ys)) := if_pos h
@[simp] theorem add_31 (a b c d : D) : binop .add (.tup [a, b, c]) (.tup [d]) = .ok (.tup [a, b, c, d]) := add_tup (by simp [sizeMax])
theorem ne_bl (x y : Bool) : cmpop .ne (.bl x) (.bl y) = .ok (x != y) := by simp [cmpop, D.shp, D.eqv]; cases x <;> cases y <;> rfl
theorem eq_bl (x y : Bool) : cmpop .eq (.bl x) (.bl y) = .ok (x == y) := by simp [cmpop, D.shp, D.eqv]
@[simp] theorem ne_dec (p q : Prop) [Decidable p] [Decidable q] : cmpop .ne (.bl (decide p)) (.bl (decide q)) = .ok (decide (¬ (p ↔ q))) := by
  rw [ne_bl]; by_cases hp : p <;> by_cases hq : q <;> simp [hp, hq]
@[simp] theorem eq_dec (p q : Prop) [Decidable p] [Decidable q] : cmpop .eq (.bl (decide p)) (.bl (decide q)) = .ok (decide (p ↔ q)) := by
  rw [eq_bl]; by_cases hp : p <;> by_cases hq : q <;> simp [hp, hq]

/-! ### drawn codes -/
def shH (ns : List Int) (j : Int) : Int := [0, 0, 1, 23, pk ns j 24].getD (pk ns (j + 1) 5).toNat 0
def shM (ns : List Int) (j : Int) : Int := if pk ns (j + 3) 3 = 0 then [0, 1, 9, 10, 11, 59].getD (pk ns (j + 2) 6).toNat 0 else pk ns (j + 2) 60
def shS (ns : List Int) (j : Int) : Int := [0, 0, 59, pk ns (j + 4) 60].getD (pk ns (j + 5) 4).toNat 0
def shF (ns : List Int) (j : Int) (r : Rt) : Int := [0, 1, 2, 3, 4, r.fig - 1, pk ns (j + 6) r.fig].getD (pk ns (j + 7) 7).toNat 0
theorem drawn_shp (ns : List Int) (j : Int) (r : Rt) : r.shp (shH ns j) (shM ns j) (shS ns j) (shF ns j r) := by
  have fb := figB r
  have p1 := pkB ns j (show (0 : Int) < 24 by decide)
  have p2 := pkB ns (j + 1) (show (0 : Int) < 5 by decide)
  have p3 := pkB ns (j + 2) (show (0 : Int) < 60 by decide)
  have p4 := pkB ns (j + 2) (show (0 : Int) < 6 by decide)
  have p5 := pkB ns (j + 4) (show (0 : Int) < 60 by decide)
  have p6 := pkB ns (j + 5) (show (0 : Int) < 4 by decide)
  have p7 := pkB ns (j + 6) (show 0 < r.fig by omega)
  have p8 := pkB ns (j + 7) (show (0 : Int) < 7 by decide)
  have h1 := getD_all (l := [0, 0, 1, 23, pk ns j 24]) (P := fun x => 0 ≤ x ∧ x ≤ 23) (by simp; omega) p2.1 p2.2
  have h2 := getD_all (l := [0, 1, 9, 10, 11, 59]) (P := fun x => 0 ≤ x ∧ x ≤ 59) (by simp) p4.1 p4.2
  have h3 := getD_all (l := [0, 0, 59, pk ns (j + 4) 60]) (P := fun x => 0 ≤ x ∧ x ≤ 59) (by simp; omega) p6.1 p6.2
  have h4 := getD_all (l := [0, 1, 2, 3, 4, r.fig - 1, pk ns (j + 6) r.fig]) (P := fun x => 0 ≤ x ∧ x ≤ r.fig - 1) (by simp; omega) p8.1 p8.2
  have h2' : 0 ≤ shM ns j ∧ shM ns j ≤ 59 := by unfold shM; split <;> omega
  exact ⟨h1.1, h1.2, h2'.1, h2'.2, h3.1, h3.2, h4.1, h4.2⟩
/-- the drawn code's count -/
def lc (ns : List Int) (j : Int) (r : Rt) : Int := r.cnt (shH ns j) (shM ns j) (shS ns j) (if r.out (shM ns j) (shS ns j) (shF ns j r) then shF ns j r + 4 else shF ns j r)
theorem drawn_ok (ns : List Int) (j : Int) (r : Rt) : r.ok (shH ns j) (shM ns j) (shS ns j) (if r.out (shM ns j) (shS ns j) (shF ns j r) then shF ns j r + 4 else shF ns j r) := by
  have e := drawn_shp ns j r
  by_cases q : r.out (shM ns j) (shS ns j) (shF ns j r)
  · rw [if_pos q]
    unfold Rt.ok Rt.out Rt.shp at *
    cases r <;> simp only [Rt.fig, Rt.lo] at * <;> omega
  · rw [if_neg q]; exact ⟨e, q⟩
theorem lcB (ns : List Int) (j : Int) (r : Rt) : 0 ≤ lc ns j r ∧ lc ns j r < r.day := ⟨cnt_lo r (drawn_ok ns j r), cnt_hi r (drawn_ok ns j r)⟩
section
variable {k : Nat} {r o : Rt} {h m s f n by_ a b : Int} {ns : List Int} {j : Int}
theorem law_shape_ok (hk : 3 ≤ k) (hj : 0 ≤ j) : C k i_law_shape [scr ns, .int j, .str r.s] = .ok (cD (shH ns j) (shM ns j) (shS ns j) (shF ns j r)) := by
  have fb := figB r
  have p1 := pkB ns (j + 1) (show (0 : Int) < 5 by decide)
  have p2 := pkB ns (j + 2) (show (0 : Int) < 6 by decide)
  have p3 := pkB ns (j + 5) (show (0 : Int) < 4 by decide)
  have p4 := pkB ns (j + 7) (show (0 : Int) < 7 by decide)
  have e1 := ix_ints [0, 0, 1, 23, pk ns j 24] p1.1 p1.2
  have e2 := ix_ints [0, 1, 9, 10, 11, 59] p2.1 p2.2
  have e3 := ix_ints [0, 0, 59, pk ns (j + 4) 60] p3.1 p3.2
  have e4 := ix_ints [0, 1, 2, 3, 4, r.fig - 1, pk ns (j + 6) r.fig] p4.1 p4.2
  simp only [List.map_cons, List.map_nil] at e1 e2 e3 e4
  rw [R_law_shape (by omega)]
  by_cases q : pk ns (j + 3) 3 = 0
  · simp (disch := omega) [F_law_shape, e1, e2, e3, e4, q, shM, shH, shS, shF]
  · simp (disch := omega) [F_law_shape, e1, e3, e4, q, shM, shH, shS, shF]
@[simp] theorem law_code_ok (hk : 4 ≤ k) (hj : 0 ≤ j) : C k i_law_code [scr ns, .int j, .str r.s] = .ok (cd r (lc ns j r)) := by
  have e := law_shape_ok (k := k - 1) (r := r) (ns := ns) (j := j) (by omega) hj
  have o := law_is_out_ok (k := k - 1) (by omega) (drawn_shp ns j r)
  have c := cd_cnt r (drawn_ok ns j r)
  unfold lc
  rw [c, R_law_code (by omega)]
  by_cases q : r.out (shM ns j) (shS ns j) (shF ns j r)
  · simp (disch := omega) [F_law_code, e, o, q]
  · simp (disch := omega) [F_law_code, e, o, q]

/-! ### the program's -/
theorem has_shape_cD (hk : 2 ≤ k) : C k i_has_shape [.str r.s, cD h m s f] = .ok (.bl (decide (r.shp h m s f))) := by
  rw [R_has_shape (by omega)]
  simp (disch := omega) [F_has_shape, X_has_shape_0, is_whole_ok]
  rw [Bool.eq_iff_iff, decide_eq_true_iff]
  unfold Rt.shp
  simp [and_assoc]
theorem is_code_cD (hk : 3 ≤ k) : C k i_is_code [.str r.s, cD h m s f] = .ok (.bl (decide (r.ok h m s f))) := by
  have e1 := has_shape_cD (k := k - 1) (r := r) (h := h) (m := m) (s := s) (f := f) (by omega)
  have e2 := is_left_out_ok (k := k - 1) (r := r) (h := h) (m := m) (s := s) (f := f) (by omega)
  rw [R_is_code (by omega)]
  simp (disch := omega) [F_is_code, e1, e2, Rt.ok]
  by_cases q : r.shp h m s f <;> simp [q]
@[simp] theorem is_code_ok (hk : 3 ≤ k) (h0 : 0 ≤ n) (h1 : n < r.day) : C k i_is_code [.str r.s, cd r n] = .ok (.bl true) := by
  have e := cat_ok r h0 h1
  unfold cd
  rw [is_code_cD hk, decide_eq_true e]
@[simp] theorem look_code_ok (hk : 4 ≤ k) (h0 : 0 ≤ n) (h1 : n < r.day) : C k i_look_code [.str r.s, cd r n] = .ok .non := by
  rw [R_look_code (by omega)]
  simp (disch := omega) [F_look_code]
@[simp] theorem count_of_ok (hk : 1 ≤ k) (h0 : 0 ≤ n) (h1 : n < r.day) : C k i_count_of [.str r.s, cd r n] = .ok (.int n) := by
  have e := cat_ok r h0 h1
  unfold cd
  rw [count_of_cD hk e.1, cnt_cat r h0 h1]
@[simp] theorem count_ok (hk : 5 ≤ k) (h0 : 0 ≤ n) (h1 : n < r.day) : C k i_count [.str r.s, cd r n] = .ok (.int n) := by
  rw [R_count (by omega)]
  simp (disch := omega) [F_count]
@[simp] theorem look_count_ok (hk : 4 ≤ k) (h0 : 0 ≤ n) (h1 : n < r.day) : C k i_look_count [.str r.s, .int n] = .ok .non := by
  rw [R_look_count (by omega)]
  have e1 : ¬ n < 0 := by omega
  simp (disch := omega) [F_look_count, e1, h1]
@[simp] theorem look_count_far (hk : 4 ≤ k) (h1 : n < 0 ∨ r.day ≤ n) : C k i_look_count [.str r.s, .int n] = .exc 5 := by
  rw [R_look_count (by omega)]
  by_cases e1 : n < 0
  · simp (disch := omega) [F_look_count, show ¬ (0 ≤ n) by omega]
  · have e2 : ¬ n < r.day := by omega
    simp (disch := omega) [F_look_count, e1, e2]
@[simp] theorem code_at_ok (hk : 5 ≤ k) (h0 : 0 ≤ n) (h1 : n < r.day) : C k i_code_at [.str r.s, .int n] = .ok (cd r n) := by
  rw [R_code_at (by omega)]
  simp (disch := omega) [F_code_at]
@[simp] theorem code_at_far (hk : 5 ≤ k) (h1 : n < 0 ∨ r.day ≤ n) : C k i_code_at [.str r.s, .int n] = .exc 5 := by
  rw [R_code_at (by omega)]
  simp (disch := omega) [F_code_at]
@[simp] theorem last_code_ok (hk : 4 ≤ k) : C k i_last_code [.str r.s] = .ok (cd r (r.day - 1)) := by
  have := dayB r
  rw [R_last_code (by omega)]
  simp (disch := omega) [F_last_code]
@[simp] theorem look_by_ok (hk : 1 ≤ k) : C k i_look_by [.int n] = .ok .non := by
  rw [R_look_by (by omega)]
  simp (disch := omega) [F_look_by]
@[simp] theorem later_ok (hk : 6 ≤ k) (h0 : 0 ≤ n) (h1 : n < r.day) (h2 : 0 ≤ n + by_) (h3 : n + by_ < r.day) : C k i_later [.str r.s, cd r n, .int by_] = .ok (cd r (n + by_)) := by
  rw [R_later (by omega)]
  simp (disch := omega) [F_later]
@[simp] theorem later_far (hk : 6 ≤ k) (h0 : 0 ≤ n) (h1 : n < r.day) (h2 : n + by_ < 0 ∨ r.day ≤ n + by_) : C k i_later [.str r.s, cd r n, .int by_] = .exc 5 := by
  rw [R_later (by omega)]
  simp (disch := omega) [F_later]
theorem dmodB (r : Rt) (x : Int) : 0 ≤ x % r.day ∧ x % r.day < r.day := ⟨Int.emod_nonneg _ (by have := dayB r; omega), Int.emod_lt_of_pos _ (by have := dayB r; omega)⟩
@[simp] theorem round_later_ok (hk : 5 ≤ k) (h0 : 0 ≤ n) (h1 : n < r.day) : C k i_round_later [.str r.s, cd r n, .int by_] = .ok (cd r ((n + by_) % r.day)) := by
  have := dayB r
  have := dmodB r (n + by_)
  rw [R_round_later (by omega)]
  simp (disch := omega) [F_round_later]
@[simp] theorem between_ok (hk : 5 ≤ k) (h0 : 0 ≤ a) (h1 : a < r.day) (h2 : 0 ≤ b) (h3 : b < r.day) : C k i_between [.str r.s, cd r a, cd r b] = .ok (.int (b - a)) := by
  rw [R_between (by omega)]
  simp (disch := omega) [F_between]
end
end Fc
/-! Q5: true times. -/
namespace Fc
open PySem (Str)
open L2 (atI ixN)

/-! ### fractions -/
def gI (u d : Int) : Int := (Int.gcd u d : Nat)
def fa (u d : Int) : Int := u / gI u d
def fb (u d : Int) : Int := d / gI u d
theorem gI_pos (u : Int) {d : Int} (h : 0 < d) : 0 < gI u d := by
  have : 0 < Int.gcd u d := Int.gcd_pos_of_ne_zero_right _ (by omega)
  unfold gI; omega
theorem gI_le (u : Int) {d : Int} (h : 0 < d) : gI u d ≤ d := Int.le_of_dvd h (Int.gcd_dvd_right ..)
theorem fa_g (u d : Int) : fa u d * gI u d = u := Int.ediv_mul_cancel (Int.gcd_dvd_left ..)
theorem fb_g (u d : Int) : fb u d * gI u d = d := Int.ediv_mul_cancel (Int.gcd_dvd_right ..)
theorem fb_pos (u : Int) {d : Int} (h : 0 < d) : 0 < fb u d := by
  have g := gI_pos u h
  have e := fb_g u d
  refine Int.pos_of_mul_pos_left (b := gI u d) ?_ g |> fun h => h
  rw [e]; exact h
theorem fb_le (u : Int) {d : Int} (h : 0 < d) : fb u d ≤ d := by
  have g := gI_pos u h
  exact Int.ediv_le_self _ (by omega)
theorem fr_mul (u d : Int) : fa u d * d = u * fb u d := by
  have e1 := fa_g u d
  have e2 := fb_g u d
  calc fa u d * d = fa u d * (fb u d * gI u d) := by rw [e2]
    _ = fa u d * gI u d * fb u d := by rw [Int.mul_assoc, Int.mul_comm (fb u d)]
    _ = u * fb u d := by rw [e1]
theorem fa_lo {u d : Int} (h : 0 < d) (h0 : 0 ≤ u) : 0 ≤ fa u d := Int.ediv_nonneg h0 (by have := gI_pos u h; omega)
theorem fa_hi {u d : Int} (h : 0 < d) (h0 : 0 ≤ u) : fa u d ≤ u := Int.ediv_le_self _ h0
theorem gI_low (u : Int) {d : Int} (h : 0 < d) : gI (fa u d) (fb u d) = 1 := by
  have g : 0 < Int.gcd u d := Int.gcd_pos_of_ne_zero_right _ (by omega)
  unfold gI fa fb gI
  rw [Int.gcd_ediv_gcd_ediv_gcd g]; rfl
theorem euclid (C : Nat → List D → R D) (u v : D) : ∀ (n : Nat) (x y : Nat), y < n →
    whS G C FF false X_share_0 B_share_1 n [.val u, .val v, .val (.int x), .val (.int y)] = .nx [.val u, .val v, .val (.int (Nat.gcd x y : Nat)), .val (.int 0)] := by
  intro n
  induction n with
  | zero => intro x y h; omega
  | succ n ih =>
    intro x y h
    by_cases hy : y = 0
    · subst hy
      rw [wh_stop (t := by simp [X_share_0])]
      simp
    · have e3 : (x : Int) % (y : Int) = ((x % y : Nat) : Int) := by simp
      rw [wh_step (σ' := [.val u, .val v, .val (.int y), .val (.int (x % y : Nat))]) (t := by simp [X_share_0]; omega) (h := by simp (disch := omega) [B_share_1])]
      rw [ih y (x % y) (by have := Nat.mod_lt x (Nat.pos_of_ne_zero hy); omega)]
      rw [Nat.gcd_comm y, ← Nat.gcd_rec, Nat.gcd_comm y]
section
variable {k : Nat} {r o : Rt} {h m s f n u d a b : Int} {ns : List Int} {j : Int}
@[simp] theorem share_ok (hk : 1 ≤ k) (hd : 0 < d) (h2 : d ≤ 60060000) : C k i_share [.int u, .int d] = .ok (.tup [.int (fa u d), .int (fb u d)]) := by
  have g1 := gI_pos u hd
  have g2 := gI_le u hd
  have fb := FF_big
  have e := euclid (C (k - 1)) (.int u) (.int d) FF u.natAbs d.natAbs (by omega)
  have eg : ((Nat.gcd u.natAbs d.natAbs : Nat) : Int) = gI u d := rfl
  rw [eg] at e
  have ed : ((d.natAbs : Nat) : Int) = d := by omega
  rw [ed] at e
  rw [R_share (by omega)]
  simp (disch := omega) [F_share, e, fa, Fc.fb]
@[simp] theorem law_low_ok (hk : 1 ≤ k) (hd : 0 < d) (h2 : d ≤ 60060000) : C k i_law_low [.int u, .int d] = .ok (.tup [.int (fa u d), .int (fb u d)]) := by
  have g1 := gI_pos u hd
  have g2 := gI_le u hd
  have fb := FF_big
  have e : whS G (C (k - 1)) FF false X_law_low_0 B_law_low_1 FF _ = _ := euclid (C (k - 1)) (.int u) (.int d) FF u.natAbs d.natAbs (by omega)
  have eg : ((Nat.gcd u.natAbs d.natAbs : Nat) : Int) = gI u d := rfl
  rw [eg] at e
  have ed : ((d.natAbs : Nat) : Int) = d := by omega
  rw [ed] at e
  rw [R_law_low (by omega)]
  simp (disch := omega) [F_law_low, e, fa, Fc.fb]
@[simp] theorem law_true_ok (hk : 2 ≤ k) : C k i_law_true [.str r.s] = .ok (.tup [.int r.up, .int r.dn]) := by
  have := figB r
  rw [R_law_true (by omega)]
  simp (disch := omega) [F_law_true]
  cases r <;> simp [Rt.lo, Rt.up, Rt.dn, Rt.fig]

/-! ### times of codes -/
def tA (r : Rt) (n : Int) : Int := fa (n * r.dn) r.up
def tB (r : Rt) (n : Int) : Int := fb (n * r.dn) r.up
theorem tB_lo (r : Rt) (n : Int) : 0 < tB r n := fb_pos _ (by have := upB r; omega)
theorem tB_hi (r : Rt) (n : Int) : tB r n ≤ 60000 := Int.le_trans (fb_le _ (by have := upB r; omega)) (upB r).2
theorem tA_lo (r : Rt) {n : Int} (h : 0 ≤ n) : 0 ≤ tA r n := fa_lo (by have := upB r; omega) (Int.mul_nonneg h (by have := dnB r; omega))
theorem tA_hi (r : Rt) {n : Int} (h : 0 ≤ n) (h1 : n < r.day) : tA r n ≤ 6006000000 := by
  have d := dnB r
  have dy := dayB r
  refine Int.le_trans (fa_hi (by have := upB r; omega) (Int.mul_nonneg h (by omega))) ?_
  exact Int.le_trans (Int.mul_le_mul (show n ≤ 6000000 by omega) d.2 (by omega) (by omega)) (by decide)
theorem tAB (r : Rt) (n : Int) : tA r n * r.up = n * (tB r n * r.dn) := by
  have := fr_mul (n * r.dn) r.up
  unfold tA tB
  rw [this, Int.mul_assoc, Int.mul_comm r.dn]
theorem mulB {a b x y : Int} (h1 : 0 ≤ a) (h2 : a ≤ x) (h3 : 0 ≤ b) (h4 : b ≤ y) : 0 ≤ a * b ∧ a * b ≤ x * y := ⟨Int.mul_nonneg h1 h3, Int.mul_le_mul h2 h4 h3 (by omega)⟩
@[simp] theorem seconds_at_ok (hk : 4 ≤ k) : C k i_seconds_at [.str r.s, .int n] = .ok (.tup [.int (tA r n), .int (tB r n)]) := by
  have := upB r
  have := dnB r
  rw [R_seconds_at (by omega)]
  simp (disch := omega) [F_seconds_at, tA, tB]
@[simp] theorem true_time_ok (hk : 5 ≤ k) (h0 : 0 ≤ n) (h1 : n < r.day) : C k i_true_time [.str r.s, cd r n] = .ok (.tup [.int (tA r n), .int (tB r n)]) := by
  rw [R_true_time (by omega)]
  simp (disch := omega) [F_true_time]
@[simp] theorem told_frames_of_ok (hk : 4 ≤ k) : C k i_told_frames_of [.str r.s] = .ok (.int r.fig) := by
  have := upB r
  rw [R_told_frames_of (by omega)]
  simp (disch := omega) [F_told_frames_of]
  cases r <;> simp [Rt.up, Rt.dn, Rt.fig]
/-- the frames that a code tells, none left out -/
def tld (r : Rt) (n : Int) : Int := (3600 * r.ch n + 60 * r.cm n + r.cs n) * r.fig + r.cf n
def dX (r : Rt) (n : Int) : Int := tA r n * r.fig - tld r n * tB r n
def dY (r : Rt) (n : Int) : Int := tB r n * r.fig
@[simp] theorem told_time_ok (hk : 1 ≤ k) : C k i_told_time [cd r n] = .ok (.int (3600 * r.ch n + 60 * r.cm n + r.cs n)) := by
  rw [R_told_time (by omega)]
  unfold cd
  simp (disch := omega) [F_told_time]
@[simp] theorem drift_ok (hk : 6 ≤ k) (h0 : 0 ≤ n) (h1 : n < r.day) : C k i_drift [.str r.s, cd r n] = .ok (.tup [.int (fa (dX r n) (dY r n)), .int (fb (dX r n) (dY r n))]) := by
  have b1 := figB r
  have c := (cat_ok r h0 h1).1
  unfold Rt.shp at c
  have b2 := tB_lo r n
  have b3 := tB_hi r n
  have b4 := mulB (show 0 ≤ tB r n by omega) b3 (show 0 ≤ r.fig by omega) b1.2
  have b5 : 0 < tB r n * r.fig := Int.mul_pos b2 (by omega)
  have i3 : ixD (cd r n) (.int 3) = .ok (.int (r.cf n)) := by unfold cd; simp
  rw [R_drift (by omega)]
  simp (disch := omega) [F_drift, dX, dY, tld, i3]
end
/-! ### rounding -/
inductive Wy where
  | down | up | near
  deriving DecidableEq, Inhabited
def Wy.s : Wy → Str
  | .down => ⟨#[100, 111, 119, 110]⟩
  | .up => ⟨#[117, 112]⟩
  | .near => ⟨#[110, 101, 97, 114]⟩
@[simp] theorem weq_down (w : Wy) : cmpop .eq (.str w.s) (.str ⟨#[100, 111, 119, 110]⟩) = .ok (decide (w = .down)) := by cases w <;> kernel_rfl
@[simp] theorem weq_up (w : Wy) : cmpop .eq (.str w.s) (.str ⟨#[117, 112]⟩) = .ok (decide (w = .up)) := by cases w <;> kernel_rfl
@[simp] theorem weq_near (w : Wy) : cmpop .eq (.str w.s) (.str ⟨#[110, 101, 97, 114]⟩) = .ok (decide (w = .near)) := by cases w <;> kernel_rfl
def rnd (w : Wy) (u d : Int) : Int := if w = .down then u / d else if w = .up then -(-u / d) else (2 * u + d) / (2 * d)
theorem rnd_exact (w : Wy) (q : Int) {d : Int} (h : 0 < d) : rnd w (q * d) d = q := by
  have e1 : q * d / d = q := Int.mul_ediv_cancel _ (by omega)
  have e2 : -(q * d) / d = -q := by
    rw [← Int.neg_mul]
    exact Int.mul_ediv_cancel _ (by omega)
  have e3 : (2 * (q * d) + d) / (2 * d) = q := by
    refine Int.ediv_eq_iff_of_pos (by omega) |>.mpr ?_
    rw [Int.mul_left_comm]
    omega
  unfold rnd
  cases w <;> simp [e1, e2, e3]
theorem rnd_lo (w : Wy) {u d : Int} (h : 0 < d) (h0 : 0 ≤ u) : 0 ≤ rnd w u d := by
  have e1 : 0 ≤ u / d := Int.ediv_nonneg h0 (by omega)
  have e2 : -u / d ≤ 0 := by
    have : -u / d < 0 + 1 := Int.ediv_lt_of_lt_mul h (by omega)
    omega
  have e3 : 0 ≤ (2 * u + d) / (2 * d) := Int.ediv_nonneg (by omega) (by omega)
  unfold rnd
  cases w <;> simp <;> omega
section
variable {k : Nat} {r o : Rt} {h m s f n u d a b : Int} {ns : List Int} {j : Int} {w : Wy}
@[simp] theorem look_way_ok (hk : 1 ≤ k) : C k i_look_way [.str w.s] = .ok .non := by
  obtain ⟨k, rfl⟩ : ∃ j, k = j + 1 := ⟨k - 1, by omega⟩
  cases w <;> kernel_rfl
@[simp] theorem rounded_ok (hk : 1 ≤ k) (h : 0 < d) (h2 : d < 536870912) : C k i_rounded [.int u, .int d, .str w.s] = .ok (.int (rnd w u d)) := by
  rw [R_rounded (by omega)]
  unfold rnd
  cases w <;> simp (disch := omega) [F_rounded]
@[simp] theorem frames_at_ok (hk : 4 ≤ k) (h : 0 < b) (h2 : b ≤ 60000) : C k i_frames_at [.str r.s, .tup [.int a, .int b], .str w.s] = .ok (.int (rnd w (a * r.up) (b * r.dn))) := by
  have b1 := upB r
  have b2 := dnB r
  have b3 := mulB (show 0 ≤ b by omega) h2 (show 0 ≤ r.dn by omega) b2.2
  have b4 : 0 < b * r.dn := Int.mul_pos h (by omega)
  rw [R_frames_at (by omega)]
  simp (disch := omega) [F_frames_at]
theorem frames_at_dn (hk : 4 ≤ k) (h : 0 < b) (h2 : b ≤ 60000) : C k i_frames_at [.str r.s, .tup [.int a, .int b], .str ⟨#[100, 111, 119, 110]⟩] = .ok (.int (rnd .down (a * r.up) (b * r.dn))) := frames_at_ok (w := .down) hk h h2
theorem frames_at_up (hk : 4 ≤ k) (h : 0 < b) (h2 : b ≤ 60000) : C k i_frames_at [.str r.s, .tup [.int a, .int b], .str ⟨#[117, 112]⟩] = .ok (.int (rnd .up (a * r.up) (b * r.dn))) := frames_at_ok (w := .up) hk h h2
/-- a code led to another rate -/
def ledN (r o : Rt) (n : Int) (w : Wy) : Int := rnd w (tA r n * o.up) (tB r n * o.dn)
theorem tBd (r o : Rt) (n : Int) : 0 < tB r n * o.dn ∧ tB r n * o.dn ≤ 60060000 := by
  have b1 := tB_lo r n
  have b2 := tB_hi r n
  have b3 := dnB o
  exact ⟨Int.mul_pos b1 (by omega), (mulB (by omega) b2 (by omega) b3.2).2⟩
theorem ledN_lo (r o : Rt) {n : Int} (h0 : 0 ≤ n) (w : Wy) : 0 ≤ ledN r o n w := rnd_lo w (tBd r o n).1 (Int.mul_nonneg (tA_lo r h0) (by have := upB o; omega))
theorem ledN_self (r : Rt) (n : Int) (w : Wy) : ledN r r n w = n := by
  unfold ledN
  rw [tAB]; exact rnd_exact w n (tBd r r n).1
@[simp] theorem led_ok (hk : 6 ≤ k) (h0 : 0 ≤ n) (h1 : n < r.day) (h2 : ledN r o n w < o.day) : C k i_led [.str r.s, cd r n, .str o.s, .str w.s] = .ok (cd o (ledN r o n w)) := by
  have b1 := tB_lo r n
  have b2 := tB_hi r n
  have b3 := ledN_lo r o h0 w
  have e : ¬ (rnd w (tA r n * o.up) (tB r n * o.dn)) ≥ o.day := by unfold ledN at h2; omega
  rw [R_led (by omega)]
  unfold ledN at *
  simp (disch := omega) [F_led, h2]
@[simp] theorem led_far (hk : 6 ≤ k) (h0 : 0 ≤ n) (h1 : n < r.day) (h2 : o.day ≤ ledN r o n w) : C k i_led [.str r.s, cd r n, .str o.s, .str w.s] = .exc 5 := by
  have b1 := tB_lo r n
  have b2 := tB_hi r n
  have e : ¬ (rnd w (tA r n * o.up) (tB r n * o.dn)) < o.day := by unfold ledN at h2; omega
  rw [R_led (by omega)]
  simp (disch := omega) [F_led, e]
@[simp] theorem is_exact_ok (hk : 6 ≤ k) (h0 : 0 ≤ n) (h1 : n < r.day) : C k i_is_exact [.str r.s, cd r n, .str o.s] = .ok (.bl (decide (ledN r o n .down = ledN r o n .up))) := by
  have b1 := tB_lo r n
  have b2 := tB_hi r n
  rw [R_is_exact (by omega)]
  unfold ledN
  simp (disch := omega) [F_is_exact, frames_at_dn, frames_at_up]
def bigQ (a b : Rt) : Int := a.up * b.dn
def bigP (a b : Rt) : Int := a.dn * b.up
def stepN (a b : Rt) : Int := fa (bigQ a b) (bigP a b)
theorem bigB (a b : Rt) : 0 < a.dn * b.up ∧ a.dn * b.up ≤ 60060000 := by cases a <;> cases b <;> decide
@[simp] theorem exact_step_ok (hk : 4 ≤ k) : C k i_exact_step [.str r.s, .str o.s] = .ok (.int (stepN r o)) := by
  have := bigB r o
  have := upB r
  have := dnB r
  have := upB o
  have := dnB o
  rw [R_exact_step (by omega)]
  simp (disch := omega) [F_exact_step, stepN, bigQ, bigP]
/-- a fraction in lowest terms -/
def lowest (a b : Int) : Prop := fa a b = a ∧ fb a b = b
theorem low_low (u : Int) {d : Int} (h : 0 < d) : lowest (fa u d) (fb u d) := by
  have e := gI_low u h
  unfold lowest fa fb
  unfold fa fb at e
  rw [e]; simp
@[simp] theorem is_time_ok (hk : 2 ≤ k) (h0 : 0 ≤ a) (h1 : 0 < b) (h2 : b ≤ 60060000) (hl : lowest a b) : C k i_is_time [.tup [.int a, .int b]] = .ok (.bl true) := by
  obtain ⟨l1, l2⟩ := hl
  have e1 : ¬ a < 0 := by omega
  have e2 : cmpop .eq (.tup [.int a, .int b]) (.tup [.int a, .int b]) = .ok true := by simp [cmpop, D.shp, D.shpL, D.eqv, D.eqvL]
  rw [R_is_time (by omega)]
  simp (disch := omega) [F_is_time, X_is_time_0, l1, l2, e1, h1, e2]
@[simp] theorem code_at_time_ok (hk : 5 ≤ k) (h0 : 0 ≤ a) (h1 : 0 < b) (h2 : b ≤ 60000) (hl : lowest a b) (h3 : rnd w (a * r.up) (b * r.dn) < r.day) : C k i_code_at_time [.str r.s, .tup [.int a, .int b], .str w.s] = .ok (cd r (rnd w (a * r.up) (b * r.dn))) := by
  have b1 := upB r
  have b2 := dnB r
  have b4 : 0 < b * r.dn := Int.mul_pos h1 (by omega)
  have lo := rnd_lo w (u := a * r.up) b4 (Int.mul_nonneg h0 (by omega))
  rw [R_code_at_time (by omega)]
  simp (disch := first | omega | assumption) [F_code_at_time, h3]
@[simp] theorem code_at_time_far (hk : 5 ≤ k) (h0 : 0 ≤ a) (h1 : 0 < b) (h2 : b ≤ 60000) (hl : lowest a b) (h3 : r.day ≤ rnd w (a * r.up) (b * r.dn)) : C k i_code_at_time [.str r.s, .tup [.int a, .int b], .str w.s] = .exc 5 := by
  have e : ¬ (rnd w (a * r.up) (b * r.dn)) < r.day := by omega
  rw [R_code_at_time (by omega)]
  simp (disch := first | omega | assumption) [F_code_at_time, e]
end
end Fc
/-! Q6: more of the evaluator's rows; what a code is off. -/
namespace Fc
open PySem (Str)
open L2 (atI ixN)

def forK (o : O) (f : List Sl → O) : O := match o with
  | .nx σ => f σ
  | .ct σ => f σ
  | .bk σ => .nx σ
  | o => o
@[simp] theorem forK_nx (σ : List Sl) (f : List Sl → O) : forK (.nx σ) f = f σ := id rfl
@[simp] theorem forK_ct (σ : List Sl) (f : List Sl → O) : forK (.ct σ) f = f σ := id rfl
@[simp] theorem forK_bk (σ : List Sl) (f : List Sl → O) : forK (.bk σ) f = .nx σ := id rfl
@[simp] theorem forK_rt (d : D) (f : List Sl → O) : forK (.rt d) f = .rt d := id rfl
@[simp] theorem forK_ex (c : Nat) (σ : List Sl) (f : List Sl → O) : forK (.ex c σ) f = .ex c σ := id rfl
@[simp] theorem forK_ite (p : Prop) [Decidable p] (a b : O) (f : List Sl → O) : forK (if p then a else b) f = if p then forK a f else forK b f := by split <;> rfl
@[simp] theorem fo_nil' (G : Nat → R D) (C : Nat → List D → R D) (F : Nat) (fr : Bool) (t : Tg) (b : S) (σ : List Sl) : foS G C F fr t b [] σ = .nx σ := id rfl
@[simp] theorem fo_cons (G : Nat → R D) (C : Nat → List D → R D) (F : Nat) (fr : Bool) (t : Tg) (b : S) (x : D) (r : List D) (σ : List Sl) : foS G C F fr t b (x :: r) σ = O.ofR σ (asg t x σ) fun σ => forK (evst G C F fr σ b) fun σ => foS G C F fr t b r σ := by
  unfold foS
  rw [forGo]
  cases asg t x σ with
  | ok σ1 =>
    simp only [ofR_ok]
    cases evst G C F fr σ1 b <;> rfl
  | _ => rfl
@[simp] theorem eq_t2 (a b c d : Int) : cmpop .eq (.tup [.int a, .int b]) (.tup [.int c, .int d]) = .ok (decide (a = c ∧ b = d)) := by
  by_cases h1 : a = c <;> by_cases h2 : b = d <;> simp [cmpop, D.shp, D.shpL, D.eqv, D.eqvL, h1, h2]
@[simp] theorem ne_t2 (a b c d : Int) : cmpop .ne (.tup [.int a, .int b]) (.tup [.int c, .int d]) = .ok (decide (¬ (a = c ∧ b = d))) := by
  by_cases h1 : a = c <;> by_cases h2 : b = d <;> simp [cmpop, D.shp, D.shpL, D.eqv, D.eqvL, h1, h2]
@[simp] theorem is_true (b : Bool) : cmpop .is (.bl b) (.bl true) = .ok b := by cases b <;> rfl
@[simp] theorem is_false (b : Bool) : cmpop .is (.bl b) (.bl false) = .ok (!b) := by cases b <;> rfl
@[simp] theorem isnot_true (b : Bool) : cmpop .isnot (.bl b) (.bl true) = .ok (!b) := by cases b <;> rfl
@[simp] theorem isnot_false (b : Bool) : cmpop .isnot (.bl b) (.bl false) = .ok b := by cases b <;> rfl

/-! ### what a code is off -/
theorem off_K (r : Rt) {n : Int} (h0 : 0 ≤ n) (h1 : n < r.day) : -(r.fig * r.up) < 5 * (n * r.dn * r.fig - tld r n * r.up) ∧ 5 * (n * r.dn * r.fig - tld r n * r.up) < r.fig * r.up ∧ (r.lo = 0 → n * r.dn * r.fig - tld r n * r.up = 0) := by
  have c := cat_ok r h0 h1
  have e := cnt_cat r h0 h1
  unfold tld
  revert c e
  generalize r.ch n = h; generalize r.cm n = m; generalize r.cs n = s; generalize r.cf n = f
  unfold Rt.ok Rt.shp Rt.out Rt.cnt
  intro c e
  have w1 : (60 * h + m) / 10 = 6 * h + m / 10 := by omega
  rw [w1] at e
  subst e
  cases r <;> simp only [Rt.fig, Rt.lo, Rt.up, Rt.dn] at * <;> omega
theorem off_X (r : Rt) (n : Int) : dX r n * r.up = tB r n * (n * r.dn * r.fig - tld r n * r.up) := by
  have e := tAB r n
  unfold dX
  generalize tA r n = a at *; generalize tB r n = b at *; generalize tld r n = t at *
  grind
theorem dY_pos (r : Rt) (n : Int) : 0 < dY r n := Int.mul_pos (tB_lo r n) (by have := figB r; omega)
theorem off_lt (r : Rt) {n : Int} (h0 : 0 ≤ n) (h1 : n < r.day) : (((fa (dX r n) (dY r n)).natAbs : Nat) : Int) * 5 < fb (dX r n) (dY r n) := by
  obtain ⟨k1, k2, _⟩ := off_K r h0 h1
  have e := off_X r n
  have b := tB_lo r n
  have u := upB r
  have y := dY_pos r n
  have g := gI_pos (dX r n) y
  have ea := fa_g (dX r n) (dY r n)
  have eb := fb_g (dX r n) (dY r n)
  have q1 : 5 * dX r n < dY r n := by
    refine Int.lt_of_mul_lt_mul_right (a := r.up) ?_ (by omega)
    have := Int.mul_lt_mul_of_pos_left k2 b
    unfold dY
    grind
  have q2 : -(dY r n) < 5 * dX r n := by
    refine Int.lt_of_mul_lt_mul_right (a := r.up) ?_ (by omega)
    have := Int.mul_lt_mul_of_pos_left k1 b
    unfold dY
    grind
  have q3 : 5 * fa (dX r n) (dY r n) < fb (dX r n) (dY r n) := by
    refine Int.lt_of_mul_lt_mul_right (a := gI (dX r n) (dY r n)) ?_ (by omega)
    rw [Int.mul_assoc, ea, eb]; exact q1
  have q4 : -(fb (dX r n) (dY r n)) < 5 * fa (dX r n) (dY r n) := by
    refine Int.lt_of_mul_lt_mul_right (a := gI (dX r n) (dY r n)) ?_ (by omega)
    rw [Int.mul_assoc, ea, Int.neg_mul, eb]; exact q2
  omega
theorem fa_zero {d : Int} (h : 0 < d) : fa 0 d = 0 := by unfold fa; simp
theorem fb_zero {d : Int} (h : 0 < d) : fb 0 d = 1 := by
  unfold fb gI
  rw [Int.gcd_zero_left]
  rw [Int.natAbs_of_nonneg (by omega)]
  exact Int.ediv_self (by omega)
theorem off_0 (r : Rt) {n : Int} (h0 : 0 ≤ n) (h1 : n < r.day) (l : r.lo = 0) : fa (dX r n) (dY r n) = 0 ∧ fb (dX r n) (dY r n) = 1 := by
  obtain ⟨_, _, k⟩ := off_K r h0 h1
  have e := off_X r n
  rw [k l, Int.mul_zero] at e
  have u := upB r
  have x : dX r n = 0 := by
    rcases Int.mul_eq_zero.mp e with h | h
    · exact h
    · omega
  rw [x]
  exact ⟨fa_zero (dY_pos r n), fb_zero (dY_pos r n)⟩
end Fc
/-! Q7: frames shown. -/
namespace Fc
open PySem (Str)
open L2 (atI ixN)

/-- a comprehension, its items kept by p and told by g -/
theorem lc_fm {α : Type} {G : Nat → R D} {C : Nat → List D → R D} {σ : List Sl} {elt : E} {t : Tg} {cond : Option E} (enc : α → D) (p : α → Bool) (g : α → D) : ∀ {xs : List α}, (∀ x ∈ xs, ∃ σ1, asg t (enc x) (wipeS σ (tgv t)) = .ok σ1 ∧ evc G C σ1 cond = .ok (p x) ∧ (p x = true → ev G C σ1 elt = .ok (g x))) → lcS G C σ elt t cond (xs.map enc) = .ok ((xs.filter p).map g)
  | [], _ => rfl
  | x :: r, h => by
    obtain ⟨σ1, h1, h2, h3⟩ := h x (List.mem_cons_self ..)
    have ih := lc_fm enc p g (xs := r) fun y hy => h y (List.mem_cons_of_mem _ hy)
    rw [List.map_cons, lc_cons, h1, R.bind_ok, h2, R.bind_ok, ih]
    by_cases hp : p x = true
    · rw [hp, ifR_t, h3 hp, List.filter_cons_of_pos hp]; rfl
    · rw [Bool.not_eq_true] at hp
      rw [hp, ifR_f, List.filter_cons_of_neg (by simp [hp])]
theorem lc_mp {α : Type} {G : Nat → R D} {C : Nat → List D → R D} {σ : List Sl} {elt : E} {t : Tg} (enc : α → D) (g : α → D) {xs : List α} (h : ∀ x ∈ xs, ∃ σ1, asg t (enc x) (wipeS σ (tgv t)) = .ok σ1 ∧ ev G C σ1 elt = .ok (g x)) : lcS G C σ elt t none (xs.map enc) = .ok (xs.map g) := by
  have := lc_fm (cond := none) enc (fun _ => true) g (xs := xs) fun x hx => by
    obtain ⟨σ1, h1, h2⟩ := h x hx
    exact ⟨σ1, h1, rfl, fun _ => h2⟩
  rw [this, List.filter_eq_self.mpr (fun _ _ => rfl)]
theorem rangeD_map (n : Nat) : rangeD 0 n = (List.range n).map fun (k : Nat) => D.int (k : Int) := by
  unfold rangeD; simp
theorem mkL_le {xs : List D} (h : xs.length ≤ 16777216) : mkL xs = .ok (.lst xs) := mkL_ok h
/-- a list of ints -/
def il (l : List Int) : D := .lst (l.map .int)
theorem eqvL_ints : ∀ ns ms : List Int, D.eqvL (ns.map .int) (ms.map .int) = decide (ns = ms)
  | [], [] => rfl
  | [], _ :: _ => rfl
  | _ :: _, [] => rfl
  | n :: r, m :: s => by
    simp only [List.map_cons, D.eqvL, D.eqv, eqvL_ints r s]
    by_cases h : n = m <;> by_cases h2 : r = s <;> simp [h, h2]
@[simp] theorem eq_il (ns ms : List Int) : cmpop .eq (il ns) (il ms) = .ok (decide (ns = ms)) := by
  unfold il
  show (if (D.shp 60 (.lst (ns.map .int)) && D.shp 60 (.lst (ms.map .int))) = true then _ else _) = _
  rw [shp_ints, shp_ints]
  show R.ok (D.eqvL _ _) = _
  rw [eqvL_ints]
@[simp] theorem ne_il (ns ms : List Int) : cmpop .ne (il ns) (il ms) = .ok (decide (¬ ns = ms)) := by
  unfold il
  show (if (D.shp 60 (.lst (ns.map .int)) && D.shp 60 (.lst (ms.map .int))) = true then _ else _) = _
  rw [shp_ints, shp_ints]
  show R.ok (!D.eqvL _ _) = _
  rw [eqvL_ints, decide_not]
theorem sl_to {xs : List D} {m : Int} (h0 : 0 ≤ m) (h1 : m ≤ xs.length) : sliceD (.lst xs) none (some m) = .ok (.lst (xs.take m.toNat)) := by
  obtain ⟨n, rfl⟩ : ∃ n : Nat, m = n := ⟨m.toNat, by omega⟩
  show R.ok (D.lst (cut xs none (some (n : Int)))) = _
  unfold cut
  rw [HT.sIx_nat]
  have : HT.sIx xs.length 0 none = 0 := rfl
  rw [this, List.drop_zero, Nat.sub_zero]
  have : min n xs.length = n := by omega
  simp [this]

@[simp] theorem b2_min (i j : Int) : b2 .min (.int i) (.int j) = .ok (.int (min i j)) := by
  show R.ok (D.int (if j < i then j else i)) = _
  congr 2; split <;> omega
@[simp] theorem b2_max (i j : Int) : b2 .max (.int i) (.int j) = .ok (.int (max i j)) := by
  show R.ok (D.int (if j > i then j else i)) = _
  congr 2; split <;> omega
theorem ix_neg1 {xs : List D} (h : 0 < xs.length) : ixD (.lst xs) (.int (-1)) = .ok (xs.getD (xs.length - 1) .non) := by
  show opt (atI xs (-1)) = _
  have e : ixN xs.length (-1) = some (xs.length - 1) := by
    unfold ixN
    simp
    omega
  unfold atI
  rw [e]
  have : xs.length - 1 < xs.length := by omega
  simp [this]
theorem add_lst {xs ys : List D} (h : xs.length + ys.length ≤ 16777216) : binop .add (.lst xs) (.lst ys) = .ok (.lst (xs ++ ys)) := if_pos h
@[simp] theorem ne_nn : cmpop .ne .non .non = .ok false := id rfl
@[simp] theorem eq_nn : cmpop .eq .non .non = .ok true := id rfl
@[simp] theorem ne_ni (i : Int) : cmpop .ne .non (.int i) = .ok true := id rfl
@[simp] theorem ne_in (i : Int) : cmpop .ne (.int i) .non = .ok true := id rfl
@[simp] theorem isNon_int (i : Int) : isNon (.int i) = false := id rfl
@[simp] theorem isNon_non : isNon .non = true := id rfl
@[simp] theorem isNon_tup (xs : List D) : isNon (.tup xs) = false := id rfl
@[simp] theorem isNon_lst (xs : List D) : isNon (.lst xs) = false := id rfl
@[simp] theorem isNon_str (x : Str) : isNon (.str x) = false := id rfl
@[simp] theorem isNon_bl (x : Bool) : isNon (.bl x) = false := id rfl
/-! ### pulls -/
def cN (a b : Rt) (n : Int) : Int := -(-(n * bigP a b) / bigQ a b)
def begN (a b : Rt) (n : Int) : Int := n * bigQ a b / bigP a b
theorem bQ (a b : Rt) : 0 < bigQ a b ∧ bigQ a b ≤ 60060000 := by cases a <;> cases b <;> decide
theorem bP (a b : Rt) : 0 < bigP a b ∧ bigP a b ≤ 60060000 := by cases a <;> cases b <;> decide
/-- the first frame that is not ahead -/
theorem cN_le (a b : Rt) (n i : Int) : cN a b n ≤ i ↔ n * bigP a b ≤ i * bigQ a b := by
  have q := (bQ a b).1
  unfold cN
  have e : -(-(n * bigP a b) / bigQ a b) ≤ i ↔ -i ≤ -(n * bigP a b) / bigQ a b := by omega
  rw [e, Int.le_ediv_iff_mul_le q, Int.neg_mul]
  omega
theorem begN_le (a b : Rt) (n i : Int) : n ≤ begN a b i ↔ n * bigP a b ≤ i * bigQ a b := Int.le_ediv_iff_mul_le (bP a b).1
/-- frame i shows n just between the two firsts -/
theorem beg_eq (a b : Rt) (n i : Int) : begN a b i = n ↔ cN a b n ≤ i ∧ i < cN a b (n + 1) := by
  have h1 := begN_le a b n i
  have h2 := begN_le a b (n + 1) i
  have h3 := cN_le a b n i
  have h4 := cN_le a b (n + 1) i
  omega
theorem cN_mono (a b : Rt) (n : Int) : cN a b n ≤ cN a b (n + 1) := by
  refine (cN_le a b n _).mpr ?_
  have := (cN_le a b (n + 1) (cN a b (n + 1))).mp (Int.le_refl _)
  have p := (bP a b).1
  rw [Int.add_mul, Int.one_mul] at this
  omega
theorem cN_lo (a b : Rt) {n : Int} (h : 0 ≤ n) : 0 ≤ cN a b n := by
  by_cases q : cN a b n ≤ -1
  · have := (cN_le a b n (-1)).mp q
    have p := (bQ a b).1
    have := Int.mul_nonneg h (show 0 ≤ bigP a b by have := (bP a b).1; omega)
    omega
  · omega
section
variable {k : Nat} {r o a b : Rt} {n m : Int} {ns : List Int}
@[simp] theorem look_both_ok (hk : 3 ≤ k) : C k i_look_both [.str a.s, .str b.s] = .ok .non := by
  rw [R_look_both (by omega)]
  simp (disch := omega) [F_look_both]
@[simp] theorem first_after_ok (hk : 4 ≤ k) : C k i_first_after [.str a.s, .str b.s, .int n] = .ok (.int (cN a b n)) := by
  have u := upB a
  have v := dnB a
  have w := upB b
  have x := dnB b
  have q := bQ a b
  unfold bigQ at q
  rw [R_first_after (by omega)]
  simp (disch := omega) [F_first_after, cN, bigP, bigQ, Int.mul_assoc]
@[simp] theorem begun_ok (hk : 4 ≤ k) : C k i_begun [.str a.s, .str b.s, .int n] = .ok (.int (begN a b n)) := by
  have u := upB a
  have v := dnB a
  have w := upB b
  have x := dnB b
  have q := bP a b
  unfold bigP at q
  rw [R_begun (by omega)]
  simp (disch := omega) [F_begun, begN, bigP, bigQ, Int.mul_assoc]
@[simp] theorem look_number_ok (hk : 2 ≤ k) (h : 0 ≤ n) : C k i_look_number [.int n, .non] = .ok .non := by
  rw [R_look_number (by omega)]
  have e : ¬ n < 0 := by omega
  simp (disch := omega) [F_look_number, e, isNon]
@[simp] theorem look_number_ok2 (hk : 2 ≤ k) (h : 0 ≤ n) (h2 : n ≤ m) : C k i_look_number [.int n, .int m] = .ok .non := by
  rw [R_look_number (by omega)]
  have e : ¬ n < 0 := by omega
  simp (disch := omega) [F_look_number, e, isNon, is_whole_ok, h, h2]
@[simp] theorem shows_ok (hk : 5 ≤ k) (h : 0 ≤ n) : C k i_shows [.str a.s, .str b.s, .int n] = .ok (.int (cN a b (n + 1) - cN a b n)) := by
  rw [R_shows (by omega)]
  simp (disch := omega) [F_shows]
@[simp] theorem first_shown_ok (hk : 6 ≤ k) (h : 0 ≤ n) : C k i_first_shown [.str a.s, .str b.s, .int n] = .ok (if cN a b (n + 1) - cN a b n = 0 then .non else .int (cN a b n)) := by
  rw [R_first_shown (by omega)]
  by_cases z : cN a b (n + 1) - cN a b n = 0
  · simp (disch := omega) [F_first_shown, z]
  · simp (disch := omega) [F_first_shown, z]
def due (a b : Rt) (m : Nat) : List Int := (List.range m).map fun (i : Nat) => begN a b i
theorem due_len (a b : Rt) (m : Nat) : (due a b m).length = m := by simp [due]
@[simp] theorem shown_ok (hk : 6 ≤ k) (h : 0 ≤ m) (h2 : m ≤ 2000) : C k i_shown [.str a.s, .str b.s, .int m] = .ok (il (due a b m.toNat)) := by
  have hm : midR m = true := midR_of (by omega) (by omega)
  have lc : lcS G (C (k - 1)) [.val (.str a.s), .val (.str b.s), .val (.int m), .no] X_shown_0 (.nm 3) none (rangeD 0 m.toNat) = .ok ((due a b m.toNat).map .int) := by
    rw [rangeD_map]
    refine (lc_mp (α := Nat) (fun i => D.int i) (fun i => .int (begN a b i)) (xs := List.range m.toNat) fun i hi => ?_).trans ?_
    · exact ⟨_, rfl, by simp (disch := omega) [X_shown_0]⟩
    · simp [due]
  have hl : mkL ((due a b m.toNat).map .int) = .ok (il (due a b m.toNat)) := mkL_le (by simp [due_len]; omega)
  rw [R_shown (by omega)]
  simp (disch := omega) [F_shown, hm, lc, hl]
theorem due_take (a b : Rt) {n m : Nat} (h : n ≤ m) : (due a b m).take n = due a b n := by
  unfold due
  rw [← List.map_take, List.take_range, Nat.min_eq_left h]
end
end Fc
/-! Q8: spans. -/
namespace Fc
open PySem (Str)
open L2 (atI ixN)

abbrev sp (r : Rt) (a b : Int) : D := .tup [cd r a, cd r b]
theorem dmod_lo (r : Rt) (x : Int) : 0 ≤ x % r.day := (dmodB r x).1
theorem dmod_hi (r : Rt) (x : Int) : x % r.day < r.day := (dmodB r x).2
section
variable {r : Rt} {a b c d : Int}
@[simp] theorem max_cd (a0 : 0 ≤ a) (a1 : a < r.day) (b0 : 0 ≤ b) (b1 : b < r.day) : b2 .max (cd r a) (cd r b) = .ok (cd r (max a b)) := by
  have e : b2 .max (cd r a) (cd r b) = if (D.alk (cd r a) (cd r b) && D.shp 60 (cd r a) && D.shp 60 (cd r b)) = true then .ok (if D.lt (cd r a) (cd r b) = true then cd r b else cd r a) else .stk := rfl
  rw [e, alk_cd, shp_cd 59, shp_cd 59, lt_cd a0 a1 b0 b1]
  by_cases h : a < b
  · simp [h, Int.max_eq_right (Int.le_of_lt h)]
  · simp [h, Int.max_eq_left (Int.not_lt.mp h)]
@[simp] theorem min_cd (a0 : 0 ≤ a) (a1 : a < r.day) (b0 : 0 ≤ b) (b1 : b < r.day) : b2 .min (cd r a) (cd r b) = .ok (cd r (min a b)) := by
  have e : b2 .min (cd r a) (cd r b) = if (D.alk (cd r a) (cd r b) && D.shp 60 (cd r a) && D.shp 60 (cd r b)) = true then .ok (if D.lt (cd r b) (cd r a) = true then cd r b else cd r a) else .stk := rfl
  rw [e, alk_cd, shp_cd 59, shp_cd 59, lt_cd b0 b1 a0 a1]
  by_cases h : b < a
  · simp [h, Int.min_eq_right (Int.le_of_lt h)]
  · simp [h, Int.min_eq_left (Int.not_lt.mp h)]
theorem shp_sp (n : Nat) : D.shp (n + 2) (sp r a b) = true := by simp [sp, D.shp, D.shpL]
theorem eqv_sp (a0 : 0 ≤ a) (a1 : a < r.day) (b0 : 0 ≤ b) (b1 : b < r.day) (c0 : 0 ≤ c) (c1 : c < r.day) (d0 : 0 ≤ d) (d1 : d < r.day) : D.eqv (sp r a b) (sp r c d) = decide (a = c ∧ b = d) := by
  simp only [sp, D.eqv, D.eqvL, eqv_cd a0 a1 c0 c1, eqv_cd b0 b1 d0 d1, Bool.and_true, Bool.decide_and]
@[simp] theorem eq_sp (a0 : 0 ≤ a) (a1 : a < r.day) (b0 : 0 ≤ b) (b1 : b < r.day) (c0 : 0 ≤ c) (c1 : c < r.day) (d0 : 0 ≤ d) (d1 : d < r.day) : cmpop .eq (sp r a b) (sp r c d) = .ok (decide (a = c ∧ b = d)) := by
  have e : cmpop .eq (sp r a b) (sp r c d) = if (D.shp 60 (sp r a b) && D.shp 60 (sp r c d)) = true then .ok (D.eqv (sp r a b) (sp r c d)) else .stk := rfl
  rw [e, shp_sp 58, shp_sp 58, eqv_sp a0 a1 b0 b1 c0 c1 d0 d1]; rfl
@[simp] theorem ne_sp (a0 : 0 ≤ a) (a1 : a < r.day) (b0 : 0 ≤ b) (b1 : b < r.day) (c0 : 0 ≤ c) (c1 : c < r.day) (d0 : 0 ≤ d) (d1 : d < r.day) : cmpop .ne (sp r a b) (sp r c d) = .ok (decide (¬ (a = c ∧ b = d))) := by
  have e : cmpop .ne (sp r a b) (sp r c d) = if (D.shp 60 (sp r a b) && D.shp 60 (sp r c d)) = true then .ok (!D.eqv (sp r a b) (sp r c d)) else .stk := rfl
  rw [e, shp_sp 58, shp_sp 58, eqv_sp a0 a1 b0 b1 c0 c1 d0 d1, decide_not]; rfl
@[simp] theorem ne_sp_non : cmpop .ne (sp r a b) .non = .ok true := by
  have e : cmpop .ne (sp r a b) .non = if (D.shp 60 (sp r a b) && D.shp 60 .non) = true then .ok true else .stk := rfl
  rw [e, shp_sp 58]; rfl
@[simp] theorem eq_sp_non : cmpop .eq (sp r a b) .non = .ok false := by
  have e : cmpop .eq (sp r a b) .non = if (D.shp 60 (sp r a b) && D.shp 60 .non) = true then .ok false else .stk := rfl
  rw [e, shp_sp 58]; rfl
@[simp] theorem ne_non_sp : cmpop .ne .non (sp r a b) = .ok true := by
  have e : cmpop .ne .non (sp r a b) = if (D.shp 60 .non && D.shp 60 (sp r a b)) = true then .ok true else .stk := rfl
  rw [e, shp_sp 58]; rfl
end
section
variable {k : Nat} {r : Rt} {a b c d n m y : Int}
@[simp] theorem is_span_ok (hk : 4 ≤ k) (a0 : 0 ≤ a) (a1 : a < r.day) (b0 : 0 ≤ b) (b1 : b < r.day) : C k i_is_span [.str r.s, sp r a b] = .ok (.bl (decide (a < b))) := by
  rw [R_is_span (by omega)]
  simp (disch := omega) [F_is_span, X_is_span_0]
@[simp] theorem look_span_ok (hk : 5 ≤ k) (a0 : 0 ≤ a) (h : a < b) (b1 : b < r.day) : C k i_look_span [.str r.s, sp r a b] = .ok .non := by
  rw [R_look_span (by omega)]
  simp (disch := omega) [F_look_span, h]
@[simp] theorem look_span_no (hk : 5 ≤ k) (a0 : 0 ≤ a) (a1 : a < r.day) (b0 : 0 ≤ b) (b1 : b < r.day) (h : b ≤ a) : C k i_look_span [.str r.s, sp r a b] = .exc 4 := by
  rw [R_look_span (by omega)]
  simp (disch := omega) [F_look_span, show ¬ a < b by omega]
@[simp] theorem counts_in_ok (hk : 2 ≤ k) (a0 : 0 ≤ a) (a1 : a < r.day) (b0 : 0 ≤ b) (b1 : b < r.day) : C k i_counts_in [.str r.s, sp r a b] = .ok (.tup [.int a, .int b]) := by
  rw [R_counts_in (by omega)]
  simp (disch := omega) [F_counts_in]
@[simp] theorem span_of_ok (hk : 4 ≤ k) (a0 : 0 ≤ a) (a1 : a < r.day) (b0 : 0 ≤ b) (b1 : b < r.day) : C k i_span_of [.str r.s, .int a, .int b] = .ok (sp r a b) := by
  rw [R_span_of (by omega)]
  simp (disch := omega) [F_span_of]
@[simp] theorem long_ok (hk : 6 ≤ k) (a0 : 0 ≤ a) (h : a < b) (b1 : b < r.day) : C k i_long [.str r.s, sp r a b] = .ok (.int (b - a)) := by
  rw [R_long (by omega)]
  simp (disch := omega) [F_long]
@[simp] theorem shifted_ok (hk : 6 ≤ k) (a0 : 0 ≤ a) (h : a < b) (b1 : b < r.day) (h0 : 0 ≤ a + y) (h1 : b + y < r.day) : C k i_shifted [.str r.s, sp r a b, .int y] = .ok (sp r (a + y) (b + y)) := by
  rw [R_shifted (by omega)]
  simp (disch := omega) [F_shifted, show ¬ (a + y < 0) by omega, show ¬ (r.day ≤ b + y) by omega]
@[simp] theorem shifted_far (hk : 6 ≤ k) (a0 : 0 ≤ a) (h : a < b) (b1 : b < r.day) (h0 : a + y < 0 ∨ r.day ≤ b + y) : C k i_shifted [.str r.s, sp r a b, .int y] = .exc 5 := by
  rw [R_shifted (by omega)]
  by_cases q : a + y < 0
  · simp (disch := omega) [F_shifted, q]
  · simp (disch := omega) [F_shifted, q, show r.day ≤ b + y by omega]
theorem common_ok (hk : 6 ≤ k) (a0 : 0 ≤ a) (h : a < b) (b1 : b < r.day) (c0 : 0 ≤ c) (h2 : c < d) (d1 : d < r.day) : C k i_common [.str r.s, sp r a b, sp r c d] = .ok (if max a c < min b d then sp r (max a c) (min b d) else .non) := by
  rw [R_common (by omega)]
  by_cases q : max a c < min b d
  · simp (disch := omega) [F_common, q]
  · simp (disch := omega) [F_common, q]
theorem joined_ok (hk : 6 ≤ k) (a0 : 0 ≤ a) (h : a < b) (b1 : b < r.day) (c0 : 0 ≤ c) (h2 : c < d) (d1 : d < r.day) (q : max a c ≤ min b d) : C k i_joined [.str r.s, sp r a b, sp r c d] = .ok (sp r (min a c) (max b d)) := by
  rw [R_joined (by omega)]
  simp (disch := omega) [F_joined, show ¬ min b d < max a c by omega]
theorem joined_no (hk : 6 ≤ k) (a0 : 0 ≤ a) (h : a < b) (b1 : b < r.day) (c0 : 0 ≤ c) (h2 : c < d) (d1 : d < r.day) (q : min b d < max a c) : C k i_joined [.str r.s, sp r a b, sp r c d] = .exc 6 := by
  rw [R_joined (by omega)]
  simp (disch := omega) [F_joined, q]
theorem law_joined_ok (hk : 7 ≤ k) (a0 : 0 ≤ a) (h : a < b) (b1 : b < r.day) (c0 : 0 ≤ c) (h2 : c < d) (d1 : d < r.day) : C k i_law_joined [.str r.s, sp r a b, sp r c d] = .ok (if max a c ≤ min b d then sp r (min a c) (max b d) else .non) := by
  rw [R_law_joined (by omega)]
  by_cases q : max a c ≤ min b d
  · simp (disch := omega) [F_law_joined, joined_ok, q]
  · simp (disch := omega) [F_law_joined, joined_no, q, show subC 6 6 = true from rfl]
end
@[simp] theorem ixL0 {x : D} {l : List D} : ixD (.lst (x :: l)) (.int 0) = .ok x := by
  rw [ix_lst (by omega) (by simp)]; rfl
@[simp] theorem ixL1 {x y : D} {l : List D} : ixD (.lst (x :: y :: l)) (.int 1) = .ok y := by
  rw [ix_lst (by omega) (by simp; omega)]; rfl
@[simp] theorem ixT0 {x : D} {l : List D} : ixD (.tup (x :: l)) (.int 0) = .ok x := by
  rw [ix_tup (by omega) (by simp)]; rfl
@[simp] theorem ixT1 {x y : D} {l : List D} : ixD (.tup (x :: y :: l)) (.int 1) = .ok y := by
  rw [ix_tup (by omega) (by simp; omega)]; rfl
@[simp] theorem midR_s {i : Int} (h1 : -1000000000000 ≤ i) (h2 : i ≤ 1000000000000) : midR i = true := midR_of h1 h2
@[simp] theorem sizeMax_s : sizeMax = 16777216 := rfl
@[simp] theorem range2 : rangeD 0 2 = [.int 0, .int 1] := id rfl
@[simp] theorem range3 : rangeD 0 3 = [.int 0, .int 1, .int 2] := id rfl
end Fc
/-! Q9: things of any kind; refusals. -/
namespace Fc
open PySem (Str)
open L2 (atI ixN)

/-- no table, no error -/
def plT : D → Bool
  | .dic _ _ => false
  | .exv _ => false
  | _ => true
def plA : D → Bool
  | .tup xs => xs.all plT
  | x => plT x
theorem plT_shp {n : Nat} {x : D} (h : D.shp n x = true) : plT x = true := by
  cases x <;> first | rfl | (simp [D.shp] at h)
theorem plT_all {n : Nat} {xs : List D} (h : D.shpL n xs = true) : xs.all plT = true := by
  induction xs with
  | nil => rfl
  | cons x xs ih =>
    simp only [D.shpL, Bool.and_eq_true] at h
    simp [plT_shp h.1, ih h.2]
theorem plA_shp {n : Nat} {x : D} (h : D.shp (n + 1) x = true) : plA x = true := by
  cases x with
  | tup xs => exact plT_all (by simpa [D.shp] using h)
  | _ => exact plT_shp h
def whB (x : D) (lo hi : Int) : Bool := match x with
  | .int i => decide (lo ≤ i ∧ i ≤ hi)
  | _ => false
def shapeB (r : Rt) (x : D) : Bool := match x with
  | .tup [.int h, .int m, .int s, .int f] => decide (r.shp h m s f)
  | _ => false
def codeB (r : Rt) (x : D) : Bool := match x with
  | .tup [.int h, .int m, .int s, .int f] => decide (r.ok h m s f)
  | _ => false
section
variable {k : Nat} {r : Rt} {x y : D}
theorem is_whole_any {lo hi : Int} (hk : 1 ≤ k) (h : plT x = true) : C k i_is_whole [x, .int lo, .int hi] = .ok (.bl (whB x lo hi)) := by
  rw [R_is_whole hk]
  cases x with
  | dic _ _ => cases h
  | exv _ => cases h
  | int i =>
    simp [F_is_whole, whB, isTy]
    split <;> rename_i q <;> simp [q]
  | _ => simp [F_is_whole, whB, isTy]
theorem shape4 {a b c d : D} : (whB a 0 23 && (whB b 0 59 && (whB c 0 59 && whB d 0 (r.fig - 1)))) = shapeB r (.tup [a, b, c, d]) := by
  cases a <;> try rfl
  cases b <;> try simp [whB, shapeB]
  cases c <;> try simp [whB, shapeB]
  cases d <;> try simp [whB, shapeB]
  show _ = decide (r.shp _ _ _ _)
  rw [Bool.eq_iff_iff, decide_eq_true_iff]
  unfold Rt.shp
  simp [and_assoc]
theorem has_shape_any (hk : 2 ≤ k) (h : plA x = true) : C k i_has_shape [.str r.s, x] = .ok (.bl (shapeB r x)) := by
  rw [R_has_shape (by omega)]
  cases x with
  | tup xs =>
    rcases xs with _ | ⟨a, _ | ⟨b, _ | ⟨c, _ | ⟨d, _ | ⟨e, xs⟩⟩⟩⟩⟩
    · simp [F_has_shape, shapeB]
    · simp [F_has_shape, shapeB]
    · simp [F_has_shape, shapeB]
    · simp [F_has_shape, shapeB]
    · simp only [plA, List.all_cons, List.all_nil, Bool.and_true, Bool.and_eq_true] at h
      obtain ⟨h1, h2, h3, h4⟩ := h
      have e := shape4 (r := r) (a := a) (b := b) (c := c) (d := d)
      simp (disch := first | omega | assumption) [F_has_shape, X_has_shape_0, is_whole_any]
      exact e
    · have q : ¬ ((xs.length : Int) + 1 + 1 + 1 + 1 + 1 = 4) := by omega
      simp [F_has_shape, shapeB, q]
  | dic _ _ => cases h
  | exv _ => cases h
  | _ => simp [F_has_shape, shapeB, isTy]
theorem codeB_out {h m s f : Int} (q : shapeB r (.tup [.int h, .int m, .int s, .int f]) = true) : codeB r (.tup [.int h, .int m, .int s, .int f]) = !decide (r.out m s f) := by
  have q : r.shp h m s f := by simpa [shapeB] using q
  simp [codeB, Rt.ok, q]
theorem shape_ints (q : shapeB r x = true) : ∃ h m s f, x = .tup [.int h, .int m, .int s, .int f] := by
  unfold shapeB at q
  split at q
  · exact ⟨_, _, _, _, rfl⟩
  · cases q
theorem code_shape (q : shapeB r x = false) : codeB r x = false := by
  unfold codeB
  split
  · simp only [shapeB, decide_eq_false_iff_not] at q
    simp [Rt.ok, q]
  · rfl
theorem is_code_any (hk : 3 ≤ k) (h : plA x = true) : C k i_is_code [.str r.s, x] = .ok (.bl (codeB r x)) := by
  have e1 := has_shape_any (k := k - 1) (r := r) (x := x) (by omega) h
  rw [R_is_code (by omega)]
  cases q : shapeB r x with
  | false =>
    rw [q] at e1
    simp (disch := omega) [F_is_code, e1, code_shape q]
  | true =>
    rw [q] at e1
    obtain ⟨hh, m, s, f, rfl⟩ := shape_ints q
    have e2 := is_left_out_ok (k := k - 1) (r := r) (h := hh) (m := m) (s := s) (f := f) (by omega)
    simp (disch := omega) [F_is_code, e1, e2, codeB_out q]
theorem look_code_no (hk : 4 ≤ k) (h : plA x = true) (q : codeB r x = false) : C k i_look_code [.str r.s, x] = .exc 2 := by
  have e1 := is_code_any (k := k - 1) (r := r) (x := x) (by omega) h
  rw [q] at e1
  rw [R_look_code (by omega)]
  simp [F_look_code, e1]
/-! the law's walk -/
theorem law_is_code_B {s0 s1 : Sl} {a : D} {n : Int} (h : plT a = true) : evst G (C k) FF false [s0, s1, .val a, .val (.int n)] B_law_is_code_0 = if whB a 0 (n - 1) = true then .nx [s0, s1, .val a, .val (.int n)] else .rt (.bl false) := by
  cases a with
  | dic _ _ => cases h
  | exv _ => cases h
  | int i =>
    by_cases q : 0 ≤ i
    · by_cases q' : i < n
      · simp [B_law_is_code_0, whB, isTy, q, q', show i ≤ n - 1 by omega]
      · simp [B_law_is_code_0, whB, isTy, q, q', show ¬ i ≤ n - 1 by omega]
    · simp [B_law_is_code_0, whB, isTy, q]
  | _ => simp [B_law_is_code_0, whB, isTy]
theorem law_is_code_any (hk : 3 ≤ k) (h : plA x = true) : C k i_law_is_code [.str r.s, x] = .ok (.bl (codeB r x)) := by
  rw [R_law_is_code (by omega)]
  cases x with
  | tup xs =>
    rcases xs with _ | ⟨a, _ | ⟨b, _ | ⟨c, _ | ⟨d, _ | ⟨e, xs⟩⟩⟩⟩⟩
    · simp [F_law_is_code, codeB]
    · simp [F_law_is_code, codeB]
    · simp [F_law_is_code, codeB]
    · simp [F_law_is_code, codeB]
    · simp only [plA, List.all_cons, List.all_nil, Bool.and_true, Bool.and_eq_true] at h
      obtain ⟨h1, h2, h3, h4⟩ := h
      have e := shape4 (r := r) (a := a) (b := b) (c := c) (d := d)
      cases q : shapeB r (.tup [a, b, c, d]) with
      | false =>
        rw [q] at e
        rw [code_shape q]
        simp (disch := first | omega | assumption) [F_law_is_code, fo_cons, law_is_code_B]
        cases q1 : whB a 0 23 <;> cases q2 : whB b 0 59 <;> cases q3 : whB c 0 59 <;> cases q4 : whB d 0 (r.fig - 1) <;> simp_all
      | true =>
        rw [q] at e
        simp only [Bool.and_eq_true] at e
        obtain ⟨e1, e2, e3, e4⟩ := e
        obtain ⟨hh, m, s, f, z⟩ := shape_ints q
        cases z
        have sh : r.shp hh m s f := by simpa [shapeB] using q
        have o := law_is_out_ok (k := k - 1) (by omega) sh
        rw [codeB_out q]
        simp (disch := first | omega | assumption) [F_law_is_code, fo_cons, law_is_code_B, e1, e2, e3, e4, o]
    · have q : ¬ ((xs.length : Int) + 1 + 1 + 1 + 1 + 1 = 4) := by omega
      simp [F_law_is_code, codeB, q]
  | dic _ _ => cases h
  | exv _ => cases h
  | _ => simp [F_law_is_code, codeB, isTy]
end
@[simp] theorem range4 : rangeD 0 4 = [.int 0, .int 1, .int 2, .int 3] := id rfl
@[simp] theorem range5 : rangeD 0 5 = [.int 0, .int 1, .int 2, .int 3, .int 4] := id rfl
@[simp] theorem range6 : rangeD 0 6 = [.int 0, .int 1, .int 2, .int 3, .int 4, .int 5] := id rfl
@[simp] theorem range7 : rangeD 0 7 = [.int 0, .int 1, .int 2, .int 3, .int 4, .int 5, .int 6] := id rfl
@[simp] theorem range8 : rangeD 0 8 = [.int 0, .int 1, .int 2, .int 3, .int 4, .int 5, .int 6, .int 7] := id rfl
abbrev w2 : D := .str ⟨#[110, 111, 32, 99, 111, 100, 101]⟩
@[simp] theorem law_word_2 {k : Nat} (hk : 1 ≤ k) : C k i_law_word [.exv 2] = .ok w2 := by
  rw [R_law_word hk]; kernel_rfl
abbrev w6 : D := .str ⟨#[110, 111, 32, 102, 105, 116]⟩
@[simp] theorem law_word_6 {k : Nat} (hk : 1 ≤ k) : C k i_law_word [.exv 6] = .ok w6 := by
  rw [R_law_word hk]; kernel_rfl
abbrev w3 : D := .str ⟨#[110, 111, 32, 110, 117, 109, 98, 101, 114]⟩
@[simp] theorem law_word_3 {k : Nat} (hk : 1 ≤ k) : C k i_law_word [.exv 3] = .ok w3 := by
  rw [R_law_word hk]; kernel_rfl
abbrev w1 : D := .str ⟨#[110, 111, 32, 114, 97, 116, 101]⟩
@[simp] theorem law_word_1 {k : Nat} (hk : 1 ≤ k) : C k i_law_word [.exv 1] = .ok w1 := by
  rw [R_law_word hk]; kernel_rfl
abbrev w4 : D := .str ⟨#[110, 111, 32, 115, 112, 97, 110]⟩
@[simp] theorem law_word_4 {k : Nat} (hk : 1 ≤ k) : C k i_law_word [.exv 4] = .ok w4 := by
  rw [R_law_word hk]; kernel_rfl
abbrev w7 : D := .str ⟨#[110, 111, 32, 116, 101, 120, 116]⟩
@[simp] theorem law_word_7 {k : Nat} (hk : 1 ≤ k) : C k i_law_word [.exv 7] = .ok w7 := by
  rw [R_law_word hk]; kernel_rfl
abbrev w5 : D := .str ⟨#[116, 111, 111, 32, 102, 97, 114]⟩
@[simp] theorem law_word_5 {k : Nat} (hk : 1 ≤ k) : C k i_law_word [.exv 5] = .ok w5 := by
  rw [R_law_word hk]; kernel_rfl
@[simp] theorem eq_t0 : cmpop .eq (.tup []) (.tup []) = .ok true := rfl
@[simp] theorem eq_t1 {i : Int} : cmpop .eq (.tup [.int i]) (.tup []) = .ok false := rfl
@[simp] theorem ne_4 {a b c d : Int} : cmpop .ne (.tup [.int a, .int b, .int c, .int d]) (.tup []) = .ok true := rfl
@[simp] theorem ixT2 {a b c : D} {l : List D} : ixD (.tup (a :: b :: c :: l)) (.int 2) = .ok c := by
  rw [ix_tup (by omega) (by simp; omega)]; rfl
@[simp] theorem ixT3 {a b c d : D} {l : List D} : ixD (.tup (a :: b :: c :: d :: l)) (.int 3) = .ok d := by
  rw [ix_tup (by omega) (by simp; omega)]; rfl
theorem slT_to {xs : List D} {i : Int} (h0 : 0 ≤ i) (h1 : i.toNat ≤ xs.length) : sliceD (.tup xs) none (some i) = .ok (.tup (xs.take i.toNat)) := by
  obtain ⟨n, rfl⟩ : ∃ n : Nat, i = n := ⟨i.toNat, by omega⟩
  show R.ok (D.tup (cut xs none (some (n : Int)))) = _
  unfold cut
  rw [HT.sIx_nat]
  have : HT.sIx xs.length 0 none = 0 := rfl
  rw [this, List.drop_zero, Nat.sub_zero]
  have : min n xs.length = n := by simp at h1; omega
  simp [this]
theorem slT_from {xs : List D} {i : Int} (h0 : 0 ≤ i) (h1 : i.toNat ≤ xs.length) : sliceD (.tup xs) (some i) none = .ok (.tup (xs.drop i.toNat)) := by
  obtain ⟨n, rfl⟩ : ∃ n : Nat, i = n := ⟨i.toNat, by omega⟩
  show R.ok (D.tup (cut xs (some (n : Int)) none)) = _
  unfold cut
  rw [HT.sIx_nat]
  have : HT.sIx xs.length xs.length none = xs.length := rfl
  rw [this]
  have : min n xs.length = n := by simp at h1; omega
  rw [this, List.take_of_length_le (by simp)]
  rfl
@[simp] theorem ixL2 {a b c : D} {l : List D} : ixD (.lst (a :: b :: c :: l)) (.int 2) = .ok c := by
  rw [ix_lst (by omega) (by simp; omega)]; rfl
@[simp] theorem ixL3 {a b c d : D} {l : List D} : ixD (.lst (a :: b :: c :: d :: l)) (.int 3) = .ok d := by
  rw [ix_lst (by omega) (by simp; omega)]; rfl
@[simp] theorem ixL4 {a b c d e : D} {l : List D} : ixD (.lst (a :: b :: c :: d :: e :: l)) (.int 4) = .ok e := by
  rw [ix_lst (by omega) (by simp; omega)]; rfl
theorem ixLn {xs : List D} {i : Int} (m : Nat) (hm : Nat.beq xs.length m = true) (h0 : 0 ≤ i) (h : i < m) : ixD (.lst xs) (.int i) = .ok (xs.getD i.toNat .non) := ix_lst h0 (by rw [Nat.eq_of_beq_eq_true hm]; exact h)
theorem isTy_tup {n : Int} : isTy (.int n) .tup = .ok false := rfl
theorem isTy_int {n : Int} : isTy (.int n) .int = .ok true := rfl
theorem isTy_int2 {n : List D} : isTy (.tup n) .int = .ok false := rfl
section
variable {k : Nat} {r : Rt} {x y : D}
theorem law_places_int {n : Int} (hk : 1 ≤ k) : C k i_law_places [.int n] = .ok (.lst [.tup []]) := by
  rw [R_law_places (by omega)]; simp [F_law_places, isTy]
theorem law_places_4 {a b c d : Int} (hk : 2 ≤ k) : C k i_law_places [.tup [.int a, .int b, .int c, .int d]] = .ok (.lst [.tup [], .tup [.int 0], .tup [.int 1], .tup [.int 2], .tup [.int 3]]) := by
  rw [R_law_places (by omega)]
  simp (disch := first | omega | exact Nat.le_of_ble_eq_true rfl) [F_law_places, B_law_places_1, X_law_places_0, law_places_int, fo_cons, lc_cons, add_tup]
theorem law_put_0 {t v : D} (hk : 1 ≤ k) : C k i_law_put [t, .tup [], v] = .ok v := by
  rw [R_law_put (by omega)]; simp [F_law_put]
theorem law_put_1 {a b c d v : D} {i : Int} (hk : 2 ≤ k) (h : i = 0 ∨ i = 1 ∨ i = 2 ∨ i = 3) : C k i_law_put [.tup [a, b, c, d], .tup [.int i], v] = .ok (.tup [if i = 0 then v else a, if i = 1 then v else b, if i = 2 then v else c, if i = 3 then v else d]) := by
  rw [R_law_put (by omega)]
  rcases h with rfl | rfl | rfl | rfl <;> simp (disch := first | omega | exact Nat.le_of_ble_eq_true rfl) [F_law_put, law_put_0, add_tup, slT_to, slT_from]
theorem getD_any {P : D → Prop} : ∀ {l : List D} {i : Nat}, (∀ x ∈ l, P x) → i < l.length → P (l.getD i .non) := by
  intro l
  induction l with
  | nil => intro i _ h; cases h
  | cons x l ih =>
    intro i h1 h2
    cases i with
    | zero => exact h1 _ (List.mem_cons_self ..)
    | succ i => exact ih (fun y hy => h1 y (List.mem_cons_of_mem _ hy)) (by simpa using h2)
set_option maxHeartbeats 4000000 in
theorem spoilt_4 {ns : List Int} {j a b c d : Int} (hk : 3 ≤ k) (hj : 0 ≤ j) : ∃ w, C k i_law_spoilt_thing [scr ns, .int j, .tup [.int a, .int b, .int c, .int d]] = .ok w ∧ plA w = true := by
  rw [R_law_spoilt_thing (by omega)]
  have pl := law_places_4 (k := k - 1) (a := a) (b := b) (c := c) (d := d) (by omega)
  have p5 := pkB ns j (show (0 : Int) < 5 by decide)
  have p23 := pkB ns (j + 1) (show (0 : Int) < 23 by decide)
  have p4 := pkB ns (j + 2) (show (0 : Int) < 4 by decide)
  have o17 : ∀ x y : D, ∀ z ∈ [D.int 0, D.int 1, D.int 23, D.int 24, D.int 25, D.int 30, D.int 59, D.int 60, D.int (-1), D.bl true, D.non, D.str { cps := #[49] }, D.tup [], D.tup [D.int 0, D.int 0], D.lst [D.int 0], D.tup [x], D.tup [x, y]], plT z = true := by
    intro x y; simp [plT]
  have o17 : ∀ x y : D, ∀ {i : Int}, 0 ≤ i → i < 17 → plT ([D.int 0, D.int 1, D.int 23, D.int 24, D.int 25, D.int 30, D.int 59, D.int 60, D.int (-1), D.bl true, D.non, D.str { cps := #[49] }, D.tup [], D.tup [D.int 0, D.int 0], D.lst [D.int 0], D.tup [x], D.tup [x, y]].getD i.toNat .non) = true := by
    intro x y i h0 h1
    exact getD_any (P := fun z => plT z = true) (o17 x y) (by simp; omega)
  have oA : ∀ x y : D, plT x = true → plT y = true → ∀ z ∈ [D.int 0, D.int 1, D.int 23, D.int 24, D.int 25, D.int 30, D.int 59, D.int 60, D.int (-1), D.bl true, D.non, D.str { cps := #[49] }, D.tup [], D.tup [D.int 0, D.int 0], D.lst [D.int 0], D.tup [x], D.tup [x, y]], plA z = true := by
    intro x y hx hy
    simp only [List.forall_mem_cons]
    exact ⟨rfl, rfl, rfl, rfl, rfl, rfl, rfl, rfl, rfl, rfl, rfl, rfl, rfl, rfl, rfl, by simp [plA, hx], by simp [plA, hx, hy], by simp⟩
  have oA : ∀ x y : D, plT x = true → plT y = true → ∀ {i : Int}, 0 ≤ i → i < 17 → plA ([D.int 0, D.int 1, D.int 23, D.int 24, D.int 25, D.int 30, D.int 59, D.int 60, D.int (-1), D.bl true, D.non, D.str { cps := #[49] }, D.tup [], D.tup [D.int 0, D.int 0], D.lst [D.int 0], D.tup [x], D.tup [x, y]].getD i.toNat .non) = true := by
    intro x y hx hy i h0 h1
    exact getD_any (P := fun z => plA z = true) (oA x y hx hy) (by simp; omega)
  simp only [List.getD_eq_getElem?_getD] at o17 oA
  generalize hq : pk ns j 5 = q at *
  generalize hw : pk ns (j + 1) 23 = w at *
  generalize hp : pk ns (j + 2) 4 = p at *
  have q5 : q = 0 ∨ q = 1 ∨ q = 2 ∨ q = 3 ∨ q = 4 := by omega
  have pp : p = 0 ∨ p = 1 ∨ p = 2 ∨ p = 3 := by omega
  have i17 := fun x y : D => ixLn (xs := [D.int 0, D.int 1, D.int 23, D.int 24, D.int 25, D.int 30, D.int 59, D.int 60, D.int (-1), D.bl true, D.non, D.str { cps := #[49] }, D.tup [], D.tup [D.int 0, D.int 0], D.lst [D.int 0], D.tup [x], D.tup [x, y]]) (i := w) 17 rfl p23.1
  by_cases ww : w < 17
  · have i17 := fun x y : D => i17 x y ww
    rcases q5 with rfl | rfl | rfl | rfl | rfl
    · refine ⟨_, by simp (maxSteps := 2000000) (disch := first | omega | exact Nat.le_of_ble_eq_true rfl) [F_law_spoilt_thing, B_law_spoilt_thing_0, pl, hq, hw, hp, ix_lst, mkL_ok, i17, ww, law_put_0, law_put_1, fo_cons, add_tup, slT_to, slT_from, isTy_tup, isTy_int, isTy_int2]; rfl, ?_⟩
      exact oA _ _ rfl rfl p23.1 ww
    all_goals
      refine ⟨_, by simp (maxSteps := 2000000) (disch := first | omega | exact Nat.le_of_ble_eq_true rfl) [F_law_spoilt_thing, B_law_spoilt_thing_0, pl, hq, hw, hp, ix_lst, mkL_ok, i17, ww, law_put_0, law_put_1, fo_cons, add_tup, slT_to, slT_from, isTy_tup, isTy_int, isTy_int2]; rfl, ?_⟩
      simp only [plA, List.all_cons, List.all_nil, o17 _ _ p23.1 ww]
      rfl
  · rcases q5 with rfl | rfl | rfl | rfl | rfl
    · by_cases w2 : w < 20
      · rcases pp with rfl | rfl | rfl | rfl
        all_goals
          exact ⟨_, by simp (maxSteps := 2000000) (disch := first | omega | exact Nat.le_of_ble_eq_true rfl) [F_law_spoilt_thing, B_law_spoilt_thing_0, pl, hq, hw, hp, ix_lst, mkL_ok, w2, ww, law_put_0, law_put_1, fo_cons, add_tup, slT_to, slT_from, isTy_tup, isTy_int, isTy_int2]; rfl, by rfl⟩
      · rcases pp with rfl | rfl | rfl | rfl
        all_goals
          exact ⟨_, by simp (maxSteps := 2000000) (disch := first | omega | exact Nat.le_of_ble_eq_true rfl) [F_law_spoilt_thing, B_law_spoilt_thing_0, pl, hq, hw, hp, ix_lst, mkL_ok, w2, ww, law_put_0, law_put_1, fo_cons, add_tup, slT_to, slT_from, isTy_tup, isTy_int, isTy_int2]; rfl, by rfl⟩
    all_goals
      exact ⟨_, by simp (maxSteps := 2000000) (disch := first | omega | exact Nat.le_of_ble_eq_true rfl) [F_law_spoilt_thing, B_law_spoilt_thing_0, pl, hq, hw, hp, ix_lst, mkL_ok, ww, law_put_0, law_put_1, fo_cons, add_tup, slT_to, slT_from, isTy_tup, isTy_int, isTy_int2]; rfl, by rfl⟩
end
end Fc
/-! Qa: refusals. -/
namespace Fc
open PySem (Str)
@[simp] theorem at3_0 {a b c : Nat} : opt (L2.atI [a, b, c] 0) = .ok a := rfl
@[simp] theorem at3_1 {a b c : Nat} : opt (L2.atI [a, b, c] 1) = .ok b := rfl
@[simp] theorem at3_2 {a b c : Nat} : opt (L2.atI [a, b, c] 2) = .ok c := rfl
@[simp] theorem at4_0 {a b c d : Nat} : opt (L2.atI [a, b, c, d] 0) = .ok a := rfl
@[simp] theorem at4_1 {a b c d : Nat} : opt (L2.atI [a, b, c, d] 1) = .ok b := rfl
@[simp] theorem at4_2 {a b c d : Nat} : opt (L2.atI [a, b, c, d] 2) = .ok c := rfl
@[simp] theorem at4_3 {a b c d : Nat} : opt (L2.atI [a, b, c, d] 3) = .ok d := rfl
@[simp] theorem sub1_0 : subC 1 0 = true := rfl
@[simp] theorem sub2_0 : subC 2 0 = true := rfl
@[simp] theorem sub3_0 : subC 3 0 = true := rfl
@[simp] theorem sub4_0 : subC 4 0 = true := rfl
@[simp] theorem sub5_0 : subC 5 0 = true := rfl
@[simp] theorem sub6_0 : subC 6 0 = true := rfl
@[simp] theorem sub7_0 : subC 7 0 = true := rfl
@[simp] theorem mkT5 (a b c d e : D) : mkT [a, b, c, d, e] = .ok (.tup [a, b, c, d, e]) := if_pos (by simp [sizeMax])
@[simp] theorem mkT6 (a b c d e f : D) : mkT [a, b, c, d, e, f] = .ok (.tup [a, b, c, d, e, f]) := if_pos (by simp [sizeMax])
@[simp] theorem mkT7 (a b c d e f g : D) : mkT [a, b, c, d, e, f, g] = .ok (.tup [a, b, c, d, e, f, g]) := if_pos (by simp [sizeMax])
@[simp] theorem mkT8 (a b c d e f g h : D) : mkT [a, b, c, d, e, f, g, h] = .ok (.tup [a, b, c, d, e, f, g, h]) := if_pos (by simp [sizeMax])
@[simp] theorem isNon_exv {c : Nat} : isNon (.exv c) = false := rfl
@[simp] theorem isNon_strw {c : Str} : isNon (.str c) = false := rfl
theorem ne_cd_w {r : Rt} {n : Int} {s : Str} (h : D.shp 60 (.str s) = true) : cmpop .ne (cd r n) (.str s) = .ok true := by
  have e : cmpop .ne (cd r n) (.str s) = if (D.shp 60 (cd r n) && D.shp 60 (.str s)) = true then .ok true else .stk := rfl
  rw [e, shp_cd 59, h]; rfl
theorem ne_w_cd {r : Rt} {n : Int} {s : Str} (h : D.shp 60 (.str s) = true) : cmpop .ne (.str s) (cd r n) = .ok true := by
  have e : cmpop .ne (.str s) (cd r n) = if (D.shp 60 (.str s) && D.shp 60 (cd r n)) = true then .ok true else .stk := rfl
  rw [e, shp_cd 59, h]; rfl
@[simp] theorem ne_cd_w5 {r : Rt} {n : Int} : cmpop .ne (cd r n) w5 = .ok true := ne_cd_w (by kernel_rfl)
@[simp] theorem ne_w5_cd {r : Rt} {n : Int} : cmpop .ne w5 (cd r n) = .ok true := ne_w_cd (by kernel_rfl)
@[simp] theorem ne_w5 : cmpop .ne w5 w5 = .ok false := by kernel_rfl
section
variable {k : Nat} {r : Rt} {x y : D} {n m : Int}
/-- what is no rate -/
def noRt (x : D) : Prop := ∀ k, 2 ≤ k → C k i_look_rate [x] = .exc 1
theorem noRt_non : noRt .non := by
  intro k hk
  rw [R_look_rate (by omega)]
  have : C (k - 1) i_is_rate [.non] = .ok (.bl false) := by
    rw [R_is_rate (by omega)]; simp [F_is_rate, isTy]
  simp [F_look_rate, this]
theorem is_code_nort (hk : 3 ≤ k) (h : noRt x) : C k i_is_code [x, y] = .exc 1 := by
  rw [R_is_code (by omega)]
  simp (disch := omega) [F_is_code, h (k - 1)]
theorem look_code_nort (hk : 4 ≤ k) (h : noRt x) : C k i_look_code [x, y] = .exc 1 := by
  rw [R_look_code (by omega)]
  simp (disch := first | omega | assumption) [F_look_code, is_code_nort]
/-- what is no number -/
def noNr (x : D) : Prop := plT x = true ∧ ∀ i, x ≠ .int i
theorem look_by_no (hk : 1 ≤ k) (h : noNr x) : C k i_look_by [x] = .exc 3 := by
  rw [R_look_by (by omega)]
  cases x with
  | int i => exact absurd rfl (h.2 i)
  | dic _ _ => cases h.1
  | exv _ => cases h.1
  | _ => simp [F_look_by, isTy]
theorem look_count_no (hk : 4 ≤ k) (h : noNr x) : C k i_look_count [.str r.s, x] = .exc 3 := by
  rw [R_look_count (by omega)]
  cases x with
  | int i => exact absurd rfl (h.2 i)
  | dic _ _ => cases h.1
  | exv _ => cases h.1
  | _ => simp [F_look_count, isTy]
theorem odd_no {i : Int} (h0 : 0 ≤ i) (h : i < 4) : noNr ([D.non, .bl true, .str ⟨#[49]⟩, .tup [.int 1]].getD i.toNat .non) := by
  refine getD_any (P := noNr) ?_ (by simp; omega)
  simp only [List.forall_mem_cons]
  refine ⟨⟨rfl, ?_⟩, ⟨rfl, ?_⟩, ⟨rfl, ?_⟩, ⟨rfl, ?_⟩, by simp⟩ <;> intro i z <;> cases z
end
end Fc
/-! Qm0: what is told by a word; rates that are none. -/
namespace Fc
open PySem (Str)
/-- an error becomes its word -/
def toldR (C : Nat → List D → R D) (w : Nat) (x : R D) : R D := match x with
  | .ok d => .ok d
  | .exc c => (match C w [.exv c] with
    | .ok (.str z) => .ok (.str z)
    | _ => .stk)
  | .stk => .stk
section
variable (G : Nat → R D) (C : Nat → List D → R D) (F : Nat) (fr : Bool) (σ : List Sl)
@[simp] theorem ev_told (t w : Nat) (e : E) : ev G C σ (.told t w e) = toldR C w (ev G C σ e) := id rfl
@[simp] theorem st_ret_told (t w : Nat) (e : E) : evst G C F fr σ (.ret (.told t w e)) = O.ofR σ (ev G C σ (.told t w e)) fun d => .rt d := id rfl
@[simp] theorem toldR_ok (w : Nat) (d : D) : toldR C w (.ok d) = .ok d := id rfl
theorem toldR_exc {w c : Nat} {z : Str} (h : C w [.exv c] = .ok (.str z)) : toldR C w (.exc c) = .ok (.str z) := by
  unfold toldR; simp only [h]
end
section
variable {k : Nat}
@[simp] theorem told2_1 (hk : 1 ≤ k) : toldR (C k) i_law_word_2 (.exc 1) = .ok (.str ⟨#[110, 111, 32, 114, 97, 116, 101]⟩) := toldR_exc _ (by rw [R_law_word_2 hk]; kernel_rfl)
@[simp] theorem told2_2 (hk : 1 ≤ k) : toldR (C k) i_law_word_2 (.exc 2) = .ok (.str ⟨#[110, 111, 32, 99, 111, 100, 101]⟩) := toldR_exc _ (by rw [R_law_word_2 hk]; kernel_rfl)
@[simp] theorem told2_3 (hk : 1 ≤ k) : toldR (C k) i_law_word_2 (.exc 3) = .ok (.str ⟨#[110, 111, 32, 110, 117, 109, 98, 101, 114]⟩) := toldR_exc _ (by rw [R_law_word_2 hk]; kernel_rfl)
@[simp] theorem told2_4 (hk : 1 ≤ k) : toldR (C k) i_law_word_2 (.exc 4) = .ok (.str ⟨#[110, 111, 32, 115, 112, 97, 110]⟩) := toldR_exc _ (by rw [R_law_word_2 hk]; kernel_rfl)
@[simp] theorem told2_5 (hk : 1 ≤ k) : toldR (C k) i_law_word_2 (.exc 5) = .ok (.str ⟨#[116, 111, 111, 32, 102, 97, 114]⟩) := toldR_exc _ (by rw [R_law_word_2 hk]; kernel_rfl)
@[simp] theorem told2_6 (hk : 1 ≤ k) : toldR (C k) i_law_word_2 (.exc 6) = .ok (.str ⟨#[110, 111, 32, 102, 105, 116]⟩) := toldR_exc _ (by rw [R_law_word_2 hk]; kernel_rfl)
@[simp] theorem told2_7 (hk : 1 ≤ k) : toldR (C k) i_law_word_2 (.exc 7) = .ok (.str ⟨#[110, 111, 32, 116, 101, 120, 116]⟩) := toldR_exc _ (by rw [R_law_word_2 hk]; kernel_rfl)
@[simp] theorem told2_8 (hk : 1 ≤ k) : toldR (C k) i_law_word_2 (.exc 8) = .ok (.str ⟨#[110, 111, 32, 99, 108, 105, 112]⟩) := toldR_exc _ (by rw [R_law_word_2 hk]; kernel_rfl)
@[simp] theorem told2_9 (hk : 1 ≤ k) : toldR (C k) i_law_word_2 (.exc 9) = .ok (.str ⟨#[110, 111, 32, 99, 117, 116]⟩) := toldR_exc _ (by rw [R_law_word_2 hk]; kernel_rfl)
@[simp] theorem told2_10 (hk : 1 ≤ k) : toldR (C k) i_law_word_2 (.exc 10) = .ok (.str ⟨#[110, 111, 32, 101, 118, 101, 110, 116]⟩) := toldR_exc _ (by rw [R_law_word_2 hk]; kernel_rfl)
variable {r : Rt} {x y z : D}
/-! rates that are none -/
theorem noRt_of (h : ∀ k, 1 ≤ k → C k i_is_rate [x] = .ok (.bl false)) : noRt x := by
  intro k hk
  have := h (k - 1) (by omega)
  rw [R_look_rate (by omega)]
  simp [F_look_rate, this]
theorem noRt_slow : noRt (.str ⟨#[115, 108, 111, 119]⟩) := noRt_of fun k hk => by rw [R_is_rate hk]; kernel_rfl
theorem noRt_films : noRt (.str ⟨#[102, 105, 108, 109, 115]⟩) := noRt_of fun k hk => by rw [R_is_rate hk]; kernel_rfl
theorem noRt_em : noRt (.str ⟨#[]⟩) := noRt_of fun k hk => by rw [R_is_rate hk]; kernel_rfl
theorem noRt_24 : noRt (.int 24) := noRt_of fun k hk => by rw [R_is_rate hk]; kernel_rfl
theorem noRt_tf : noRt (.tup [.str ⟨#[102, 105, 108, 109]⟩]) := noRt_of fun k hk => by rw [R_is_rate hk]; kernel_rfl
end
theorem bad_rate {i : Int} (h0 : 0 ≤ i) (h1 : i < 5) : ∃ b, ixD (.lst [.str ⟨#[102, 105, 108, 109, 115]⟩, .non, .int 24, .str ⟨#[]⟩, .tup [.str ⟨#[102, 105, 108, 109]⟩]]) (.int i) = .ok b ∧ noRt b := by
  have : i = 0 ∨ i = 1 ∨ i = 2 ∨ i = 3 ∨ i = 4 := by omega
  rcases this with rfl | rfl | rfl | rfl | rfl
  · exact ⟨_, rfl, noRt_films⟩
  · exact ⟨_, rfl, noRt_non⟩
  · exact ⟨_, rfl, noRt_24⟩
  · exact ⟨_, rfl, noRt_em⟩
  · exact ⟨_, rfl, noRt_tf⟩
end Fc
/-! S64: the law of refused pulls. -/
namespace Fc
open PySem (Str)
theorem odd64 {i : Int} (h0 : 0 ≤ i) (h1 : i < 5) : ∃ b, ixD (.lst [.int (-1), .non, .bl true, .str ⟨#[49]⟩, .tup [.int 1]]) (.int i) = .ok b ∧ ∀ k y, 1 ≤ k → C k i_look_number [b, y] = .exc 3 := by
  have : i = 0 ∨ i = 1 ∨ i = 2 ∨ i = 3 ∨ i = 4 := by omega
  rcases this with rfl | rfl | rfl | rfl | rfl
  · exact ⟨_, rfl, fun k y hk => by rw [R_look_number hk]; simp [F_look_number]⟩
  · exact ⟨_, rfl, fun k y hk => by rw [R_look_number hk]; simp [F_look_number, isTy]⟩
  · exact ⟨_, rfl, fun k y hk => by rw [R_look_number hk]; simp [F_look_number, isTy]⟩
  · exact ⟨_, rfl, fun k y hk => by rw [R_look_number hk]; simp [F_look_number, isTy]⟩
  · exact ⟨_, rfl, fun k y hk => by rw [R_look_number hk]; simp [F_look_number, isTy]⟩
theorem bad64 {i : Int} (h0 : 0 ≤ i) (h1 : i < 5) : ∃ b, ixD (.lst [.str ⟨#[115, 108, 111, 119]⟩, .non, .int 24, .str ⟨#[]⟩, .tup [.str ⟨#[102, 105, 108, 109]⟩]]) (.int i) = .ok b ∧ noRt b ∧
    (∀ r o : Rt, cmpop .isIn b (.tup [.str r.s, .str o.s]) = .ok false) ∧ (∀ r : Rt, cmpop .isIn b (.tup [.str r.s, b]) = .ok true) ∧ (∀ r : Rt, cmpop .isIn b (.tup [b, .str r.s]) = .ok true) ∧ cmpop .isIn b (.tup [b, b]) = .ok true := by
  have : i = 0 ∨ i = 1 ∨ i = 2 ∨ i = 3 ∨ i = 4 := by omega
  rcases this with rfl | rfl | rfl | rfl | rfl
  · exact ⟨_, rfl, noRt_slow, fun r o => by cases r <;> cases o <;> kernel_rfl, fun r => by cases r <;> kernel_rfl, fun r => by cases r <;> kernel_rfl, by kernel_rfl⟩
  · exact ⟨_, rfl, noRt_non, fun r o => by cases r <;> cases o <;> kernel_rfl, fun r => by cases r <;> kernel_rfl, fun r => by cases r <;> kernel_rfl, by kernel_rfl⟩
  · exact ⟨_, rfl, noRt_24, fun r o => by cases r <;> cases o <;> kernel_rfl, fun r => by cases r <;> kernel_rfl, fun r => by cases r <;> kernel_rfl, by kernel_rfl⟩
  · exact ⟨_, rfl, noRt_em, fun r o => by cases r <;> cases o <;> kernel_rfl, fun r => by cases r <;> kernel_rfl, fun r => by cases r <;> kernel_rfl, by kernel_rfl⟩
  · exact ⟨_, rfl, noRt_tf, fun r o => by cases r <;> cases o <;> kernel_rfl, fun r => by cases r <;> kernel_rfl, fun r => by cases r <;> kernel_rfl, by kernel_rfl⟩
section
variable {k : Nat} {r o : Rt} {x y z : D}
theorem both_1 (hk : 3 ≤ k) (h : noRt x) : C k i_look_both [x, y] = .exc 1 := by
  rw [R_look_both (by omega)]; simp (disch := omega) [F_look_both, h (k - 1)]
theorem both_2 (hk : 3 ≤ k) (h : noRt x) : C k i_look_both [.str r.s, x] = .exc 1 := by
  rw [R_look_both (by omega)]; simp (disch := omega) [F_look_both, h (k - 1)]
theorem pulls_no (hk : 5 ≤ k) (h : ∀ k, 3 ≤ k → C k i_look_both [x, y] = .exc 1) : C k i_shown [x, y, z] = .exc 1 ∧ C k i_shows [x, y, z] = .exc 1 ∧ C k i_first_shown [x, y, z] = .exc 1 ∧ C k i_pattern [x, y] = .exc 1 := by
  have hs : ∀ k, 4 ≤ k → C k i_shows [x, y, z] = .exc 1 := fun k hk => by
    rw [R_shows (by omega)]; simp (disch := omega) [F_shows, h (k - 1)]
  refine ⟨?_, hs k (by omega), ?_, ?_⟩
  · rw [R_shown (by omega)]; simp (disch := omega) [F_shown, h (k - 1)]
  · rw [R_first_shown (by omega)]; simp (disch := omega) [F_first_shown, hs (k - 1)]
  · rw [R_pattern (by omega)]; simp (disch := omega) [F_pattern, h (k - 1)]
theorem pulls_odd (hk : 5 ≤ k) (h : ∀ k y, 1 ≤ k → C k i_look_number [z, y] = .exc 3) : C k i_shown [.str r.s, .str o.s, z] = .exc 3 ∧ C k i_shows [.str r.s, .str o.s, z] = .exc 3 ∧ C k i_first_shown [.str r.s, .str o.s, z] = .exc 3 := by
  have hs : ∀ k, 4 ≤ k → C k i_shows [.str r.s, .str o.s, z] = .exc 3 := fun k hk => by
    rw [R_shows (by omega)]; simp (disch := omega) [F_shows, h (k - 1)]
  have g8 : G 8 = .ok (.int 2000) := rfl
  refine ⟨?_, hs k (by omega), ?_⟩
  · rw [R_shown (by omega)]; simp (disch := omega) [F_shown, h (k - 1), g8]
  · rw [R_first_shown (by omega)]; simp (disch := omega) [F_first_shown, hs (k - 1)]
theorem shown_far (hk : 5 ≤ k) : C k i_shown [.str r.s, .str o.s, .int 2001] = .exc 3 := by
  have e1 : C (k - 1) i_look_number [.int 2001, .int 2000] = .exc 3 := by
    have e := is_whole_any (k := k - 1 - 1) (x := .int 2001) (lo := 0) (hi := 2000) (by omega) rfl
    have w : whB (.int 2001) 0 2000 = false := rfl
    rw [w] at e
    rw [R_look_number (by omega)]; simp (disch := omega) [F_look_number, e]
  have g8 : G 8 = .ok (.int 2000) := rfl
  rw [R_shown (by omega)]; simp (disch := omega) [F_shown, e1, g8]
end
theorem k64_m1 : binop .mul (.lst [.str ⟨#[110, 111, 32, 114, 97, 116, 101]⟩]) (.int 3) = .ok (.lst [.str ⟨#[110, 111, 32, 114, 97, 116, 101]⟩, .str ⟨#[110, 111, 32, 114, 97, 116, 101]⟩, .str ⟨#[110, 111, 32, 114, 97, 116, 101]⟩]) := by kernel_rfl
theorem k64_m2 : binop .mul (.lst [.str ⟨#[110, 111, 32, 110, 117, 109, 98, 101, 114]⟩]) (.int 3) = .ok (.lst [.str ⟨#[110, 111, 32, 110, 117, 109, 98, 101, 114]⟩, .str ⟨#[110, 111, 32, 110, 117, 109, 98, 101, 114]⟩, .str ⟨#[110, 111, 32, 110, 117, 109, 98, 101, 114]⟩]) := by kernel_rfl
theorem k64_c1 : cmpop .ne (.lst [.str ⟨#[110, 111, 32, 114, 97, 116, 101]⟩, .str ⟨#[110, 111, 32, 114, 97, 116, 101]⟩, .str ⟨#[110, 111, 32, 114, 97, 116, 101]⟩]) (.lst [.str ⟨#[110, 111, 32, 114, 97, 116, 101]⟩, .str ⟨#[110, 111, 32, 114, 97, 116, 101]⟩, .str ⟨#[110, 111, 32, 114, 97, 116, 101]⟩]) = .ok false := by kernel_rfl
theorem k64_c2 : cmpop .ne (.lst [.str ⟨#[110, 111, 32, 110, 117, 109, 98, 101, 114]⟩, .str ⟨#[110, 111, 32, 110, 117, 109, 98, 101, 114]⟩, .str ⟨#[110, 111, 32, 110, 117, 109, 98, 101, 114]⟩]) (.lst [.str ⟨#[110, 111, 32, 110, 117, 109, 98, 101, 114]⟩, .str ⟨#[110, 111, 32, 110, 117, 109, 98, 101, 114]⟩, .str ⟨#[110, 111, 32, 110, 117, 109, 98, 101, 114]⟩]) = .ok false := by kernel_rfl
theorem k64_c3 : cmpop .eq (.str ⟨#[110, 111, 32, 114, 97, 116, 101]⟩) (.str ⟨#[110, 111, 32, 114, 97, 116, 101]⟩) = .ok true := by kernel_rfl
theorem k64_c4 : cmpop .ne (.str ⟨#[110, 111, 32, 114, 97, 116, 101]⟩) (.str ⟨#[110, 111, 32, 114, 97, 116, 101]⟩) = .ok false := by kernel_rfl
theorem k64_c5 : cmpop .eq (.str ⟨#[110, 111, 32, 110, 117, 109, 98, 101, 114]⟩) (.str ⟨#[110, 111, 32, 114, 97, 116, 101]⟩) = .ok false := by kernel_rfl
theorem k64_c6 : cmpop .ne (.str ⟨#[110, 111, 32, 110, 117, 109, 98, 101, 114]⟩) (.str ⟨#[110, 111, 32, 110, 117, 109, 98, 101, 114]⟩) = .ok false := by kernel_rfl
/-- a turn of the loop -/
theorem k64_B1 {s0 s1 s2 s3 s7 s8 : Sl} {b o x y : D} (h : cmpop .isIn b (.tup [x, y]) = .ok true) (hl : ∀ k, 3 ≤ k → C k i_look_both [x, y] = .exc 1) : ∃ t7 t8, evst G (C 19) FF false [s0, s1, s2, .val o, .val b, .val x, .val y, s7, s8] B_law_k64_0 = .nx [s0, s1, s2, .val o, .val b, .val x, .val y, t7, t8] := by
  obtain ⟨p1, p2, p3, p4⟩ := pulls_no (k := 19) (z := o) (by omega) hl
  exact ⟨_, _, by simp (maxSteps := 2000000) (disch := omega) [B_law_k64_0, h, p1, p2, p3, p4, k64_m1, k64_c1, k64_c3, k64_c4]; exact ⟨rfl, rfl⟩⟩
theorem k64_B2 {s0 s1 s2 s3 s7 s8 : Sl} {b z : D} {r o : Rt} (h : cmpop .isIn b (.tup [.str r.s, .str o.s]) = .ok false) (hl : ∀ k y, 1 ≤ k → C k i_look_number [z, y] = .exc 3) : ∃ t7 t8, evst G (C 19) FF false [s0, s1, s2, .val z, .val b, .val (.str r.s), .val (.str o.s), s7, s8] B_law_k64_0 = .nx [s0, s1, s2, .val z, .val b, .val (.str r.s), .val (.str o.s), t7, t8] := by
  obtain ⟨p1, p2, p3⟩ := pulls_odd (k := 19) (r := r) (o := o) (by omega) hl
  exact ⟨_, _, by simp (maxSteps := 2000000) (disch := omega) [B_law_k64_0, h, p1, p2, p3, k64_m2, k64_c2, k64_c5]; exact ⟨rfl, rfl⟩⟩
set_option maxHeartbeats 4000000 in
theorem law_k64_ok (ns : List Int) : C 20 i_law_k64 [scr ns] = .ok (.bl true) := by
  rw [R_law_k64 (by omega)]
  have p2 := pkB ns 2 (show (0 : Int) < 5 by decide)
  have p3 := pkB ns 3 (show (0 : Int) < 5 by decide)
  have p4 := pkB ns 4 (show (0 : Int) < 8 by decide)
  generalize e2 : pk ns 2 5 = i2 at *
  generalize e3 : pk ns 3 5 = i3 at *
  generalize e4 : pk ns 4 8 = i4 at *
  generalize hr : rtI ns 0 = r at *
  generalize ho : rtI ns 1 = o at *
  obtain ⟨odd, h1, h2⟩ := odd64 p2.1 p2.2
  obtain ⟨bad, g1, g2, g3, g4, g5, g6⟩ := bad64 p3.1 p3.2
  obtain ⟨a7, a8, y1⟩ := k64_B2 (s0 := .val (scr ns)) (s1 := .val (.str r.s)) (s2 := .val (.str o.s)) (s3 := .no) (s7 := .no) (s8 := .no) (g3 r o) h2
  obtain ⟨b7, b8, y2⟩ := k64_B1 (s0 := .val (scr ns)) (s1 := .val (.str r.s)) (s2 := .val (.str o.s)) (s3 := .no) (s7 := a7) (s8 := a8) (o := odd) (g5 o) (fun k hk => both_1 hk g2)
  obtain ⟨c7, c8, y3⟩ := k64_B1 (s0 := .val (scr ns)) (s1 := .val (.str r.s)) (s2 := .val (.str o.s)) (s3 := .no) (s7 := b7) (s8 := b8) (o := odd) (g4 r) (fun k hk => both_2 hk g2)
  obtain ⟨d7, d8, y4⟩ := k64_B1 (s0 := .val (scr ns)) (s1 := .val (.str r.s)) (s2 := .val (.str o.s)) (s3 := .no) (s7 := c7) (s8 := c8) (o := odd) g6 (fun k hk => both_1 hk g2)
  have f1 := shown_far (k := 19) (r := r) (o := o) (by omega)
  have f2 := shown_ok (k := 19) (a := r) (b := o) (m := 0) (by omega) (by omega) (by omega)
  have f3 := shown_ok (k := 19) (a := r) (b := o) (m := 2000) (by omega) (by omega) (by omega)
  have z1 : il (due r o (0 : Int).toNat) = .lst [] := rfl
  have z2 : cmpop .ne (.lst []) (.lst []) = .ok false := by kernel_rfl
  have z3 : b1 .len (il (due r o (2000 : Int).toNat)) = .ok (.int 2000) := by
    show R.ok (D.int (((due r o (2000 : Int).toNat).map D.int).length : Nat)) = _
    rw [List.length_map, due_len]; rfl
  rw [z1] at f2
  generalize il (due r o (2000 : Int).toNat) = q at f3 z3
  have fo : foS G (C 19) FF false (.tc (.nm 5) (.tc (.nm 6) .tn)) B_law_k64_0 [.tup [.str r.s, .str o.s], .tup [bad, .str o.s], .tup [.str r.s, bad], .tup [bad, bad]] [.val (scr ns), .val (.str r.s), .val (.str o.s), .val odd, .val bad, .no, .no, .no, .no] = .nx [.val (scr ns), .val (.str r.s), .val (.str o.s), .val odd, .val bad, .val bad, .val bad, d7, d8] := by
    simp [y1, y2, y3, y4]
  by_cases q4 : 0 < i4
  · simp (maxSteps := 2000000) (disch := omega) [F_law_k64, hr, ho, e2, e3, e4, h1, g1, fo, f1, f2, f3, z2, z3, k64_c6, q4, -fo_cons]
  · simp (maxSteps := 2000000) (disch := omega) [F_law_k64, hr, ho, e2, e3, e4, h1, g1, fo, f1, f2, f3, z2, z3, k64_c6, q4, -fo_cons]
end Fc
open PySem PySem.W PyProof.Rows
set_option maxHeartbeats 0 in
theorem PySem.Challenge.cw_framecodes_k64_pulls_refused_holds : PySem.Challenge.rw_framecodes_k64_pulls_refused.Holds := by
  w_on; o_law; k_head; (case hw => w_witness2)
  k_fill
  have hT : Fc.TabOk Fc.T Fc.L.fs := ⟨rfl, rfl, rfl, rfl, rfl, rfl, rfl, rfl, rfl, rfl, rfl, rfl, rfl, rfl, rfl, rfl, rfl, rfl, rfl, trivial⟩
  have hGs : Fc.GsOk Fc.G Fc.L.gs := ⟨rfl, rfl, trivial⟩
  have hDs : Fc.DsOk Fc.G Fc.L.ds := ⟨rfl, rfl, trivial⟩
  refine Fc.law_of Fc.L Fc.T Fc.G hT hGs hDs Fc.G_nx (l := PySem.Challenge.rw_framecodes_k64_pulls_refused) (n := 63) (k := 20) rfl (by decide) rfl ⟨rfl, by decide, by decide⟩ (fun w h Y => by first | exact PySem.W.kIn_of Y | exact PySem.W.km_in_of Y) (by decide +kernel) rfl ?B (by decide +kernel) ?Dd ?hlaw
  case B =>
    intro P
    kernel_rfl
  case Dd =>
    intro P
    refine ⟨⟨⟨_, _, _, by k_is, by k_is, ?_⟩, by decide, by decide +kernel⟩, ⟨⟨_, _, _, by k_is, by k_is, ?_⟩, by decide, by decide +kernel⟩, trivial⟩
    · exact ⟨⟨_, _, rfl, rfl, rfl⟩, ⟨_, _, rfl, rfl, rfl⟩, ⟨_, _, rfl, rfl, rfl⟩, ⟨_, _, rfl, rfl, rfl⟩, ⟨_, _, rfl, rfl, rfl⟩, ⟨_, _, rfl, rfl, rfl⟩, trivial⟩
    · exact ⟨⟨_, _, rfl, rfl, rfl⟩, ⟨_, _, rfl, rfl, rfl⟩, trivial⟩
  case hlaw => exact fun ns _ => ⟨Fc.FF, Fc.law_k64_ok ns⟩
