import PyProof.Rows.All
import HandS.ForMost
import HandS.Exc
import HandS.Lambda
import HandS.Walk
import HandS.TupMul
import HandS.TupAny
import HandS.Deep
import HandS.SortInts
import HandS.IsInst
import HandS.Style
import HandS.Conv
import PyProof.CallFns
import HandS.TupLen
import HandS.Flow
import HandS.Dict
import HandS.Small
import HandS.Zip
import HandS.Comp
import HandS.CallSlots
import KE.GoesMore
import PyProof.EnumMake
import KE.SortData
import KE.DataMinMax
import KE.KDictPairs
import HandS.ExcInit
import HandS.TryMany
import HandS.ExcField
import PyProof.SumAnyB
import HandS.SortKw
import HandS.EndTab
import HandS.EndBits
import HandS.HeadHook4
import HandS.Defaults
import HandS.Head0
import HandS.Head1
import HandS.Head2
import HandS.HeadEnd
import KE.KStateDown
import PyProof.ReprLen
import PyProof.Rows.ReprOcc
import PySem.Challenge.RW_askedsofew_k76_whole_lots_of_rows_and_in
set_option linter.all false
set_option Elab.async false
set_option maxRecDepth 1000000
set_option maxHeartbeats 4000000
/-! Ia: a small interpreter over plain values (no heap): values D, code C, evaluation. -/
namespace PB
open PySem

/-- plain values -/
inductive D where
  | non | bl (b : Bool) | int (i : Int) | str (x : Str)
  | tup (xs : List D) | lst (xs : List D) | dic (t : Bool) (kvs : List (D × D))
deriving Inhabited

/-- how a slot holds its value: shared, owned (may be changed in place), borrowed (only looked at) -/
inductive Kd where | shr | own | brw | frz
deriving DecidableEq, Inhabited

abbrev En := List (Option D)
/-- an exception: the number of its class, its fields -/
structure Exn where
  cls : Nat
  flds : List (Str × D)
deriving Inhabited
inductive R (α : Type) where
  | ok (a : α) (e : En)
  | xc (x : Exn) (e : En)
deriving Inhabited
/-- what a statement comes to -/
inductive Out where
  | nx (e : En) | rt (d : D) (e : En) | bk (e : En) | ct (e : En) | xc (x : Exn) (e : En)
deriving Inhabited
/-- what a call comes to: value or exception, the owned parameters' last values -/
inductive CO where
  | ok (d : D) (e : List (Option D))
  | xc (x : Exn) (e : List (Option D))
deriving Inhabited

/-- operators on two values -/
inductive O2 where
  | add | sub | mul | fdiv | mod | pow | shl | shr | band | bor | bxor
  | lt | le | gt | ge | eq | ne | isIn | notIn | is | isNot
deriving DecidableEq, Inhabited
/-- built-ins that hand back a value -/
inductive Bi where
  | len | sum | any | all | sorted | tuple | list | int | max | min | repr | isinstTuple | isinstList | isinstSeq | isinstInt | isinstBool | isinstStr | dict | abs | str
  | range | enum | zip
deriving DecidableEq, Inhabited

/-- the code: expressions, lists of expressions (nil, cons), targets, statements in one type -/
inductive C where
  -- expressions
  | var (i : Nat) | loc (i : Nat) | cst (d : D) | scr (i : Nat) | scrLen (i : Nat) | scrList (i : Nat) | scrCut (i : Nat) (k : Nat)
  | nil | cons (a b : C)
  | tup (a : C) | lst (a : C) | dnew (t : Bool) | disp (ks : List Str) (a : C)
  | op (o : O2) (a b : C) | neg (a : C) | not (a : C)
  | and (a b : C) | or (a b : C) | ite (c a b : C)
  | idx (a b : C) | slc (a lo hi : C) | noPart
  | call (f : Nat) (a : C) | blt (f : Bi) (a : C) | lrng (t : Bool) (a : C) | isi (f : Bi) (a : C)
  | popAt (i : Nat) (a : C) | popLast (i : Nat)
  | lc (vs : List Nat) (tg it cond elt : C)
  | lc2 (vs vs1 : List Nat) (tg it cond tg1 it1 cond1 elt : C)
  | mmd (mx : Bool) (a : C) (i : Int)
  | fld (i : Nat) (f : Str)
  | lamcall (f : Nat) (body : C) | callv (i : Nat)
  -- statements
  | seq (a b : C) | pass | asg (t e : C) | par (i j : Nat) (a b : C) | par3 (i j k : Nat) (a b c : C) | drop (e : C)
  | ret (e : C) | retN | retO (i : Nat)
  | ife (c a b : C) | whl (c b : C) | fr (tg it b : C) | brk | cnt
  | raise (cls : Nat) (a : C)
  | app (i : Nat) (e : C) | stIx (i : Nat) (k e : C) | aug (i : Nat) (o : O2) (e : C)
  | tryx (b : C) (h : C) | hnil | hcons (cls : Nat) (i : Nat) (s : C) (r : C)
deriving Inhabited

/-! ### operations on values -/
def i01 (b : Bool) : Int := if b then 1 else 0
mutual
/-- == of Python -/
def eqv : D → D → Bool
  | .non, .non => true
  | .bl a, .bl b => a == b
  | .bl a, .int j => i01 a == j
  | .int i, .bl b => i == i01 b
  | .int i, .int j => i == j
  | .str x, .str y => x == y
  | .tup xs, .tup ys => eqvL xs ys
  | .lst xs, .lst ys => eqvL xs ys
  | _, _ => false
def eqvL : List D → List D → Bool
  | [], [] => true
  | x :: xs, y :: ys => eqv x y && eqvL xs ys
  | _, _ => false
end
mutual
/-- data that == speaks of: no dict, depth at most n -/
def plainD : Nat → D → Bool
  | _, .non => true
  | _, .bl _ => true
  | _, .int _ => true
  | _, .str x => PyData.strOk x
  | n, .tup xs => match n with | 0 => false | n + 1 => plainL n xs
  | n, .lst xs => match n with | 0 => false | n + 1 => plainL n xs
  | _, .dic _ _ => false
def plainL : Nat → List D → Bool
  | _, [] => true
  | n, x :: xs => plainD n x && plainL n xs
end

mutual
def toPy : D → PyData
  | .non => .none
  | .bl b => .bool b
  | .int i => .int i
  | .str x => .str x
  | .tup xs => .tuple (toPyL xs)
  | .lst xs => .list (toPyL xs)
  | .dic _ _ => .dict []
def toPyL : List D → List PyData
  | [] => []
  | x :: xs => toPy x :: toPyL xs
end
/-- the truth of a value -/
def truth : D → Bool
  | .non => false
  | .bl b => b
  | .int i => i != 0
  | .str x => x.length != 0
  | .tup xs => !xs.isEmpty
  | .lst xs => !xs.isEmpty
  | .dic _ kvs => !kvs.isEmpty
/-- .. where the model tells it -/
def truthO : D → Option Bool
  | .str x => if x.length ≤ 100000 then some (x.length != 0) else none
  | .dic true _ => none
  | d => some (truth d)
/-- an index of Python's, from behind where it is negative -/
def ixOf (n : Nat) (i : Int) : Option Nat := if 0 ≤ i then (if i < n then some i.toNat else none) else if -(n : Int) ≤ i then some (i + n).toNat else none
def atD (xs : List D) (i : Int) : Option D := (ixOf xs.length i).bind fun j => xs[j]?
/-- keys of a dict: ints and texts, or tuples of these -/
def isKey1 : D → Bool
  | .int _ => true
  | .str _ => true
  | _ => false
def isKey : Bool → D → Bool
  | false, k => isKey1 k
  | true, .tup xs => xs.all isKey1
  | true, _ => false
def keyEq1 : D → D → Bool
  | .int i, .int j => i == j
  | .str x, .str y => x == y
  | _, _ => false
def keyEqL : List D → List D → Bool
  | [], [] => true
  | x :: xs, y :: ys => keyEq1 x y && keyEqL xs ys
  | _, _ => false
def keyEq : D → D → Bool
  | .tup xs, .tup ys => keyEqL xs ys
  | x, y => keyEq1 x y
def dGet (kvs : List (D × D)) (k : D) : Option D := match kvs with
  | [] => none
  | (q, v) :: r => if keyEq q k then some v else dGet r k
def dPut (kvs : List (D × D)) (k v : D) : List (D × D) :=
  if (kvs.any fun p => keyEq p.1 k) = true then kvs.map (fun p => if keyEq p.1 k = true then (p.1, v) else p) else kvs ++ [(k, v)]
def lim : Nat := 100000
mutual
/-- x < y, where the two are alike -/
def ltT : D → D → Bool
  | .bl a, .bl b => !a && b
  | .int i, .int j => decide (i < j)
  | .str x, .str y => decide (x.cps.toList < y.cps.toList)
  | .tup xs, .tup ys => ltTL xs ys
  | .lst xs, .lst ys => ltTL xs ys
  | _, _ => false
def ltTL : List D → List D → Bool
  | [], [] => false
  | [], _ :: _ => true
  | _ :: _, [] => false
  | x :: xs, y :: ys => if eqv x y then ltTL xs ys else ltT x y
end
mutual
/-- the two can be compared place by place -/
def alikeD : D → D → Bool
  | .non, .non => true
  | .bl _, .bl _ => true
  | .int _, .int _ => true
  | .str _, .str _ => true
  | .tup xs, .tup ys => alikeL xs ys
  | .lst xs, .lst ys => alikeL xs ys
  | _, _ => false
def alikeL : List D → List D → Bool
  | x :: xs, y :: ys => alikeD x y && alikeL xs ys
  | [], _ => true
  | _ :: _, [] => true
end
def isIntD : D → Bool
  | .int _ => true
  | _ => false
def isIntT : D → Bool
  | .tup xs => xs.all isIntD
  | _ => false
/-- all alike: ints, tuples of ints, or any pair of them -/
def allAlike (l : List D) : Bool := l.all isIntD || l.all isIntT || l.all fun x => l.all fun y => alikeD x y
def isTupN : D → Bool
  | .tup (_ :: _) => true
  | _ => false
def isTupD : D → Bool
  | .tup _ => true
  | _ => false
def isNonD : D → Bool
  | .non => true
  | _ => false
/-- may be sorted: tuples with items, or no tuples, or tuples of which the first has no item -/
def srtShape (l : List D) : Bool := l.all isTupN || (l.all fun d => !isTupD d && !isNonD d) || (l.all isTupD && match l with | .tup [] :: _ => true | _ => false)
def srtOk (l : List D) : Bool := decide (l.length ≤ lim) && plainL 30 l && allAlike l && srtShape l
def insT (x : D) : List D → List D
  | [] => [x]
  | y :: r => if ltT y x then y :: insT x r else x :: y :: r
/-- sorted -/
def sortT : List D → List D
  | [] => []
  | x :: r => insT x (sortT r)
def minT (m : D) : List D → D
  | [] => m
  | x :: r => minT (if ltT x m then x else m) r
def maxT (m : D) : List D → D
  | [] => m
  | x :: r => maxT (if ltT m x then x else m) r
def isObD : D → Bool
  | .lst _ => true
  | .dic _ _ => true
  | _ => false
def mmOk (l : List D) : Bool := plainL 30 l && allAlike l && l.all fun d => !isNonD d && !isObD d
def allInt : List D → Option (List Int)
  | [] => some []
  | .int i :: r => (allInt r).map (i :: ·)
  | _ :: _ => none
/-- ints and bools, as numbers -/
def allNum : List D → Option (List Int)
  | [] => some []
  | .int i :: r => (allNum r).map (i :: ·)
  | .bl b :: r => (allNum r).map (i01 b :: ·)
  | _ :: _ => none
/-- max or min of a list, i where it is empty -/
def mmD (mx : Bool) : List D → Int → Option D
  | [], i => some (.int i)
  | x :: xs, _ => if mmOk (x :: xs) then some (if mx then maxT x xs else minT x xs) else none
def allBl : List D → Option (List Bool)
  | [] => some []
  | .bl i :: r => (allBl r).map (i :: ·)
  | _ :: _ => none
def mulOk (i j : Int) : Bool := (decide (-(2 ^ 64) < i) && decide (i < 2 ^ 64)) || (decide (-(2 ^ 64) < j) && decide (j < 2 ^ 64))
def isNon : D → Bool
  | .non => true
  | _ => false
/-- a op b -/
def op2 : O2 → D → D → Option D
  | .add, .int i, .int j => some (.int (i + j))
  | .add, .str x, .str y => if x.length + y.length ≤ lim then some (.str (x ++ y)) else none
  | .add, .tup x, .tup y => if x.length + y.length ≤ lim then some (.tup (x ++ y)) else none
  | .add, .lst x, .lst y => if x.length + y.length ≤ lim then some (.lst (x ++ y)) else none
  | .sub, .int i, .int j => some (.int (i - j))
  | .mul, .int i, .int j => if mulOk i j then some (.int (i * j)) else none
  | .mul, .tup x, .int k => if x.length * k.toNat ≤ lim && decide (k < 2 ^ 62) && decide (-(2 ^ 62) < k) then some (.tup (List.replicate k.toNat x).flatten) else none
  | .mul, .lst x, .int k => if x.length * k.toNat ≤ lim && decide (k < 2 ^ 62) && decide (-(2 ^ 62) < k) then some (.lst (List.replicate k.toNat x).flatten) else none
  | .fdiv, .int i, .int j => if decide (0 < j) && decide (j < 1073741824) then some (.int (i / j)) else none
  | .mod, .int i, .int j => if 0 < j then some (.int (i % j)) else none
  | .pow, .int i, .int j => if decide (0 ≤ j) && decide (j ≤ 1000000) && decide (i.natAbs < 2 ^ 64) then some (.int (i ^ j.toNat)) else none
  | .shl, .int i, .int j => if decide (0 ≤ j) && decide (j ≤ 1000000) && decide (i.natAbs < 2 ^ 64) then some (.int (i * 2 ^ j.toNat)) else none
  | .shr, .int i, .int j => if 0 ≤ j then some (.int (i / 2 ^ j.toNat)) else none
  | .band, .int i, .int j => if decide (0 ≤ i) && decide (0 ≤ j) then some (.int (i.toNat &&& j.toNat : Nat)) else none
  | .bor, .int i, .int j => if decide (0 ≤ i) && decide (0 ≤ j) then some (.int (i.toNat ||| j.toNat : Nat)) else none
  | .bxor, .int i, .int j => if decide (0 ≤ i) && decide (0 ≤ j) then some (.int (i.toNat ^^^ j.toNat : Nat)) else none
  | .lt, .int i, .int j => some (.bl (decide (i < j)))
  | .le, .int i, .int j => some (.bl (decide (i ≤ j)))
  | .gt, .int i, .int j => some (.bl (decide (j < i)))
  | .ge, .int i, .int j => some (.bl (decide (j ≤ i)))
  | .eq, x, y => if plainD 30 x && plainD 30 y then some (.bl (eqv x y)) else none
  | .ne, x, y => if plainD 30 x && plainD 30 y then some (.bl (!eqv x y)) else none
  | .isIn, x, .lst ys => if plainD 30 x && plainD 30 (.lst ys) then some (.bl (ys.any fun y => eqv y x)) else none
  | .notIn, x, .lst ys => if plainD 30 x && plainD 30 (.lst ys) then some (.bl (!ys.any fun y => eqv y x)) else none
  | .isIn, x, .tup ys => if plainD 0 x && plainL 0 ys then some (.bl (ys.any fun y => eqv y x)) else none
  | .notIn, x, .tup ys => if plainD 0 x && plainL 0 ys then some (.bl (!ys.any fun y => eqv y x)) else none
  | .isIn, x, .dic t kvs => if isKey t x then some (.bl (dGet kvs x).isSome) else none
  | .notIn, x, .dic t kvs => if isKey t x then some (.bl (!(dGet kvs x).isSome)) else none
  | .is, x, .non => some (.bl (isNon x))
  | .isNot, x, .non => some (.bl (!isNon x))
  | .is, .bl a, .bl b => some (.bl (decide (a = b)))
  | .isNot, .bl a, .bl b => some (.bl (!decide (a = b)))
  | _, _, _ => none
/-- a[b] -/
def idxD : D → D → Option D
  | .lst xs, .int i => atD xs i
  | .tup xs, .int i => atD xs i
  | .dic t kvs, k => if isKey t k then dGet kvs k else none
  | _, _ => none
def sIxD (n d : Nat) : Option Int → Nat := HT.sIx n d
def cutD (xs : List D) (lo hi : Option Int) : List D := (xs.drop (HT.sIx xs.length 0 lo)).take (HT.sIx xs.length xs.length hi - HT.sIx xs.length 0 lo)
def slcD : D → Option Int → Option Int → Option D
  | .lst xs, lo, hi => some (.lst (cutD xs lo hi))
  | .tup xs, lo, hi => some (.tup (cutD xs lo hi))
  | _, _, _ => none
def enumD : Nat → List D → List D
  | _, [] => []
  | n, x :: xs => .tup [.int n, x] :: enumD (n + 1) xs
def zipD : List D → List D → List D
  | x :: xs, y :: ys => .tup [x, y] :: zipD xs ys
  | _, _ => []
def rangeD (lo : Int) : Nat → List D
  | 0 => []
  | n + 1 => .int lo :: rangeD (lo + 1) n
def rangeC (lo c : Int) : Nat → List D
  | 0 => []
  | n + 1 => .int lo :: rangeC (lo + c) c n
def seqOf : D → Option (List D)
  | .lst xs => some xs
  | .tup xs => some xs
  | _ => none
def lenD : D → Option Nat
  | .lst xs => some xs.length
  | .tup xs => some xs.length
  | .dic _ kvs => some kvs.length
  | .str x => if x.length ≤ lim then some x.length else none
  | _ => none
def isTag : Bi → D → Bool
  | .isinstTuple, .tup _ => true
  | .isinstList, .lst _ => true
  | .isinstSeq, .tup _ => true
  | .isinstSeq, .lst _ => true
  | .isinstInt, .int _ => true
  | .isinstInt, .bl _ => true
  | .isinstBool, .bl _ => true
  | .isinstStr, .str _ => true
  | _, _ => false
mutual
/-- ints that str tells -/
def showI : D → Bool
  | .int i => decide (i.natAbs.log2 < 1920)
  | .tup xs => showIL xs
  | .lst xs => showIL xs
  | _ => true
def showIL : List D → Bool
  | [] => true
  | x :: xs => showI x && showIL xs
end
def pairsOf : List D → Option (List (D × D))
  | [] => some []
  | .tup [k, v] :: r => (pairsOf r).map ((k, v) :: ·)
  | _ :: _ => none
def isLs0 : D → Bool
  | .lst _ => true
  | _ => false
def bi : Bi → List D → Option D
  | .len, [x] => (lenD x).map fun n => .int n
  | .sum, [x] => (seqOf x).bind fun xs => (allNum xs).map fun l => .int l.sum
  | .any, [.lst xs] => (allBl xs).map fun l => .bl (l.any id)
  | .all, [.lst xs] => (allBl xs).map fun l => .bl (l.all id)
  | .sorted, [x] => (seqOf x).bind fun l => if srtOk l then some (.lst (sortT l)) else none
  | .tuple, [x] => (seqOf x).map .tup
  | .list, [x] => (seqOf x).map .lst
  | .int, [.int i] => some (.int i)
  | .int, [.bl b] => some (.int (i01 b))
  | .max, [.int i, .int j] => some (.int (if j > i then j else i))
  | .min, [.int i, .int j] => some (.int (if j < i then j else i))
  | .min, [.lst (x :: xs)] => if mmOk (x :: xs) then some (minT x xs) else none
  | .min, [.tup (x :: xs)] => if mmOk (x :: xs) then some (minT x xs) else none
  | .max, [.lst (x :: xs)] => if mmOk (x :: xs) then some (maxT x xs) else none
  | .max, [.tup (x :: xs)] => if mmOk (x :: xs) then some (maxT x xs) else none
  | .repr, [x] => if plainD 30 x && showI x && decide ((toPy x).shown.length ≤ lim) then some (.str (toPy x).shown) else none
  | .isinstTuple, [x] => some (.bl (isTag .isinstTuple x))
  | .isinstList, [x] => some (.bl (isTag .isinstList x))
  | .isinstSeq, [x] => some (.bl (isTag .isinstSeq x))
  | .isinstInt, [x] => some (.bl (isTag .isinstInt x))
  | .isinstBool, [x] => some (.bl (isTag .isinstBool x))
  | .isinstStr, [x] => some (.bl (isTag .isinstStr x))
  | .dict, [.lst xs] => (pairsOf xs).bind fun ps => if ps.all (fun p => isKey true p.1) then some (.dic true (ps.foldl (fun acc p => dPut acc p.1 p.2) [])) else none
  | .abs, [.int i] => some (.int (if i < 0 then -i else i))
  | .range, [.int j] => if decide (-(2 ^ 62) ≤ j) && decide (j < 2 ^ 62) then some (.lst (rangeD 0 j.toNat)) else none
  | .range, [.int i, .int j] => if decide (-(2 ^ 62) ≤ i) && decide (i < 2 ^ 62) && decide (-(2 ^ 62) ≤ j) && decide (j < 2 ^ 62) then some (.lst (rangeD i (j - i).toNat)) else none
  | .range, [.int i, .int j, .int (-1)] => if decide (-(2 ^ 62) ≤ i) && decide (i < 2 ^ 62) && decide (-(2 ^ 62) ≤ j) && decide (j < 2 ^ 62) then some (.lst (rangeC i (-1) (i - j).toNat)) else none
  | .enum, [x] => (seqOf x).map fun l => .lst (enumD 0 l)
  | .zip, [x, y] => if isLs0 x == isLs0 y then (seqOf x).bind fun l => (seqOf y).map fun m => .lst (zipD l m) else none
  | _, _ => none

def isCst : D → Bool
  | .tup _ => false
  | .lst _ => false
  | .dic _ _ => false
  | _ => true
/-! ### evaluation -/
abbrev Act := Option (Exn ⊕ D)
structure Gx where
  ks : List Kd
  cf : Nat → Act → List D → Option CO
  info : Nat → List Kd
  sub : Nat → Nat → Bool
  xin : Nat → List Str
  wf : Nat
  act : Act
  ex : Option (Nat × List (Str × D))
def bnd {α β : Type} (m : Option (R α)) (f : α → En → Option (R β)) : Option (R β) := match m with
  | none => none
  | some (.ok a e) => f a e
  | some (.xc x e) => some (.xc x e)
/-- within a comprehension nothing may be raised -/
def bnd0 {α β : Type} (m : Option (R α)) (f : α → En → Option (R β)) : Option (R β) := match m with
  | some (.ok a e) => f a e
  | _ => none
def rdS (e : En) (i : Nat) : Option D := (e[i]?).join
def isLoc : C → Bool
  | .loc _ => true
  | .scr _ => true
  | _ => false
/-- no item of a list of expressions is a loc -/
def noLocs : C → Bool
  | .cons a b => !isLoc a && noLocs b
  | _ => true
def fin (c : C) (d : D) (e : En) : Option D := match c with
  | .loc i => rdS e i
  | .scr _ => none
  | _ => some d
def finT (c : C) (d : D) (e : En) : Option Bool := (fin c d e).bind truthO
def finL : C → List D → En → Option (List D)
  | .cons a b, d :: l, e => (fin a d e).bind fun x => (finL b l e).map (x :: ·)
  | .nil, [], _ => some []
  | _, _, _ => none
def wipeE (e : En) : List Nat → En
  | [] => e
  | v :: vs => (wipeE e vs).set v none
/-- the slots vs as they were in e0 -/
def restE (e0 e : En) : List Nat → En
  | [] => e
  | v :: vs => (restE e0 e vs).set v (rdS e0 v)
def argL (ks : List Kd) : List Kd → C → List D → En → Option (List D)
  | [], .nil, [], _ => some []
  | k :: r, .cons c b, d :: l, e =>
    (match c with
      | .loc i => (match k with
        | .own => if ks[i]? = some Kd.own then rdS e i else none
        | .brw => if ks[i]? = some Kd.own ∨ ks[i]? = some Kd.brw then rdS e i else none
        | _ => none)
      | .scr i => (match k with
        | .frz => if ks[i]? = some Kd.frz then rdS e i else none
        | _ => none)
      | _ => (match k with
        | .shr => some d
        | .brw => some d
        | _ => none)).bind fun x => (argL ks r b l e).map (x :: ·)
  | _, _, _, _ => none
def backL : List Kd → C → List (Option D) → En → Option En
  | [], .nil, _, e => some e
  | k :: r, .cons c b, o :: l, e => (match k, c, o with
      | .own, .loc i, some d => some (e.set i (some d))
      | .own, _, _ => none
      | _, _, _ => some e).bind fun e' => backL r b l e'
  | _, _, _, _ => none
/-- a target's store -/
def asgT (ks : List Kd) : C → D → En → Option En
  | .var i, d, e => if ks[i]? = some Kd.shr && decide (i < e.length) then some (e.set i (some d)) else none
  | .tup a, .tup l, e => asgT ks a (.lst l) e
  | .nil, .lst [], e => some e
  | .cons a b, .lst (x :: l), e => (asgT ks a x e).bind fun e' => asgT ks b (.lst l) e'
  | _, _, _ => none
def itemsOf (ks : List Kd) (c : C) (d : D) (e : En) : Option (List D) := match c with
  | .loc i => if ks[i]? = some Kd.brw then (rdS e i).bind seqOf else none
  | .scr i => if ks[i]? = some Kd.frz then (rdS e i).bind seqOf else none
  | _ => seqOf d
def lcLoop (step : D → En → Option (R (Option D))) : List D → En → Option (R (List D))
  | [], e => some (.ok [] e)
  | d :: r, e => bnd0 (step d e) fun o e1 => bnd0 (lcLoop step r e1) fun l e2 => some (.ok (o.toList ++ l) e2)
def lcLoop2 (step : D → En → Option (R (List D))) : List D → En → Option (R (List D))
  | [], e => some (.ok [] e)
  | d :: r, e => bnd0 (step d e) fun o e1 => bnd0 (lcLoop2 step r e1) fun l e2 => some (.ok (o ++ l) e2)
def brwd (ks : List Kd) : List Kd := ks.map fun k => match k with | .own => .brw | k => k
def flds0 : List Str → List D → Option (List (Str × D))
  | [], [] => some []
  | f :: r, d :: l => (flds0 r l).map ((f, d) :: ·)
  | _, _ => none
def partOf (c : C) (d : D) : Option (Option Int) := match c, d with
  | .noPart, _ => some none
  | _, .int i => some (some i)
  | _, _ => none

def smallI (j : Int) : Bool := decide (-(2 ^ 62) ≤ j) && decide (j < 2 ^ 62)
/-- the bounds of a range -/
def rngOf : List D → Option (Int × Int)
  | [.int j] => if smallI j then some (0, j) else none
  | [.int i, .int j] => if smallI i && smallI j then some (i, j) else none
  | _ => none
def isLst : Option D → Bool
  | some (.lst _) => true
  | _ => false
def ev : C → Gx → En → Option (R D)
  | .var i, G, e => if G.ks[i]? = some Kd.shr then (rdS e i).map (.ok · e) else none
  | .loc i, G, e => if G.ks[i]? = some Kd.own ∨ G.ks[i]? = some Kd.brw then (rdS e i).map fun _ => .ok .non e else none
  | .scr i, G, e => if G.ks[i]? = some Kd.frz then (rdS e i).map fun _ => .ok .non e else none
  | .scrLen i, G, e => if G.ks[i]? = some Kd.frz then ((rdS e i).bind seqOf).map fun l => .ok (.int l.length) e else none
  | .scrList i, G, e => if G.ks[i]? = some Kd.frz then ((rdS e i).bind seqOf).map fun l => .ok (.lst l) e else none
  | .scrCut i k, G, e => if G.ks[i]? = some Kd.frz then ((rdS e i).bind seqOf).map fun l => .ok (.lst (cutD l none (some k))) e else none
  | .cst d, _, e => if isCst d then some (.ok d e) else none
  | .noPart, _, e => some (.ok .non e)
  | .nil, _, e => some (.ok (.lst []) e)
  | .cons a b, G, e => bnd (ev a G e) fun x e1 => bnd (ev b G e1) fun xs e2 => match xs with
    | .lst l => some (.ok (.lst (x :: l)) e2)
    | _ => none
  | .tup a, G, e => bnd (ev a G e) fun xs e1 => match xs with
    | .lst l => if noLocs a then some (.ok (.tup l) e1) else none
    | _ => none
  | .lst a, G, e => bnd (ev a G e) fun xs e1 => match xs with
    | .lst l => if noLocs a then some (.ok (.lst l) e1) else none
    | _ => none
  | .dnew t, _, e => some (.ok (.dic t []) e)
  | .disp ks a, G, e => bnd (ev a G e) fun xs e1 => match xs with
    | .lst l => if noLocs a then (flds0 ks l).map fun kvs => .ok (.dic false (kvs.map fun p => (.str p.1, p.2))) e1 else none
    | _ => none
  | .op o a b, G, e => bnd (ev a G e) fun x e1 => bnd (ev b G e1) fun y e2 =>
    (fin a x e2).bind fun x => (fin b y e2).bind fun y => (op2 o x y).map (.ok · e2)
  | .neg a, G, e => bnd (ev a G e) fun x e1 => match x with
    | .int i => some (.ok (.int (-i)) e1)
    | _ => none
  | .not a, G, e => bnd (ev a G e) fun x e1 => (finT a x e1).map fun x => .ok (.bl (!x)) e1
  | .and a b, G, e => bnd (ev a G e) fun x e1 => (truthO x).bind fun t => if isLoc a || isLoc b then none else if t then ev b G e1 else some (.ok x e1)
  | .or a b, G, e => bnd (ev a G e) fun x e1 => (truthO x).bind fun t => if isLoc a || isLoc b then none else if t then some (.ok x e1) else ev b G e1
  | .ite c a b, G, e => bnd (ev c G e) fun x e1 => (finT c x e1).bind fun t => if isLoc a || isLoc b then none else if t then ev a G e1 else ev b G e1
  | .idx a b, G, e => bnd (ev a G e) fun x e1 => bnd (ev b G e1) fun y e2 => (fin a x e2).bind fun x => if isLoc b then none else (idxD x y).map (.ok · e2)
  | .slc a lo hi, G, e => bnd (ev a G e) fun x e1 => bnd (ev lo G e1) fun l e2 => (partOf lo l).bind fun l => bnd (ev hi G e2) fun h e3 =>
    (partOf hi h).bind fun h => (fin a x e3).bind fun x => (slcD x l h).map (.ok · e3)
  | .call f a, G, e => bnd (ev a G e) fun xs e1 => match xs with
    | .lst l => (argL G.ks (G.info f) a l e1).bind fun ds => match G.cf f none ds with
      | none => none
      | some (.ok d o) => (backL (G.info f) a o e1).map (.ok d ·)
      | some (.xc x o) => (backL (G.info f) a o e1).map (.xc x ·)
    | _ => none
  | .blt f a, G, e => bnd (ev a G e) fun xs e1 => match xs with
    | .lst l => (finL a l e1).bind fun ds => (bi f ds).map (.ok · e1)
    | _ => none
  | .isi f a, G, e => bnd (ev a G e) fun x e1 => (fin a x e1).bind fun x => (bi f [x]).map (.ok · e1)
  | .lrng t a, G, e => bnd (ev a G e) fun xs e1 => match xs with
    | .lst l => if noLocs a then (rngOf l).bind fun p => if (p.2 - p.1).toNat ≤ lim then some (.ok (if t then .tup (rangeD p.1 (p.2 - p.1).toNat) else .lst (rangeD p.1 (p.2 - p.1).toNat)) e1) else none else none
    | _ => none
  | .popAt i a, G, e => if isLoc a || !isLst (rdS e i) then none else bnd (ev a G e) fun k e1 => match rdS e1 i, k with
    | some (.lst l), .int k => if G.ks[i]? = some Kd.own ∧ l.length ≤ lim then (ixOf l.length k).bind fun j => (l[j]?).map fun x => .ok x (e1.set i (some (.lst (l.eraseIdx j)))) else none
    | _, _ => none
  | .popLast i, G, e => match rdS e i with
    | some (.lst l) => if G.ks[i]? = some Kd.own then (l[l.length - 1]?).map fun x => .ok x (e.set i (some (.lst l.dropLast))) else none
    | _ => none
  | .lc vs tg it cond elt, G, e => bnd (ev it G e) fun d e1 => (itemsOf G.ks it d e1).bind fun ds =>
    bnd0 (lcLoop (fun x e2 => (asgT G.ks tg x (wipeE e2 vs)).bind fun e3 => bnd0 (ev cond G e3) fun t e4 => (finT cond t e4).bind fun t => if t then bnd0 (ev elt G e4) fun y e5 => if isLoc elt then none else some (.ok (some y) e5) else some (.ok none e4)) ds e1)
      fun l e6 => if l.length ≤ lim then some (.ok (.lst l) (restE e1 e6 vs)) else none
  | .lc2 vs vs1 tg it cond tg1 it1 cond1 elt, G, e => bnd (ev it G e) fun d e1 => (itemsOf G.ks it d e1).bind fun ds =>
    bnd0 (lcLoop2 (fun x e2 => (asgT G.ks tg x (wipeE e2 vs)).bind fun e3 => bnd0 (ev cond G e3) fun t e4 => (finT cond t e4).bind fun t => if t then
        bnd0 (ev it1 G e4) fun d1 e5 => (itemsOf G.ks it1 d1 e5).bind fun ds1 =>
          lcLoop (fun x e6 => (asgT G.ks tg1 x (wipeE e6 vs1)).bind fun e7 => bnd0 (ev cond1 G e7) fun t e8 => (finT cond1 t e8).bind fun t => if t then bnd0 (ev elt G e8) fun y e9 => if isLoc elt then none else some (.ok (some y) e9) else some (.ok none e8)) ds1 e5
      else some (.ok [] e4)) ds e1)
      fun l e6 => if l.length ≤ lim then some (.ok (.lst l) (restE e1 e6 vs)) else none
  | .mmd mx a i, G, e => bnd (ev a G e) fun x e1 => if isLoc a then none else match x with
    | .lst l => (mmD mx l i).map (.ok · e1)
    | _ => none
  | .fld i f, G, e => match G.ex with
    | some (j, fs) => if i = j then (fs.lookup f).map (.ok · e) else none
    | none => none
  | .lamcall f body, G, e => match ev body { G with ks := brwd G.ks } e with
    | none => none
    | some r => if isLoc body then none else match G.cf f (some (match r with | .ok d _ => .inr d | .xc x _ => .inl x)) [] with
      | some (.ok d _) => some (.ok d e)
      | _ => none
  | .callv _, G, e => match G.act with
    | none => none
    | some (.inr d) => some (.ok d e)
    | some (.inl x) => some (.xc x e)
  | _, _, _ => none

def outB (m : Option (R D)) (f : D → En → Option Out) : Option Out := match m with
  | none => none
  | some (.ok a e) => f a e
  | some (.xc x e) => some (.xc x e)
def whileE (t : En → Option (R D)) (tf : D → En → Option Bool) (b : En → Option Out) : Nat → En → Option Out
  | 0, _ => none
  | n + 1, e => outB (t e) fun d e1 => (tf d e1).bind fun tt => if tt then (match b e1 with
      | some (.nx e2) => whileE t tf b n e2
      | some (.ct e2) => whileE t tf b n e2
      | some (.bk e2) => some (.nx e2)
      | o => o) else some (.nx e1)
def forE (st : D → En → Option En) (b : En → Option Out) : List D → En → Option Out
  | [], e => some (.nx e)
  | d :: r, e => (st d e).bind fun e1 => match b e1 with
      | some (.nx e2) => forE st b r e2
      | some (.ct e2) => forE st b r e2
      | some (.bk e2) => some (.nx e2)
      | o => o
/-- a store to a slot: shared, or owned -/
def setK (ks : List Kd) (i : Nat) (d : D) (e : En) : Option En := match ks[i]?, d with
  | some Kd.shr, _ => some (e.set i (some d))
  | some Kd.own, .lst _ => some (e.set i (some d))
  | some Kd.own, .dic _ _ => some (e.set i (some d))
  | _, _ => none
def isSh : C → Bool
  | .cst _ => true
  | _ => false

def exec : C → Gx → En → Option Out
  | .seq a b, G, e => match exec a G e with
    | some (.nx e1) => exec b G e1
    | o => o
  | .pass, _, e => some (.nx e)
  | .asg t c, G, e => outB (ev c G e) fun d e1 => if isLoc c then none else match t with
    | .loc i => if G.ks[i]? = some Kd.own then (setK G.ks i d e1).map .nx else none
    | _ => (asgT G.ks t d e1).map .nx
  | .par i j a b, G, e => outB (ev a G e) fun x e1 => outB (ev b G e1) fun y e2 => if isLoc a || isLoc b then none else (setK G.ks i x e2).bind fun e3 => (setK G.ks j y e3).map .nx
  | .par3 i j k a b c, G, e => outB (ev a G e) fun x e1 => outB (ev b G e1) fun y e2 => outB (ev c G e2) fun z e3 => if isLoc a || isLoc b || isLoc c then none else (setK G.ks i x e3).bind fun e4 => (setK G.ks j y e4).bind fun e5 => (setK G.ks k z e5).map .nx
  | .drop c, G, e => outB (ev c G e) fun _ e1 => some (.nx e1)
  | .ret c, G, e => outB (ev c G e) fun d e1 => if isLoc c then none else some (.rt d e1)
  | .retN, _, e => some (.rt .non e)
  | .retO i, G, e => if G.ks[i]? = some Kd.own then (rdS e i).map (.rt · (e.set i none)) else none
  | .ife c a b, G, e => outB (ev c G e) fun d e1 => (finT c d e1).bind fun t => if t then exec a G e1 else exec b G e1
  | .whl c b, G, e => whileE (fun e => ev c G e) (finT c) (fun e => exec b G e) G.wf e
  | .fr tg it b, G, e => outB (ev it G e) fun d e1 => (itemsOf G.ks it d e1).bind fun ds => forE (asgT G.ks tg) (fun e => exec b G e) ds e1
  | .brk, _, e => some (.bk e)
  | .cnt, _, e => some (.ct e)
  | .raise cls a, G, e => outB (ev a G e) fun xs e1 => match xs with
    | .lst l => if noLocs a then (flds0 (G.xin cls) l).map fun fs => .xc ⟨cls, fs⟩ e1 else none
    | _ => none
  | .app i c, G, e => if !isLst (rdS e i) then none else outB (ev c G e) fun d e1 => if isLoc c then none else match rdS e1 i with
    | some (.lst l) => if G.ks[i]? = some Kd.own && decide (l.length < lim) then some (.nx (e1.set i (some (.lst (l ++ [d]))))) else none
    | _ => none
  | .stIx i k c, G, e => if (rdS e i).isNone then none else outB (ev c G e) fun d e1 => outB (ev k G e1) fun q e2 => if isLoc c || isLoc k then none else match rdS e2 i, q with
    | some (.lst l), .int z => if G.ks[i]? = some Kd.own then (ixOf l.length z).map fun j => .nx (e2.set i (some (.lst (l.set j d)))) else none
    | some (.dic t kvs), q => if G.ks[i]? = some Kd.own && isKey t q && decide (kvs.length < lim) then some (.nx (e2.set i (some (.dic t (dPut kvs q d))))) else none
    | _, _ => none
  | .aug i o c, G, e => match rdS e i with
    | some x => if G.ks[i]? = some Kd.shr then outB (ev c G e) fun y e1 => if isLoc c then none else match x, y with
      | .int _, .int _ => (op2 o x y).map fun z => .nx (e1.set i (some z))
      | _, _ => none
      else none
    | none => none
  | .tryx b h, G, e => match exec b G e with
    | some (.xc x e1) => exec h { G with ex := some (0, x.flds), act := some (.inl x) } e1
    | o => o
  | .hnil, G, e => match G.act with
    | some (.inl x) => some (.xc x e)
    | _ => none
  | .hcons cls i s r, G, e => match G.act with
    | some (.inl x) => if G.sub x.cls cls then exec s { G with ex := some (i, x.flds), act := none } (e.set i none) else exec r G e
    | _ => none
  | _, _, _ => none

/-- a def: the kinds of its slots (parameters first), the number of its parameters, its body -/
structure DefI where
  ks : List Kd
  np : Nat
  code : C
deriving Inhabited
structure Tb where
  defs : List DefI
  sub : Nat → Nat → Bool
  xin : Nat → List Str
  wf : Nat
def outsOf (ks : List Kd) (np : Nat) (e : En) : List (Option D) := (List.range np).map fun i => if ks[i]? = some Kd.own then rdS e i else none
def callN (T : Tb) : Nat → Nat → Act → List D → Option CO
  | 0, _, _, _ => none
  | n + 1, f, act, ds => match T.defs[f]? with
    | none => none
    | some d => if act.isNone && decide (ds.length ≠ d.np) then none else
      match exec d.code { ks := d.ks, cf := callN T n, info := fun g => match T.defs[g]? with | some d => d.ks.take d.np | none => [], sub := T.sub, xin := T.xin, wf := T.wf, act := act, ex := none }
        (ds.map some ++ List.replicate (d.ks.length - ds.length) none) with
      | some (.nx e) => some (.ok .non (outsOf d.ks d.np e))
      | some (.rt v e) => some (.ok v (outsOf d.ks d.np e))
      | some (.xc x e) => some (.xc x (outsOf d.ks d.np e))
      | _ => none
end PB
set_option maxHeartbeats 4000000
/-! Ib: plain values and what stands in the heap. -/
namespace PB
open PySem PySem.Spec PyProof.Rows L2

abbrev AS := Addr → Prop
/-- a list, a tuple of the written part -/
def KL (K : PySem.W.Frag) (a : Addr) (xs : List V) : Prop :=
  ∃ (o : Obj) (its : Array Value) (n : Nat), K.lookup a = some o ∧ o.cls = .type "list" ∧ o.dict = none ∧ o.data = .seq its n ∧ its.size ≤ sizeLine ∧ Vals xs its.toList
def KTu (K : PySem.W.Frag) (a : Addr) (xs : List V) : Prop :=
  ∃ (o : Obj) (its : Array Value) (n : Nat), K.lookup a = some o ∧ o.cls = .type "tuple" ∧ o.data = .seq its n ∧ its.size ≤ sizeLine ∧ Vals xs its.toList

/-- a key, as an int or a text -/
def repKey (k : Key) : D → Prop
  | .int i => k = .inl i
  | .str x => k = .inr x
  | _ => False
def repKeys : List Key → List D → Prop
  | [], [] => True
  | k :: ks, d :: ds => repKey k d ∧ repKeys ks ds
  | _, _ => False

section
variable (Z : AS) (H : Hp)
mutual
/-- v, in H, is the plain value d; nothing of it is in Z -/
def Rep : D → V → Prop
  | .non, v => v = .non
  | .bl b, v => v = .bl b
  | .int i, v => v = .int i
  | .str x, v => v = .str x
  | .tup ds, v => ∃ a xs, v = .ref a ∧ (¬ Z a ∧ H a = some (.tup xs)) ∧ RepL ds xs
  | .lst ds, v => ∃ a xs, v = .ref a ∧ (¬ Z a ∧ H a = some (.lst xs)) ∧ RepL ds xs
  | .dic t ds, v => ∃ a, v = .ref a ∧ ¬ Z a ∧ ((t = false ∧ ∃ kvs, H a = some (.dK kvs) ∧ RepK ds kvs) ∨ (t = true ∧ ∃ kvs, H a = some (.dT kvs) ∧ RepT ds kvs))
def RepL : List D → List V → Prop
  | [], xs => xs = []
  | d :: ds, xs => ∃ v r, xs = v :: r ∧ Rep d v ∧ RepL ds r
def RepK : List (D × D) → List (Key × V) → Prop
  | [], kvs => kvs = []
  | (k, d) :: ds, kvs => ∃ q v r, kvs = (q, v) :: r ∧ repKey q k ∧ Rep d v ∧ RepK ds r
def RepT : List (D × D) → List (List Key × V) → Prop
  | [], kvs => kvs = []
  | (k, d) :: ds, kvs => ∃ q v r ks, kvs = (q, v) :: r ∧ k = .tup ks ∧ repKeys q ks ∧ Rep d v ∧ RepT ds r
end
end

/-- what stands in H outside Z stands in H' outside Z' -/
def Kp (Z Z' : AS) (H H' : Hp) : Prop := ∀ a o, H a = some o → (∀ ps, o ≠ .tbl ps) → ¬ Z a → H' a = some o ∧ ¬ Z' a
theorem Kp.refl {Z : AS} {H : Hp} : Kp Z Z H H := fun _ _ h _ z => ⟨h, z⟩
theorem Kp.trans {Z Z1 Z2 : AS} {H H1 H2 : Hp} (a : Kp Z Z1 H H1) (b : Kp Z1 Z2 H1 H2) : Kp Z Z2 H H2 := fun x o h n z =>
  let ⟨h1, z1⟩ := a x o h n z
  b x o h1 n z1
theorem Kp.sub {Z Z' : AS} {H : Hp} (h : ∀ a, Z' a → Z a) : Kp Z Z' H H := fun _ _ e _ z => ⟨e, fun q => z (h _ q)⟩

section
variable {K : PySem.W.Frag} {Z Z' : AS} {H H' : Hp}
theorem Kp.rd (k : Kp Z Z' H H') {a : Addr} {u : HO} (hu : ∀ ps, u ≠ .tbl ps) (z : ¬ Z a) (h : Rd H a u) : ¬ Z' a ∧ Rd H' a u := by
  rcases h with h | ⟨o, h⟩
  · exact ⟨(k a _ h hu z).2, .inl (k a _ h hu z).1⟩
  · have q := k a _ h (fun ps e => by cases e) z
    exact ⟨q.2, .inr ⟨o, q.1⟩⟩
mutual
theorem Rep.mono (k : Kp Z Z' H H') : ∀ (d : D) (v : V), Rep Z H d v → Rep Z' H' d v
  | .non, _, h => h
  | .bl _, _, h => h
  | .int _, _, h => h
  | .str _, _, h => h
  | .tup ds, v, h => by
    obtain ⟨a, xs, e, q, r⟩ := h
    have q' := k a _ q.2 (fun ps e => by cases e) q.1
    exact ⟨a, xs, e, ⟨q'.2, q'.1⟩, RepL.mono k ds xs r⟩
  | .lst ds, v, h => by
    obtain ⟨a, xs, e, q, r⟩ := h
    have q' := k a _ q.2 (fun ps e => by cases e) q.1
    exact ⟨a, xs, e, ⟨q'.2, q'.1⟩, RepL.mono k ds xs r⟩
  | .dic t ds, v, h => by
    obtain ⟨a, e, z, q⟩ := h
    rcases q with ⟨ht, kvs, q, r⟩ | ⟨ht, kvs, q, r⟩
    · have q' := k a _ q (fun ps e => by cases e) z
      exact ⟨a, e, q'.2, .inl ⟨ht, kvs, q'.1, RepK.mono k ds kvs r⟩⟩
    · have q' := k a _ q (fun ps e => by cases e) z
      exact ⟨a, e, q'.2, .inr ⟨ht, kvs, q'.1, RepT.mono k ds kvs r⟩⟩
theorem RepL.mono (k : Kp Z Z' H H') : ∀ (ds : List D) (xs : List V), RepL Z H ds xs → RepL Z' H' ds xs
  | [], _, h => h
  | d :: ds, xs, h => by
    obtain ⟨v, r, e, h1, h2⟩ := h
    exact ⟨v, r, e, Rep.mono k d v h1, RepL.mono k ds r h2⟩
theorem RepK.mono (k : Kp Z Z' H H') : ∀ (ds : List (D × D)) (xs : List (Key × V)), RepK Z H ds xs → RepK Z' H' ds xs
  | [], _, h => h
  | (_, d) :: ds, xs, h => by
    obtain ⟨q, v, r, e, h0, h1, h2⟩ := h
    exact ⟨q, v, r, e, h0, Rep.mono k d v h1, RepK.mono k ds r h2⟩
theorem RepT.mono (k : Kp Z Z' H H') : ∀ (ds : List (D × D)) (xs : List (List Key × V)), RepT Z H ds xs → RepT Z' H' ds xs
  | [], _, h => h
  | (_, d) :: ds, xs, h => by
    obtain ⟨q, v, r, ks, e, e2, h0, h1, h2⟩ := h
    exact ⟨q, v, r, ks, e, e2, h0, Rep.mono k d v h1, RepT.mono k ds r h2⟩
end
theorem RepL.length : ∀ (ds : List D) (xs : List V), RepL Z H ds xs → xs.length = ds.length
  | [], _, h => by cases h; rfl
  | d :: ds, xs, h => by
    obtain ⟨v, r, e, _, h2⟩ := h
    subst e
    simp [RepL.length ds r h2]
theorem RepL.get : ∀ (ds : List D) (xs : List V), RepL Z H ds xs → ∀ (i : Nat) (d : D), ds[i]? = some d → ∃ v, xs[i]? = some v ∧ Rep Z H d v
  | [], _, _, i, d, h => by simp at h
  | d0 :: ds, xs, h, 0, d, e => by
    obtain ⟨v, r, q, h1, _⟩ := h
    subst q
    simp at e
    subst e
    exact ⟨v, rfl, h1⟩
  | d0 :: ds, xs, h, i + 1, d, e => by
    obtain ⟨v, r, q, _, h2⟩ := h
    subst q
    simpa using RepL.get ds r h2 i d (by simpa using e)
theorem RepL.at (ds : List D) (xs : List V) (h : RepL Z H ds xs) (i : Nat) (v : V) (e : xs[i]? = some v) : ∃ d, ds[i]? = some d ∧ Rep Z H d v := by
  have hl := RepL.length ds xs h
  have hi : i < ds.length := by rw [← hl]; exact (List.getElem?_eq_some_iff.mp e).1
  obtain ⟨w, h1, h2⟩ := RepL.get ds xs h i ds[i] (by simp [hi])
  rw [e] at h1
  cases h1
  exact ⟨ds[i], by simp [hi], h2⟩
theorem RepL.append : ∀ (ds es : List D) (xs ys : List V), RepL Z H ds xs → RepL Z H es ys → RepL Z H (ds ++ es) (xs ++ ys)
  | [], es, xs, ys, h, h' => by cases h; exact h'
  | d :: ds, es, xs, ys, h, h' => by
    obtain ⟨v, r, q, h1, h2⟩ := h
    subst q
    exact ⟨v, r ++ ys, rfl, h1, RepL.append ds es r ys h2 h'⟩
theorem RepL.take : ∀ (n : Nat) (ds : List D) (xs : List V), RepL Z H ds xs → RepL Z H (ds.take n) (xs.take n)
  | 0, ds, xs, h => by simp [RepL]
  | n + 1, [], xs, h => by cases h; simp [RepL]
  | n + 1, d :: ds, xs, h => by
    obtain ⟨v, r, q, h1, h2⟩ := h
    subst q
    exact ⟨v, r.take n, rfl, h1, RepL.take n ds r h2⟩
theorem RepL.drop : ∀ (n : Nat) (ds : List D) (xs : List V), RepL Z H ds xs → RepL Z H (ds.drop n) (xs.drop n)
  | 0, ds, xs, h => h
  | n + 1, [], xs, h => by cases h; simp [RepL]
  | n + 1, d :: ds, xs, h => by
    obtain ⟨v, r, q, h1, h2⟩ := h
    subst q
    exact RepL.drop n ds r h2
theorem RepL.set : ∀ (n : Nat) (ds : List D) (xs : List V) (d : D) (v : V), RepL Z H ds xs → Rep Z H d v → RepL Z H (ds.set n d) (xs.set n v)
  | _, [], xs, d, v, h, h' => by cases h; simp [RepL]
  | 0, d0 :: ds, xs, d, v, h, h' => by
    obtain ⟨v0, r, q, h1, h2⟩ := h
    subst q
    exact ⟨v, r, rfl, h', h2⟩
  | n + 1, d0 :: ds, xs, d, v, h, h' => by
    obtain ⟨v0, r, q, h1, h2⟩ := h
    subst q
    exact ⟨v0, r.set n v, rfl, h1, RepL.set n ds r d v h2 h'⟩
theorem RepL.eraseIdx : ∀ (n : Nat) (ds : List D) (xs : List V), RepL Z H ds xs → RepL Z H (ds.eraseIdx n) (xs.eraseIdx n)
  | _, [], xs, h => by cases h; simp [RepL]
  | 0, d0 :: ds, xs, h => by
    obtain ⟨v0, r, q, h1, h2⟩ := h
    subst q
    exact h2
  | n + 1, d0 :: ds, xs, h => by
    obtain ⟨v0, r, q, h1, h2⟩ := h
    subst q
    exact ⟨v0, r.eraseIdx n, rfl, h1, RepL.eraseIdx n ds r h2⟩
theorem RepL.dropLast (ds : List D) (xs : List V) (h : RepL Z H ds xs) : RepL Z H ds.dropLast xs.dropLast := by
  rw [List.dropLast_eq_take, List.dropLast_eq_take, RepL.length ds xs h]
  exact RepL.take _ ds xs h
theorem RepL.rep (ds : List D) (xs : List V) (h : RepL Z H ds xs) : ∀ k : Nat, RepL Z H (List.replicate k ds).flatten (List.replicate k xs).flatten
  | 0 => rfl
  | k + 1 => by
    rw [List.replicate_succ, List.replicate_succ, List.flatten_cons, List.flatten_cons]
    exact RepL.append _ _ _ _ h (RepL.rep ds xs h k)
/-- all ints, all bools -/
theorem RepL.ints : ∀ (ds : List D) (xs : List V) (l : List Int), RepL Z H ds xs → allInt ds = some l → xs = l.map V.int
  | [], xs, l, h, e => by
    cases h
    simp [allInt] at e
    subst e
    rfl
  | d :: ds, xs, l, h, e => by
    obtain ⟨v, r, q, h1, h2⟩ := h
    subst q
    cases d with
    | int i =>
      simp only [allInt, Option.map_eq_some_iff] at e
      obtain ⟨l', e', rfl⟩ := e
      rw [RepL.ints ds r l' h2 e', show v = V.int i from h1]
      rfl
    | _ => simp [allInt] at e
theorem RepL.bls : ∀ (ds : List D) (xs : List V) (l : List Bool), RepL Z H ds xs → allBl ds = some l → xs = l.map V.bl
  | [], xs, l, h, e => by
    cases h
    simp [allBl] at e
    subst e
    rfl
  | d :: ds, xs, l, h, e => by
    obtain ⟨v, r, q, h1, h2⟩ := h
    subst q
    cases d with
    | bl i =>
      simp only [allBl, Option.map_eq_some_iff] at e
      obtain ⟨l', e', rfl⟩ := e
      rw [RepL.bls ds r l' h2 e', show v = V.bl i from h1]
      rfl
    | _ => simp [allBl] at e
theorem repL_ints : ∀ l : List Int, RepL Z H (l.map D.int) (l.map V.int)
  | [] => rfl
  | i :: l => ⟨_, _, rfl, rfl, repL_ints l⟩
/-! ### == -/
mutual
theorem Rep.dp : ∀ (n : Nat) (d : D) (v : V), plainD n d = true → Rep Z H d v → Dp K H v (toPy d)
  | _, .non, v, _, h => by cases h; exact .non
  | _, .bl b, v, _, h => by cases h; exact .bl b
  | _, .int i, v, _, h => by cases h; exact .int i
  | _, .str x, v, _, h => by cases h; exact .str x
  | 0, .tup ds, v, p, h => by simp [plainD] at p
  | n + 1, .tup ds, v, p, h => by
    obtain ⟨a, xs, e, q, r⟩ := h
    subst e
    exact .tup (.of q.2) (RepL.dp n ds xs (by simpa [plainD] using p) r)
  | 0, .lst ds, v, p, h => by simp [plainD] at p
  | n + 1, .lst ds, v, p, h => by
    obtain ⟨a, xs, e, q, r⟩ := h
    subst e
    exact .lst (.of q.2) (RepL.dp n ds xs (by simpa [plainD] using p) r)
  | _, .dic _ _, v, p, h => by simp [plainD] at p
theorem RepL.dp : ∀ (n : Nat) (ds : List D) (xs : List V), plainL n ds = true → RepL Z H ds xs → DpAll K H xs (toPyL ds)
  | _, [], xs, _, h => by cases h; exact .nil
  | n, d :: ds, xs, p, h => by
    obtain ⟨v, r, q, h1, h2⟩ := h
    subst q
    simp only [plainL, Bool.and_eq_true] at p
    exact .cons (Rep.dp n d v p.1 h1) (RepL.dp n ds r p.2 h2)
end
end
mutual
theorem plain_lay : ∀ (n : Nat) (d : D), plainD n d = true → (toPy d).canLay0 = true ∧ (toPy d).depth ≤ n
  | _, .non, _ => by simp [toPy, PyData.canLay0, PyData.depth]
  | _, .bl b, _ => by simp [toPy, PyData.canLay0, PyData.depth]
  | _, .int i, _ => by simp [toPy, PyData.canLay0, PyData.depth]
  | _, .str x, h => by
    simp only [plainD] at h
    simp [toPy, PyData.canLay0, PyData.depth, h]
  | 0, .tup ds, p => by simp [plainD] at p
  | n + 1, .tup ds, p => by
    have h := plain_layL n ds (by simpa [plainD] using p)
    simp only [toPy, PyData.canLay0, PyData.depth]
    exact ⟨h.1, by omega⟩
  | 0, .lst ds, p => by simp [plainD] at p
  | n + 1, .lst ds, p => by
    have h := plain_layL n ds (by simpa [plainD] using p)
    simp only [toPy, PyData.canLay0, PyData.depth]
    exact ⟨h.1, by omega⟩
  | _, .dic _ _, p => by simp [plainD] at p
theorem plain_layL : ∀ (n : Nat) (ds : List D), plainL n ds = true → PyData.canLayAll0 (toPyL ds) = true ∧ PyData.depthAll (toPyL ds) ≤ n
  | _, [], _ => by simp [toPyL, PyData.canLayAll0, PyData.depthAll]
  | n, d :: ds, p => by
    simp only [plainL, Bool.and_eq_true] at p
    have h1 := plain_lay n d p.1
    have h2 := plain_layL n ds p.2
    simp only [toPyL, PyData.canLayAll0, PyData.depthAll, h1.1, h2.1]
    exact ⟨rfl, by omega⟩
end
theorem plain_shaped {n : Nat} {d : D} (hn : n ≤ 64) (h : plainD n d = true) : SeqAt.shaped (toPy d) = true := by
  have q := plain_lay n d h
  unfold SeqAt.shaped
  rw [q.1, decide_eq_true (Nat.le_trans q.2 hn)]
  rfl
mutual
theorem eqv_py : ∀ (d e : D), PyData.eqv (toPy d) (toPy e) = eqv d e
  | .non, e => by cases e <;> simp [toPy, PyData.eqv, eqv]
  | .bl b, e => by cases e <;> simp [toPy, PyData.eqv, eqv, i01]
  | .int i, e => by cases e <;> simp [toPy, PyData.eqv, eqv, i01]
  | .str x, e => by cases e <;> simp [toPy, PyData.eqv, eqv]
  | .tup ds, e => by
    cases e with
    | tup es => simp only [toPy, PyData.eqv, eqv]; exact eqv_pyL ds es
    | _ => simp [toPy, PyData.eqv, eqv]
  | .lst ds, e => by
    cases e with
    | lst es => simp only [toPy, PyData.eqv, eqv]; exact eqv_pyL ds es
    | _ => simp [toPy, PyData.eqv, eqv]
  | .dic _ _, e => by cases e <;> simp [toPy, PyData.eqv, eqv]
theorem eqv_pyL : ∀ (ds es : List D), PyData.eqvAll (toPyL ds) (toPyL es) = eqvL ds es
  | [], [] => by simp [toPyL, PyData.eqvAll, eqvL]
  | [], _ :: _ => by simp [toPyL, PyData.eqvAll, eqvL]
  | _ :: _, [] => by simp [toPyL, PyData.eqvAll, eqvL]
  | d :: ds, e :: es => by simp only [toPyL, PyData.eqvAll, eqvL, eqv_py d e, eqv_pyL ds es]
end

/-! ### what is only looked at -/
section
variable (Zo Z : AS) (H : Hp)
/-- v is the plain value d; its own object may be in Z (not in Zo), nothing below it is in Z -/
def RepO : D → V → Prop
  | .tup ds, v => ∃ a xs, v = .ref a ∧ (¬ Zo a ∧ H a = some (.tup xs)) ∧ RepL Z H ds xs
  | .lst ds, v => ∃ a xs, v = .ref a ∧ (¬ Zo a ∧ H a = some (.lst xs)) ∧ RepL Z H ds xs
  | .dic t ds, v => ∃ a, v = .ref a ∧ ¬ Zo a ∧ ((t = false ∧ ∃ kvs, H a = some (.dK kvs) ∧ RepK Z H ds kvs) ∨ (t = true ∧ ∃ kvs, H a = some (.dT kvs) ∧ RepT Z H ds kvs))
  | d, v => Rep Z H d v
/-- an object's own content -/
def Own (a : Addr) : D → Prop
  | .lst ds => ∃ xs, H a = some (.lst xs) ∧ RepL Z H ds xs
  | .dic t ds => (t = false ∧ ∃ kvs, H a = some (.dK kvs) ∧ RepK Z H ds kvs) ∨ (t = true ∧ ∃ kvs, H a = some (.dT kvs) ∧ RepT Z H ds kvs)
  | _ => False
end
abbrev RepB (Z : AS) (H : Hp) (d : D) (v : V) : Prop := RepO (fun _ => False) Z H d v
section
variable {K : PySem.W.Frag} {Zo Zo' Z Z' : AS} {H H' : Hp}
theorem RepO.mono (ko : Kp Zo Zo' H H') (k : Kp Z Z' H H') : ∀ (d : D) (v : V), RepO Zo Z H d v → RepO Zo' Z' H' d v
  | .non, _, h => h
  | .bl _, _, h => h
  | .int _, _, h => h
  | .str _, _, h => h
  | .tup ds, v, h => by
    obtain ⟨a, xs, e, q, r⟩ := h
    have q' := ko a _ q.2 (fun ps e => by cases e) q.1
    exact ⟨a, xs, e, ⟨q'.2, q'.1⟩, RepL.mono k ds xs r⟩
  | .lst ds, v, h => by
    obtain ⟨a, xs, e, q, r⟩ := h
    have q' := ko a _ q.2 (fun ps e => by cases e) q.1
    exact ⟨a, xs, e, ⟨q'.2, q'.1⟩, RepL.mono k ds xs r⟩
  | .dic t ds, v, h => by
    obtain ⟨a, e, z, q⟩ := h
    rcases q with ⟨ht, kvs, q, r⟩ | ⟨ht, kvs, q, r⟩
    · have q' := ko a _ q (fun ps e => by cases e) z
      exact ⟨a, e, q'.2, .inl ⟨ht, kvs, q'.1, RepK.mono k ds kvs r⟩⟩
    · have q' := ko a _ q (fun ps e => by cases e) z
      exact ⟨a, e, q'.2, .inr ⟨ht, kvs, q'.1, RepT.mono k ds kvs r⟩⟩
theorem Rep.toO (hz : ∀ a, Zo a → Z a) : ∀ (d : D) (v : V), Rep Z H d v → RepO Zo Z H d v
  | .non, _, h => h
  | .bl _, _, h => h
  | .int _, _, h => h
  | .str _, _, h => h
  | .tup ds, v, h => by
    obtain ⟨a, xs, e, q, r⟩ := h
    exact ⟨a, xs, e, ⟨fun z => q.1 (hz a z), q.2⟩, r⟩
  | .lst ds, v, h => by
    obtain ⟨a, xs, e, q, r⟩ := h
    exact ⟨a, xs, e, ⟨fun z => q.1 (hz a z), q.2⟩, r⟩
  | .dic t ds, v, h => by
    obtain ⟨a, e, z, q⟩ := h
    exact ⟨a, e, fun y => z (hz a y), q⟩
theorem RepO.toB (d : D) (v : V) (h : RepO Zo Z H d v) : RepB Z H d v := RepO.mono (Zo' := fun _ => False) (fun a o e _ _ => ⟨e, fun f => f⟩) Kp.refl d v h
theorem Rep.toB (d : D) (v : V) (h : Rep Z H d v) : RepB Z H d v := Rep.toO (fun _ f => f.elim) d v h
theorem Own.toB {a : Addr} {d : D} (h : Own Z H a d) : RepB Z H d (.ref a) := by
  cases d with
  | lst ds =>
    obtain ⟨xs, e, r⟩ := h
    exact ⟨a, xs, rfl, ⟨fun f => f, e⟩, r⟩
  | dic t ds => exact ⟨a, rfl, fun f => f, h⟩
  | _ => exact h.elim
theorem Own.toRep {a : Addr} {d : D} (h : Own Z H a d) (hz : ¬ Z' a) (k : Kp Z Z' H H) : Rep Z' H d (.ref a) := by
  cases d with
  | lst ds =>
    obtain ⟨xs, e, r⟩ := h
    exact ⟨a, xs, rfl, ⟨hz, e⟩, RepL.mono k _ _ r⟩
  | dic t ds =>
    refine ⟨a, rfl, hz, ?_⟩
    rcases h with ⟨ht, kvs, e, r⟩ | ⟨ht, kvs, e, r⟩
    · exact .inl ⟨ht, kvs, e, RepK.mono k _ _ r⟩
    · exact .inr ⟨ht, kvs, e, RepT.mono k _ _ r⟩
  | _ => exact h.elim
theorem Own.there {a : Addr} {d : D} (h : Own Z H a d) : H a ≠ none := by
  cases d with
  | lst ds =>
    obtain ⟨xs, e, r⟩ := h
    rw [e]; exact fun z => nomatch z
  | dic t ds =>
    rcases h with ⟨ht, kvs, e, r⟩ | ⟨ht, kvs, e, r⟩ <;> (rw [e]; exact fun z => nomatch z)
  | _ => exact h.elim
theorem Own.mono {a : Addr} {d : D} (h : Own Z H a d) (ha : ∀ o, H a = some o → H' a = some o) (k : Kp Z Z' H H') : Own Z' H' a d := by
  cases d with
  | lst ds =>
    obtain ⟨xs, e, r⟩ := h
    exact ⟨xs, ha _ e, RepL.mono k _ _ r⟩
  | dic t ds =>
    rcases h with ⟨ht, kvs, e, r⟩ | ⟨ht, kvs, e, r⟩
    · exact .inl ⟨ht, kvs, ha _ e, RepK.mono k _ _ r⟩
    · exact .inr ⟨ht, kvs, ha _ e, RepT.mono k _ _ r⟩
  | _ => exact h.elim
theorem RepO.lst {ds : List D} {v : V} (h : RepB Z H (.lst ds) v) : ∃ a xs, v = .ref a ∧ H a = some (.lst xs) ∧ RepL Z H ds xs := by
  obtain ⟨a, xs, e, q, r⟩ := h
  exact ⟨a, xs, e, q.2, r⟩
theorem RepO.tup {ds : List D} {v : V} (h : RepB Z H (.tup ds) v) : ∃ a xs, v = .ref a ∧ H a = some (.tup xs) ∧ RepL Z H ds xs := by
  obtain ⟨a, xs, e, q, r⟩ := h
  exact ⟨a, xs, e, q.2, r⟩
theorem RepO.dp (n : Nat) (d : D) (v : V) (p : plainD n d = true) (h : RepB Z H d v) : Dp K H v (toPy d) := by
  cases d with
  | tup ds =>
    obtain ⟨a, xs, e, q, r⟩ := RepO.tup h
    subst e
    cases n with
    | zero => simp [plainD] at p
    | succ n => exact .tup (.of q) (RepL.dp n ds xs (by simpa [plainD] using p) r)
  | lst ds =>
    obtain ⟨a, xs, e, q, r⟩ := RepO.lst h
    subst e
    cases n with
    | zero => simp [plainD] at p
    | succ n => exact .lst (.of q) (RepL.dp n ds xs (by simpa [plainD] using p) r)
  | dic t ds => simp [plainD] at p
  | non => exact Rep.dp (Z := Z) n .non v p h
  | bl b => exact Rep.dp (Z := Z) n (.bl b) v p h
  | int i => exact Rep.dp (Z := Z) n (.int i) v p h
  | str x => exact Rep.dp (Z := Z) n (.str x) v p h
end
end PB
set_option maxHeartbeats 4000000
namespace PB
open PySem PySem.Spec PyProof.Rows L2
/-- t * k, t empty or k at most 1 -/
theorem tuple_mul1 (l : Addr) (items : Array Value) (n : Nat) (dd : Option Addr) (sl : Array (Option Value)) (x : Int) (u : Tok) (c0 : (decide (x < -(2 ^ 63)) || decide (x ≥ 2 ^ 63)) = false) (c1 : (items.isEmpty || x == 1) = true) :
    Meets (Builtin.«tuple.__mul__» ⟨[.ref l, .int x u], []⟩) (fun _ R s => s.heap.get? l = some { cls := .type "tuple", dict := dd, data := .seq items n, slots := sl } ∧
      R (.ok (.ret (Value.ref l))) s) :=
  .of_wp fun prog w A R s h => by
    obtain ⟨hp, g, d, tk, os⟩ := s
    obtain ⟨hl, h⟩ := h
    have f1 := AutoSeq1.idx_int
    wp_walk using wpAny_loadPart' hl
    refine wpAny_ite_false (decide_eq_false (by rw [c0]; exact Bool.false_ne_true)) ?_
    wp_walk using wpAny_loadPart' hl
    first
      | exact ⟨_, rfl, h⟩
      | (refine wpAny_ite_true (decide_eq_true c1) ?_
         wp_walk using wpAny_loadPart' hl
         exact ⟨_, rfl, h⟩)
theorem tuple_mul0 (l : Addr) (items : Array Value) (n : Nat) (dd : Option Addr) (sl : Array (Option Value)) (x : Int) (u : Tok) (c0 : (decide (x < -(2 ^ 63)) || decide (x ≥ 2 ^ 63)) = false) (c1 : (items.isEmpty || x == 1) = false) (c2 : (decide (x ≤ 0) || items.isEmpty) = true) :
    Meets (Builtin.«tuple.__mul__» ⟨[.ref l, .int x u], []⟩) (fun _ R s => s.heap.get? l = some { cls := .type "tuple", dict := dd, data := .seq items n, slots := sl } ∧
      R (.ok (.ret (Value.ref s.heap.objs.size))) { s with heap := s.heap.push { cls := Value.type "tuple", data := Data.seq #[] }, toks := s.toks }) :=
  .of_wp fun prog w A R s h => by
    obtain ⟨hp, g, d, tk, os⟩ := s
    obtain ⟨hl, h⟩ := h
    have f1 := AutoSeq1.idx_int
    wp_walk using wpAny_loadPart' hl
    refine wpAny_ite_false (decide_eq_false (by rw [c0]; exact Bool.false_ne_true)) ?_
    wp_walk using wpAny_loadPart' hl
    repeat (first
      | (refine wpAny_ite_false (decide_eq_false (by rw [c1]; exact Bool.false_ne_true)) ?_; wp_walk using wpAny_loadPart' hl)
      | (refine wpAny_ite_true (decide_eq_true c2) ?_; wp_walk using wpAny_loadPart' hl)
      | (refine wpAny_ite_false (decide_eq_false (by decide)) ?_; wp_walk using wpAny_loadPart' hl))
    exact ⟨_, rfl, h⟩
section
variable {X : Cx}
/-- t * k, whatever k is -/
def rRepU (K : PySem.W.Frag) : R2 := fun x y H Q => ∃ l k xs, x = .ref l ∧ y = .int k ∧ SqT K H l xs ∧ -(2 ^ 62) < k ∧ k < 2 ^ 62 ∧ xs.length * k.toNat ≤ 100000 ∧
  (xs = [] ∨ k = 1 → Q (.ref l) H) ∧ (¬ (xs = [] ∨ k = 1) → ∀ p, H p = none → Q (.ref p) (upd H p (.tup (List.replicate k.toNat xs).flatten)))
theorem op_repU : OpR X (binaryOp .Mult) (rRepU X.K) := by
  intro pins s σ H x y v u Q I rx ry h
  obtain ⟨l, k, xs, rfl, rfl, hT, h1, h2, hz, q1, q2⟩ := h
  cases rx
  obtain ⟨t, rfl⟩ := ry
  obtain ⟨its, r, ⟨⟨cls, dd, data, sl⟩, ho, hc, n, hd⟩, hs⟩ := I.tuple hT
  simp only at hc hd
  subst hc hd
  have hle : its.length = xs.length := r.length.symm
  have c0 : (decide (k < -(2 ^ 63)) || decide (k ≥ 2 ^ 63)) = false := by
    rw [decide_eq_false (by omega), decide_eq_false (by omega)] <;> rfl
  have go : ∀ {Q' : Value → Shared → Prop}, codeAny (model X.prog X.w) X.A (.call (.builtin "tuple.__mul__") ⟨[.ref l, .int k t], []⟩) (fun r s' => match r with | .ok (.ret v) => Q' v s' | _ => False) s → True := fun _ => trivial
  have em : its.toArray.isEmpty = xs.isEmpty := by
    cases its <;> cases xs <;> simp_all
  by_cases hw : xs = [] ∨ k = 1
  · have c1 : (its.toArray.isEmpty || k == 1) = true := by
      rw [em]
      rcases hw with e | e <;> simp [e]
    refine wpAny_binaryOp_repeat_ref (T := "tuple") (U := "int") (by decide) ⟨_, ho, rfl⟩ (fun s' => typeIs_int s' k t) noFill_tuple_mul F.fills_int_mul F.slot_int_rmul repeat_tuple F.slot_int_index.lookup
      (call_meets F.slot_int_rmul (typeIs_int s k t) F.entry_int_rmul (F.args_int_rmul_2 _ _) (int_rmul_tuple k t l its.toArray n dd sl)
        ⟨ho, rfl, ⟨_, ho, rfl⟩, call_meets F.slot_tuple_mul ⟨_, ho, rfl⟩ F.entry_tuple_mul (F.args_tuple_mul_2 _ _) (tuple_mul1 l its.toArray n dd sl k t c0 c1) ⟨ho, ?_⟩⟩)
    exact ⟨.ref l, H, I, rfl, q1 hw⟩
  · have hx : xs ≠ [] := fun e => hw (.inl e)
    have hk : k ≠ 1 := fun e => hw (.inr e)
    have hxe : xs.isEmpty = false := by cases xs with | nil => exact absurd rfl hx | cons => rfl
    have c1 : (its.toArray.isEmpty || k == 1) = false := by
      rw [em, hxe, Bool.false_or]
      exact beq_eq_false_iff_ne.mpr hk
    have hpos : 1 ≤ xs.length := by cases xs with | nil => exact absurd rfl hx | cons => simp
    by_cases h0 : k ≤ 0
    · have c2 : (decide (k ≤ 0) || its.toArray.isEmpty) = true := by rw [decide_eq_true h0]; rfl
      refine wpAny_binaryOp_repeat_ref (T := "tuple") (U := "int") (by decide) ⟨_, ho, rfl⟩ (fun s' => typeIs_int s' k t) noFill_tuple_mul F.fills_int_mul F.slot_int_rmul repeat_tuple F.slot_int_index.lookup
        (call_meets F.slot_int_rmul (typeIs_int s k t) F.entry_int_rmul (F.args_int_rmul_2 _ _) (int_rmul_tuple k t l its.toArray n dd sl)
          ⟨ho, rfl, ⟨_, ho, rfl⟩, call_meets F.slot_tuple_mul ⟨_, ho, rfl⟩ F.entry_tuple_mul (F.args_tuple_mul_2 _ _) (tuple_mul0 l its.toArray n dd sl k t c0 c1 c2) ⟨ho, ?_⟩⟩)
      have e0 : k.toNat = 0 := by omega
      have q := q2 hw s.heap.objs.size (I.hok.fresh (Nat.le_refl _))
      rw [e0] at q
      exact ⟨.ref s.heap.objs.size, _, I.laid (t' := s.toks) (o := .tup []) (fun b ob q => Heap.get?_push_of_some _ q) (Nat.le_refl _) ⟨Nat.zero_le _, [], .nil, IsTup.new _ _⟩, rfl, q⟩
    · have hk2 : 2 ≤ k := by omega
      have hkl : k ≤ 100000 := by
        have h3 : 1 * k.toNat ≤ xs.length * k.toNat := Nat.mul_le_mul_right _ hpos
        omega
      have hm : ((its.toArray.size : Nat) : Int) * k ≤ 100000 := by
        have e : ((its.toArray.size : Nat) : Int) * k = ((xs.length * k.toNat : Nat) : Int) := by
          rw [List.size_toArray, hle, Int.natCast_mul]
          have e2 : ((k.toNat : Nat) : Int) = k := Int.toNat_of_nonneg (by omega)
          rw [e2]
        omega
      have flen : (List.replicate k.toNat its).flatten.length ≤ sizeLine := by
        rw [PyProof.Rows.lm_len_rep_flat, hle, sizeLine_eq, Nat.mul_comm]
        omega
      have c2 : (decide (k ≤ 0) || its.toArray.isEmpty) = false := by
        rw [em, hxe, Bool.or_false]
        exact decide_eq_false (by omega)
      have c4 : Builtin.Tuple.tupleTooMany (((its.toArray.size : Nat) : Int) * k) = false := by
        unfold Builtin.Tuple.tupleTooMany
        rw [sizeLine_eq]
        exact decide_eq_false (by omega)
      refine wpAny_binaryOp_repeat_ref (T := "tuple") (U := "int") (by decide) ⟨_, ho, rfl⟩ (fun s' => typeIs_int s' k t) noFill_tuple_mul F.fills_int_mul F.slot_int_rmul repeat_tuple F.slot_int_index.lookup
        (call_meets F.slot_int_rmul (typeIs_int s k t) F.entry_int_rmul (F.args_int_rmul_2 _ _) (int_rmul_tuple k t l its.toArray n dd sl)
          ⟨ho, rfl, ⟨_, ho, rfl⟩, call_meets F.slot_tuple_mul ⟨_, ho, rfl⟩ F.entry_tuple_mul (F.args_tuple_mul_2 _ _) (tuple_mulW l its.toArray n dd sl k t c0 c1 c2 (by omega) c4 (by rw [size_rep, List.size_toArray]; exact flen)) ⟨ho, ?_⟩⟩)
      rw [size_rep]
      refine ⟨.ref s.heap.objs.size, _, I.laid (t' := s.toks) (o := .tup (List.replicate k.toNat xs).flatten) (fun b ob q => Heap.get?_push_of_some _ q) (Nat.le_refl _) ?_, rfl, q2 hw _ (I.hok.fresh (Nat.le_refl _))⟩
      exact ⟨by rw [PyProof.Rows.lm_len_rep_flat, sizeLine_eq, Nat.mul_comm]; omega, _, r.rep k.toNat, IsTup.new _ _⟩
end
end PB
set_option maxHeartbeats 4000000
/-! Ic: the operators' rules over plain values. -/
namespace PB
open PySem PySem.Spec PyProof.Rows L2

def Ex (H H' : Hp) : Prop := ∀ a o, H a = some o → H' a = some o
theorem Ex.refl {H : Hp} : Ex H H := fun _ _ h => h
theorem Ex.trans {H H1 H2 : Hp} (a : Ex H H1) (b : Ex H1 H2) : Ex H H2 := fun x o h => b x o (a x o h)
theorem Ex.new {H : Hp} {p : Addr} {o : HO} (h : H p = none) : Ex H (upd H p o) := fun a u e => by
  rw [upd_ne (ne_of_none e h)]; exact e
theorem Ex.kp {Z : AS} {H H' : Hp} (e : Ex H H') : Kp Z Z H H' := fun a o h _ z => ⟨e a o h, z⟩
/-- a new address besides -/
def addZ (Z : AS) (p : Addr) : AS := fun a => Z a ∨ a = p
theorem Ex.kpZ {Z : AS} {H H' : Hp} {p : Addr} (e : Ex H H') (hp : H p = none) : Kp Z (addZ Z p) H H' := fun a o h _ z =>
  ⟨e a o h, fun q => q.elim z (ne_of_none h hp)⟩
def isHp : D → Bool
  | .lst _ => true
  | .dic _ _ => true
  | _ => false
/-- a new object that nothing else leans on -/
def FrR (Z : AS) (H H' : Hp) (z : D) (v : V) : Prop := isHp z = true → ∃ p, v = .ref p ∧ H p = none ∧ Own (addZ Z p) H' p z
/-- what is wanted behind an operation that gives the plain value z -/
def Res (Z : AS) (H : Hp) (fr : Bool) (z : D) (Q : VK) : Prop := ∀ v H', Ex H H' → Rep Z H' z v → (fr = true → FrR Z H H' z v) → Q v H'
/-- what is in Z stands, and is no tuple -/
def ZH (Z : AS) (H : Hp) : Prop := ∀ a, Z a → H a ≠ none ∧ ∀ xs, H a ≠ some (.tup xs)
theorem ZH.free {Z : AS} {H : Hp} (h : ZH Z H) {p : Addr} (hp : H p = none) : ¬ Z p := fun z => (h p z).1 hp
theorem RepO.tupRep {Z : AS} {H : Hp} {ds : List D} {v : V} (hz : ZH Z H) (h : RepB Z H (.tup ds) v) : Rep Z H (.tup ds) v := by
  obtain ⟨a, xs, e, q, r⟩ := h
  exact ⟨a, xs, e, ⟨fun z => (hz a z).2 _ q.2, q.2⟩, r⟩
section
variable {Z : AS} {H : Hp} {fr : Bool} {Q : VK}
theorem Res.flat {z : D} {v : V} (h : Res Z H fr z Q) (r : Rep Z H z v) (n : isHp z = false) : Q v H := h v H Ex.refl r fun _ q => by rw [n] at q; cases q
theorem Res.old {z : D} {v : V} (h : Res Z H false z Q) (r : Rep Z H z v) : Q v H := h v H Ex.refl r fun q => by cases q
theorem Res.lst {ds : List D} {xs : List V} (h : Res Z H fr (.lst ds) Q) (hz : ZH Z H) (r : RepL Z H ds xs) {p : Addr} (hp : H p = none) : Q (.ref p) (upd H p (.lst xs)) := by
  refine h _ _ (Ex.new hp) ⟨p, xs, rfl, ⟨hz.free hp, upd_same⟩, RepL.mono (Ex.new hp).kp _ _ r⟩ fun _ _ => ⟨p, rfl, hp, xs, upd_same, ?_⟩
  exact RepL.mono ((Ex.new hp).kpZ hp) _ _ r
theorem Res.tup {ds : List D} {xs : List V} (h : Res Z H fr (.tup ds) Q) (hz : ZH Z H) (r : RepL Z H ds xs) {p : Addr} (hp : H p = none) : Q (.ref p) (upd H p (.tup xs)) :=
  h _ _ (Ex.new hp) ⟨p, xs, rfl, ⟨hz.free hp, upd_same⟩, RepL.mono (Ex.new hp).kp _ _ r⟩ fun _ q => by cases q
end
/-- an operator's reading -/
def rO (o : O2) : R2 := fun x y H Q => ∃ Z d e z fr, ZH Z H ∧ RepB Z H d x ∧ RepB Z H e y ∧ op2 o d e = some z ∧ Res Z H fr z Q
theorem lim_le {n : Nat} (h : n ≤ lim) : n ≤ sizeLine := by
  have := sizeLine_eq
  unfold lim at h
  omega
section
variable {X : Cx}
/-- two ints -/
theorem rO_int {o : O2} {f : Value → Value → Sem Value} {C : Int → Int → Prop} {g : Int → Int → V} (ho : OpR X f (rI C g))
    (hh : ∀ d e z, op2 o d e = some z → ∃ i j, d = .int i ∧ e = .int j ∧ C i j ∧ isHp z = false ∧ ∀ Z H, Rep Z H z (g i j)) : OpR X f (rO o) := by
  intro pins s σ H x y v u Q I rx ry h
  obtain ⟨Z, d, e, z, fr, hz, hd, he, q, r⟩ := h
  obtain ⟨i, j, rfl, rfl, c, n, rep⟩ := hh d e z q
  cases hd
  cases he
  exact ho pins s σ H _ _ v u Q I rx ry ⟨i, j, rfl, rfl, c, r.flat (rep Z H) n⟩
theorem rI0_rI {g : Int → Int → V} {f : Value → Value → Sem Value} (h : OpR X f (rI0 g)) : OpR X f (rI (fun _ _ => True) g) := by
  intro pins s σ H x y v u Q I rx ry q
  obtain ⟨i, j, e1, e2, _, q⟩ := q
  exact h pins s σ H x y v u Q I rx ry ⟨i, j, e1, e2, q⟩
theorem o_sub : OpR X (binaryOp .Sub) (rO .sub) := rO_int (rI0_rI op_sub) fun d e z q => by
  cases d <;> cases e <;> simp only [op2] at q <;> first | cases q | skip
  exact ⟨_, _, rfl, rfl, trivial, rfl, fun _ _ => rfl⟩
theorem o_fdiv : OpR X (binaryOp .FloorDiv) (rO .fdiv) := rO_int op_fdiv fun d e z q => by
  cases d <;> cases e <;> simp only [op2] at q <;> first | cases q | skip
  split at q
  · rename_i h
    cases q
    simp only [Bool.and_eq_true, decide_eq_true_eq] at h
    exact ⟨_, _, rfl, rfl, h, rfl, fun _ _ => rfl⟩
  · cases q
theorem o_mod : OpR X (binaryOp .Mod) (rO .mod) := rO_int op_mod fun d e z q => by
  cases d <;> cases e <;> simp only [op2] at q <;> first | cases q | skip
  split at q
  · rename_i h
    cases q
    exact ⟨_, _, rfl, rfl, h, rfl, fun _ _ => rfl⟩
  · cases q
theorem o_pow : OpR X (binaryOp .Pow) (rO .pow) := rO_int op_pow fun d e z q => by
  cases d <;> cases e <;> simp only [op2] at q <;> first | cases q | skip
  split at q
  · rename_i h
    cases q
    simp only [Bool.and_eq_true, decide_eq_true_eq] at h
    exact ⟨_, _, rfl, rfl, ⟨h.1.1, h.1.2, h.2⟩, rfl, fun _ _ => rfl⟩
  · cases q
theorem o_shl : OpR X (binaryOp .LShift) (rO .shl) := rO_int op_shl fun d e z q => by
  cases d <;> cases e <;> simp only [op2] at q <;> first | cases q | skip
  split at q
  · rename_i h
    cases q
    simp only [Bool.and_eq_true, decide_eq_true_eq] at h
    exact ⟨_, _, rfl, rfl, ⟨h.1.1, h.1.2, h.2⟩, rfl, fun _ _ => rfl⟩
  · cases q
theorem o_shr : OpR X (binaryOp .RShift) (rO .shr) := rO_int op_shr fun d e z q => by
  cases d <;> cases e <;> simp only [op2] at q <;> first | cases q | skip
  split at q
  · rename_i h
    cases q
    exact ⟨_, _, rfl, rfl, h, rfl, fun _ _ => rfl⟩
  · cases q
theorem bits_of {f : Value → Value → Sem Value} {g : Int → Int → Int} {n : Nat → Nat → Nat} (h : OpR X f (rI0 fun i j => .int (g i j))) (hg : ∀ {i j : Int}, 0 ≤ i → 0 ≤ j → g i j = ((n i.toNat j.toNat : Nat) : Int)) :
    OpR X f (rI (fun i j => 0 ≤ i ∧ 0 ≤ j) fun i j => .int ((n i.toNat j.toNat : Nat) : Int)) := by
  intro pins s σ H x y v u Q I rx ry q
  obtain ⟨i, j, e1, e2, c, q⟩ := q
  exact h pins s σ H x y v u Q I rx ry ⟨i, j, e1, e2, by show Q (.int (g i j)) H; rw [hg c.1 c.2]; exact q⟩
theorem o_band : OpR X (binaryOp .BitAnd) (rO .band) := rO_int (bits_of (n := fun a b => a &&& b) op_and bitAnd_pp) fun d e z q => by
  cases d <;> cases e <;> simp only [op2] at q <;> first | cases q | skip
  split at q
  · rename_i h
    cases q
    simp only [Bool.and_eq_true, decide_eq_true_eq] at h
    exact ⟨_, _, rfl, rfl, h, rfl, fun _ _ => rfl⟩
  · cases q
theorem o_bor : OpR X (binaryOp .BitOr) (rO .bor) := rO_int (bits_of (n := fun a b => a ||| b) op_or Bits.bitOr_pp) fun d e z q => by
  cases d <;> cases e <;> simp only [op2] at q <;> first | cases q | skip
  split at q
  · rename_i h
    cases q
    simp only [Bool.and_eq_true, decide_eq_true_eq] at h
    exact ⟨_, _, rfl, rfl, h, rfl, fun _ _ => rfl⟩
  · cases q
theorem o_bxor : OpR X (binaryOp .BitXor) (rO .bxor) := rO_int (bits_of (n := fun a b => a ^^^ b) op_xor Bits.bitXor_pp) fun d e z q => by
  cases d <;> cases e <;> simp only [op2] at q <;> first | cases q | skip
  split at q
  · rename_i h
    cases q
    simp only [Bool.and_eq_true, decide_eq_true_eq] at h
    exact ⟨_, _, rfl, rfl, h, rfl, fun _ _ => rfl⟩
  · cases q
theorem o_lt : OpR X (compareOp .Lt) (rO .lt) := rO_int (rI0_rI op_lt) fun d e z q => by
  cases d <;> cases e <;> simp only [op2] at q <;> first | cases q | skip
  exact ⟨_, _, rfl, rfl, trivial, rfl, fun _ _ => rfl⟩
theorem o_le : OpR X (compareOp .LtE) (rO .le) := rO_int (rI0_rI op_le) fun d e z q => by
  cases d <;> cases e <;> simp only [op2] at q <;> first | cases q | skip
  exact ⟨_, _, rfl, rfl, trivial, rfl, fun _ _ => rfl⟩
theorem o_gt : OpR X (compareOp .Gt) (rO .gt) := rO_int (rI0_rI op_gt) fun d e z q => by
  cases d <;> cases e <;> simp only [op2] at q <;> first | cases q | skip
  exact ⟨_, _, rfl, rfl, trivial, rfl, fun _ _ => rfl⟩
theorem o_ge : OpR X (compareOp .GtE) (rO .ge) := rO_int (rI0_rI op_ge) fun d e z q => by
  cases d <;> cases e <;> simp only [op2] at q <;> first | cases q | skip
  exact ⟨_, _, rfl, rfl, trivial, rfl, fun _ _ => rfl⟩
/-- + -/
theorem o_add : OpR X (binaryOp .Add) (rO .add) := by
  intro pins s σ H x y v u Q I rx ry h
  obtain ⟨Z, d, e, z, fr, hz, hd, he, q, r⟩ := h
  cases d <;> cases e <;> simp only [op2] at q <;> first | cases q | skip
  · cases hd
    cases he
    exact op_add pins s σ H _ _ v u Q I rx ry ⟨_, _, rfl, rfl, r.flat rfl rfl⟩
  · split at q
    · rename_i hl
      cases q
      cases hd
      cases he
      exact op_add_str pins s σ H _ _ v u Q I rx ry ⟨_, _, rfl, rfl, lim_le hl, r.flat rfl rfl⟩
    · cases q
  · split at q
    · rename_i ds es hl
      cases q
      obtain ⟨a, xs, rfl, ha, ra⟩ := RepO.tup hd
      obtain ⟨b, ys, rfl, hb, rb⟩ := RepO.tup he
      have la := RepL.length _ _ ra
      have lb := RepL.length _ _ rb
      refine op_catA pins s σ H _ _ v u Q I rx ry ⟨a, b, xs, ys, rfl, rfl, .of ha, .of hb, by rw [la, lb]; exact lim_le hl, fun ex => ?_, fun _ ey => ?_, fun _ _ p hp => ?_⟩
      · subst ex
        have e0 : ds = [] := List.eq_nil_of_length_eq_zero (by simpa using la.symm)
        subst e0
        rw [List.nil_append] at r
        exact r.flat (RepO.tupRep hz he) rfl
      · subst ey
        have e0 : es = [] := List.eq_nil_of_length_eq_zero (by simpa using lb.symm)
        subst e0
        rw [List.append_nil] at r
        exact r.flat (RepO.tupRep hz hd) rfl
      · exact r.tup hz (RepL.append _ _ _ _ ra rb) hp
    · cases q
  · split at q
    · rename_i hl
      cases q
      obtain ⟨a, xs, rfl, ha, ra⟩ := RepO.lst hd
      obtain ⟨b, ys, rfl, hb, rb⟩ := RepO.lst he
      have la := RepL.length _ _ ra
      have lb := RepL.length _ _ rb
      exact op_cat pins s σ H _ _ v u Q I rx ry ⟨a, b, xs, ys, rfl, rfl, ha, hb, by rw [la, lb]; exact lim_le hl, fun p hp => r.lst hz (RepL.append _ _ _ _ ra rb) hp⟩
    · cases q

theorem mulOk_c {i j : Int} (h : mulOk i j = true) : CMul i j := by
  unfold mulOk at h
  simp only [Bool.or_eq_true, Bool.and_eq_true, decide_eq_true_eq] at h
  exact h
/-- * -/
theorem o_mul : OpR X (binaryOp .Mult) (rO .mul) := by
  intro pins s σ H x y v u Q I rx ry h
  obtain ⟨Z, d, e, z, fr, hz, hd, he, q, r⟩ := h
  cases d <;> cases e <;> simp only [op2] at q <;> first | cases q | skip
  · split at q
    · rename_i hm
      cases q
      cases hd
      cases he
      exact op_mul pins s σ H _ _ v u Q I rx ry ⟨_, _, rfl, rfl, mulOk_c hm, r.flat rfl rfl⟩
    · cases q
  · split at q
    · rename_i ds k hl
      cases q
      simp only [Bool.and_eq_true, decide_eq_true_eq] at hl
      cases he
      obtain ⟨a, xs, rfl, ha, ra⟩ := RepO.tup hd
      have la := RepL.length _ _ ra
      refine op_repU pins s σ H _ _ v u Q I rx ry ⟨a, k, xs, rfl, rfl, .of ha, hl.2, hl.1.2, by rw [la]; exact hl.1.1, fun ex => ?_, fun _ p hp => r.tup hz (RepL.rep _ _ ra _) hp⟩
      rcases ex with ex | ex
      · subst ex
        have e0 : ds = [] := List.eq_nil_of_length_eq_zero (by simpa using la.symm)
        subst e0
        have e1 : (List.replicate k.toNat ([] : List D)).flatten = [] := by simp
        rw [e1] at r
        exact r.flat (RepO.tupRep hz hd) rfl
      · subst ex
        have e1 : (List.replicate (1 : Int).toNat ds).flatten = ds := by simp
        rw [e1] at r
        exact r.flat (RepO.tupRep hz hd) rfl
    · cases q
  · split at q
    · rename_i ds k hl
      cases q
      simp only [Bool.and_eq_true, decide_eq_true_eq] at hl
      cases he
      obtain ⟨a, xs, rfl, ha, ra⟩ := RepO.lst hd
      have la := RepL.length _ _ ra
      exact op_rep pins s σ H _ _ v u Q I rx ry ⟨a, k, xs, rfl, rfl, ha, by omega, by omega, by rw [la]; exact lim_le hl.1.1, fun p hp => r.lst hz (RepL.rep _ _ ra _) hp⟩
    · cases q
/-- ==, != -/
theorem o_eq (hu : X.A.units + 64 < cLine) : OpR X (compareOp .Eq) (rO .eq) := by
  intro pins s σ H x y v u Q I rx ry h
  obtain ⟨Z, d, e, z, fr, hz, hd, he, q, r⟩ := h
  simp only [op2] at q
  split at q
  · rename_i hp
    cases q
    simp only [Bool.and_eq_true] at hp
    refine op_eqD hu pins s σ H _ _ v u Q I rx ry ⟨_, _, RepO.dp _ _ _ hp.1 hd, RepO.dp _ _ _ hp.2 he, plain_shaped (by decide) hp.1, plain_shaped (by decide) hp.2, ?_⟩
    rw [eqv_py]
    exact r.flat rfl rfl
  · cases q
theorem o_ne (hu : X.A.units + 64 < cLine) : OpR X (compareOp .NotEq) (rO .ne) := by
  intro pins s σ H x y v u Q I rx ry h
  obtain ⟨Z, d, e, z, fr, hz, hd, he, q, r⟩ := h
  simp only [op2] at q
  split at q
  · rename_i hp
    cases q
    simp only [Bool.and_eq_true] at hp
    refine op_neD hu pins s σ H _ _ v u Q I rx ry ⟨_, _, RepO.dp _ _ _ hp.1 hd, RepO.dp _ _ _ hp.2 he, plain_shaped (by decide) hp.1, plain_shaped (by decide) hp.2, ?_⟩
    rw [eqv_py]
    exact r.flat rfl rfl
  · cases q
theorem any_py (x : D) : ∀ ys : List D, ((toPyL ys).any fun z => PyData.eqv z (toPy x)) = ys.any fun y => eqv y x
  | [] => rfl
  | y :: ys => by simp only [toPyL, List.any_cons, eqv_py, any_py x ys]
/-! dicts -/
theorem repKey_eq {a b : Key} {x y : D} (h : repKey a x) (h' : repKey b y) : keyEq1 x y = decide (a = b) := by
  cases x <;> cases y <;> simp only [repKey] at h h' <;> first | exact h.elim | exact h'.elim | skip
  all_goals subst h h'; simp [keyEq1]
  all_goals rfl
theorem repKeys_eq : ∀ {a b : List Key} {x y : List D}, repKeys a x → repKeys b y → keyEqL x y = decide (a = b)
  | [], [], [], [], _, _ => by simp [keyEqL]
  | [], _ :: _, [], _ :: _, _, _ => by simp [keyEqL]
  | _ :: _, [], _ :: _, [], _, _ => by simp [keyEqL]
  | a :: as, b :: bs, x :: xs, y :: ys, h, h' => by
    simp only [keyEqL, repKey_eq h.1 h'.1, repKeys_eq h.2 h'.2, List.cons.injEq, Bool.decide_and]
  | [], [], [], _ :: _, _, h => h.elim
  | [], [], _ :: _, _, h, _ => h.elim
  | [], _ :: _, [], [], _, h => h.elim
  | [], _ :: _, _ :: _, _, h, _ => h.elim
  | _ :: _, [], [], _, h, _ => h.elim
  | _ :: _, [], _ :: _, _ :: _, _, h => h.elim
  | _ :: _, _ :: _, [], _, h, _ => h.elim
  | _ :: _, _ :: _, _ :: _, [], _, h => h.elim

theorem repK_get {Z : AS} {H : Hp} {k : Key} {kd : D} (hk : repKey k kd) (hk1 : isKey1 kd = true) : ∀ (ds : List (D × D)) (kvs : List (Key × V)), RepK Z H ds kvs →
    (dGet ds kd = none ∧ valV kvs k = none) ∨ ∃ d v, dGet ds kd = some d ∧ valV kvs k = some v ∧ Rep Z H d v
  | [], kvs, h => by cases h; exact .inl ⟨rfl, rfl⟩
  | (q, d) :: ds, kvs, h => by
    obtain ⟨q', v, r, e, h0, h1, h2⟩ := h
    subst e
    have eq : keyEq q kd = decide (q' = k) := by
      cases kd with
      | int i => cases q <;> first | exact repKey_eq h0 hk | exact h0.elim
      | str i => cases q <;> first | exact repKey_eq h0 hk | exact h0.elim
      | _ => simp [isKey1] at hk1
    by_cases c : q' = k
    · refine .inr ⟨d, v, ?_, valV_pos (p := (q', v)) c, h1⟩
      simp [dGet, eq, c]
    · rw [valV_neg (p := (q', v)) c]
      have e2 : dGet ((q, d) :: ds) kd = dGet ds kd := by simp [dGet, eq, c]
      rw [e2]
      exact repK_get hk hk1 ds r h2
theorem repT_get {Z : AS} {H : Hp} {k : List Key} {ks : List D} (hk : repKeys k ks) : ∀ (ds : List (D × D)) (kvs : List (List Key × V)), RepT Z H ds kvs →
    (dGet ds (.tup ks) = none ∧ valV kvs k = none) ∨ ∃ d v, dGet ds (.tup ks) = some d ∧ valV kvs k = some v ∧ Rep Z H d v
  | [], kvs, h => by cases h; exact .inl ⟨rfl, rfl⟩
  | (q, d) :: ds, kvs, h => by
    obtain ⟨q', v, r, qs, e, eq0, h0, h1, h2⟩ := h
    subst e eq0
    have eq : keyEq (.tup qs) (.tup ks) = decide (q' = k) := by simp only [keyEq]; exact repKeys_eq h0 hk
    by_cases c : q' = k
    · refine .inr ⟨d, v, ?_, valV_pos (p := (q', v)) c, h1⟩
      simp [dGet, eq, c]
    · rw [valV_neg (p := (q', v)) c]
      have e2 : dGet ((.tup qs, d) :: ds) (.tup ks) = dGet ds (.tup ks) := by simp [dGet, eq, c]
      rw [e2]
      exact repT_get hk ds r h2
theorem key_of1 {Z : AS} {H : Hp} {kd : D} {y : V} (h : isKey1 kd = true) (r : Rep Z H kd y) : ∃ k, repKey k kd ∧ y = kV k := by
  cases kd with
  | int i => exact ⟨.inl i, rfl, r⟩
  | str x => exact ⟨.inr x, rfl, r⟩
  | _ => simp [isKey1] at h
theorem keys_of1 {Z : AS} {H : Hp} : ∀ (ks : List D) (xs : List V), ks.all isKey1 = true → RepL Z H ks xs → ∃ k, repKeys k ks ∧ xs = k.map kV
  | [], xs, _, h => by cases h; exact ⟨[], trivial, rfl⟩
  | d :: ds, xs, a, h => by
    obtain ⟨v, r, e, h1, h2⟩ := h
    subst e
    simp only [List.all_cons, Bool.and_eq_true] at a
    obtain ⟨k, e1, e2⟩ := key_of1 a.1 h1
    obtain ⟨ks, e3, e4⟩ := keys_of1 ds r a.2 h2
    exact ⟨k :: ks, ⟨e1, e3⟩, by rw [e2, e4]; rfl⟩
/-- what a dict holds at a key -/
theorem dget_of {Z : AS} {H : Hp} {t : Bool} {ds : List (D × D)} {kd : D} {x y : V} (hd : RepB Z H (.dic t ds) x) (hk : RepB Z H kd y) (ik : isKey t kd = true) :
    ∃ a o, x = .ref a ∧ DGet H a y o ∧ ((dGet ds kd = none ∧ o = none) ∨ ∃ d v, dGet ds kd = some d ∧ o = some v ∧ Rep Z H d v) := by
  obtain ⟨a, rfl, _, h⟩ := hd
  rcases h with ⟨rfl, kvs, e, r⟩ | ⟨rfl, kvs, e, r⟩
  · have ik1 : isKey1 kd = true := ik
    have hk' : Rep Z H kd y := by
      cases kd with
      | int i => exact hk
      | str i => exact hk
      | _ => simp [isKey1] at ik1
    obtain ⟨k, e1, rfl⟩ := key_of1 ik1 hk'
    refine ⟨a, valV kvs k, rfl, DGet.k e, ?_⟩
    rcases repK_get e1 ik1 ds kvs r with ⟨q1, q2⟩ | ⟨d, v, q1, q2, q3⟩
    · exact .inl ⟨q1, q2⟩
    · exact .inr ⟨d, v, q1, q2, q3⟩
  · cases kd with
    | tup ks =>
      obtain ⟨b, xs, rfl, eb, rb⟩ := RepO.tup hk
      obtain ⟨k, e1, rfl⟩ := keys_of1 ks xs ik rb
      refine ⟨a, valV kvs k, rfl, DGet.t e eb, ?_⟩
      rcases repT_get e1 ds kvs r with ⟨q1, q2⟩ | ⟨d, v, q1, q2, q3⟩
      · exact .inl ⟨q1, q2⟩
      · exact .inr ⟨d, v, q1, q2, q3⟩
    | _ => simp [isKey] at ik
theorem isSome_of {Z : AS} {H : Hp} {ds : List (D × D)} {kd : D} {o : Option V} (h : (dGet ds kd = none ∧ o = none) ∨ ∃ d v, dGet ds kd = some d ∧ o = some v ∧ Rep Z H d v) : o.isSome = (dGet ds kd).isSome := by
  rcases h with ⟨h1, h2⟩ | ⟨d, v, h1, h2, _⟩ <;> rw [h1, h2] <;> rfl
theorem flat_of {Z : AS} {H : Hp} {d : D} {v : V} (p : plainD 0 d = true) (h : RepB Z H d v) : flatV v = true ∧ ∀ e w, plainD 0 e = true → RepB Z H e w → eqV w v = eqv e d := by
  have g : ∀ {d : D} {v : V}, plainD 0 d = true → RepB Z H d v → (d = .non ∧ v = .non) ∨ (∃ b, d = .bl b ∧ v = .bl b) ∨ (∃ b, d = .int b ∧ v = .int b) ∨ ∃ b, d = .str b ∧ v = .str b := by
    intro d v p h
    cases d with
    | non => exact .inl ⟨rfl, h⟩
    | bl b => exact .inr (.inl ⟨b, rfl, h⟩)
    | int b => exact .inr (.inr (.inl ⟨b, rfl, h⟩))
    | str b => exact .inr (.inr (.inr ⟨b, rfl, h⟩))
    | _ => simp [plainD] at p
  refine ⟨?_, fun e w pe he => ?_⟩
  · rcases g p h with ⟨_, rfl⟩ | ⟨b, _, rfl⟩ | ⟨b, _, rfl⟩ | ⟨b, _, rfl⟩ <;> rfl
  · rcases g p h with ⟨rfl, rfl⟩ | ⟨b, rfl, rfl⟩ | ⟨b, rfl, rfl⟩ | ⟨b, rfl, rfl⟩ <;> rcases g pe he with ⟨rfl, rfl⟩ | ⟨c, rfl, rfl⟩ | ⟨c, rfl, rfl⟩ | ⟨c, rfl, rfl⟩ <;> simp [eqV, eqv, i01]
theorem flats_of {Z : AS} {H : Hp} {d : D} {v : V} (p : plainD 0 d = true) (h : RepB Z H d v) : ∀ (ys : List D) (ws : List V), plainL 0 ys = true → RepL Z H ys ws → ws.all flatV = true ∧ inV v ws = ys.any fun y => eqv y d
  | [], ws, _, r => by cases r; exact ⟨rfl, rfl⟩
  | y :: ys, ws, q, r => by
    obtain ⟨w, r', e, h1, h2⟩ := r
    subst e
    simp only [plainL, Bool.and_eq_true] at q
    have a := flats_of p h ys r' q.2 h2
    have b := (flat_of p h).2 y w q.1 (Rep.toB _ _ h1)
    have c := (flat_of q.1 (Rep.toB _ _ h1)).1
    refine ⟨by rw [List.all_cons, c, a.1]; rfl, ?_⟩
    unfold inV
    rw [List.any_cons, List.any_cons, b]
    have a2 := a.2
    unfold inV at a2
    rw [a2]
theorem o_in (hu : X.A.units + 65 < cLine) : OpR X (compareOp .In) (rO .isIn) := by
  intro pins s σ H x y v u Q I rx ry h
  obtain ⟨Z, d, e, z, fr, hz, hd, he, q, r⟩ := h
  cases e <;> simp only [op2] at q <;> first | cases q | skip
  · split at q
    · rename_i ys hp
      cases q
      simp only [Bool.and_eq_true] at hp
      obtain ⟨b, ws, rfl, eb, rb⟩ := RepO.tup he
      have a := flats_of hp.1 hd ys ws hp.2 rb
      refine op_in_seq pins s σ H _ _ v u Q I rx ry ⟨b, ws, rfl, .inr (.of eb), (flat_of hp.1 hd).1, a.1, ?_⟩
      show Q (.bl (inV x ws)) H
      rw [a.2]
      exact r.flat rfl rfl
    · cases q
  · split at q
    · rename_i ys hp
      cases q
      simp only [Bool.and_eq_true] at hp
      refine op_inD hu pins s σ H _ _ v u Q I rx ry ⟨_, _, RepO.dp _ _ _ hp.1 hd, RepO.dp _ _ _ hp.2 he, plain_shaped (by decide) hp.1, plain_shaped (by decide) hp.2, ?_⟩
      rw [any_py]
      exact r.flat rfl rfl
    · cases q
  · split at q
    · rename_i t kvs hp
      cases q
      obtain ⟨a, o, rfl, g, ho⟩ := dget_of he hd hp
      cases ry
      refine d_in (by omega) I g rx fun s' I' => ⟨.bl _, H, I', rfl, ?_⟩
      rw [isSome_of ho]
      exact r.flat rfl rfl
    · cases q
theorem o_notIn (hu : X.A.units + 65 < cLine) : OpR X (compareOp .NotIn) (rO .notIn) := by
  intro pins s σ H x y v u Q I rx ry h
  obtain ⟨Z, d, e, z, fr, hz, hd, he, q, r⟩ := h
  cases e <;> simp only [op2] at q <;> first | cases q | skip
  · split at q
    · rename_i ys hp
      cases q
      simp only [Bool.and_eq_true] at hp
      obtain ⟨b, ws, rfl, eb, rb⟩ := RepO.tup he
      have a := flats_of hp.1 hd ys ws hp.2 rb
      refine op_notIn_seq pins s σ H _ _ v u Q I rx ry ⟨b, ws, rfl, .inr (.of eb), (flat_of hp.1 hd).1, a.1, ?_⟩
      show Q (.bl (!inV x ws)) H
      rw [a.2]
      exact r.flat rfl rfl
    · cases q
  · split at q
    · rename_i ys hp
      cases q
      simp only [Bool.and_eq_true] at hp
      refine op_notInD hu pins s σ H _ _ v u Q I rx ry ⟨_, _, RepO.dp _ _ _ hp.1 hd, RepO.dp _ _ _ hp.2 he, plain_shaped (by decide) hp.1, plain_shaped (by decide) hp.2, ?_⟩
      rw [any_py]
      exact r.flat rfl rfl
    · cases q
  · split at q
    · rename_i t kvs hp
      cases q
      obtain ⟨a, o, rfl, g, ho⟩ := dget_of he hd hp
      cases ry
      refine d_notIn (by omega) I g rx fun s' I' => ⟨.bl _, H, I', rfl, ?_⟩
      rw [isSome_of ho]
      exact r.flat rfl rfl
    · cases q
theorem non_iff {Z : AS} {H : Hp} {d : D} {v : V} (h : RepB Z H d v) : decide (v = .non) = isNon d := by
  cases d with
  | non => cases h; rfl
  | bl b => cases h; rfl
  | int b => cases h; rfl
  | str b => cases h; rfl
  | tup b => obtain ⟨a, xs, rfl, _⟩ := h; rfl
  | lst b => obtain ⟨a, xs, rfl, _⟩ := h; rfl
  | dic t b => obtain ⟨a, rfl, _⟩ := h; rfl
theorem o_is : OpR X (compareOp .Is) (rO .is) := by
  intro pins s σ H x y v u Q I rx ry h
  obtain ⟨Z, d, e, z, fr, hz, hd, he, q, r⟩ := h
  cases e with
  | non =>
    simp only [op2] at q
    cases q
    cases he
    refine op_isN pins s σ H _ _ v u Q I rx ry ⟨rfl, ?_⟩
    rw [non_iff hd]
    exact r.flat rfl rfl
  | bl b =>
    cases d <;> simp only [op2] at q <;> first | (cases q; done) | skip
    cases q
    cases hd
    cases he
    exact op_isBl pins s σ H _ _ v u Q I rx ry ⟨_, _, rfl, rfl, r.flat rfl rfl⟩
  | _ => cases d <;> simp [op2] at q
theorem o_isNot : OpR X (compareOp .IsNot) (rO .isNot) := by
  intro pins s σ H x y v u Q I rx ry h
  obtain ⟨Z, d, e, z, fr, hz, hd, he, q, r⟩ := h
  cases e with
  | non =>
    simp only [op2] at q
    cases q
    cases he
    refine op_notN pins s σ H _ _ v u Q I rx ry ⟨rfl, ?_⟩
    rw [non_iff hd]
    exact r.flat rfl rfl
  | bl b =>
    cases d <;> simp only [op2] at q <;> first | (cases q; done) | skip
    cases q
    cases hd
    cases he
    exact op_notBl pins s σ H _ _ v u Q I rx ry ⟨_, _, rfl, rfl, r.flat rfl rfl⟩
  | _ => cases d <;> simp [op2] at q
/-! ### a[b] -/
theorem ixOf_eq (n : Nat) (i : Int) : ixOf n i = ixN n i := rfl
def rIxD : R2 := fun x y H Q => ∃ Z d e z, ZH Z H ∧ RepB Z H d x ∧ Rep Z H e y ∧ idxD d e = some z ∧ Res Z H false z Q
theorem atD_get {ds : List D} {i : Int} {z : D} (h : atD ds i = some z) : ∃ j, ixN ds.length i = some j ∧ ds[j]? = some z := by
  unfold atD at h
  obtain ⟨j, h1, h2⟩ := Option.bind_eq_some_iff.mp h
  exact ⟨j, h1, h2⟩
theorem repL_at {Z : AS} {H : Hp} {ds : List D} {xs : List V} (r : RepL Z H ds xs) {i : Int} {z : D} (h : atD ds i = some z) : ∃ v, atI xs i = some v ∧ Rep Z H z v := by
  obtain ⟨j, h1, h2⟩ := atD_get h
  obtain ⟨v, e, rv⟩ := RepL.get ds xs r j z h2
  refine ⟨v, ?_, rv⟩
  unfold atI
  rw [RepL.length ds xs r, h1]
  exact e
theorem ix_plain (hu : X.A.units + 1 < cLine) : IxR X rIxD := by
  intro value slice pins s σ H x y v u Q I rx ry h hs
  obtain ⟨Z, d, e, z, hz, hd, he, q, r⟩ := h
  cases d with
  | tup ds =>
    cases e <;> simp only [idxD] at q <;> first | cases q | skip
    cases he
    obtain ⟨a, xs, rfl, ha, ra⟩ := RepO.tup hd
    obtain ⟨w, e1, e2⟩ := repL_at ra q
    exact ix_tup value slice pins s σ H _ _ v u Q I rx ry ⟨a, xs, _, w, rfl, rfl, .of ha, e1, r.old e2⟩ hs
  | lst ds =>
    cases e <;> simp only [idxD] at q <;> first | cases q | skip
    cases he
    obtain ⟨a, xs, rfl, ha, ra⟩ := RepO.lst hd
    obtain ⟨w, e1, e2⟩ := repL_at ra q
    exact ix_list value slice pins s σ H _ _ v u Q I rx ry ⟨a, xs, _, w, rfl, rfl, .of ha, e1, r.old e2⟩ hs
  | dic t ds =>
    simp only [idxD] at q
    split at q
    · rename_i ik
      obtain ⟨a, o, rfl, g, ho⟩ := dget_of hd (Rep.toB _ _ he) ik
      rcases ho with ⟨h1, _⟩ | ⟨d, w, h1, h2, h3⟩
      · rw [h1] at q; cases q
      · rw [h1] at q
        cases q
        subst h2
        obtain rfl : v = Value.ref a := rx
        have hT := dict_typeIs I g
        unfold subscriptTail
        refine wpAny_bind ?_
        rw [getitemInPython_of_ne hT.not_modules]
        refine wpAny_bind (wpAny_specialOf hT PySem.F.slot_dict_getitem.lookup ?_)
        have fin : wpAny (model X.prog X.w) X.A (subscripted slice false (.ref a) u) (fun r s₃ => wpAny (model X.prog X.w) X.A (letTemporaryGo value (.ref a) r >>= fun _ => pure r) (EP X pins σ Q) X.xe s₃) X.xe s := by
          rw [hs]
          exact wpAny_operating (wpAny_mono (d_getItem hu I g ry fun w' s3 I3 rw' => (⟨w, H, I3, rw', r.old h3⟩ : EP X pins σ Q w' s3)) (fun r s₃ h₃ => wpAny_bind (wpAny_letTemporaryGo (wpAny_pure h₃))) fun _ _ x => x)
        first
          | exact wpAny_pure (wpAny_bind fin)
          | exact wpAny_bind (wpAny_pure (wpAny_bind fin))
          | exact wpAny_bind fin
    · cases q
  | _ => simp [idxD] at q
/-! ### a[lo:hi] -/
def rSlD : V → Option Int → Option Int → Hp → VK → Prop := fun x lo hi H Q => ∃ Z d z fr, ZH Z H ∧ RepB Z H d x ∧ slcD d lo hi = some z ∧ Res Z H fr z Q
theorem repL_cut {Z : AS} {H : Hp} {ds : List D} {xs : List V} (r : RepL Z H ds xs) (lo hi : Option Int) : RepL Z H (cutD ds lo hi) (cutV xs lo hi) := by
  unfold cutD cutV
  rw [RepL.length ds xs r]
  exact RepL.take _ _ _ (RepL.drop _ _ _ r)
theorem sl_plain : SlR X rSlD := by
  intro pins s σ H x v vl vu lo hi sl Q I rx hs pl pu h
  obtain ⟨Z, d, z, fr, hz, hd, q, r⟩ := h
  cases d <;> simp only [slcD] at q <;> first | cases q | skip
  · obtain ⟨a, xs, rfl, ha, ra⟩ := RepO.tup hd
    refine sl_tupA pins s σ H _ v vl vu lo hi sl Q I rx hs pl pu ⟨a, xs, rfl, .of ha, fun hw => ?_, fun _ p hp => r.tup hz (repL_cut ra lo hi) hp⟩
    rename_i ds
    have e : cutD ds lo hi = ds := by
      unfold cutD
      rw [← RepL.length ds xs ra, hw.1, hw.2]
      simp [RepL.length ds xs ra]
    rw [e] at r
    exact r.flat (RepO.tupRep hz hd) rfl
  · obtain ⟨a, xs, rfl, ha, ra⟩ := RepO.lst hd
    exact sl_list pins s σ H _ v vl vu lo hi sl Q I rx hs pl pu ⟨a, xs, rfl, .of ha, fun p hp => r.lst hz (repL_cut ra lo hi) hp⟩
/-! ### truth -/
theorem truth_of {Z : AS} {H : Hp} {d : D} {v : V} {b : Bool} (K : PySem.W.Frag) (hd : RepB Z H d v) (h : truthO d = some b) : TruV K v H b := by
  cases d with
  | non => cases hd; cases h; rfl
  | bl b => cases hd; cases h; rfl
  | int b => cases hd; cases h; rfl
  | str x =>
    cases hd
    simp only [truthO] at h
    split at h
    · rename_i hl
      cases h
      refine ⟨lim_le hl, ?_⟩
      show (x.length != 0) = ((x.length : Int) != 0)
      generalize x.length = n
      cases n with
      | zero => rfl
      | succ n =>
        have h1 : (n + 1 != 0) = true := by simp
        have h2 : (((n + 1 : Nat) : Int) != 0) = true := by
          rw [bne_iff_ne]
          omega
        rw [h1, h2]
    · cases h
  | tup ds =>
    obtain ⟨a, xs, rfl, ha, ra⟩ := RepO.tup hd
    cases h
    refine .inr (.inl ⟨xs, .of ha, ?_⟩)
    have := RepL.length _ _ ra
    cases ds <;> cases xs <;> simp_all [truth]
  | lst ds =>
    obtain ⟨a, xs, rfl, ha, ra⟩ := RepO.lst hd
    cases h
    refine .inl ⟨xs, .of ha, ?_⟩
    have := RepL.length _ _ ra
    cases ds <;> cases xs <;> simp_all [truth]
  | dic t ds =>
    obtain ⟨a, rfl, _, q⟩ := hd
    rcases q with ⟨rfl, kvs, e, r⟩ | ⟨rfl, kvs, e, r⟩
    · cases h
      refine .inr (.inr ⟨kvs, e, ?_⟩)
      cases ds with
      | nil => cases r; rfl
      | cons p ds =>
        obtain ⟨k, d⟩ := p
        obtain ⟨_, _, _, rfl, _⟩ := r
        rfl
    · cases h
end
end PB
set_option maxHeartbeats 4000000
/-! Id: built-ins over plain values. -/
namespace PB
open PySem PySem.Spec PyProof.Rows L2

def RepBs (Z : AS) (H : Hp) : List D → List V → Prop
  | [], vs => vs = []
  | d :: ds, vs => ∃ v r, vs = v :: r ∧ RepB Z H d v ∧ RepBs Z H ds r
/-- a built-in's reading -/
def rB (f : Bi) : List V → Hp → VK → Prop := fun vs H Q => ∃ Z ds z fr, ZH Z H ∧ RepBs Z H ds vs ∧ bi f ds = some z ∧ Res Z H fr z Q
section
variable {Z : AS} {H : Hp}
theorem RepBs.one {d : D} {vs : List V} (h : RepBs Z H [d] vs) : ∃ v, vs = [v] ∧ RepB Z H d v := by
  obtain ⟨v, r, e, h1, h2⟩ := h
  cases h2
  exact ⟨v, e, h1⟩
theorem RepBs.two {d e : D} {vs : List V} (h : RepBs Z H [d, e] vs) : ∃ v w, vs = [v, w] ∧ RepB Z H d v ∧ RepB Z H e w := by
  obtain ⟨v, r, q, h1, h2⟩ := h
  obtain ⟨w, q2, h3⟩ := h2.one
  subst q2
  exact ⟨v, w, q, h1, h3⟩
/-- a list or a tuple -/
theorem RepO.seq {d : D} {l : List D} {v : V} (e : seqOf d = some l) (h : RepB Z H d v) : ∃ a xs, v = .ref a ∧ ((d = .lst l ∧ H a = some (.lst xs)) ∨ (d = .tup l ∧ H a = some (.tup xs))) ∧ RepL Z H l xs := by
  cases d <;> simp only [seqOf] at e <;> first | cases e | skip
  · obtain ⟨a, xs, rfl, ha, r⟩ := RepO.tup h
    exact ⟨a, xs, rfl, .inr ⟨rfl, ha⟩, r⟩
  · obtain ⟨a, xs, rfl, ha, r⟩ := RepO.lst h
    exact ⟨a, xs, rfl, .inl ⟨rfl, ha⟩, r⟩
end
section
variable {X : Cx}
theorem repK_len {Z : AS} {H : Hp} : ∀ {ds : List (D × D)} {kvs : List (Key × V)}, RepK Z H ds kvs → kvs.length = ds.length
  | [], _, h => by cases h; rfl
  | (_, _) :: _, _, h => by obtain ⟨q, v, r, e, _, _, h2⟩ := h; subst e; simp [repK_len h2]
theorem repT_len {Z : AS} {H : Hp} : ∀ {ds : List (D × D)} {kvs : List (List Key × V)}, RepT Z H ds kvs → kvs.length = ds.length
  | [], _, h => by cases h; rfl
  | (_, _) :: _, _, h => by obtain ⟨q, v, r, ks, e, _, _, _, h2⟩ := h; subst e; simp [repT_len h2]
theorem b_len : CallR X (.builtin "len") (rB .len) := by
  intro pins s σ H vs us Q I r h
  obtain ⟨Z, ds, z, fr, hz, hd, q, k⟩ := h
  match ds, q with
  | [d], q =>
    simp only [bi, Option.map_eq_some_iff] at q
    obtain ⟨n, e, rfl⟩ := q
    obtain ⟨v, rfl, hv⟩ := hd.one
    cases d <;> simp only [lenD] at e <;> first | cases e | skip
    · rename_i x
      split at e
      · rename_i hl
        cases e
        cases hv
        exact call_len_str pins s σ H _ us Q I r ⟨_, rfl, lim_le hl, k.flat rfl rfl⟩
      · cases e
    · obtain ⟨a, ws, rfl, ha, ra⟩ := RepO.tup hv
      refine call_len_seq pins s σ H _ us Q I r ⟨a, ws, rfl, .inr (.of ha), ?_⟩
      rw [RepL.length _ _ ra]
      exact k.flat rfl rfl
    · obtain ⟨a, ws, rfl, ha, ra⟩ := RepO.lst hv
      refine call_len_seq pins s σ H _ us Q I r ⟨a, ws, rfl, .inl (.of ha), ?_⟩
      rw [RepL.length _ _ ra]
      exact k.flat rfl rfl
    · obtain ⟨a, rfl, _, ⟨ht, kvs, e1, r1⟩ | ⟨ht, kvs, e1, r1⟩⟩ := hv
      · obtain ⟨u, rfl, rx⟩ := vals1 r
        cases rx
        refine d_len I (.inl e1) fun t s' I' => ⟨.int kvs.length, H, I', ⟨_, rfl⟩, ?_⟩
        rw [repK_len r1]
        exact k.flat rfl rfl
      · refine call_len_dT pins s σ H _ us Q I r ⟨a, kvs, rfl, e1, ?_⟩
        rw [repT_len r1]
        exact k.flat rfl rfl
theorem b_any (hc : X.calm = true) : CallR X (.builtin "any") (rB .any) := by
  intro pins s σ H vs us Q I r h
  obtain ⟨Z, ds, z, fr, hz, hd, q, k⟩ := h
  match ds, q with
  | [.lst xs], q =>
    simp only [bi, Option.map_eq_some_iff] at q
    obtain ⟨l, el, rfl⟩ := q
    obtain ⟨v, rfl, hv⟩ := hd.one
    obtain ⟨a, ws, rfl, ha, ra⟩ := RepO.lst hv
    have e := RepL.bls _ _ _ ra el
    subst e
    exact cr_any hc pins s σ H _ us Q I r ⟨a, l, rfl, .of ha, k.flat rfl rfl⟩
theorem b_all (hc : X.calm = true) : CallR X (.builtin "all") (rB .all) := by
  intro pins s σ H vs us Q I r h
  obtain ⟨Z, ds, z, fr, hz, hd, q, k⟩ := h
  match ds, q with
  | [.lst xs], q =>
    simp only [bi, Option.map_eq_some_iff] at q
    obtain ⟨l, el, rfl⟩ := q
    obtain ⟨v, rfl, hv⟩ := hd.one
    obtain ⟨a, ws, rfl, ha, ra⟩ := RepO.lst hv
    have e := RepL.bls _ _ _ ra el
    subst e
    exact cr_all hc pins s σ H _ us Q I r ⟨a, l, rfl, .of ha, k.flat rfl rfl⟩
theorem b_tuple : CallR X (.type "tuple") (rB .tuple) := by
  intro pins s σ H vs us Q I r h
  obtain ⟨Z, ds, z, fr, hz, hd, q, k⟩ := h
  match ds, q with
  | [d], q =>
    simp only [bi, Option.map_eq_some_iff] at q
    obtain ⟨l, el, rfl⟩ := q
    obtain ⟨v, rfl, hv⟩ := hd.one
    obtain ⟨a, ws, rfl, ha, ra⟩ := RepO.seq el hv
    rcases ha with ⟨rfl, ha⟩ | ⟨rfl, ha⟩
    · exact call_tuple_of pins s σ H _ us Q I r ⟨a, ws, rfl, .inl ⟨.of ha, fun p hp => k.tup hz ra hp⟩⟩
    · exact call_tuple_of pins s σ H _ us Q I r ⟨a, ws, rfl, .inr ⟨.of ha, k.flat (RepO.tupRep hz hv) rfl⟩⟩
theorem b_list : CallR X (.type "list") (rB .list) := by
  intro pins s σ H vs us Q I r h
  obtain ⟨Z, ds, z, fr, hz, hd, q, k⟩ := h
  match ds, q with
  | [d], q =>
    simp only [bi, Option.map_eq_some_iff] at q
    obtain ⟨l, el, rfl⟩ := q
    obtain ⟨v, rfl, hv⟩ := hd.one
    obtain ⟨a, ws, rfl, ha, ra⟩ := RepO.seq el hv
    rcases ha with ⟨rfl, ha⟩ | ⟨rfl, ha⟩
    · exact call_list_of pins s σ H _ us Q I r ⟨a, ws, rfl, .inl (.of ha), fun p hp => k.lst hz ra hp⟩
    · exact call_list_of pins s σ H _ us Q I r ⟨a, ws, rfl, .inr (.of ha), fun p hp => k.lst hz ra hp⟩
theorem b_int : CallR X (.type "int") (rB .int) := by
  intro pins s σ H vs us Q I r h
  obtain ⟨Z, ds, z, fr, hz, hd, q, k⟩ := h
  match ds, q with
  | [.int i], q =>
    cases q
    obtain ⟨v, rfl, hv⟩ := hd.one
    cases hv
    exact call_int1 pins s σ H _ us Q I r (.inl ⟨_, rfl, k.flat rfl rfl⟩)
  | [.bl b], q =>
    cases q
    obtain ⟨v, rfl, hv⟩ := hd.one
    cases hv
    exact call_int1 pins s σ H _ us Q I r (.inr ⟨_, rfl, k.flat rfl rfl⟩)
theorem b_abs : CallR X (.builtin "abs") (rB .abs) := by
  intro pins s σ H vs us Q I r h
  obtain ⟨Z, ds, z, fr, hz, hd, q, k⟩ := h
  match ds, q with
  | [.int i], q =>
    cases q
    obtain ⟨v, rfl, hv⟩ := hd.one
    cases hv
    exact call_abs pins s σ H _ us Q I r ⟨_, rfl, k.flat rfl rfl⟩
/-! repr -/
mutual
theorem show_ok : ∀ (n : Nat) (d : D), plainD n d = true → showI d = true → (toPy d).showable = true
  | _, .non, _, _ => by simp [toPy, PyData.showable]
  | _, .bl b, _, _ => by simp [toPy, PyData.showable]
  | _, .int i, _, h => by simpa [toPy, PyData.showable, showI] using h
  | _, .str x, _, _ => by simp [toPy, PyData.showable]
  | 0, .tup ds, p, _ => by simp [plainD] at p
  | n + 1, .tup ds, p, h => by
    simp only [toPy, PyData.showable]
    exact show_okL n ds (by simpa [plainD] using p) (by simpa [showI] using h)
  | 0, .lst ds, p, _ => by simp [plainD] at p
  | n + 1, .lst ds, p, h => by
    simp only [toPy, PyData.showable]
    exact show_okL n ds (by simpa [plainD] using p) (by simpa [showI] using h)
  | _, .dic _ _, p, _ => by simp [plainD] at p
theorem show_okL : ∀ (n : Nat) (ds : List D), plainL n ds = true → showIL ds = true → PyData.showableAll (toPyL ds) = true
  | _, [], _, _ => by simp [toPyL, PyData.showableAll]
  | n, d :: ds, p, h => by
    simp only [plainL, Bool.and_eq_true] at p
    simp only [showIL, Bool.and_eq_true] at h
    simp only [toPyL, PyData.showableAll, show_ok n d p.1 h.1, show_okL n ds p.2 h.2]
    rfl
end
theorem b_repr (hg : X.A.guards = some []) (hu : X.A.units + 64 < cLine) : CallR X (.builtin "repr") (rB .repr) := by
  intro pins s σ H vs us Q I r h
  obtain ⟨Z, ds, z, fr, hz, hd, q, k⟩ := h
  match ds, q with
  | [d], q =>
    simp only [bi] at q
    split at q
    · rename_i hp
      cases q
      simp only [Bool.and_eq_true, decide_eq_true_eq] at hp
      obtain ⟨v, rfl, hv⟩ := hd.one
      obtain ⟨u, rfl, rv⟩ := vals1 r
      have dp := RepO.dp (K := X.K) _ _ _ hp.1.1 hv
      obtain ⟨as, rd⟩ := Dp.reads I _ _ _ dp rv
      have lay := plain_lay _ _ hp.1.1
      have hsh := show_ok _ _ hp.1.1 hp.1.2
      have hlen := lim_le hp.2
      have nd := PyData.hasDict_of_canLay _ lay.1
      cases d with
      | tup ds =>
        obtain ⟨a, xs, rfl, ha, ra⟩ := RepO.tup hv
        obtain rfl : u = Value.ref a := rv
        exact repr_of_reads' rd hsh (fun e => by rw [nd] at e; cases e) hg (by have := lay.2; omega) (fun _ _ e => e) (fun h' u tk hk => ⟨.str _, H, I.kept hk, ⟨_, rfl⟩, k.flat rfl rfl⟩) hlen
      | lst ds =>
        obtain ⟨a, xs, rfl, ha, ra⟩ := RepO.lst hv
        obtain rfl : u = Value.ref a := rv
        exact repr_of_reads' rd hsh (fun e => by rw [nd] at e; cases e) hg (by have := lay.2; omega) (fun _ _ e => e) (fun h' u tk hk => ⟨.str _, H, I.kept hk, ⟨_, rfl⟩, k.flat rfl rfl⟩) hlen
      | non =>
        cases hv
        cases rv
        exact PySem.P.repr_of_none ⟨.str _, H, I.tok _, ⟨_, rfl⟩, k.flat rfl rfl⟩
      | bl b =>
        cases hv
        cases rv
        exact PySem.P.repr_of_bool ⟨.str _, H, I.tok _, ⟨_, rfl⟩, k.flat rfl rfl⟩
      | int b =>
        cases hv
        obtain ⟨t, rfl⟩ := rv
        exact PySem.P.repr_of_int (by simpa [showI] using hp.1.2) ⟨.str _, H, I.tok _, ⟨_, rfl⟩, k.flat rfl rfl⟩
      | str x =>
        cases hv
        obtain ⟨t, rfl⟩ := rv
        exact PySem.P.repr_of_str ⟨.str _, H, I.tok _, ⟨_, rfl⟩, k.flat rfl rfl⟩ hlen
      | dic t kvs => simp [plainD] at hp
    · cases q
end
end PB
set_option maxHeartbeats 4000000
/-! Ie: a def's slots over plain values: the relation of state and environment, readings. -/
namespace PB
open PySem PySem.Spec PyProof.Rows L2

/-- what a frame knows of its entry: what others own, the heap, the slots -/
structure Fm where
  Z : AS
  H0 : Hp
  σ0 : L2.St
/-- fixed through a def's body: tables of code objects, classes' addresses, slots' kinds, parameters, the caught exception -/
structure Gm where
  T : List (Addr × Str)
  K : PySem.W.Frag
  cA : Nat → Option Addr
  ks : List Kd
  np : Nat
  xo : Option (Nat × Addr × Addr × List (Str × D))
  lam : Option (Addr × Addr × Str)
/-- a slot that may be set -/
def Fre (Γ : Gm) (i : Nat) : Prop := (∀ a dx ds, Γ.xo ≠ some (i, a, dx, ds)) ∧ (i = 0 → Γ.lam = none)

def OsS (ks : List Kd) (σ : L2.St) : AS := fun a => ∃ i : Nat, ks[i]? = some Kd.own ∧ σ[i]? = some (some (V.ref a))
def LsS (ks : List Kd) (np : Nat) (σ0 : L2.St) : AS := fun a => ∃ i : Nat, i < np ∧ ks[i]? = some Kd.own ∧ σ0[i]? = some (some (V.ref a))
def zt (Γ : Gm) (F : Fm) (σ : L2.St) : AS := fun a => F.Z a ∨ OsS Γ.ks σ a

/-- what a thing that is only looked at is not: owned here, or newer than the entry -/
def zo (Γ : Gm) (F : Fm) (σ : L2.St) : AS := fun a => OsS Γ.ks σ a ∨ F.H0 a = none
/-- what may change while an expression is evaluated -/
def zs (Γ : Gm) (F : Fm) (σ : L2.St) : AS := fun a => OsS Γ.ks σ a ∨ (F.H0 a = none ∧ ¬ F.Z a)
/-- the script: a known list, or one of the written part -/
def SqF (K : PySem.W.Frag) (H0 : Hp) (a : Addr) (l : List Int) : Prop := (∃ o, H0 a = some (.frz o (.lst (l.map V.int)))) ∨ SqL K (fun _ => none) a (l.map V.int)
theorem SqF.sq {K : PySem.W.Frag} {H : Hp} {a : Addr} {l : List Int} (h : SqF K H a l) : SqL K H a (l.map V.int) := by
  rcases h with ⟨o, h⟩ | h | h
  · exact .inl (.inr ⟨o, h⟩)
  · rcases h with h | ⟨o, h⟩ <;> cases h
  · exact .inr h
structure ER (Γ : Gm) (F : Fm) (H : Hp) (σ : L2.St) (e : En) : Prop where
  le : e.length = Γ.ks.length
  lσ : σ.length = Γ.ks.length
  shr : ∀ (i : Nat) d, Γ.ks[i]? = some Kd.shr → e[i]? = some (some d) → ∃ v, σ[i]? = some (some v) ∧ Rep (zt Γ F σ) H d v
  brw : ∀ (i : Nat) d, Γ.ks[i]? = some Kd.brw → e[i]? = some (some d) → ∃ v, σ[i]? = some (some v) ∧ RepO (zo Γ F σ) (zt Γ F σ) H d v
  frz : ∀ (i : Nat) d, Γ.ks[i]? = some Kd.frz → e[i]? = some (some d) → ∃ (a : Addr) (l : List Int), σ[i]? = some (some (V.ref a)) ∧ d = .lst (l.map D.int) ∧ SqF Γ.K F.H0 a l ∧ ∀ o u, F.H0 a = some (.frz o u) → ¬ LsS Γ.ks Γ.np F.σ0 a
  own : ∀ (i : Nat) v, Γ.ks[i]? = some Kd.own → σ[i]? = some (some v) → ∃ a d, v = .ref a ∧ ¬ F.Z a ∧ (i < Γ.np → F.σ0[i]? = some (some (V.ref a))) ∧ (Γ.np ≤ i → F.H0 a = none) ∧ e[i]? = some (some d) ∧ Own (zt Γ F σ) H a d
  ownE : ∀ (i : Nat) d, Γ.ks[i]? = some Kd.own → e[i]? = some (some d) → ∃ v, σ[i]? = some (some v)
  par : ∀ (i : Nat) v, i < Γ.np → Γ.ks[i]? = some Kd.own → F.σ0[i]? = some (some v) → σ[i]? = some (some v)
  inj : ∀ (i j : Nat) a, Γ.ks[i]? = some Kd.own → Γ.ks[j]? = some Kd.own → σ[i]? = some (some (V.ref a)) → σ[j]? = some (some (V.ref a)) → i = j
  base : ∀ a o, F.H0 a = some o → (∀ ps, o ≠ .tbl ps) → ¬ LsS Γ.ks Γ.np F.σ0 a → H a = some o
  dom : ∀ a, F.H0 a ≠ none → H a ≠ none
  zh : ∀ a, F.Z a → H a ≠ none ∧ (∀ xs, H a ≠ some (.tup xs)) ∧ ∀ ps, H a ≠ some (.tbl ps)
  tabs : LamX.Tabs Γ.T H
  exo : ∀ (i : Nat) a dx ds, Γ.xo = some (i, a, dx, ds) → σ[i]? = some (some (V.ref a)) ∧ Γ.ks[i]? = some Kd.shr ∧ ∃ fs, H dx = some (.xd fs) ∧ ∀ f d, ds.lookup f = some d → ∃ v, fs.lookup f = some v ∧ Rep (zt Γ F σ) H d v
  lam : ∀ f c q, Γ.lam = some (f, c, q) → σ[0]? = some (some (V.ref f)) ∧ Γ.ks[0]? = some Kd.shr ∧ H c = some (LamX.CodeO c q)

theorem Own.notTup {Z : AS} {H : Hp} {a : Addr} {d : D} (h : Own Z H a d) : ∀ xs, H a ≠ some (.tup xs) := by
  cases d with
  | lst ds => obtain ⟨xs, e, r⟩ := h; intro ys z; rw [e] at z; cases z
  | dic t ds => rcases h with ⟨ht, kvs, e, r⟩ | ⟨ht, kvs, e, r⟩ <;> (intro ys z; rw [e] at z; cases z)
  | _ => exact h.elim
theorem Own.notFrz {Z : AS} {H : Hp} {a : Addr} {d : D} (h : Own Z H a d) : ∀ o u, H a ≠ some (.frz o u) := by
  cases d with
  | lst ds => obtain ⟨xs, e, r⟩ := h; intro ys z y; rw [e] at y; cases y
  | dic t ds => rcases h with ⟨ht, kvs, e, r⟩ | ⟨ht, kvs, e, r⟩ <;> (intro ys z y; rw [e] at y; cases y)
  | _ => exact h.elim
theorem Own.notXd {Z : AS} {H : Hp} {a : Addr} {d : D} (h : Own Z H a d) : ∀ fs, H a ≠ some (.xd fs) := by
  cases d with
  | lst ds => obtain ⟨xs, e, r⟩ := h; intro ys y; rw [e] at y; cases y
  | dic t ds => rcases h with ⟨ht, kvs, e, r⟩ | ⟨ht, kvs, e, r⟩ <;> (intro ys y; rw [e] at y; cases y)
  | _ => exact h.elim
theorem Own.notCode {Z : AS} {H : Hp} {a : Addr} {d : D} (h : Own Z H a d) : ∀ q, H a ≠ some (LamX.CodeO a q) := by
  cases d with
  | lst ds => obtain ⟨xs, e, r⟩ := h; intro ys y; rw [e] at y; unfold LamX.CodeO at y; cases y
  | dic t ds => rcases h with ⟨ht, kvs, e, r⟩ | ⟨ht, kvs, e, r⟩ <;> (intro ys y; rw [e] at y; unfold LamX.CodeO at y; cases y)
  | _ => exact h.elim
theorem Own.notTbl {Z : AS} {H : Hp} {a : Addr} {d : D} (h : Own Z H a d) : ∀ fs, H a ≠ some (.tbl fs) := by
  cases d with
  | lst ds => obtain ⟨xs, e, r⟩ := h; intro ys y; rw [e] at y; cases y
  | dic t ds => rcases h with ⟨ht, kvs, e, r⟩ | ⟨ht, kvs, e, r⟩ <;> (intro ys y; rw [e] at y; cases y)
  | _ => exact h.elim
section
variable {Γ : Gm} {F : Fm} {H H' : Hp} {σ : L2.St} {e : En}
theorem ER.ztH (E : ER Γ F H σ e) : ZH (zt Γ F σ) H := by
  intro a ha
  rcases ha with h | ⟨i, h1, h2⟩
  · exact ⟨(E.zh a h).1, (E.zh a h).2.1⟩
  · obtain ⟨a', d, q, _, _, _, _, o⟩ := E.own i _ h1 h2
    cases q
    exact ⟨o.there, o.notTup⟩
theorem ER.h0 (E : ER Γ F H σ e) {p : Addr} (hp : H p = none) : F.H0 p = none := by
  cases q : F.H0 p with
  | none => rfl
  | some o => exact absurd hp (E.dom p (by rw [q]; exact fun z => nomatch z))
theorem ER.sq (E : ER Γ F H σ e) {a : Addr} {l : List Int} (h : SqF Γ.K F.H0 a l) (n : ∀ o u, F.H0 a = some (.frz o u) → ¬ LsS Γ.ks Γ.np F.σ0 a) : SqF Γ.K H a l := by
  rcases h with ⟨o, h⟩ | h
  · exact .inl ⟨o, E.base a _ h (fun ps z => by cases z) (n _ _ h)⟩
  · exact .inr h
/-- the frame, another Z -/
abbrev Fm.wz (F : Fm) (Z' : AS) : Fm := { F with Z := Z' }
abbrev Fm.add (F : Fm) (p : Addr) : Fm := { F with Z := addZ F.Z p }
theorem kp_of {Z' : AS} (k : ∀ a o, H a = some o → (∀ ps, o ≠ .tbl ps) → ¬ OsS Γ.ks σ a → H' a = some o) (hZ : ∀ a, Z' a → F.Z a ∨ H a = none) : Kp (zt Γ F σ) (zt Γ (F.wz Z') σ) H H' := by
  intro a o h n z
  refine ⟨k a o h n fun q => z (.inr q), fun q => ?_⟩
  rcases q with q | q
  · rcases hZ a q with q | q
    · exact z (.inl q)
    · rw [q] at h; cases h
  · exact z (.inr q)
/-- the state goes on: what is not owned here stays -/
theorem ER.next (E : ER Γ F H σ e) {Z' : AS} {e' : En} (k : ∀ a o, H a = some o → (∀ ps, o ≠ .tbl ps) → ¬ OsS Γ.ks σ a → H' a = some o) (hZ : ∀ a, Z' a → F.Z a ∨ (H a = none ∧ H' a ≠ none ∧ (∀ xs, H' a ≠ some (.tup xs)) ∧ ∀ ps, H' a ≠ some (.tbl ps)))
    (hl : e'.length = e.length) (he : ∀ i : Nat, Γ.ks[i]? ≠ some Kd.own → e'[i]? = e[i]?) (hd : ∀ a, H a ≠ none → H' a ≠ none) (ht : LamX.Tabs Γ.T H')
    (ho : ∀ (i : Nat) a, Γ.ks[i]? = some Kd.own → σ[i]? = some (some (V.ref a)) → ∃ d, e'[i]? = some (some d) ∧ Own (zt Γ (F.wz Z') σ) H' a d)
    (hoe : ∀ (i : Nat) d, Γ.ks[i]? = some Kd.own → e'[i]? = some (some d) → ∃ v, σ[i]? = some (some v)) : ER Γ (F.wz Z') H' σ e' := by
  have kp : Kp (zt Γ F σ) (zt Γ (F.wz Z') σ) H H' := kp_of k fun a q => (hZ a q).imp id fun q => q.1
  have kO : Kp (zo Γ F σ) (zo Γ F σ) H H' := fun a o h n z => ⟨k a o h n fun q => z (.inl q), z⟩
  refine ⟨hl.trans E.le, E.lσ, fun i d h1 h2 => ?_, fun i d h1 h2 => ?_, fun i d h1 h2 => ?_, fun i v h1 h2 => ?_, hoe, E.par, E.inj, fun a o h1 h2 h3 => ?_, fun a h => hd a (E.dom a h), fun a h => ?_, ht, fun i a dx ds h => ?_, fun f c q h => ?_⟩
  · rw [he i (by rw [h1]; intro z; cases z)] at h2
    obtain ⟨v, q1, q2⟩ := E.shr i d h1 h2
    exact ⟨v, q1, Rep.mono kp d v q2⟩
  · rw [he i (by rw [h1]; intro z; cases z)] at h2
    obtain ⟨v, q1, q2⟩ := E.brw i d h1 h2
    exact ⟨v, q1, RepO.mono kO kp d v q2⟩
  · rw [he i (by rw [h1]; intro z; cases z)] at h2
    exact E.frz i d h1 h2
  · obtain ⟨a, d, q1, q2, q3, q4, q5, q6⟩ := E.own i v h1 h2
    subst q1
    obtain ⟨d', r1, r2⟩ := ho i a h1 h2
    refine ⟨a, d', rfl, fun z => ?_, q3, q4, r1, r2⟩
    rcases hZ a z with z | z
    · exact q2 z
    · exact q6.there z.1
  · refine k a o (E.base a o h1 h2 h3) h2 fun ⟨i, z1, z2⟩ => ?_
    obtain ⟨a', d, q1, q2, q3, q4, q5, q6⟩ := E.own i _ z1 z2
    cases q1
    by_cases hi : i < Γ.np
    · exact h3 ⟨i, hi, z1, q3 hi⟩
    · rw [q4 (by omega)] at h1; cases h1
  · rcases hZ a h with z | z
    · have q := E.zh a z
      cases qa : H a with
      | none => exact absurd qa q.1
      | some o =>
        by_cases hOs : OsS Γ.ks σ a
        · obtain ⟨j, z1, z2⟩ := hOs
          obtain ⟨d', r1, r2⟩ := ho j a z1 z2
          exact ⟨r2.there, r2.notTup, r2.notTbl⟩
        · have nt : ∀ ps, o ≠ .tbl ps := fun ps y => q.2.2 ps (by rw [qa, y])
          have := k a o qa nt hOs
          refine ⟨fun z => ?_, fun xs y => ?_, fun ps y => ?_⟩
          · rw [this] at z
            cases z
          · rw [this] at y
            exact q.2.1 xs (qa.trans y)
          · rw [this] at y
            exact nt ps (Option.some.inj y)
    · exact z.2
  · obtain ⟨q1, q2, fs, q3, q4⟩ := E.exo i a dx ds h
    refine ⟨q1, q2, fs, k dx _ q3 (fun ps z => by cases z) fun ⟨j, z1, z2⟩ => ?_, fun f d hf => ?_⟩
    · obtain ⟨a', d, r1, _, _, _, _, r6⟩ := E.own j _ z1 z2
      cases r1
      exact r6.notXd _ q3
    · obtain ⟨v, r1, r2⟩ := q4 f d hf
      exact ⟨v, r1, Rep.mono kp d v r2⟩
  · obtain ⟨q1, q2, q3⟩ := E.lam f c q h
    refine ⟨q1, q2, k c _ q3 (fun ps z => LamX.codeO_ne ps z) fun ⟨j, z1, z2⟩ => ?_⟩
    obtain ⟨a', d, r1, _, _, _, _, r6⟩ := E.own j _ z1 z2
    cases r1
    exact r6.notCode _ q3

theorem ER.kp (E : ER Γ F H σ e) (k : ∀ a o, H a = some o → (∀ ps, o ≠ .tbl ps) → ¬ OsS Γ.ks σ a → H' a = some o) : Kp (zt Γ F σ) (zt Γ F σ) H H' := fun a o h n z => ⟨k a o h n fun q => z (.inr q), z⟩
theorem Rep.ofZ {Z Z' : AS} {d : D} {v : V} (h : Rep Z H d v) (q : ∀ a, Z' a → Z a) : Rep Z' H d v := Rep.mono (Kp.sub q) d v h
theorem Own.ofZ {Z Z' : AS} {a : Addr} {d : D} (h : Own Z H a d) (q : ∀ a, Z' a → Z a) : Own Z' H a d := h.mono (fun _ e => e) (Kp.sub q)
/-- fewer are others' -/
theorem ER.weak (E : ER Γ F H σ e) {Z' : AS} (hz : ∀ a, Z' a → F.Z a) : ER Γ (F.wz Z') H σ e := by
  have sub : ∀ a, zt Γ (F.wz Z') σ a → zt Γ F σ a := fun a q => q.imp (hz a) id
  refine E.next (fun a o h _ _ => h) (fun a q => .inl (hz a q)) rfl (fun _ _ => rfl) (fun _ q => q) E.tabs (fun i a h1 h2 => ?_) E.ownE
  obtain ⟨a', d, r1, _, _, _, r5, r6⟩ := E.own i _ h1 h2
  cases r1
  exact ⟨d, r5, r6.ofZ sub⟩
theorem ER.unadd {p : Addr} (E : ER Γ (F.add p) H σ e) : ER Γ F H σ e := E.weak (Z' := F.Z) fun _ q => .inl q
/-- new objects -/
theorem ER.extZ (E : ER Γ F H σ e) (x : Ex H H') {Z' : AS} (hZ : ∀ a, Z' a → F.Z a ∨ (H a = none ∧ H' a ≠ none ∧ (∀ xs, H' a ≠ some (.tup xs)) ∧ ∀ ps, H' a ≠ some (.tbl ps))) : ER Γ (F.wz Z') H' σ e := by
  have k : ∀ a o, H a = some o → (∀ ps, o ≠ .tbl ps) → ¬ OsS Γ.ks σ a → H' a = some o := fun a o h _ _ => x a o h
  refine E.next k hZ rfl (fun _ _ => rfl) (fun a q => ?_) (E.tabs.ext x) (fun i a h1 h2 => ?_) E.ownE
  · cases qa : H a with
    | none => exact absurd qa q
    | some o => rw [x a o qa]; exact fun z => nomatch z
  · obtain ⟨a', d, r1, _, _, _, r5, r6⟩ := E.own i _ h1 h2
    cases r1
    exact ⟨d, r5, r6.mono (x a) (kp_of k fun b q => (hZ b q).imp id fun q => q.1)⟩
theorem ER.ext (E : ER Γ F H σ e) (x : Ex H H') : ER Γ F H' σ e := E.extZ (Z' := F.Z) x fun _ q => .inl q
theorem get_set {α : Type} {l : List α} {i j : Nat} {x : α} (h : j ≠ i) : (l.set i x)[j]? = l[j]? := List.getElem?_set_ne (Ne.symm h)
theorem lt_of_get {α : Type} {l : List α} {i : Nat} {x : α} (h : l[i]? = some x) : i < l.length := (List.getElem?_eq_some_iff.mp h).1
/-- an owned object is changed in place -/
theorem ER.wr (E : ER Γ F H σ e) {i : Nat} {a : Addr} {d : D} (h1 : Γ.ks[i]? = some Kd.own) (h2 : σ[i]? = some (some (V.ref a))) (x : ∀ b, b ≠ a → H' b = H b) (o : Own (zt Γ F σ) H' a d) : ER Γ F H' σ (e.set i (some d)) := by
  have hi : i < e.length := by rw [E.le]; exact lt_of_get h1
  have aO : OsS Γ.ks σ a := ⟨i, h1, h2⟩
  have k : ∀ b u, H b = some u → (∀ ps, u ≠ .tbl ps) → ¬ OsS Γ.ks σ b → H' b = some u := fun b u h _ z => by
    rw [x b (fun q => z (q ▸ aO))]; exact h
  refine E.next (Z' := F.Z) k (fun _ q => .inl q) (by simp) (fun j hj => get_set fun q => hj (q ▸ h1)) (fun b q => ?_) (fun p hp => ?_) (fun j b q1 q2 => ?_) (fun j d' q1 q2 => ?_)
  · by_cases hb : b = a
    · rw [hb]; exact o.there
    · rw [x b hb]; exact q
  · obtain ⟨a', d0, r1, _, _, _, r5, r6⟩ := E.own i _ h1 h2
    cases r1
    obtain ⟨ps, t1, t2, t3⟩ := E.tabs p hp
    have n1 : p.1 ≠ a := fun z => r6.notTbl ps (z ▸ t1)
    refine ⟨ps, by rw [x _ n1]; exact t1, t2, fun pos cv hc => ?_⟩
    obtain ⟨c, s1, s2⟩ := t3 pos cv hc
    refine ⟨c, s1, ?_⟩
    rw [x c fun z => ?_]
    · exact s2
    · rw [z] at s2
      cases d0 with
      | lst ds => obtain ⟨xs, q1, _⟩ := r6; rw [q1] at s2; unfold LamX.CodeO at s2; cases s2
      | dic t ds => rcases r6 with ⟨_, kvs, q1, _⟩ | ⟨_, kvs, q1, _⟩ <;> (rw [q1] at s2; unfold LamX.CodeO at s2; cases s2)
      | _ => exact r6.elim
  · by_cases hj : j = i
    · subst hj
      rw [h2] at q2
      cases q2
      exact ⟨d, by simp [hi], o⟩
    · obtain ⟨a', d0, r1, _, _, _, r5, r6⟩ := E.own j _ q1 q2
      cases r1
      have hb : b ≠ a := fun z => hj (E.inj j i a q1 h1 (z ▸ q2) h2)
      exact ⟨d0, by rw [get_set hj]; exact r5, r6.mono (fun o q => by rw [x b hb]; exact q) (E.kp k)⟩
  · by_cases hj : j = i
    · subst hj; exact ⟨_, h2⟩
    · rw [get_set hj] at q2
      exact E.ownE j d' q1 q2
/-- a slot that is not owned is set -/
theorem osS_set {ks : List Kd} {i : Nat} {w : Option V} (h1 : ks[i]? ≠ some Kd.own) (a : Addr) : OsS ks (σ.set i w) a ↔ OsS ks σ a := by
  constructor
  · rintro ⟨j, q1, q2⟩
    have : j ≠ i := fun z => h1 (z ▸ q1)
    exact ⟨j, q1, by rw [get_set this] at q2; exact q2⟩
  · rintro ⟨j, q1, q2⟩
    have : j ≠ i := fun z => h1 (z ▸ q1)
    exact ⟨j, q1, by rw [get_set this]; exact q2⟩
theorem osS_set' {ks : List Kd} {i : Nat} {w : Option V} (h1 : ks[i]? ≠ some Kd.own) : OsS ks (σ.set i w) = OsS ks σ := funext fun a => propext (osS_set h1 a)
theorem zt_set {i : Nat} {w : Option V} (h1 : Γ.ks[i]? ≠ some Kd.own) : zt Γ F (σ.set i w) = zt Γ F σ := by
  funext a
  unfold zt
  rw [osS_set' h1]
theorem ER.setShr (E : ER Γ F H σ e) {i : Nat} {v : V} {d : D} (h1 : Γ.ks[i]? = some Kd.shr) (hx : Fre Γ i) (r : Rep (zt Γ F σ) H d v) : ER Γ F H (σ.set i (some v)) (e.set i (some d)) := by
  have ne : Γ.ks[i]? ≠ some Kd.own := by rw [h1]; exact fun z => nomatch z
  have hi := lt_of_get h1
  have hie : i < e.length := by rw [E.le]; exact hi
  have hiσ : i < σ.length := by rw [E.lσ]; exact hi
  have nk : ∀ {j : Nat} {k : Kd}, k ≠ .shr → Γ.ks[j]? = some k → j ≠ i := fun {j k} h q z => by rw [z, h1] at q; exact h (Option.some.inj q).symm
  refine ⟨by simp [E.le], by simp [E.lσ], fun j d' q1 q2 => ?_, fun j d' q1 q2 => ?_, fun j d' q1 q2 => ?_, fun j w q1 q2 => ?_, fun j d' q1 q2 => ?_, fun j w q0 q1 q2 => ?_, fun j k a q1 q2 q3 q4 => ?_, E.base, E.dom, E.zh, E.tabs, fun j a dx ds q => ?_, fun f c q' q => ?_⟩
  · rw [zt_set ne]
    by_cases hj : j = i
    · subst hj
      rw [List.getElem?_set_self hie] at q2
      cases q2
      exact ⟨v, List.getElem?_set_self hiσ, r⟩
    · rw [get_set hj] at q2 ⊢
      exact E.shr j d' q1 q2
  · have hj := nk (by decide) q1
    unfold zo
    rw [zt_set ne, osS_set' ne, get_set hj]
    rw [get_set hj] at q2
    exact E.brw j d' q1 q2
  · have hj := nk (by decide) q1
    rw [get_set hj] at q2 ⊢
    exact E.frz j d' q1 q2
  · have hj := nk (by decide) q1
    rw [zt_set ne]
    rw [get_set hj] at q2 ⊢
    exact E.own j w q1 q2
  · have hj := nk (by decide) q1
    rw [get_set hj] at q2 ⊢
    exact E.ownE j d' q1 q2
  · have hj := nk (by decide) q1
    rw [get_set hj]
    exact E.par j w q0 q1 q2
  · have hj := nk (by decide) q1
    have hk := nk (by decide) q2
    rw [get_set hj] at q3
    rw [get_set hk] at q4
    exact E.inj j k a q1 q2 q3 q4
  · have hj : j ≠ i := fun z => hx.1 a dx ds (z ▸ q)
    rw [zt_set ne, get_set hj]
    exact E.exo j a dx ds q
  · have hj : 0 ≠ i := fun z => by rw [hx.2 z.symm] at q; cases q
    rw [get_set hj]
    exact E.lam f c q' q
/-- an owned slot gets a new object -/
theorem ER.setOwn {p : Addr} {i : Nat} {d : D} (E : ER Γ (F.add p) H σ e) (h1 : Γ.ks[i]? = some Kd.own) (hn : Γ.np ≤ i) (p0 : F.H0 p = none) (pz : ¬ zt Γ F σ p) (o : Own (addZ (zt Γ F σ) p) H p d) :
    ER Γ F H (σ.set i (some (.ref p))) (e.set i (some d)) := by
  have hi := lt_of_get h1
  have hie : i < e.length := by rw [E.le]; exact hi
  have hiσ : i < σ.length := by rw [E.lσ]; exact hi
  have nk : ∀ {j : Nat} {k : Kd}, k ≠ .own → Γ.ks[j]? = some k → j ≠ i := fun {j k} h q z => by rw [z, h1] at q; exact h (Option.some.inj q).symm
  have sO : ∀ a, OsS Γ.ks (σ.set i (some (.ref p))) a → OsS Γ.ks σ a ∨ a = p := fun a ⟨j, q1, q2⟩ => by
    by_cases hj : j = i
    · subst hj
      rw [List.getElem?_set_self hiσ] at q2
      cases q2
      exact .inr rfl
    · rw [get_set hj] at q2
      exact .inl ⟨j, q1, q2⟩
  have sZ : ∀ a, zt Γ F (σ.set i (some (.ref p))) a → zt Γ (F.add p) σ a := fun a q => by
    rcases q with q | q
    · exact .inl (.inl q)
    · rcases sO a q with q | q
      · exact .inr q
      · exact .inl (.inr q)
  have eZ : ∀ a, zt Γ (F.add p) σ a → addZ (zt Γ F σ) p a := fun a q => by
    rcases q with (q | q) | q
    · exact .inl (.inl q)
    · exact .inr q
    · exact .inl (.inr q)
  refine ⟨by simp [E.le], by simp [E.lσ], fun j d' q1 q2 => ?_, fun j d' q1 q2 => ?_, fun j d' q1 q2 => ?_, fun j w q1 q2 => ?_, fun j d' q1 q2 => ?_, fun j w q0 q1 q2 => ?_, fun j k a q1 q2 q3 q4 => ?_, E.base, E.dom, fun a q => E.zh a (.inl q), E.tabs, fun j a dx ds q => ?_, fun f c q' q => ?_⟩
  · have hj := nk (by decide) q1
    rw [get_set hj] at q2 ⊢
    obtain ⟨v, r1, r2⟩ := E.shr j d' q1 q2
    exact ⟨v, r1, r2.ofZ sZ⟩
  · have hj := nk (by decide) q1
    rw [get_set hj] at q2 ⊢
    obtain ⟨v, r1, r2⟩ := E.brw j d' q1 q2
    refine ⟨v, r1, RepO.mono (Kp.sub fun a q => ?_) (Kp.sub sZ) d' v r2⟩
    rcases q with q | q
    · rcases sO a q with q | q
      · exact .inl q
      · exact .inr (q ▸ p0)
    · exact .inr q
  · have hj := nk (by decide) q1
    rw [get_set hj] at q2 ⊢
    exact E.frz j d' q1 q2
  · by_cases hj : j = i
    · subst hj
      rw [List.getElem?_set_self hiσ] at q2
      cases q2
      refine ⟨p, d, rfl, fun z => pz (.inl z), fun z => by omega, fun _ => p0, List.getElem?_set_self hie, o.ofZ fun a q => eZ a (sZ a q)⟩
    · rw [get_set hj] at q2 ⊢
      obtain ⟨a, d', r1, r2, r3, r4, r5, r6⟩ := E.own j w q1 q2
      exact ⟨a, d', r1, fun z => r2 (.inl z), r3, r4, r5, r6.ofZ sZ⟩
  · by_cases hj : j = i
    · subst hj
      exact ⟨_, List.getElem?_set_self hiσ⟩
    · rw [get_set hj] at q2 ⊢
      exact E.ownE j d' q1 q2
  · have hj : j ≠ i := by omega
    rw [get_set hj]
    exact E.par j w q0 q1 q2
  · have np : ∀ {j : Nat}, Γ.ks[j]? = some Kd.own → σ[j]? = some (some (V.ref p)) → False := fun {j} a b => pz (.inr ⟨j, a, b⟩)
    by_cases hj : j = i
    · by_cases hk : k = i
      · rw [hj, hk]
      · subst hj
        rw [List.getElem?_set_self hiσ] at q3
        cases q3
        rw [get_set hk] at q4
        exact (np q2 q4).elim
    · by_cases hk : k = i
      · subst hk
        rw [List.getElem?_set_self hiσ] at q4
        cases q4
        rw [get_set hj] at q3
        exact (np q1 q3).elim
      · rw [get_set hj] at q3
        rw [get_set hk] at q4
        exact E.inj j k a q1 q2 q3 q4
  · obtain ⟨r1, r2, fs, r3, r4⟩ := E.exo j a dx ds q
    have hj := nk (by decide) r2
    rw [get_set hj]
    exact ⟨r1, r2, fs, r3, fun f d' hf => by
      obtain ⟨v, s1, s2⟩ := r4 f d' hf
      exact ⟨v, s1, s2.ofZ sZ⟩⟩
  · obtain ⟨r1, r2, r3⟩ := E.lam f c q' q
    rw [get_set (nk (by decide) r2)]
    exact ⟨r1, r2, r3⟩
/-- what stays while an expression is evaluated -/
structure Sp (Γ : Gm) (F : Fm) (σ : L2.St) (H H' : Hp) : Prop where
  kp : Kp (zt Γ F σ) (zt Γ F σ) H H'
  ko : Kp (zs Γ F σ) (zs Γ F σ) H H'
  dom : ∀ a, H a ≠ none → H' a ≠ none
theorem Sp.refl : Sp Γ F σ H H := ⟨Kp.refl, Kp.refl, fun _ q => q⟩
theorem Sp.trans {H H1 H2 : Hp} (a : Sp Γ F σ H H1) (b : Sp Γ F σ H1 H2) : Sp Γ F σ H H2 := ⟨a.kp.trans b.kp, a.ko.trans b.ko, fun x q => b.dom x (a.dom x q)⟩
theorem Ex.sp {H H' : Hp} (x : Ex H H') : Sp Γ F σ H H' := ⟨x.kp, x.kp, fun a q => by
  cases qa : H a with
  | none => exact absurd qa q
  | some o => rw [x a o qa]; exact fun z => nomatch z⟩
theorem sp_of (k : ∀ a o, H a = some o → (∀ ps, o ≠ .tbl ps) → ¬ OsS Γ.ks σ a → H' a = some o) (d : ∀ a, H a ≠ none → H' a ≠ none) : Sp Γ F σ H H' :=
  ⟨fun a o h n z => ⟨k a o h n fun q => z (.inr q), z⟩, fun a o h n z => ⟨k a o h n fun q => z (.inl q), z⟩, d⟩
theorem upd_dom {H : Hp} {a : Addr} {o : HO} : ∀ b, H b ≠ none → upd H a o b ≠ none := fun b h => by
  unfold upd
  split
  · exact fun z => nomatch z
  · exact h
theorem sp_wr {H : Hp} {a : Addr} {o : HO} (az : OsS Γ.ks σ a) : Sp Γ F σ H (upd H a o) := sp_of (fun b u hb n z => by rw [upd_ne (fun q => z (by rw [q]; exact az))]; exact hb) upd_dom
/-- what others own, newer than the entry, is rewritten -/
theorem ER.wrO (E : ER Γ F H σ e) {p : Addr} {u w : HO} (hp : H p = some u) (n1 : ∀ ps, u ≠ .tbl ps) (n2 : ∀ q, u ≠ LamX.CodeO p q) (n3 : ∀ fs, u ≠ .xd fs) (m1 : ∀ xs, w ≠ .tup xs) (m2 : ∀ ps, w ≠ .tbl ps) (hz : F.Z p) (h0 : F.H0 p = none) : ER Γ F (upd H p w) σ e := by
  have pz : zt Γ F σ p := .inl hz
  have po : zo Γ F σ p := .inr h0
  have k : ∀ b, b ≠ p → upd H p w b = H b := fun b h => upd_ne h
  have kp : Kp (zt Γ F σ) (zt Γ F σ) H (upd H p w) := fun a o h n z => ⟨by rw [k a (fun q => z (by rw [q]; exact pz))]; exact h, z⟩
  have kO : Kp (zo Γ F σ) (zo Γ F σ) H (upd H p w) := fun a o h n z => ⟨by rw [k a (fun q => z (by rw [q]; exact po))]; exact h, z⟩
  refine ⟨E.le, E.lσ, fun i d h1 h2 => ?_, fun i d h1 h2 => ?_, E.frz, fun i v h1 h2 => ?_, E.ownE, E.par, E.inj, fun a o h1 h2 h3 => ?_, fun a h => upd_dom a (E.dom a h), fun a h => ?_, fun q hq => ?_, fun i a dx ds h => ?_, fun f c q h => ?_⟩
  · obtain ⟨v, q1, q2⟩ := E.shr i d h1 h2
    exact ⟨v, q1, Rep.mono kp d v q2⟩
  · obtain ⟨v, q1, q2⟩ := E.brw i d h1 h2
    exact ⟨v, q1, RepO.mono kO kp d v q2⟩
  · obtain ⟨a, d, q1, q2, q3, q4, q5, q6⟩ := E.own i v h1 h2
    have na : a ≠ p := fun z => q2 (by rw [z]; exact hz)
    exact ⟨a, d, q1, q2, q3, q4, q5, q6.mono (fun o q => by rw [k a na]; exact q) kp⟩
  · have na : a ≠ p := fun z => by rw [z, h0] at h1; cases h1
    rw [k a na]
    exact E.base a o h1 h2 h3
  · by_cases ha : a = p
    · rw [ha, upd_same]
      refine ⟨?_, ?_, ?_⟩
      · intro z; cases z
      · intro xs z; exact m1 xs (Option.some.inj z)
      · intro ps z; exact m2 ps (Option.some.inj z)
    · rw [k a ha]
      exact E.zh a h
  · obtain ⟨ps, t1, t2, t3⟩ := E.tabs q hq
    have n1 : q.1 ≠ p := fun z => by rw [z, hp] at t1; exact n1 ps (Option.some.inj t1)
    refine ⟨ps, by rw [k _ n1]; exact t1, t2, fun pos cv hc => ?_⟩
    obtain ⟨c, s1, s2⟩ := t3 pos cv hc
    refine ⟨c, s1, ?_⟩
    rw [k c fun z => ?_]
    · exact s2
    · rw [z, hp] at s2
      exact n2 _ (Option.some.inj s2)
  · obtain ⟨q1, q2, fs, q3, q4⟩ := E.exo i a dx ds h
    refine ⟨q1, q2, fs, by rw [k dx fun z => by rw [z, hp] at q3; exact n3 fs (Option.some.inj q3)]; exact q3, fun f d hf => ?_⟩
    obtain ⟨v, r1, r2⟩ := q4 f d hf
    exact ⟨v, r1, Rep.mono kp d v r2⟩
  · obtain ⟨q1, q2, q3⟩ := E.lam f c q h
    refine ⟨q1, q2, ?_⟩
    rw [k c fun z => ?_]
    · exact q3
    · rw [z, hp] at q3
      exact n2 _ (Option.some.inj q3)
/-- a list that others own, newer than the entry, is rewritten -/
theorem ER.wrZ (E : ER Γ F H σ e) {p : Addr} {xs ys : List V} (hp : H p = some (.lst xs)) (hz : F.Z p) (h0 : F.H0 p = none) : ER Γ F (upd H p (.lst ys)) σ e :=
  E.wrO hp (fun _ z => by cases z) (fun _ z => by unfold LamX.CodeO at z; cases z) (fun _ z => by cases z) (fun _ z => by cases z) (fun _ z => by cases z) hz h0
end
end PB
set_option maxHeartbeats 4000000
/-! If: readings of expressions through the interpreter. -/
namespace PB
open PySem PySem.Spec PyProof.Rows L2

def Wt {α : Type} (o : Option (R α)) (P : α → En → Prop) (X : Exn → En → Prop) : Prop := match o with
  | none => False
  | some (.ok a e) => P a e
  | some (.xc x e) => X x e
theorem Wt_bnd {α β : Type} {m : Option (R α)} {f : α → En → Option (R β)} {P : β → En → Prop} {X : Exn → En → Prop} (h : Wt (bnd m f) P X) : Wt m (fun a e => Wt (f a e) P X) X := by
  unfold bnd at h
  cases m with
  | none => exact h
  | some r => cases r with
    | ok a e => exact h
    | xc x e => exact h
theorem Wt_some {α : Type} {o : Option α} {g : α → R α} {P : α → En → Prop} {X : Exn → En → Prop} {e : En} (h : Wt (o.map (R.ok · e)) P X) : ∃ a, o = some a ∧ P a e := by
  cases o with
  | none => exact h.elim
  | some a => exact ⟨a, rfl, h⟩
theorem Wt_bind {α β : Type} {o : Option β} {g : β → Option (R α)} {P : α → En → Prop} {X : Exn → En → Prop} (h : Wt (o.bind g) P X) : ∃ a, o = some a ∧ Wt (g a) P X := by
  cases o with
  | none => exact h.elim
  | some a => exact ⟨a, rfl, h⟩
theorem Wt_ite {α : Type} {c : Prop} [Decidable c] {a : Option (R α)} {P : α → En → Prop} {X : Exn → En → Prop} (h : Wt (if c then a else none) P X) : c ∧ Wt a P X := by
  split at h
  · exact ⟨by assumption, h⟩
  · exact h.elim
theorem Wt_ite' {α : Type} {c : Prop} [Decidable c] {a : Option (R α)} {P : α → En → Prop} {X : Exn → En → Prop} (h : Wt (if c then none else a) P X) : ¬ c ∧ Wt a P X := by
  split at h
  · exact h.elim
  · exact ⟨by assumption, h⟩

/-- what an exception is -/
def XR (Γ : Gm) (F : Fm) (σ : L2.St) (H : Hp) (x : Exn) (cls : Value) (od : Option Addr) : Prop :=
  ∃ C, Γ.cA x.cls = some C ∧ cls = .ref C ∧ ∃ dx fs, od = some dx ∧ H dx = some (.xd fs) ∧ ∀ f d, x.flds.lookup f = some d → ∃ v, fs.lookup f = some v ∧ Rep (zt Γ F σ) H d v
/-- a new object of one's own -/
def FrE (Γ : Gm) (F : Fm) (Hs H : Hp) (σ : L2.St) (e : En) (d : D) (v : V) : Prop := isHp d = true → ∃ p, v = .ref p ∧ Hs p = none ∧ F.H0 p = none ∧ ¬ zt Γ F σ p ∧ ER Γ (F.add p) H σ e ∧ Own (addZ (zt Γ F σ) p) H p d
/-- an operand's value -/
def VR0 (Γ : Gm) (F : Fm) (H : Hp) (σ : L2.St) (c : C) (d : D) (v : V) : Prop := match c with
  | .loc i => σ[i]? = some (some v)
  | .scr i => σ[i]? = some (some v)
  | _ => Rep (zt Γ F σ) H d v
/-- code whose value is new wherever it is a list or a dict -/
def frC (fq : Nat → Bool) : C → Bool
  | .lst _ => true
  | .dnew _ => true
  | .disp _ _ => true
  | .lc .. => true
  | .lc2 .. => true
  | .call f _ => fq f
  | .blt .. => true
  | .slc .. => true
  | .op .. => true
  | .scrList _ => true
  | .lrng _ _ => true
  | .scrCut .. => true
  | .mmd .. => true
  | .ite _ a b => frC fq a && frC fq b
  | .cst _ => true
  | _ => false
def VR (Γ : Gm) (fq : Nat → Bool) (F : Fm) (Hs H : Hp) (σ : L2.St) (e : En) (c : C) (d : D) (v : V) : Prop := VR0 Γ F H σ c d v ∧ (frC fq c = true → FrE Γ F Hs H σ e d v)
def XF (Γ : Gm) (XW : WX) (F : Fm) (σ : L2.St) (H : Hp) : Exn → En → Prop := fun x e' => ∀ cls od H', Sp Γ F σ H H' → ER Γ F H' σ e' → XR Γ F σ H' x cls od → XW cls od σ H'
def PF (Γ : Gm) (fq : Nat → Bool) (F : Fm) (σ : L2.St) (H : Hp) (c : C) (Q : VK) : D → En → Prop := fun d e' => ∀ v H', Sp Γ F σ H H' → ER Γ F H' σ e' → VR Γ fq F H H' σ e' c d v → Q v H'
def rdE (Γ : Gm) (fq : Nat → Bool) (XW : WX) (G : Gx) (c : C) : TE := fun σ H Q => ∃ F e, ER Γ F H σ e ∧ Wt (ev c G e) (PF Γ fq F σ H c Q) (XF Γ XW F σ H)
/-- a test -/
def PT0 (Γ : Gm) (F : Fm) (σ : L2.St) (H : Hp) (c : C) (Q : Bool → Hp → Prop) : D → En → Prop := fun d e' => ∃ t, finT c d e' = some t ∧ ∀ H', Sp Γ F σ H H' → ER Γ F H' σ e' → Q t H'
def rdT (Γ : Gm) (XW : WX) (G : Gx) (c : C) : TT := fun σ H Q => ∃ F e, ER Γ F H σ e ∧ Wt (ev c G e) (PT0 Γ F σ H c Q) (XF Γ XW F σ H)
/-- lists of operands -/
def VRs (Γ : Gm) (F : Fm) (H : Hp) (σ : L2.St) : C → List D → List V → Prop
  | .nil, [], vs => vs = []
  | .cons a b, d :: l, vs => ∃ v r, vs = v :: r ∧ VR0 Γ F H σ a d v ∧ VRs Γ F H σ b l r
  | _, _, _ => False
def PA0 (Γ : Gm) (F : Fm) (σ : L2.St) (H : Hp) (c : C) (Q : List V → Hp → Prop) : D → En → Prop := fun d e' => ∃ l, d = .lst l ∧ ∀ vs H', Sp Γ F σ H H' → ER Γ F H' σ e' → VRs Γ F H' σ c l vs → Q vs H'
def rdA (Γ : Gm) (XW : WX) (G : Gx) (c : C) : TA := fun σ H Q => ∃ F e, ER Γ F H σ e ∧ Wt (ev c G e) (PA0 Γ F σ H c Q) (XF Γ XW F σ H)

theorem PEimp {X : Cx} {ex : Expr} {t t' : TE} (h : PE X ex t) (i : ∀ σ H Q, t' σ H Q → t σ H Q) : PE X ex t' := ⟨fun pins s σ H Q I q => h.run pins s σ H Q I (i σ H Q q)⟩
theorem PTimp {X : Cx} {ex : Expr} {t t' : TT} (h : PT X ex t) (i : ∀ σ H Q, t' σ H Q → t σ H Q) : PT X ex t' := ⟨fun pins s σ H Q I q => h.run pins s σ H Q I (i σ H Q q)⟩
theorem PWimp {X : Cx} {ex : Expr} {t t' : TT} (h : PW X ex t) (i : ∀ σ H Q, t' σ H Q → t σ H Q) : PW X ex t' := ⟨fun wh pins s σ H Q I q => h.run wh pins s σ H Q I (i σ H Q q)⟩
theorem PAimp {X : Cx} {ex : List Expr} {t t' : TA} (h : PA X ex t) (i : ∀ σ H Q, t' σ H Q → t σ H Q) : PA X ex t' := ⟨fun p pins s σ H Q I q => h.run p pins s σ H Q I (i σ H Q q)⟩

section
variable {Γ : Gm} {fq : Nat → Bool} {XW : WX} {G : Gx} {F : Fm} {σ : L2.St} {H H1 : Hp} {e : En} {c : C} {Q : VK}
theorem XF.mono {x : Exn} {e' : En} (h : XF Γ XW F σ H x e') (k : Sp Γ F σ H H1) : XF Γ XW F σ H1 x e' := fun cls od H' k' => h cls od H' (k.trans k')
theorem FrE.back {d : D} {v : V} {H' : Hp} (h : FrE Γ F H1 H' σ e d v) (k : Sp Γ F σ H H1) : FrE Γ F H H' σ e d v := fun q => by
  obtain ⟨p, h1, h2, h3⟩ := h q
  refine ⟨p, h1, ?_, h3⟩
  cases qa : H p with
  | none => rfl
  | some o => exact absurd h2 (k.dom p (by rw [qa]; exact fun z => nomatch z))
theorem Wt.imp {α : Type} {o : Option (R α)} {P P' : α → En → Prop} {X X' : Exn → En → Prop} (h : Wt o P X) (i : ∀ a e, P a e → P' a e) (j : ∀ x e, X x e → X' x e) : Wt o P' X' := by
  cases o with
  | none => exact h
  | some r => cases r with
    | ok a e => exact i a e h
    | xc x e => exact j x e h
theorem Wt.ifs {α : Type} {o o' : Option (R α)} {P : α → En → Prop} {X : Exn → En → Prop} (h : Wt o P X) (q : o = o') : Wt o' P X := q ▸ h
/-- one expression, and then -/
theorem rd_step {P : D → En → Prop} (E : ER Γ F H σ e) (w : Wt (ev c G e) P (XF Γ XW F σ H)) (hP : ∀ d e1 v H1, P d e1 → Sp Γ F σ H H1 → ER Γ F H1 σ e1 → VR Γ fq F H H1 σ e1 c d v → Q v H1) : rdE Γ fq XW G c σ H Q :=
  ⟨F, e, E, w.imp (fun d e1 p v H1 k E1 r => hP d e1 v H1 p k E1 r) fun _ _ q => q⟩
theorem rd_stepT {P : D → En → Prop} {Q : Bool → Hp → Prop} (E : ER Γ F H σ e) (w : Wt (ev c G e) P (XF Γ XW F σ H)) (hP : ∀ d e1, P d e1 → ∃ t, finT c d e1 = some t ∧ ∀ H1, Sp Γ F σ H H1 → ER Γ F H1 σ e1 → Q t H1) : rdT Γ XW G c σ H Q :=
  ⟨F, e, E, w.imp (fun d e1 p => hP d e1 p) fun _ _ q => q⟩
theorem rd_stepA {P : D → En → Prop} {Q : List V → Hp → Prop} (E : ER Γ F H σ e) (w : Wt (ev c G e) P (XF Γ XW F σ H)) (hP : ∀ d e1, P d e1 → ∃ l, d = .lst l ∧ ∀ vs H1, Sp Γ F σ H H1 → ER Γ F H1 σ e1 → VRs Γ F H1 σ c l vs → Q vs H1) : rdA Γ XW G c σ H Q :=
  ⟨F, e, E, w.imp (fun d e1 p => hP d e1 p) fun _ _ q => q⟩
/-- operands later -/
theorem VR0.mono {d : D} {v : V} (h : VR0 Γ F H σ c d v) (k : Sp Γ F σ H H1) : VR0 Γ F H1 σ c d v := by
  cases c <;> first | exact h | exact Rep.mono k.kp _ _ h
theorem VRs.mono (k : Sp Γ F σ H H1) : ∀ {c : C} {l : List D} {vs : List V}, VRs Γ F H σ c l vs → VRs Γ F H1 σ c l vs := by
  intro c
  induction c with
  | nil => intro l vs h; cases l with
    | nil => exact h
    | cons d l => exact h.elim
  | cons a b iha ihb => intro l vs h; cases l with
    | nil => exact h.elim
    | cons d l =>
      obtain ⟨v, r, q, h1, h2⟩ := h
      exact ⟨v, r, q, h1.mono k, ihb h2⟩
  | _ => intro l vs h; exact h.elim
/-- an operand is well placed -/
def lcOk (ks : List Kd) : C → Bool
  | .loc i => decide (ks[i]? = some Kd.own) || decide (ks[i]? = some Kd.brw)
  | _ => true
theorem ER.own' (E : ER Γ F H σ e) {i : Nat} {v : V} {d : D} (h1 : Γ.ks[i]? = some Kd.own) (h2 : σ[i]? = some (some v)) (h3 : e[i]? = some (some d)) : ∃ a, v = .ref a ∧ Own (zt Γ F σ) H a d := by
  obtain ⟨a, d', r1, _, _, _, r5, r6⟩ := E.own i v h1 h2
  rw [h3] at r5
  cases r5
  exact ⟨a, r1, r6⟩
theorem rdS_some {i : Nat} {d : D} (h : rdS e i = some d) : e[i]? = some (some d) := by
  unfold rdS at h
  cases q : e[i]? with
  | none => rw [q] at h; cases h
  | some o => rw [q] at h; cases o with
    | none => cases h
    | some d' => cases h; rfl
theorem rdS_of {i : Nat} {d : D} (h : e[i]? = some (some d)) : rdS e i = some d := by
  unfold rdS
  rw [h]
  rfl
theorem VR0.fin (E : ER Γ F H σ e) (hl : lcOk Γ.ks c = true) {d x : D} {v : V} (h : VR0 Γ F H σ c d v) (f : fin c d e = some x) : RepB (zt Γ F σ) H x v := by
  cases c with
  | loc i =>
    have f' : e[i]? = some (some x) := rdS_some f
    simp only [lcOk, Bool.or_eq_true, decide_eq_true_eq] at hl
    rcases hl with hl | hl
    · obtain ⟨a, q1, q2⟩ := E.own' hl h f'
      subst q1
      exact q2.toB
    · obtain ⟨w, q1, q2⟩ := E.brw i x hl f'
      have h' : σ[i]? = some (some v) := h
      rw [h'] at q1
      cases q1
      exact q2.toB
  | scr i => cases f
  | _ => cases f; exact Rep.toB _ _ h
theorem VR0.rep {d : D} {v : V} (hl : isLoc c = false) (h : VR0 Γ F H σ c d v) : Rep (zt Γ F σ) H d v := by
  cases c <;> first | exact h | cases hl
theorem Ex.kp' {Z : AS} {H H' : Hp} (x : Ex H H') : Kp Z Z H H' := x.kp
/-- an operation's outcome -/
theorem res_of {z : D} (E : ER Γ F H σ e) (h : ∀ v H', Sp Γ F σ H H' → ER Γ F H' σ e → Rep (zt Γ F σ) H' z v → FrE Γ F H H' σ e z v → Q v H') : Res (zt Γ F σ) H true z Q := by
  intro v H' x r f
  refine h v H' x.sp (E.ext x) r fun hz => ?_
  obtain ⟨p, e1, hp, o⟩ := f rfl hz
  refine ⟨p, e1, hp, E.h0 hp, fun z => (E.ztH p z).1 hp, E.extZ (Z' := addZ F.Z p) x fun a q => ?_, o⟩
  rcases q with q | q
  · exact .inl q
  · subst q
    exact .inr ⟨hp, o.there, o.notTup, o.notTbl⟩
theorem resOld_of {z : D} (E : ER Γ F H σ e) (h : ∀ v H', Sp Γ F σ H H' → ER Γ F H' σ e → Rep (zt Γ F σ) H' z v → Q v H') : Res (zt Γ F σ) H false z Q := by
  intro v H' x r f
  exact h v H' x.sp (E.ext x) r
end

/-! ### the rules -/
section
variable {X : Cx} {Γ : Gm} {fq : Nat → Bool} {XW : WX} {G : Gx} {a b : C} {ea eb : Expr} {pos : Pos}
theorem flat_fr {F : Fm} {Hs H : Hp} {σ : L2.St} {e : En} {d : D} {v : V} (h : isHp d = false) : FrE Γ F Hs H σ e d v := fun q => by rw [h] at q; cases q
/-- a slot is read -/
theorem E_var (hks : G.ks = Γ.ks) {i : Nat} {x : Str} (h : PE X (.Name x pos) (tVar i)) : PE X (.Name x pos) (rdE Γ fq XW G (.var i)) := PEimp h fun σ H Q q => by
  obtain ⟨F, e, E, w⟩ := q
  simp only [ev, hks] at w
  obtain ⟨h1, w⟩ := Wt_ite w
  cases q : rdS e i with
  | none => rw [q] at w; exact w.elim
  | some d =>
    rw [q] at w
    obtain ⟨v, r1, r2⟩ := E.shr i d h1 (rdS_some q)
    exact ⟨v, r1, w v H Sp.refl E ⟨r2, fun z => by cases z⟩⟩
theorem E_loc (hks : G.ks = Γ.ks) {i : Nat} {x : Str} (h : PE X (.Name x pos) (tVar i)) : PE X (.Name x pos) (rdE Γ fq XW G (.loc i)) := PEimp h fun σ H Q q => by
  obtain ⟨F, e, E, w⟩ := q
  simp only [ev, hks] at w
  obtain ⟨h1, w⟩ := Wt_ite w
  cases q : rdS e i with
  | none => rw [q] at w; exact w.elim
  | some d =>
    rw [q] at w
    have : ∃ v, σ[i]? = some (some v) := by
      rcases h1 with h1 | h1
      · exact E.ownE i d h1 (rdS_some q)
      · obtain ⟨v, r1, _⟩ := E.brw i d h1 (rdS_some q)
        exact ⟨v, r1⟩
    obtain ⟨v, r1⟩ := this
    exact ⟨v, r1, w v H Sp.refl E ⟨r1, fun z => by cases z⟩⟩
theorem E_scr (hks : G.ks = Γ.ks) {i : Nat} {x : Str} (h : PE X (.Name x pos) (tVar i)) : PE X (.Name x pos) (rdE Γ fq XW G (.scr i)) := PEimp h fun σ H Q q => by
  obtain ⟨F, e, E, w⟩ := q
  simp only [ev, hks] at w
  obtain ⟨h1, w⟩ := Wt_ite w
  cases q : rdS e i with
  | none => rw [q] at w; exact w.elim
  | some d =>
    rw [q] at w
    obtain ⟨ad, l, r1, _⟩ := E.frz i d h1 (rdS_some q)
    exact ⟨_, r1, w _ H Sp.refl E ⟨r1, fun z => by cases z⟩⟩
/-- constants -/
def cstV : D → Option V
  | .non => some .non
  | .bl b => some (.bl b)
  | .int i => some (.int i)
  | .str x => some (.str x)
  | _ => none
theorem E_cst {d : D} {v : V} (hv : cstV d = some v) {ex : Expr} (h : PE X ex (tC v)) : PE X ex (rdE Γ fq XW G (.cst d)) := PEimp h fun σ H Q q => by
  obtain ⟨F, e, E, w⟩ := q
  have hr : Rep (zt Γ F σ) H d v := by cases d <;> cases hv <;> rfl
  have hf : isHp d = false := by cases d <;> first | rfl | cases hv
  have hc : isCst d = true := by cases d <;> first | rfl | cases hv
  simp only [ev, hc, if_true] at w
  exact w v H Sp.refl E ⟨hr, fun _ => flat_fr hf⟩
/-- two operands -/
theorem E_op {o : O2} {f : Value → Value → Sem Value} {ex : Expr} (la : lcOk Γ.ks a = true) (lb : lcOk Γ.ks b = true) (h : PE X ex (tOp (rO o) (rdE Γ fq XW G a) (rdE Γ fq XW G b))) :
    PE X ex (rdE Γ fq XW G (.op o a b)) := PEimp h fun σ H Q q => by
  obtain ⟨F, e, E, w⟩ := q
  simp only [ev] at w
  refine rd_step E (Wt_bnd w) fun d1 e1 v H1 w1 k1 E1 r1 => ?_
  refine rd_step E1 ((Wt_bnd w1).imp (fun _ _ q => q) fun x e' q => XF.mono q k1) fun d2 e2 v2 H2 w2 k2 E2 r2 => ?_
  obtain ⟨x, f1, w2⟩ := Wt_bind w2
  obtain ⟨y, f2, w2⟩ := Wt_bind w2
  cases q : op2 o x y with
  | none => rw [q] at w2; exact w2.elim
  | some z =>
    rw [q] at w2
    refine ⟨zt Γ F σ, x, y, z, true, E2.ztH, (r1.1.mono k2).fin E2 la f1, r2.1.fin E2 lb f2, q, res_of E2 fun v H' k E' r fr => ?_⟩
    exact w2 v H' ((k1.trans k2).trans k) E' ⟨r, fun _ => fr.back (k1.trans k2)⟩
end
end PB
set_option maxHeartbeats 4000000
/-! Ig: readings of expressions, more. -/
namespace PB
open PySem PySem.Spec PyProof.Rows L2
section
variable {X : Cx} {Γ : Gm} {fq : Nat → Bool} {XW : WX} {G : Gx} {a b c : C} {ea eb ec ex : Expr} {pos : Pos}
theorem E_neg (la : isLoc a = false) (h : PE X ex (tUn (rU fun i => .int (-i)) (rdE Γ fq XW G a))) : PE X ex (rdE Γ fq XW G (.neg a)) := PEimp h fun σ H Q q => by
  obtain ⟨F, e, E, w⟩ := q
  simp only [ev] at w
  refine rd_step E (Wt_bnd w) fun d e1 v H1 w1 k1 E1 r1 => ?_
  cases d with
  | int i =>
    have hv : v = .int i := r1.1.rep la
    exact ⟨i, hv, w1 _ H1 k1 E1 ⟨rfl, fun _ => flat_fr rfl⟩⟩
  | _ => exact w1.elim
/-- a truth, of a value -/
theorem tru_fin {F : Fm} {H : Hp} {σ : L2.St} {e : En} (E : ER Γ F H σ e) (la : lcOk Γ.ks a = true) {d : D} {v : V} (r : VR0 Γ F H σ a d v) {t : Bool} (h : finT a d e = some t) : TruV X.K v H t := by
  unfold finT at h
  obtain ⟨x, h1, h2⟩ := Option.bind_eq_some_iff.mp h
  exact truth_of X.K (r.fin E la h1) h2
theorem T_val (la : lcOk Γ.ks a = true) (h : PT X ex (fun σ H Q => rdE Γ fq XW G a σ H fun x H' => ∃ k, TruV X.K x H' k ∧ Q k H')) : PT X ex (rdT Γ XW G a) := PTimp h fun σ H Q q => by
  obtain ⟨F, e, E, w⟩ := q
  refine rd_step E w fun d e1 v H1 w1 k1 E1 r1 => ?_
  obtain ⟨t, h1, h2⟩ := w1
  exact ⟨t, tru_fin E1 la r1.1 h1, h2 H1 k1 E1⟩
theorem bl_of {F : Fm} {H : Hp} {σ : L2.St} {t : Bool} : Rep (zt Γ F σ) H (.bl t) (.bl t) := rfl
theorem E_not (la : lcOk Γ.ks a = true) (h : PE X ex (tNotT X.K (rdE Γ fq XW G a))) : PE X ex (rdE Γ fq XW G (.not a)) := PEimp h fun σ H Q q => by
  obtain ⟨F, e, E, w⟩ := q
  simp only [ev] at w
  refine rd_step E (Wt_bnd w) fun d e1 v H1 w1 k1 E1 r1 => ?_
  cases q : finT a d e1 with
  | none => rw [q] at w1; exact w1.elim
  | some t =>
    rw [q] at w1
    exact ⟨t, tru_fin E1 la r1.1 q, w1 _ H1 k1 E1 ⟨rfl, fun _ => flat_fr rfl⟩⟩
theorem finT_of (la : isLoc a = false) {d : D} {e : En} : finT a d e = truthO d := by
  cases a <;> first | rfl | cases la
theorem T_not (h : PT X ex (tNot (rdT Γ XW G a))) : PT X ex (rdT Γ XW G (.not a)) := PTimp h fun σ H Q q => by
  obtain ⟨F, e, E, w⟩ := q
  simp only [ev] at w
  refine rd_stepT E (Wt_bnd w) fun d e1 w1 => ?_
  cases q : finT a d e1 with
  | none => rw [q] at w1; exact w1.elim
  | some t =>
    rw [q] at w1
    obtain ⟨t', h1, h2⟩ := w1
    cases h1
    exact ⟨t, rfl, h2⟩
theorem loc2 {x y : Bool} (h : ¬ (x || y) = true) : x = false ∧ y = false := by cases x <;> cases y <;> simp_all
theorem E_and (h : PE X ex (tAndT X.K (rdE Γ fq XW G a) (rdE Γ fq XW G b))) : PE X ex (rdE Γ fq XW G (.and a b)) := PEimp h fun σ H Q q => by
  obtain ⟨F, e, E, w⟩ := q
  simp only [ev] at w
  refine rd_step E (Wt_bnd w) fun d e1 v H1 w1 k1 E1 r1 => ?_
  obtain ⟨t, ht, w1⟩ := Wt_bind w1
  obtain ⟨hl, w1⟩ := Wt_ite' w1
  obtain ⟨la, lb⟩ := loc2 hl
  have r : Rep (zt Γ F σ) H1 d v := r1.1.rep la
  refine ⟨t, truth_of X.K (Rep.toB _ _ r) ht, ?_⟩
  cases t with
  | true =>
    refine rd_step E1 (w1.imp (fun _ _ q => q) fun x e' q => XF.mono q k1) fun d2 e2 v2 H2 w2 k2 E2 r2 => ?_
    exact w2 v2 H2 (k1.trans k2) E2 ⟨r2.1.rep lb, fun z => by cases z⟩
  | false => exact w1 v H1 k1 E1 ⟨r, fun z => by cases z⟩
theorem E_or (h : PE X ex (tOrT X.K (rdE Γ fq XW G a) (rdE Γ fq XW G b))) : PE X ex (rdE Γ fq XW G (.or a b)) := PEimp h fun σ H Q q => by
  obtain ⟨F, e, E, w⟩ := q
  simp only [ev] at w
  refine rd_step E (Wt_bnd w) fun d e1 v H1 w1 k1 E1 r1 => ?_
  obtain ⟨t, ht, w1⟩ := Wt_bind w1
  obtain ⟨hl, w1⟩ := Wt_ite' w1
  obtain ⟨la, lb⟩ := loc2 hl
  have r : Rep (zt Γ F σ) H1 d v := r1.1.rep la
  refine ⟨t, truth_of X.K (Rep.toB _ _ r) ht, ?_⟩
  cases t with
  | false =>
    refine rd_step E1 (w1.imp (fun _ _ q => q) fun x e' q => XF.mono q k1) fun d2 e2 v2 H2 w2 k2 E2 r2 => ?_
    exact w2 v2 H2 (k1.trans k2) E2 ⟨r2.1.rep lb, fun z => by cases z⟩
  | true => exact w1 v H1 k1 E1 ⟨r, fun z => by cases z⟩
theorem T_and (h : PW X ex (tAnd (rdT Γ XW G a) (rdT Γ XW G b))) : PW X ex (rdT Γ XW G (.and a b)) := PWimp h fun σ H Q q => by
  obtain ⟨F, e, E, w⟩ := q
  simp only [ev] at w
  refine rd_stepT E (Wt_bnd w) fun d e1 w1 => ?_
  obtain ⟨t, ht, w1⟩ := Wt_bind w1
  obtain ⟨hl, w1⟩ := Wt_ite' w1
  obtain ⟨la, lb⟩ := loc2 hl
  refine ⟨t, by rw [finT_of la]; exact ht, fun H1 k1 E1 => ?_⟩
  cases t with
  | true =>
    refine rd_stepT E1 (w1.imp (fun _ _ q => q) fun x e' q => XF.mono q k1) fun d2 e2 w2 => ?_
    obtain ⟨t2, h1, h2⟩ := w2
    rw [finT_of rfl] at h1
    exact ⟨t2, by rw [finT_of lb]; exact h1, fun H2 k2 E2 => h2 H2 (k1.trans k2) E2⟩
  | false =>
    obtain ⟨t2, h1, h2⟩ := w1
    rw [finT_of rfl, ht] at h1
    cases h1
    exact h2 H1 k1 E1
theorem T_or (h : PW X ex (tOr (rdT Γ XW G a) (rdT Γ XW G b))) : PW X ex (rdT Γ XW G (.or a b)) := PWimp h fun σ H Q q => by
  obtain ⟨F, e, E, w⟩ := q
  simp only [ev] at w
  refine rd_stepT E (Wt_bnd w) fun d e1 w1 => ?_
  obtain ⟨t, ht, w1⟩ := Wt_bind w1
  obtain ⟨hl, w1⟩ := Wt_ite' w1
  obtain ⟨la, lb⟩ := loc2 hl
  refine ⟨t, by rw [finT_of la]; exact ht, fun H1 k1 E1 => ?_⟩
  cases t with
  | false =>
    refine rd_stepT E1 (w1.imp (fun _ _ q => q) fun x e' q => XF.mono q k1) fun d2 e2 w2 => ?_
    obtain ⟨t2, h1, h2⟩ := w2
    rw [finT_of rfl] at h1
    exact ⟨t2, by rw [finT_of lb]; exact h1, fun H2 k2 E2 => h2 H2 (k1.trans k2) E2⟩
  | true =>
    obtain ⟨t2, h1, h2⟩ := w1
    rw [finT_of rfl, ht] at h1
    cases h1
    exact h2 H1 k1 E1
theorem and_split {x y : Bool} (h : (x && y) = true) : x = true ∧ y = true := by simpa using h
theorem E_ite (h : PE X ex (tIf (rdT Γ XW G c) (rdE Γ fq XW G a) (rdE Γ fq XW G b))) : PE X ex (rdE Γ fq XW G (.ite c a b)) := PEimp h fun σ H Q q => by
  obtain ⟨F, e, E, w⟩ := q
  simp only [ev] at w
  refine rd_stepT E (Wt_bnd w) fun d e1 w1 => ?_
  obtain ⟨t, ht, w1⟩ := Wt_bind w1
  obtain ⟨hl, w1⟩ := Wt_ite' w1
  obtain ⟨la, lb⟩ := loc2 hl
  refine ⟨t, ht, fun H1 k1 E1 => ?_⟩
  cases t with
  | true =>
    refine rd_step E1 (w1.imp (fun _ _ q => q) fun x e' q => XF.mono q k1) fun d2 e2 v2 H2 w2 k2 E2 r2 => ?_
    exact w2 v2 H2 (k1.trans k2) E2 ⟨r2.1.rep la, fun z => (r2.2 (and_split z).1).back k1⟩
  | false =>
    refine rd_step E1 (w1.imp (fun _ _ q => q) fun x e' q => XF.mono q k1) fun d2 e2 v2 H2 w2 k2 E2 r2 => ?_
    exact w2 v2 H2 (k1.trans k2) E2 ⟨r2.1.rep lb, fun z => (r2.2 (and_split z).2).back k1⟩
theorem E_idx (la : lcOk Γ.ks a = true) (h : PE X ex (tOp rIxD (rdE Γ fq XW G a) (rdE Γ fq XW G b))) : PE X ex (rdE Γ fq XW G (.idx a b)) := PEimp h fun σ H Q q => by
  obtain ⟨F, e, E, w⟩ := q
  simp only [ev] at w
  refine rd_step E (Wt_bnd w) fun d1 e1 v H1 w1 k1 E1 r1 => ?_
  refine rd_step E1 ((Wt_bnd w1).imp (fun _ _ q => q) fun x e' q => XF.mono q k1) fun d2 e2 v2 H2 w2 k2 E2 r2 => ?_
  obtain ⟨x, f1, w2⟩ := Wt_bind w2
  obtain ⟨hl, w2⟩ := Wt_ite' w2
  have lb : isLoc b = false := by simpa using hl
  cases q : idxD x d2 with
  | none => rw [q] at w2; exact w2.elim
  | some z =>
    rw [q] at w2
    exact ⟨zt Γ F σ, x, d2, z, E2.ztH, (r1.1.mono k2).fin E2 la f1, r2.1.rep lb, q, resOld_of E2 fun v' H' k E' r => w2 v' H' ((k1.trans k2).trans k) E' ⟨r, fun z => by cases z⟩⟩
/-- a slice's parts -/
def rdP (Γ : Gm) (XW : WX) (G : Gx) (c : C) : TO := fun σ H Q => ∃ F e, ER Γ F H σ e ∧ Wt (ev c G e) (fun d e' => ∃ o, partOf c d = some o ∧ ∀ H', Sp Γ F σ H H' → ER Γ F H' σ e' → Q o H') (XF Γ XW F σ H)
theorem PO_none : PO X none (rdP Γ XW G .noPart) := ⟨fun pins s σ H Q I q => (po_none (X := X)).run pins s σ H Q I (by
  obtain ⟨F, e, E, w⟩ := q
  obtain ⟨o, h1, h2⟩ := w
  cases h1
  exact h2 H Sp.refl E)⟩
theorem PO_some (hn : c ≠ .noPart) (lc : isLoc c = false) (h : PE X ex (rdE Γ fq XW G c)) : PO X (some ex) (rdP Γ XW G c) := ⟨fun pins s σ H Q I q => (po_some h).run pins s σ H Q I (by
  obtain ⟨F, e, E, w⟩ := q
  refine rd_step E w fun d e1 v H1 w1 k1 E1 r1 => ?_
  obtain ⟨o, h1, h2⟩ := w1
  have r : Rep (zt Γ F σ) H1 d v := r1.1.rep lc
  have : ∃ i, d = .int i ∧ o = some i := by
    unfold partOf at h1
    split at h1
    · rename_i hc _
      exact absurd rfl hn
    · cases h1; exact ⟨_, rfl, rfl⟩
    · cases h1
  obtain ⟨i, rfl, rfl⟩ := this
  exact ⟨i, r, h2 H1 k1 E1⟩)⟩
theorem E_slc (la : lcOk Γ.ks a = true) (h : PE X ex (tSl rSlD (rdE Γ fq XW G a) (rdP Γ XW G b) (rdP Γ XW G c))) : PE X ex (rdE Γ fq XW G (.slc a b c)) := PEimp h fun σ H Q q => by
  obtain ⟨F, e, E, w⟩ := q
  simp only [ev] at w
  refine rd_step E (Wt_bnd w) fun d1 e1 v H1 w1 k1 E1 r1 => ?_
  refine ⟨F, e1, E1, (Wt_bnd w1).imp (fun d2 e2 w2 => ?_) fun x e' q => XF.mono q k1⟩
  obtain ⟨o2, hp2, w3⟩ := Wt_bind w2
  refine ⟨o2, hp2, fun H2 k2 E2 => ?_⟩
  refine ⟨F, e2, E2, (Wt_bnd w3).imp (fun d3 e3 w4 => ?_) fun x e' q => XF.mono q (k1.trans k2)⟩
  obtain ⟨h, f3, w4⟩ := Wt_bind w4
  obtain ⟨x, f1, w4⟩ := Wt_bind w4
  refine ⟨h, f3, fun H3 k3 E3 => ?_⟩
  cases q : slcD x o2 h with
  | none => rw [q] at w4; exact w4.elim
  | some z =>
    rw [q] at w4
    exact ⟨zt Γ F σ, x, z, true, E3.ztH, (r1.1.mono (k2.trans k3)).fin E3 la f1, q, res_of E3 fun v' H' k E' r fr => w4 v' H' (((k1.trans k2).trans k3).trans k) E' ⟨r, fun _ => fr.back ((k1.trans k2).trans k3)⟩⟩
/-! lists of operands -/
theorem A_nil {es : List Expr} (h : PA X es tNil) : PA X es (rdA Γ XW G .nil) := PAimp h fun σ H Q q => by
  obtain ⟨F, e, E, w⟩ := q
  simp only [ev] at w
  obtain ⟨l, h1, h2⟩ := w
  cases h1
  exact h2 [] H Sp.refl E rfl
theorem A_cons {es : List Expr} (h : PA X es (tCons (rdE Γ fq XW G a) (rdA Γ XW G b))) : PA X es (rdA Γ XW G (.cons a b)) := PAimp h fun σ H Q q => by
  obtain ⟨F, e, E, w⟩ := q
  simp only [ev] at w
  refine rd_step E (Wt_bnd w) fun d1 e1 v H1 w1 k1 E1 r1 => ?_
  refine ⟨F, e1, E1, (Wt_bnd w1).imp (fun d2 e2 w2 => ?_) fun x e' q => XF.mono q k1⟩
  cases d2 with
  | lst l =>
    obtain ⟨l', h1, h2⟩ := w2
    cases h1
    exact ⟨l, rfl, fun vs H2 k2 E2 rs => h2 (v :: vs) H2 (k1.trans k2) E2 ⟨v, vs, rfl, r1.1.mono k2, rs⟩⟩
  | _ => exact w2.elim
theorem VRs.repL {F : Fm} {H : Hp} {σ : L2.St} : ∀ {a : C} {l : List D} {vs : List V}, noLocs a = true → VRs Γ F H σ a l vs → RepL (zt Γ F σ) H l vs := by
  intro a
  induction a with
  | nil => intro l vs _ h; cases l with
    | nil => exact h
    | cons d l => exact h.elim
  | cons a b iha ihb => intro l vs hn h; cases l with
    | nil => exact h.elim
    | cons d l =>
      obtain ⟨v, r, q, h1, h2⟩ := h
      simp only [noLocs, Bool.and_eq_true, Bool.not_eq_true'] at hn
      exact ⟨v, r, q, h1.rep hn.1, ihb hn.2 h2⟩
  | _ => intro l vs _ h; exact h.elim
theorem E_tup {es : List Expr} (ln : ∀ l e e', ev a G e = some (.ok (.lst l) e') → l.length ≤ sizeLine) (h : PE X ex (tTup (rdA Γ XW G a))) : PE X ex (rdE Γ fq XW G (.tup a)) := PEimp h fun σ H Q q => by
  obtain ⟨F, e, E, w⟩ := q
  simp only [ev] at w
  have ln' := ln
  refine ⟨F, e, E, ?_⟩
  have w1 := Wt_bnd w
  revert w1
  cases qe : ev a G e with
  | none => exact fun z => z.elim
  | some r => cases r with
    | xc x e1 => exact fun z => z
    | ok d1 e1 =>
      intro w1
      cases d1 with
      | lst l =>
        obtain ⟨hn, w1⟩ := Wt_ite w1
        refine ⟨l, rfl, fun vs H1 k1 E1 rs => ?_⟩
        have rl := VRs.repL hn rs
        refine ⟨by rw [RepL.length _ _ rl]; exact ln l e e1 qe, fun p hp => ?_⟩
        exact Res.tup (res_of (e := e1) E1 fun v' H' k E' r fr => w1 v' H' (k1.trans k) E' ⟨r, fun _ => fr.back k1⟩) E1.ztH rl hp
      | _ => exact w1.elim
theorem E_lst {es : List Expr} (ln : ∀ l e e', ev a G e = some (.ok (.lst l) e') → l.length ≤ sizeLine) (h : PE X ex (tLst (rdA Γ XW G a))) : PE X ex (rdE Γ fq XW G (.lst a)) := PEimp h fun σ H Q q => by
  obtain ⟨F, e, E, w⟩ := q
  simp only [ev] at w
  refine ⟨F, e, E, ?_⟩
  have w1 := Wt_bnd w
  revert w1
  cases qe : ev a G e with
  | none => exact fun z => z.elim
  | some r => cases r with
    | xc x e1 => exact fun z => z
    | ok d1 e1 =>
      intro w1
      cases d1 with
      | lst l =>
        obtain ⟨hn, w1⟩ := Wt_ite w1
        refine ⟨l, rfl, fun vs H1 k1 E1 rs => ?_⟩
        have rl := VRs.repL hn rs
        refine ⟨by rw [RepL.length _ _ rl]; exact ln l e e1 qe, fun p hp => ?_⟩
        exact Res.lst (res_of (e := e1) E1 fun v' H' k E' r fr => w1 v' H' (k1.trans k) E' ⟨r, fun _ => fr.back k1⟩) E1.ztH rl hp
      | _ => exact w1.elim
end
end PB
set_option maxHeartbeats 4000000
/-! Ih: readings of expressions: dicts, built-ins, the script, pop. -/
namespace PB
open PySem PySem.Spec PyProof.Rows L2
section
variable {X : Cx} {Γ : Gm} {fq : Nat → Bool} {XW : WX} {G : Gx} {a b c : C} {ea eb ec ex : Expr} {pos : Pos}
theorem E_dnewK (h : PE X ex tDNewK) : PE X ex (rdE Γ fq XW G (.dnew false)) := PEimp h fun σ H Q q p hp => by
  obtain ⟨F, e, E, w⟩ := q
  simp only [ev] at w
  have r := res_of (e := e) (z := .dic false []) (Q := Q) E fun v' H' k E' r fr => w v' H' k E' ⟨r, fun _ => fr⟩
  have x : Ex H (upd H p (.dK [])) := Ex.new hp
  exact r _ _ x ⟨p, rfl, E.ztH.free hp, .inl ⟨rfl, [], upd_same, rfl⟩⟩ fun _ _ => ⟨p, rfl, hp, .inl ⟨rfl, [], upd_same, rfl⟩⟩
theorem E_dnewT (h : PE X ex tDNewT) : PE X ex (rdE Γ fq XW G (.dnew true)) := PEimp h fun σ H Q q p hp => by
  obtain ⟨F, e, E, w⟩ := q
  simp only [ev] at w
  have r := res_of (e := e) (z := .dic true []) (Q := Q) E fun v' H' k E' r fr => w v' H' k E' ⟨r, fun _ => fr⟩
  have x : Ex H (upd H p (.dT [])) := Ex.new hp
  exact r _ _ x ⟨p, rfl, E.ztH.free hp, .inr ⟨rfl, [], upd_same, rfl⟩⟩ fun _ _ => ⟨p, rfl, hp, .inr ⟨rfl, [], upd_same, rfl⟩⟩
/-- operands of a built-in -/
def lcsOk (ks : List Kd) : C → Bool
  | .cons a b => lcOk ks a && lcsOk ks b
  | _ => true
theorem VRs.fin {F : Fm} {H : Hp} {σ : L2.St} {e : En} (E : ER Γ F H σ e) : ∀ {a : C} {l ds : List D} {vs : List V}, lcsOk Γ.ks a = true → VRs Γ F H σ a l vs → finL a l e = some ds → RepBs (zt Γ F σ) H ds vs := by
  intro a
  induction a with
  | nil => intro l ds vs _ h f; cases l with
    | nil => cases f; exact h
    | cons d l => exact h.elim
  | cons a b iha ihb => intro l ds vs hn h f; cases l with
    | nil => exact h.elim
    | cons d l =>
      obtain ⟨v, r, q, h1, h2⟩ := h
      obtain ⟨x, f1, f⟩ := Option.bind_eq_some_iff.mp f
      obtain ⟨y, f2, f⟩ := Option.map_eq_some_iff.mp f
      subst f
      simp only [lcsOk, Bool.and_eq_true] at hn
      exact ⟨v, r, q, h1.fin E hn.1 f1, ihb hn.2 h2 f2⟩
  | _ => intro l ds vs _ h; exact h.elim
theorem E_blt {f : Bi} (la : lcsOk Γ.ks a = true) (h : PE X ex (tCB (rB f) (rdA Γ XW G a))) : PE X ex (rdE Γ fq XW G (.blt f a)) := PEimp h fun σ H Q q => by
  obtain ⟨F, e, E, w⟩ := q
  simp only [ev] at w
  refine ⟨F, e, E, (Wt_bnd w).imp (fun d1 e1 w1 => ?_) fun x e' q => q⟩
  cases d1 with
  | lst l =>
    obtain ⟨ds, f1, w1⟩ := Wt_bind w1
    cases q : bi f ds with
    | none => rw [q] at w1; exact w1.elim
    | some z =>
      rw [q] at w1
      exact ⟨l, rfl, fun vs H1 k1 E1 rs => ⟨zt Γ F σ, ds, z, true, E1.ztH, rs.fin E1 la f1, q, res_of E1 fun v' H' k E' r fr => w1 v' H' (k1.trans k) E' ⟨r, fun _ => fr.back k1⟩⟩⟩
  | _ => exact w1.elim
/-! the script -/
theorem E_scrLen (hK : Γ.K = X.K) (hks : G.ks = Γ.ks) {i : Nat} (h : PE X ex (fun σ H Q => ∃ p ys, σ[i]? = some (some (.ref p)) ∧ SqL X.K H p ys ∧ Q (.int ys.length) H)) : PE X ex (rdE Γ fq XW G (.scrLen i)) := PEimp h fun σ H Q q => by
  obtain ⟨F, e, E, w⟩ := q
  simp only [ev, hks] at w
  obtain ⟨h1, w⟩ := Wt_ite w
  cases q : rdS e i with
  | none => rw [q] at w; exact w.elim
  | some d =>
    rw [q] at w
    obtain ⟨ad, l, r1, rfl, r3, r4⟩ := E.frz i d h1 (rdS_some q)
    have r5 := (E.sq r3 r4).sq
    rw [hK] at r5
    refine ⟨ad, l.map V.int, r1, r5, ?_⟩
    have w' := w (.int ((l.map V.int).length : Nat)) H Sp.refl E ⟨by show _ = _; simp, fun _ => flat_fr rfl⟩
    exact w'
theorem E_scrList (hK : Γ.K = X.K) (hks : G.ks = Γ.ks) {i : Nat} (h : PE X ex (fun σ H Q => ∃ a xs, σ[i]? = some (some (.ref a)) ∧ SqL X.K H a xs ∧ ∀ p, H p = none → Q (.ref p) (upd H p (.lst xs)))) : PE X ex (rdE Γ fq XW G (.scrList i)) := PEimp h fun σ H Q q => by
  obtain ⟨F, e, E, w⟩ := q
  simp only [ev, hks] at w
  obtain ⟨h1, w⟩ := Wt_ite w
  cases q : rdS e i with
  | none => rw [q] at w; exact w.elim
  | some d =>
    rw [q] at w
    obtain ⟨ad, l, r1, rfl, r3, r4⟩ := E.frz i d h1 (rdS_some q)
    have r5 := (E.sq r3 r4).sq
    rw [hK] at r5
    refine ⟨ad, l.map V.int, r1, r5, fun p hp => ?_⟩
    exact Res.lst (ds := l.map D.int) (res_of (e := e) E fun v' H' k E' r fr => w v' H' k E' ⟨r, fun _ => fr⟩) E.ztH (repL_ints l) hp
/-! pop -/
theorem Own.lst {Z : AS} {H : Hp} {a : Addr} {ds : List D} (h : Own Z H a (.lst ds)) : ∃ xs, H a = some (.lst xs) ∧ RepL Z H ds xs := h
theorem upd_other {H : Hp} {a : Addr} {o : HO} : ∀ b, b ≠ a → upd H a o b = H b := fun b h => upd_ne h
/-- an owned list is rewritten -/
theorem ER.wrL {F : Fm} {H : Hp} {σ : L2.St} {e : En} (E : ER Γ F H σ e) {i : Nat} {a : Addr} {ds' : List D} {xs' : List V} (h1 : Γ.ks[i]? = some Kd.own) (h2 : σ[i]? = some (some (V.ref a))) (r : RepL (zt Γ F σ) H ds' xs') :
    ER Γ F (upd H a (.lst xs')) σ (e.set i (some (.lst ds'))) ∧ Sp Γ F σ H (upd H a (.lst xs')) := by
  have k : Sp Γ F σ H (upd H a (.lst xs')) := sp_wr ⟨i, h1, h2⟩
  exact ⟨E.wr h1 h2 upd_other ⟨xs', upd_same, RepL.mono k.kp _ _ r⟩, k⟩
theorem tyL {F : Fm} {H : Hp} {σ : L2.St} {e : En} (E : ER Γ F H σ e) {i : Nat} (h1 : Γ.ks[i]? = some Kd.own) (h2 : isLst (rdS e i) = true) : ∃ a ds xs, rdS e i = some (.lst ds) ∧ σ[i]? = some (some (V.ref a)) ∧ H a = some (.lst xs) ∧ RepL (zt Γ F σ) H ds xs := by
  cases q : rdS e i with
  | none => rw [q] at h2; cases h2
  | some d =>
    rw [q] at h2
    cases d with
    | lst ds =>
      have q' := rdS_some q
      obtain ⟨v, r1⟩ := E.ownE i _ h1 q'
      obtain ⟨a, r2, r3⟩ := E.own' h1 r1 q'
      subst r2
      obtain ⟨xs, r4, r5⟩ := r3
      exact ⟨a, ds, xs, rfl, r1, r4, r5⟩
    | _ => cases h2
theorem E_popAt (hks : G.ks = Γ.ks) {i : Nat} (ho : Γ.ks[i]? = some Kd.own) (h : PE X ex (tBM X.K "list" rPopAt (tVar i) (tCons (rdE Γ fq XW G a) tNil))) : PE X ex (rdE Γ fq XW G (.popAt i a)) := PEimp h fun σ H Q q => by
  obtain ⟨F, e, E, w⟩ := q
  simp only [ev, hks] at w
  obtain ⟨hc, w⟩ := Wt_ite' w
  have hc2 : isLoc a = false ∧ isLst (rdS e i) = true := by
    revert hc
    cases isLoc a <;> cases isLst (rdS e i) <;> simp
  obtain ⟨l, ds0, xs0, _, hl, hH0, _⟩ := tyL E ho hc2.2
  refine ⟨.ref l, hl, .inl ⟨rfl, xs0, .of hH0⟩, ?_⟩
  refine rd_step E (Wt_bnd w) fun d e1 v H1 w1 k1 E1 r1 => ?_
  have rv : Rep (zt Γ F σ) H1 d v := r1.1.rep hc2.1
  split at w1
  · rename_i ds k q1
    obtain ⟨hlim, w1⟩ := Wt_ite w1
    obtain ⟨j, q2, w1⟩ := Wt_bind w1
    cases q3 : ds[j]? with
    | none => rw [q3] at w1; exact w1.elim
    | some x =>
      rw [q3] at w1
      obtain ⟨l', ds', xs, q4, q5, q6, q7⟩ := tyL E1 ho (by rw [q1]; rfl)
      rw [q1] at q4
      cases q4
      rw [hl] at q5
      cases q5
      obtain ⟨y, q8, q9⟩ := RepL.get _ _ q7 j x q3
      have hlen := RepL.length _ _ q7
      obtain ⟨s1, s2, s3, s4⟩ := ixN_seq (show ixN xs.length k = some j from by rw [hlen]; exact q2)
      obtain ⟨E2, k2⟩ := E1.wrL ho hl (RepL.eraseIdx j _ _ q7)
      have hz : xs.length ≤ 100000 := by rw [hlen]; exact hlim.2
      exact ⟨l, xs, k, j, y, rfl, by rw [show v = .int k from rv], q6, by omega, by omega, s1, q8, w1 y _ (k1.trans k2) E2 ⟨Rep.mono k2.kp _ _ q9, fun z => by cases z⟩⟩
  · exact w1.elim
theorem E_popLast (hks : G.ks = Γ.ks) {i : Nat} (ho : Γ.ks[i]? = some Kd.own) (h : PE X ex (tBM0 X.K "list" rPop (tVar i))) : PE X ex (rdE Γ fq XW G (.popLast i)) := PEimp h fun σ H Q q => by
  obtain ⟨F, e, E, w⟩ := q
  simp only [ev, hks] at w
  split at w
  · rename_i ds q1
    obtain ⟨_, w⟩ := Wt_ite w
    cases q3 : ds[ds.length - 1]? with
    | none => rw [q3] at w; exact w.elim
    | some x =>
      rw [q3] at w
      obtain ⟨l, ds', xs, q4, q5, q6, q7⟩ := tyL E ho (by rw [q1]; rfl)
      rw [q1] at q4
      cases q4
      obtain ⟨y, q8, q9⟩ := RepL.get _ _ q7 _ x q3
      have hlen := RepL.length _ _ q7
      obtain ⟨E2, k2⟩ := E.wrL ho q5 (RepL.dropLast _ _ q7)
      refine ⟨.ref l, q5, .inl ⟨rfl, xs, .of q6⟩, l, xs, y, rfl, rfl, q6, by rw [hlen]; exact q8, w y _ k2 E2 ⟨Rep.mono k2.kp _ _ q9, fun z => by cases z⟩⟩
  · exact w.elim
end
end PB
set_option maxHeartbeats 4000000
/-! Ii: readings of statements. -/
namespace PB
open PySem PySem.Spec PyProof.Rows L2

def WtS (o : Option Out) (nx bk ct : En → Prop) (rt : D → En → Prop) (xc : Exn → En → Prop) : Prop := match o with
  | none => False
  | some (.nx e) => nx e
  | some (.rt d e) => rt d e
  | some (.bk e) => bk e
  | some (.ct e) => ct e
  | some (.xc x e) => xc x e
/-- what stays from statement to statement -/
structure Stp (Γ : Gm) (F : Fm) (σ σ' : L2.St) (H H' : Hp) : Prop where
  kp : Kp (zt Γ F σ) (zt Γ F σ') H H'
  ko : Kp (zs Γ F σ) (zs Γ F σ') H H'
  dom : ∀ a, H a ≠ none → H' a ≠ none
/-- what a return leaves -/
def RetR (Γ : Gm) (fr : Bool) (F : Fm) (H : Hp) (e : En) (d : D) (v : V) : Prop :=
  (∃ σ', ER Γ F H σ' e ∧ Rep (zt Γ F σ') H d v ∧ (fr = true → isHp d = true → ∃ p, v = .ref p ∧ F.H0 p = none ∧ ¬ zt Γ F σ' p ∧ ER Γ (F.add p) H σ' e ∧ Own (addZ (zt Γ F σ') p) H p d)) ∨
  (∃ σ' i a e0, ER Γ F H σ' e0 ∧ e = e0.set i none ∧ Γ.ks[i]? = some Kd.own ∧ Γ.np ≤ i ∧ σ'[i]? = some (some (.ref a)) ∧ rdS e0 i = some d ∧ v = .ref a)
def NX (Γ : Gm) (F : Fm) (σ : L2.St) (H : Hp) (P : L2.St → Hp → Prop) : En → Prop := fun e' => ∀ σ' H', Stp Γ F σ σ' H H' → ER Γ F H' σ' e' → P σ' H'
def XFS (Γ : Gm) (XW : WX) (F : Fm) (σ : L2.St) (H : Hp) : Exn → En → Prop := fun x e' => ∀ cls od σ' H', Stp Γ F σ σ' H H' → ER Γ F H' σ' e' → XR Γ F σ' H' x cls od → XW cls od σ' H'
def RT (Γ : Gm) (fr : Bool) (F : Fm) (P : VK) : D → En → Prop := fun d e' => ∀ v H', RetR Γ fr F H' e' d v → P v H'
def rdS' (Γ : Gm) (fr : Bool) (XW : WX) (F : Fm) (D : Ends) (σ : L2.St) (H : Hp) (o : Option Out) : Prop :=
  WtS o (NX Γ F σ H D.nx) (NX Γ F σ H D.bk) (NX Γ F σ H D.ct) (RT Γ fr F D.rt) (XFS Γ XW F σ H)
def rdSt (Γ : Gm) (fr : Bool) (XW : WX) (G : Gx) (c : C) : TS := fun D σ H => ∃ F e, ER Γ F H σ e ∧ rdS' Γ fr XW F D σ H (exec c G e)
theorem PSimp {X : Cx} {st : Stmt} {t t' : TS} (h : PS X st t) (i : ∀ D σ H, t' D σ H → t D σ H) : PS X st t' := ⟨fun pins s σ H D I q => h.run pins s σ H D I (i D σ H q)⟩
theorem PSsimp {X : Cx} {st : List Stmt} {t t' : TS} (h : PSs X st t) (i : ∀ D σ H, t' D σ H → t D σ H) : PSs X st t' := ⟨fun pins s σ H D I q => h.run pins s σ H D I (i D σ H q)⟩
section
variable {Γ : Gm} {F : Fm} {σ σ1 σ2 : L2.St} {H H1 H2 : Hp} {XW : WX} {fr : Bool} {D : Ends} {e : En}
theorem Stp.refl : Stp Γ F σ σ H H := ⟨Kp.refl, Kp.refl, fun _ q => q⟩
theorem Stp.trans (a : Stp Γ F σ σ1 H H1) (b : Stp Γ F σ1 σ2 H1 H2) : Stp Γ F σ σ2 H H2 := ⟨a.kp.trans b.kp, a.ko.trans b.ko, fun x q => b.dom x (a.dom x q)⟩
theorem Sp.stp (k : Sp Γ F σ H H1) : Stp Γ F σ σ H H1 := ⟨k.kp, k.ko, k.dom⟩
theorem NX.mono {P : L2.St → Hp → Prop} (h : NX Γ F σ H P e) (k : Stp Γ F σ σ1 H H1) : NX Γ F σ1 H1 P e := fun σ' H' k' => h σ' H' (k.trans k')
theorem XFS.mono {x : Exn} (h : XFS Γ XW F σ H x e) (k : Stp Γ F σ σ1 H H1) : XFS Γ XW F σ1 H1 x e := fun cls od σ' H' k' => h cls od σ' H' (k.trans k')
theorem WtS.imp {o : Option Out} {nx bk ct nx' bk' ct' : En → Prop} {rt rt' : PB.D → En → Prop} {xc xc' : Exn → En → Prop} (h : WtS o nx bk ct rt xc) (h1 : ∀ e, nx e → nx' e) (h2 : ∀ e, bk e → bk' e) (h3 : ∀ e, ct e → ct' e) (h4 : ∀ d e, rt d e → rt' d e) (h5 : ∀ x e, xc x e → xc' x e) : WtS o nx' bk' ct' rt' xc' := by
  cases o with
  | none => exact h
  | some o => cases o with
    | nx e => exact h1 e h
    | rt d e => exact h4 d e h
    | bk e => exact h2 e h
    | ct e => exact h3 e h
    | xc x e => exact h5 x e h
theorem rdS'.mono {o : Option Out} (h : rdS' Γ fr XW F D σ H o) (k : Stp Γ F σ σ1 H H1) : rdS' Γ fr XW F D σ1 H1 o := h.imp (fun _ q => q.mono k) (fun _ q => q.mono k) (fun _ q => q.mono k) (fun _ _ q => q) fun _ _ q => q.mono k
/-- an expression within a statement -/
theorem WtS_outB {m : Option (R PB.D)} {f : PB.D → En → Option Out} (h : rdS' Γ fr XW F D σ H (outB m f)) : Wt m (fun d e => rdS' Γ fr XW F D σ H (f d e)) (XF Γ XW F σ H) := by
  unfold outB at h
  cases m with
  | none => exact h
  | some r => cases r with
    | ok a e => exact h
    | xc x e => exact fun cls od H' k E r => (show XFS Γ XW F σ H x e from h) cls od σ H' k.stp E r
theorem stp_same {σ' : L2.St} (k : Sp Γ F σ H H1) (z : OsS Γ.ks σ' = OsS Γ.ks σ) : Stp Γ F σ σ' H H1 := by
  have z1 : zt Γ F σ' = zt Γ F σ := by unfold zt; rw [z]
  have z2 : zs Γ F σ' = zs Γ F σ := by unfold zs; rw [z]
  exact ⟨by rw [z1]; exact k.kp, by rw [z2]; exact k.ko, k.dom⟩
theorem rdS_map {o : Option En} (h : rdS' Γ fr XW F D σ H (o.map Out.nx)) : ∃ e', o = some e' ∧ NX Γ F σ H D.nx e' := by
  cases o with
  | none => exact h.elim
  | some e' => exact ⟨e', rfl, h⟩
theorem rdS_bind {α : Type} {o : Option α} {g : α → Option Out} (h : rdS' Γ fr XW F D σ H (o.bind g)) : ∃ a, o = some a ∧ rdS' Γ fr XW F D σ H (g a) := by
  cases o with
  | none => exact h.elim
  | some e' => exact ⟨e', rfl, h⟩
theorem rdS_ite' {c : Prop} [Decidable c] {a : Option Out} (h : rdS' Γ fr XW F D σ H (if c then none else a)) : ¬ c ∧ rdS' Γ fr XW F D σ H a := by
  split at h
  · exact h.elim
  · exact ⟨by assumption, h⟩
theorem rdS_ite {c : Prop} [Decidable c] {a : Option Out} (h : rdS' Γ fr XW F D σ H (if c then a else none)) : c ∧ rdS' Γ fr XW F D σ H a := by
  split at h
  · exact ⟨by assumption, h⟩
  · exact h.elim
end
section
variable {X : Cx} {Γ : Gm} {fq : Nat → Bool} {fr : Bool} {XW : WX} {G : Gx} {a b c : C} {st : Stmt} {sts : List Stmt} {pos : Pos}
theorem S_seq {rest : List Stmt} (h : PSs X sts (tSeq (rdSt Γ fr XW G a) (rdSt Γ fr XW G b))) : PSs X sts (rdSt Γ fr XW G (.seq a b)) := PSsimp h fun D σ H q => by
  obtain ⟨F, e, E, w⟩ := q
  refine ⟨F, e, E, ?_⟩
  simp only [exec] at w
  cases qe : exec a G e with
  | none => rw [qe] at w; exact w
  | some o =>
    rw [qe] at w
    cases o with
    | nx e1 => exact fun σ1 H1 k1 E1 => ⟨F, e1, E1, rdS'.mono w k1⟩
    | _ => exact w
theorem S_pass (h : PS X st tNext) : PS X st (rdSt Γ fr XW G .pass) := PSimp h fun D σ H q => by
  obtain ⟨F, e, E, w⟩ := q
  exact w σ H Stp.refl E
theorem S_brk (h : PS X st tBreak) : PS X st (rdSt Γ fr XW G .brk) := PSimp h fun D σ H q => by
  obtain ⟨F, e, E, w⟩ := q
  exact w σ H Stp.refl E
theorem S_cnt (h : PS X st tCont) : PS X st (rdSt Γ fr XW G .cnt) := PSimp h fun D σ H q => by
  obtain ⟨F, e, E, w⟩ := q
  exact w σ H Stp.refl E
theorem S_drop (h : PS X st (tDrop (rdE Γ fq XW G c))) : PS X st (rdSt Γ fr XW G (.drop c)) := PSimp h fun D σ H q => by
  obtain ⟨F, e, E, w⟩ := q
  exact rd_step E (WtS_outB w) fun d e1 v H1 w1 k1 E1 r1 => w1 σ H1 k1.stp E1
theorem S_ret (hf : fr = true → frC fq c = true) (h : PS X st (tRet (rdE Γ fq XW G c))) : PS X st (rdSt Γ fr XW G (.ret c)) := PSimp h fun D σ H q => by
  obtain ⟨F, e, E, w⟩ := q
  refine rd_step E (WtS_outB w) fun d e1 v H1 w1 k1 E1 r1 => ?_
  obtain ⟨hl, w1⟩ := rdS_ite' w1
  refine w1 v H1 (.inl ⟨σ, E1, r1.1.rep (by simpa using hl), fun q1 q2 => ?_⟩)
  obtain ⟨p, h1, _, h2⟩ := r1.2 (hf q1) q2
  exact ⟨p, h1, h2⟩
theorem S_retN (h : PS X st tRetN) : PS X st (rdSt Γ fr XW G .retN) := PSimp h fun D σ H q => by
  obtain ⟨F, e, E, w⟩ := q
  exact w .non H (.inl ⟨σ, E, rfl, fun _ q2 => by cases q2⟩)
theorem S_retO (hks : G.ks = Γ.ks) {i : Nat} (hn : Γ.np ≤ i) (h : PS X st (tRet (tVar i))) : PS X st (rdSt Γ fr XW G (.retO i)) := PSimp h fun D σ H q => by
  obtain ⟨F, e, E, w⟩ := q
  simp only [exec, hks] at w
  obtain ⟨ho, w⟩ := rdS_ite w
  cases q1 : rdS e i with
  | none => rw [q1] at w; exact w.elim
  | some d =>
    rw [q1] at w
    obtain ⟨v, r1⟩ := E.ownE i d ho (rdS_some q1)
    obtain ⟨a, r2, r3⟩ := E.own' ho r1 (rdS_some q1)
    subst r2
    exact ⟨_, r1, w (.ref a) H (.inr ⟨σ, i, a, e, E, rfl, ho, hn, r1, q1, rfl⟩)⟩
theorem S_ife (h : PS X st (tIfS (rdT Γ XW G c) (rdSt Γ fr XW G a) (rdSt Γ fr XW G b))) : PS X st (rdSt Γ fr XW G (.ife c a b)) := PSimp h fun D σ H q => by
  obtain ⟨F, e, E, w⟩ := q
  refine rd_stepT E (WtS_outB w) fun d e1 w1 => ?_
  obtain ⟨t, ht, w1⟩ := rdS_bind w1
  refine ⟨t, ht, fun H1 k1 E1 => ?_⟩
  cases t with
  | true => exact ⟨F, e1, E1, rdS'.mono w1 k1.stp⟩
  | false => exact ⟨F, e1, E1, rdS'.mono w1 k1.stp⟩
/-! stores -/
/-- the slots of a target -/
def slotsG : C → List Nat
  | .var i => [i]
  | .tup a => slotsG a
  | .cons a b => slotsG a ++ slotsG b
  | _ => []
theorem wipe_set {σ : L2.St} {w : Option V} : ∀ {vs : List Nat} {i : Nat}, i ∈ vs → wipe (σ.set i w) vs = wipe σ vs
  | v :: vs, i, h => by
    unfold wipe
    by_cases hv : i ∈ vs
    · rw [wipe_set hv]
    · have e : i = v := by
        rcases List.mem_cons.mp h with h | h
        · exact h
        · exact absurd h hv
      subst e
      have key : ∀ (us : List Nat) (σ : L2.St), i ∉ us → wipe (σ.set i w) us = (wipe σ us).set i w := by
        intro us
        induction us with
        | nil => intro σ _; rfl
        | cons u us ih =>
          intro σ hn
          unfold wipe
          simp only [List.mem_cons, not_or] at hn
          rw [ih σ hn.2, List.set_comm _ _ hn.1]
      rw [key vs σ hv, List.set_set]
/-- targets: names (shared), tuples of these -/
def rdG (Γ : Gm) (c : C) : TG := fun v σ H Q => ∃ F e d e', ER Γ F H σ e ∧ Rep (zt Γ F σ) H d v ∧ asgT Γ.ks c d e = some e' ∧ ∀ σ', ER Γ F H σ' e' → OsS Γ.ks σ' = OsS Γ.ks σ → (∀ vs, (∀ i ∈ slotsG c, i ∈ vs) → wipe σ' vs = wipe σ vs) → Q σ' H
def rdGs (Γ : Gm) (c : C) : TGs := fun vs σ H Q => ∃ F e l e', ER Γ F H σ e ∧ RepL (zt Γ F σ) H l vs ∧ asgT Γ.ks c (.lst l) e = some e' ∧ ∀ σ', ER Γ F H σ' e' → OsS Γ.ks σ' = OsS Γ.ks σ → (∀ vs, (∀ i ∈ slotsG c, i ∈ vs) → wipe σ' vs = wipe σ vs) → Q σ' H
theorem PGimp {ex : Expr} {t t' : TG} (h : PG X ex t) (i : ∀ v σ H Q, t' v σ H Q → t v σ H Q) : PG X ex t' := ⟨fun pins s σ H v u Q I r q => h.run pins s σ H v u Q I r (i v σ H Q q)⟩
theorem PGsimp {ex : List Expr} {t t' : TGs} (h : PGs X ex t) (i : ∀ v σ H Q, t' v σ H Q → t v σ H Q) : PGs X ex t' := ⟨fun pins s σ H v u Q I r q => h.run pins s σ H v u Q I r (i v σ H Q q)⟩
theorem var_read {i : Nat} (hx : Fre Γ i) {v : V} {σ : L2.St} {H : Hp} {Q : L2.St → Hp → Prop} (q : rdG Γ (.var i) v σ H Q) : gName i v σ H Q := by
  obtain ⟨F, e, d, e', E, r, q1, w⟩ := q
  simp only [asgT] at q1
  split at q1
  · rename_i hk
    cases q1
    simp only [Bool.and_eq_true, decide_eq_true_eq] at hk
    exact w _ (E.setShr hk.1 hx r) (osS_set' (by rw [hk.1]; exact fun z => nomatch z)) fun vs hv => wipe_set (hv i (by simp [slotsG]))
  · cases q1
theorem G_var {ex : Expr} {i : Nat} (hx : Fre Γ i) (h : PG X ex (gName i)) : PG X ex (rdG Γ (.var i)) := PGimp h fun _ _ _ _ q => var_read hx q
theorem Gs_nil {ex : List Expr} (h : PGs X ex gNil) : PGs X ex (rdGs Γ .nil) := PGsimp h fun vs σ H Q q => by
  obtain ⟨F, e, l, e', E, r, q1, w⟩ := q
  cases l with
  | nil => cases q1; exact ⟨r, w σ E rfl fun _ _ => rfl⟩
  | cons d l => simp [asgT] at q1
theorem Gs_cons {ex : List Expr} (h : PGs X ex (gCons (rdG Γ a) (rdGs Γ b))) : PGs X ex (rdGs Γ (.cons a b)) := PGsimp h fun vs σ H Q q => by
  obtain ⟨F, e, l, e', E, r, q1, w⟩ := q
  cases l with
  | nil => simp [asgT] at q1
  | cons d l =>
    simp only [asgT] at q1
    obtain ⟨e1, q2, q3⟩ := Option.bind_eq_some_iff.mp q1
    obtain ⟨v, r', rfl, r1, r2⟩ := r
    exact ⟨v, r', rfl, F, e, d, e1, E, r1, q2, fun σ1 E1 z1 y1 => ⟨F, e1, l, e', E1, by unfold zt; rw [z1]; exact r2, q3, fun σ2 E2 z2 y2 => w σ2 E2 (z2.trans z1) fun vs hv => (y2 vs fun i hi => hv i (by simp [slotsG, hi])).trans (y1 vs fun i hi => hv i (by simp [slotsG, hi]))⟩⟩
def lenG : C → Nat
  | .cons _ b => lenG b + 1
  | _ => 0
def isTgs : C → Bool
  | .nil => true
  | .cons _ b => isTgs b
  | _ => false
theorem asgT_len {ks : List Kd} : ∀ {c : C} {l : List PB.D} {e e' : En}, isTgs c = true → asgT ks c (.lst l) e = some e' → l.length = lenG c := by
  intro c
  induction c with
  | nil => intro l e e' _ h; cases l with
    | nil => rfl
    | cons => simp [asgT] at h
  | cons a b iha ihb => intro l e e' ht h; cases l with
    | nil => simp [asgT] at h
    | cons d l =>
      simp only [asgT] at h
      obtain ⟨e1, q2, q3⟩ := Option.bind_eq_some_iff.mp h
      simp [lenG, ihb ht q3]
  | _ => intro l e e' ht; cases ht
theorem G_tup {ex : Expr} {n : Nat} (hl : ∀ l e e', asgT Γ.ks a (.lst l) e = some e' → l.length = n) (h : PG X ex (gTup X.K n (rdGs Γ a))) : PG X ex (rdG Γ (.tup a)) := PGimp h fun v σ H Q q => by
  obtain ⟨F, e, d, e', E, r, q1, w⟩ := q
  cases d with
  | tup l =>
    obtain ⟨p, xs, rfl, ⟨_, hp⟩, rl⟩ := r
    exact ⟨p, xs, rfl, .of hp, by rw [RepL.length _ _ rl]; exact hl l e e' q1, F, e, l, e', E, rl, q1, w⟩
  | _ => simp [asgT] at q1
theorem asg_read (hks : G.ks = Γ.ks) (hn : ∀ i, a ≠ .loc i) {D : Ends} {σ : L2.St} {H : Hp} (q : rdSt Γ fr XW G (.asg a c) D σ H) : rdE Γ fq XW G c σ H fun x H1 => rdG Γ a x σ H1 D.nx := by
  obtain ⟨F, e, E, w⟩ := q
  refine rd_step E (WtS_outB w) fun d e1 v H1 w1 k1 E1 r1 => ?_
  obtain ⟨hl, w1⟩ := rdS_ite' w1
  have w1' : rdS' Γ fr XW F D σ H ((asgT G.ks a d e1).map .nx) := by
    cases a <;> first | exact w1 | exact absurd rfl (hn _)
  obtain ⟨e', q1, q2⟩ := rdS_map w1'
  rw [hks] at q1
  refine ⟨F, e1, d, e', E1, r1.1.rep (by simpa using hl), q1, fun σ' E' z _ => q2 σ' H1 (stp_same k1 z) E'⟩
theorem S_asg (hks : G.ks = Γ.ks) (hn : ∀ i, a ≠ .loc i) (h : PS X st (tAsg (rdE Γ fq XW G c) (rdG Γ a))) : PS X st (rdSt Γ fr XW G (.asg a c)) := PSimp h fun _ _ _ q => asg_read hks hn q
/-- a new object for an owned slot -/
theorem Stp.own {F : Fm} {σ : L2.St} {H H1 : Hp} {i : Nat} {p : Addr} (k : Sp Γ F σ H H1) (hp : H p = none) : Stp Γ F σ (σ.set i (some (.ref p))) H H1 := by
  have sO : ∀ b o, H b = some o → ¬ OsS Γ.ks σ b → ¬ OsS Γ.ks (σ.set i (some (.ref p))) b := fun b o h z ⟨j, q1, q2⟩ => by
    by_cases hj : j = i
    · subst hj
      by_cases hlt : j < σ.length
      · rw [List.getElem?_set_self hlt] at q2
        cases q2
        rw [hp] at h
        cases h
      · rw [List.getElem?_eq_none (by simpa using hlt)] at q2
        cases q2
    · rw [get_set hj] at q2
      exact z ⟨j, q1, q2⟩
  refine ⟨fun b o h n z => ⟨(k.kp b o h n z).1, fun q => ?_⟩, fun b o h n z => ⟨(k.ko b o h n z).1, fun q => ?_⟩, k.dom⟩
  · rcases q with q | q
    · exact z (.inl q)
    · exact sO b o h (fun y => z (.inr y)) q
  · rcases q with q | q
    · exact sO b o h (fun y => z (.inl y)) q
    · exact z (.inr q)
theorem setK_own {ks : List Kd} {i : Nat} {d : PB.D} {e e' : En} (ho : ks[i]? = some Kd.own) (h : setK ks i d e = some e') : isHp d = true ∧ e' = e.set i (some d) := by
  unfold setK at h
  rw [ho] at h
  cases d <;> cases h <;> exact ⟨rfl, rfl⟩
theorem setK_shr {ks : List Kd} {i : Nat} {d : PB.D} {e e' : En} (ho : ks[i]? = some Kd.shr) (h : setK ks i d e = some e') : e' = e.set i (some d) := by
  unfold setK at h
  rw [ho] at h
  cases h
  rfl
theorem asgO_read (hks : G.ks = Γ.ks) {i : Nat} (hn : Γ.np ≤ i) (hf : frC fq c = true) {D : Ends} {σ : L2.St} {H : Hp} (q : rdSt Γ fr XW G (.asg (.loc i) c) D σ H) : rdE Γ fq XW G c σ H fun x H1 => gName i x σ H1 D.nx := by
  obtain ⟨F, e, E, w⟩ := q
  refine rd_step E (WtS_outB w) fun d e1 v H1 w1 k1 E1 r1 => ?_
  obtain ⟨hl, w1⟩ := rdS_ite' w1
  rw [hks] at w1
  obtain ⟨ho, w1⟩ := rdS_ite w1
  obtain ⟨e', q1, q2⟩ := rdS_map w1
  obtain ⟨hd, rfl⟩ := setK_own ho q1
  obtain ⟨p, rfl, hs, h0, hz, E2, o⟩ := r1.2 hf hd
  exact q2 _ H1 (Stp.own k1 hs) (E2.setOwn ho hn h0 hz o)
theorem S_asgO (hks : G.ks = Γ.ks) {i : Nat} (hn : Γ.np ≤ i) (hf : frC fq c = true) (h : PS X st (tAsg (rdE Γ fq XW G c) (gName i))) : PS X st (rdSt Γ fr XW G (.asg (.loc i) c)) := PSimp h fun _ _ _ q => asgO_read hks hn hf q
theorem rdE_imp {Q Q' : VK} {σ : L2.St} {H : Hp} (h : rdE Γ fq XW G c σ H Q) (i : ∀ v H1, Q v H1 → Q' v H1) : rdE Γ fq XW G c σ H Q' := by
  obtain ⟨F, e, E, w⟩ := h
  exact ⟨F, e, E, w.imp (fun d e1 q v H1 k E1 r => i v H1 (q v H1 k E1 r)) fun _ _ q => q⟩
end
end PB
set_option maxHeartbeats 4000000
/-! Ij: readings of statements: stores in place, several targets. -/
namespace PB
open PySem PySem.Spec PyProof.Rows L2
section
variable {X : Cx} {Γ : Gm} {fq : Nat → Bool} {fr : Bool} {XW : WX} {G : Gx} {a b c : C} {st : Stmt} {sts : List Stmt} {pos : Pos}
/-- xs.append(e) -/
theorem S_app (hks : G.ks = Γ.ks) {i : Nat} (ho : Γ.ks[i]? = some Kd.own) (h : PS X st (tDrop (tBM X.K "list" rAppend (tVar i) (tCons (rdE Γ fq XW G c) tNil)))) : PS X st (rdSt Γ fr XW G (.app i c)) := PSimp h fun D σ H q => by
  obtain ⟨F, e, E, w⟩ := q
  simp only [exec, hks] at w
  obtain ⟨hc, w⟩ := rdS_ite' w
  have hc2 : isLst (rdS e i) = true := by simpa using hc
  obtain ⟨l, ds0, xs0, _, hl, hH0, _⟩ := tyL E ho hc2
  refine ⟨.ref l, hl, .inl ⟨rfl, xs0, .of hH0⟩, ?_⟩
  refine rd_step E (WtS_outB w) fun d e1 v H1 w1 k1 E1 r1 => ?_
  obtain ⟨hll, w1⟩ := rdS_ite' w1
  have rv : Rep (zt Γ F σ) H1 d v := r1.1.rep (by simpa using hll)
  split at w1
  · rename_i ds q1
    obtain ⟨hz, w1⟩ := rdS_ite w1
    simp only [Bool.and_eq_true, decide_eq_true_eq] at hz
    obtain ⟨l', ds', xs, q4, q5, q6, q7⟩ := tyL E1 ho (by rw [q1]; rfl)
    rw [q1] at q4
    cases q4
    rw [hl] at q5
    cases q5
    have hlen := RepL.length _ _ q7
    obtain ⟨E2, k2⟩ := E1.wrL ho hl (RepL.append _ [d] _ [v] q7 ⟨v, [], rfl, rv, rfl⟩)
    refine ⟨l, xs, v, rfl, rfl, q6, ?_, w1 σ _ (k1.trans k2).stp E2⟩
    have := sizeLine_eq
    have hz2 : ds.length < 100000 := hz.2
    omega
  · exact w1.elim
/-- a dict that is owned is written -/
theorem repK_put {Z : AS} {H : Hp} {k : Key} {kd d : PB.D} {v : V} (hk : repKey k kd) (hv : Rep Z H d v) : ∀ (ds : List (PB.D × PB.D)) (kvs : List (Key × V)), RepK Z H ds kvs → isKey1 kd = true →
    (ds.any fun p => keyEq p.1 kd) = (kvs.any fun kv => decide (kv.1 = k)) ∧ RepK Z H (ds.map fun p => if keyEq p.1 kd = true then (p.1, d) else p) (kvs.map fun kv => if kv.1 = k then (kv.1, v) else kv) ∧ RepK Z H (ds ++ [(kd, d)]) (kvs ++ [(k, v)])
  | [], kvs, h, _ => by cases h; exact ⟨rfl, rfl, k, v, [], rfl, hk, hv, rfl⟩
  | (q, d0) :: ds, kvs, h, ik => by
    obtain ⟨q', v0, r, e, h0, h1, h2⟩ := h
    subst e
    have eq : keyEq q kd = decide (q' = k) := by
      cases kd with
      | int i => cases q <;> first | exact repKey_eq h0 hk | exact h0.elim
      | str i => cases q <;> first | exact repKey_eq h0 hk | exact h0.elim
      | _ => simp [isKey1] at ik
    obtain ⟨i1, i2, i3⟩ := repK_put hk hv ds r h2 ik
    refine ⟨by simp only [List.any_cons, eq, i1], ?_, ⟨q', v0, _, rfl, h0, h1, i3⟩⟩
    by_cases c : q' = k
    · have : keyEq q kd = true := by rw [eq]; simp [c]
      simp only [List.map_cons, this, if_true, c]
      exact ⟨k, v, _, rfl, c ▸ h0, hv, i2⟩
    · have : ¬ keyEq q kd = true := by rw [eq]; simp [c]
      simp only [List.map_cons, this, if_false, c]
      exact ⟨q', v0, _, rfl, h0, h1, i2⟩
theorem repT_put {Z : AS} {H : Hp} {k : List Key} {ks : List PB.D} {d : PB.D} {v : V} (hk : repKeys k ks) (hv : Rep Z H d v) : ∀ (ds : List (PB.D × PB.D)) (kvs : List (List Key × V)), RepT Z H ds kvs →
    (ds.any fun p => keyEq p.1 (.tup ks)) = (kvs.any fun kv => decide (kv.1 = k)) ∧ RepT Z H (ds.map fun p => if keyEq p.1 (.tup ks) = true then (p.1, d) else p) (kvs.map fun kv => if kv.1 = k then (kv.1, v) else kv) ∧ RepT Z H (ds ++ [(.tup ks, d)]) (kvs ++ [(k, v)])
  | [], kvs, h => by cases h; exact ⟨rfl, rfl, k, v, [], ks, rfl, rfl, hk, hv, rfl⟩
  | (q, d0) :: ds, kvs, h => by
    obtain ⟨q', v0, r, qs, e, eq0, h0, h1, h2⟩ := h
    subst e eq0
    have eq : keyEq (.tup qs) (.tup ks) = decide (q' = k) := by simp only [keyEq]; exact repKeys_eq h0 hk
    obtain ⟨i1, i2, i3⟩ := repT_put hk hv ds r h2
    refine ⟨by simp only [List.any_cons, eq, i1], ?_, ⟨q', v0, _, qs, rfl, rfl, h0, h1, i3⟩⟩
    by_cases c : q' = k
    · have : keyEq (.tup qs) (.tup ks) = true := by rw [eq]; simp [c]
      simp only [List.map_cons, this, if_true, c]
      exact ⟨k, v, _, qs, rfl, rfl, c ▸ h0, hv, i2⟩
    · have : ¬ keyEq (.tup qs) (.tup ks) = true := by rw [eq]; simp [c]
      simp only [List.map_cons, this, if_false, c]
      exact ⟨q', v0, _, qs, rfl, rfl, h0, h1, i2⟩
theorem own_put {Z : AS} {H : Hp} {a : Addr} {t : Bool} {ds : List (PB.D × PB.D)} {kd d : PB.D} {y v : V} (az : Z a) (h : Own Z H a (.dic t ds)) (hk : Rep Z H kd y) (hv : Rep Z H d v) (ik : isKey t kd = true) (hl : ds.length < lim) :
    ∃ o, DPut H a y v (upd H a o) ∧ Own Z (upd H a o) a (.dic t (dPut ds kd d)) := by
  have len : ∀ {ds : List (PB.D × PB.D)} {kvs : List (Key × V)}, RepK Z H ds kvs → kvs.length = ds.length := by
    intro ds
    induction ds with
    | nil => intro kvs h; cases h; rfl
    | cons p ds ih => intro kvs h; obtain ⟨q, v, r, e, _, _, h2⟩ := h; subst e; simp [ih h2]
  have lenT : ∀ {ds : List (PB.D × PB.D)} {kvs : List (List Key × V)}, RepT Z H ds kvs → kvs.length = ds.length := by
    intro ds
    induction ds with
    | nil => intro kvs h; cases h; rfl
    | cons p ds ih => intro kvs h; obtain ⟨q, v, r, ks, e, _, _, _, h2⟩ := h; subst e; simp [ih h2]
  have hsz : ds.length < sizeLine := by
    have := sizeLine_eq
    unfold lim at hl
    omega
  have kp : ∀ o, Kp Z Z H (upd H a o) := fun o b u hb n z => ⟨by rw [upd_ne (fun q => z (by rw [q]; exact az))]; exact hb, z⟩
  rcases h with ⟨rfl, kvs, e, r⟩ | ⟨rfl, kvs, e, r⟩
  · have ik1 : isKey1 kd = true := ik
    obtain ⟨k, e1, rfl⟩ := key_of1 ik1 hk
    obtain ⟨i1, i2, i3⟩ := repK_put e1 hv ds kvs r ik1
    refine ⟨_, DPut.k e (by rw [len r]; exact hsz), .inl ⟨rfl, _, upd_same, ?_⟩⟩
    unfold dPut putK
    rw [i1]
    split
    · exact RepK.mono (kp _) _ _ i2
    · exact RepK.mono (kp _) _ _ i3
  · cases kd with
    | tup ks =>
      obtain ⟨b, xs, rfl, ⟨hb1, hb2⟩, rl⟩ := hk
      obtain ⟨k, e1, rfl⟩ := keys_of1 ks xs ik rl
      obtain ⟨i1, i2, i3⟩ := repT_put e1 hv ds kvs r
      refine ⟨_, DPut.t e hb2 (by rw [lenT r]; exact hsz), .inr ⟨rfl, _, upd_same, ?_⟩⟩
      unfold dPut putK
      rw [i1]
      split
      · exact RepT.mono (kp _) _ _ i2
      · exact RepT.mono (kp _) _ _ i3
    | _ => cases ik
/-- what an indexed store writes -/
def rSetA (K : PySem.W.Frag) : TSet := fun o i v H Q => rSetL o i v H Q ∨ rSetD o i v H Q
theorem set_any (hu : X.A.units + 1 < cLine) : PSet X (rSetA X.K) := by
  intro pins s σ H o i v ov iv u Q I ro ri rv h
  rcases h with h | h
  · exact set_list pins s σ H o i v ov iv u Q I ro ri rv h
  · exact set_dict hu pins s σ H o i v ov iv u Q I ro ri rv h
theorem S_stIx (hks : G.ks = Γ.ks) {i : Nat} (ho : Γ.ks[i]? = some Kd.own) (h : PS X st (tAsg (rdE Γ fq XW G c) (gSub (tVar i) (rdE Γ fq XW G b) (rSetA X.K)))) : PS X st (rdSt Γ fr XW G (.stIx i b c)) := PSimp h fun D σ H q => by
  obtain ⟨F, e, E, w⟩ := q
  simp only [exec, hks] at w
  obtain ⟨hn, w⟩ := rdS_ite' w
  have hsl : ∃ v, σ[i]? = some (some v) := by
    cases q1 : rdS e i with
    | none => rw [q1] at hn; exact absurd rfl hn
    | some d => exact E.ownE i d ho (rdS_some q1)
  obtain ⟨v0, hl⟩ := hsl
  refine rd_step E (WtS_outB w) fun d e1 v H1 w1 k1 E1 r1 => ?_
  refine ⟨v0, hl, ?_⟩
  refine rd_step E1 ((WtS_outB w1).imp (fun _ _ q => q) fun x e' q => XF.mono q k1) fun q e2 y H2 w2 k2 E2 r2 => ?_
  obtain ⟨hll, w2⟩ := rdS_ite' w2
  obtain ⟨lc, lb⟩ := loc2 hll
  have rv : Rep (zt Γ F σ) H2 d v := Rep.mono k2.kp _ _ (r1.1.rep lc)
  have ry : Rep (zt Γ F σ) H2 q y := r2.1.rep lb
  cases q1 : rdS e2 i with
  | none => rw [q1] at w2; exact w2.elim
  | some od =>
    rw [q1] at w2
    cases od with
    | lst l => cases q with
      | int z =>
        obtain ⟨_, w2⟩ := rdS_ite w2
        cases q3 : ixOf l.length z with
        | none => rw [q3] at w2; exact w2.elim
        | some j =>
          rw [q3] at w2
          obtain ⟨a, ds', xs, q4, q5, q6, q7⟩ := tyL E2 ho (by rw [q1]; rfl)
          rw [q1] at q4
          cases q4
          rw [hl] at q5
          cases q5
          have hlen := RepL.length _ _ q7
          obtain ⟨E3, k3⟩ := E2.wrL ho hl (RepL.set j _ _ _ _ q7 rv)
          exact .inl ⟨a, xs, z, j, rfl, ry, q6, by rw [hlen]; exact q3, w2 σ _ ((k1.trans k2).trans k3).stp E3⟩
      | _ => exact w2.elim
    | dic t kvs =>
      obtain ⟨hz, w2⟩ := rdS_ite w2
      simp only [Bool.and_eq_true, decide_eq_true_eq] at hz
      obtain ⟨a, r4, r5⟩ := E2.own' ho hl (rdS_some q1)
      subst r4
      have az : zt Γ F σ a := .inr ⟨i, ho, hl⟩
      obtain ⟨o, g, o2⟩ := own_put az r5 ry rv hz.1.2 hz.2
      have k3 : Sp Γ F σ H2 (upd H2 a o) := sp_wr ⟨i, ho, hl⟩
      exact .inr ⟨a, _, rfl, g, w2 σ _ ((k1.trans k2).trans k3).stp (E2.wr ho hl upd_other o2)⟩
    | _ => cases q <;> exact w2.elim
/-! name op= e -/
/-- ints alone -/
def rOi (o : O2) : R2 := fun x y H Q => ∃ Z m n z, x = .int m ∧ y = .int n ∧ op2 o (.int m) (.int n) = some z ∧ Res Z H false z Q
theorem i_of {o : O2} {f : Value → Value → Sem Value} {C : Int → Int → Prop} {g : Int → Int → Int} (ho : OpR X f (rI C fun i j => .int (g i j))) (hh : ∀ m n z, op2 o (.int m) (.int n) = some z → C m n ∧ z = .int (g m n)) : OpR X f (rOi o) := by
  intro pins s σ H x y v u Q I rx ry h
  obtain ⟨Z, m, n, z, rfl, rfl, q, r⟩ := h
  obtain ⟨c, rfl⟩ := hh m n z q
  exact ho pins s σ H _ _ v u Q I rx ry ⟨m, n, rfl, rfl, c, r.flat rfl rfl⟩
theorem i_add : OpR X (inplaceOp .Add) (rOi .add) := i_of (rI0_rI iop_add) fun m n z q => by cases q; exact ⟨trivial, rfl⟩
theorem i_sub : OpR X (inplaceOp .Sub) (rOi .sub) := i_of (rI0_rI iop_sub) fun m n z q => by cases q; exact ⟨trivial, rfl⟩
theorem i_mul : OpR X (inplaceOp .Mult) (rOi .mul) := i_of iop_mul fun m n z q => by
  simp only [op2] at q
  split at q
  · rename_i hm
    cases q
    exact ⟨mulOk_c hm, rfl⟩
  · cases q
theorem i_fdiv : OpR X (inplaceOp .FloorDiv) (rOi .fdiv) := i_of iop_fdiv fun m n z q => by
  simp only [op2] at q
  split at q
  · rename_i hm
    cases q
    simp only [Bool.and_eq_true, decide_eq_true_eq] at hm
    exact ⟨hm, rfl⟩
  · cases q
theorem i_mod : OpR X (inplaceOp .Mod) (rOi .mod) := i_of iop_mod fun m n z q => by
  simp only [op2] at q
  split at q
  · rename_i hm
    cases q
    exact ⟨hm, rfl⟩
  · cases q
theorem i_shr : OpR X (inplaceOp .RShift) (rOi .shr) := i_of iop_shr fun m n z q => by
  simp only [op2] at q
  split at q
  · rename_i hm
    cases q
    exact ⟨hm, rfl⟩
  · cases q
theorem i_shl : OpR X (inplaceOp .LShift) (rOi .shl) := i_of iop_shl fun m n z q => by
  simp only [op2] at q
  split at q
  · rename_i hm
    cases q
    simp only [Bool.and_eq_true, decide_eq_true_eq] at hm
    exact ⟨⟨hm.1.1, hm.1.2, hm.2⟩, rfl⟩
  · cases q
theorem i_or : OpR X (inplaceOp .BitOr) (rOi .bor) := i_of (bits_of (n := fun a b => a ||| b) iop_or Bits.bitOr_pp) fun m n z q => by
  simp only [op2] at q
  split at q
  · rename_i hm
    cases q
    simp only [Bool.and_eq_true, decide_eq_true_eq] at hm
    exact ⟨hm, rfl⟩
  · cases q
theorem i_and : OpR X (inplaceOp .BitAnd) (rOi .band) := i_of (bits_of (n := fun a b => a &&& b) iop_and bitAnd_pp) fun m n z q => by
  simp only [op2] at q
  split at q
  · rename_i hm
    cases q
    simp only [Bool.and_eq_true, decide_eq_true_eq] at hm
    exact ⟨hm, rfl⟩
  · cases q
theorem i_xor : OpR X (inplaceOp .BitXor) (rOi .bxor) := i_of (bits_of (n := fun a b => a ^^^ b) iop_xor Bits.bitXor_pp) fun m n z q => by
  simp only [op2] at q
  split at q
  · rename_i hm
    cases q
    simp only [Bool.and_eq_true, decide_eq_true_eq] at hm
    exact ⟨hm, rfl⟩
  · cases q
theorem S_aug (hks : G.ks = Γ.ks) {i : Nat} {o : O2} (hx : Fre Γ i) (h : PS X st (tAug i (rdE Γ fq XW G c) (rOi o))) : PS X st (rdSt Γ fr XW G (.aug i o c)) := PSimp h fun D σ H q => by
  obtain ⟨F, e, E, w⟩ := q
  simp only [exec, hks] at w
  cases q1 : rdS e i with
  | none => rw [q1] at w; exact w.elim
  | some x =>
    rw [q1] at w
    obtain ⟨hk, w⟩ := rdS_ite w
    obtain ⟨v, r1, r2⟩ := E.shr i x hk (rdS_some q1)
    refine ⟨v, r1, ?_⟩
    refine rd_step E (WtS_outB w) fun d e1 y H1 w1 k1 E1 r3 => ?_
    obtain ⟨hl, w1⟩ := rdS_ite' w1
    have ry : Rep (zt Γ F σ) H1 d y := r3.1.rep (by simpa using hl)
    cases x with
    | int m => cases d with
      | int n =>
        cases q3 : op2 o (.int m) (.int n) with
        | none => rw [q3] at w1; exact w1.elim
        | some z =>
          rw [q3] at w1
          refine ⟨zt Γ F σ, m, n, z, r2, ry, q3, resOld_of E1 fun v' H' k E' r => ?_⟩
          exact w1 _ H' (stp_same (k1.trans k) (osS_set' (by rw [hk]; exact fun z => nomatch z))) (E'.setShr hk hx r)
      | _ => exact w1.elim
    | _ => cases d <;> exact w1.elim
/-! a, b = x, y -/
def setOk (Γ : Gm) (fq : Nat → Bool) (i : Nat) (c : C) : Bool := (decide (Γ.ks[i]? = some Kd.shr)) || (decide (Γ.ks[i]? = some Kd.own) && decide (Γ.np ≤ i) && frC fq c)
theorem S_par (hks : G.ks = Γ.ks) {i j : Nat} (hij : i ≠ j) (hxi : Fre Γ i) (hxj : Fre Γ j) (hi : Γ.ks[i]? = some Kd.shr) (hj : Γ.ks[j]? = some Kd.shr)
    (h : PS X st (tPar i j (tCons (rdE Γ fq XW G a) (tCons (rdE Γ fq XW G b) tNil)))) : PS X st (rdSt Γ fr XW G (.par i j a b)) := PSimp h fun D σ H q => by
  obtain ⟨F, e, E, w⟩ := q
  simp only [exec, hks] at w
  refine rd_step E (WtS_outB w) fun d e1 v H1 w1 k1 E1 r1 => ?_
  refine rd_step E1 ((WtS_outB w1).imp (fun _ _ q => q) fun x e' q => XF.mono q k1) fun q e2 y H2 w2 k2 E2 r2 => ?_
  obtain ⟨hll, w2⟩ := rdS_ite' w2
  obtain ⟨lc, lb⟩ := loc2 hll
  have rv : Rep (zt Γ F σ) H2 d v := Rep.mono k2.kp _ _ (r1.1.rep lc)
  have ry : Rep (zt Γ F σ) H2 q y := r2.1.rep lb
  obtain ⟨e3, q3, w2⟩ := rdS_bind w2
  obtain ⟨e4, q4, w2⟩ := rdS_map w2
  cases setK_shr hi q3
  cases setK_shr hj q4
  have ni : Γ.ks[i]? ≠ some Kd.own := by rw [hi]; exact fun z => nomatch z
  have nj : Γ.ks[j]? ≠ some Kd.own := by rw [hj]; exact fun z => nomatch z
  refine ⟨v, y, rfl, w2 _ H2 (stp_same (k1.trans k2) ?_) ((E2.setShr hi hxi rv).setShr hj hxj (by rw [zt_set ni]; exact ry))⟩
  rw [osS_set' nj, osS_set' ni]
end
end PB
set_option maxHeartbeats 4000000
/-! Ik: loops. -/
namespace PB
open PySem PySem.Spec PyProof.Rows L2
theorem Kp.so {Γ : Gm} {F : Fm} {σ : L2.St} {Zo' : AS} {H H' : Hp} (k : Kp (zs Γ F σ) Zo' H H') : Kp (zo Γ F σ) Zo' H H' := fun a o h n z => k a o h n fun q => z (q.imp id fun q => q.1)
/-- an iterator J gives the values ds, wherever the frame goes on -/
def ItOk (Γ : Gm) (F : Fm) (σ : L2.St) (H1 : Hp) (J : It) (ds : List PB.D) : Prop :=
  ∃ (Gd : Hp → Prop) (Y : Nat → Hp → V → Hp → Prop), Walk J ds.length Gd Y ∧ (∀ Z' Zo' H', Kp (zt Γ F σ) Z' H1 H' → Kp (zo Γ F σ) Zo' H1 H' → Gd H') ∧
    ∀ i x Z' H' H'', Kp (zt Γ F σ) Z' H1 H' → i < ds.length → ZH Z' H' → Y i H' x H'' → Ex H' H'' ∧ ∃ d, ds[i]? = some d ∧ Rep Z' H'' d x
def PI0 (Γ : Gm) (F : Fm) (σ : L2.St) (H : Hp) (c : C) (R : It → Hp → Prop) : PB.D → En → Prop := fun d e1 => ∃ ds, itemsOf Γ.ks c d e1 = some ds ∧ ∀ J H1, Sp Γ F σ H H1 → ER Γ F H1 σ e1 → ItOk Γ F σ H1 J ds → R J H1
def rdI (Γ : Gm) (XW : WX) (G : Gx) (c : C) : TI := fun σ H R => ∃ F e, ER Γ F H σ e ∧ Wt (ev c G e) (PI0 Γ F σ H c R) (XF Γ XW F σ H)
theorem PIimp {X : Cx} {tg ex : Expr} {t t' : TI} (h : PI X tg ex t) (i : ∀ σ H Q, t' σ H Q → t σ H Q) : PI X tg ex t' := ⟨fun pins s σ H R I q => h.run pins s σ H R I (i σ H R q)⟩
/-- a list or a tuple, as it comes -/
def iSeq (K : PySem.W.Frag) (tl : TE) : TI := fun σ H R => tl σ H fun x H1 => ∃ a, x = .ref a ∧ (((∃ xs, SqL K H1 a xs) ∧ R (Itl K a) H1) ∨ ((∃ xs, SqT K H1 a xs) ∧ R (Itt K a) H1))
section
variable {X : Cx} {tg l : Expr}
theorem pi_seq {tl : TE} (hl : PE X l tl) : PI X tg l (iSeq X.K tl) := by
  refine ⟨fun pins s σ H R I h => thn (hl.run pins s σ H _ I h) fun v s1 z => ?_⟩
  obtain ⟨x, H1, J1, rx, a, ea, q⟩ := z
  subst ea
  cases rx
  have fp : ∀ b ∈ [s1.heap.objs.size], FpOk X pins H1 b := fun b hb => by
    rw [List.mem_singleton] at hb
    subst hb
    exact J1.fpOk (Nat.le_refl _) (J1.hok.fresh (Nat.le_refl _))
  rcases q with ⟨⟨xs, sq⟩, q⟩ | ⟨⟨xs, sq⟩, q⟩
  · obtain ⟨its, _, pl, _⟩ := J1.list sq
    exact wpAny_pyIter_list pl.isList ⟨_, [s1.heap.objs.size], _, _, H1, rfl, J1.kept (t' := s1.toks) fun b o e => Heap.get?_push_of_some _ e, turn_list a _, ⟨_, Heap.get?_push_size _ rfl, rfl, rfl⟩, fp, q⟩
  · obtain ⟨its, _, pl, _⟩ := J1.tuple sq
    exact wpAny_pyIter_tuple (show s1.heap.IsTuple a its.toArray from pl) ⟨_, [s1.heap.objs.size], _, _, H1, rfl, J1.kept (t' := s1.toks) fun b o e => Heap.get?_push_of_some _ e, turn_tuple a _, ⟨_, Heap.get?_push_size _ rfl, rfl, rfl⟩, fp, q⟩
end
section
variable {X : Cx} {Γ : Gm} {fq : Nat → Bool} {fr : Bool} {XW : WX} {G : Gx} {a b c : C} {tg ex : Expr} {st : Stmt}
theorem Stp.rep {F : Fm} {σ σ' : L2.St} {H H' : Hp} (k : Stp Γ F σ σ' H H') {d : PB.D} {v : V} (r : Rep (zt Γ F σ) H d v) : Rep (zt Γ F σ') H' d v := Rep.mono k.kp d v r
theorem itList {F : Fm} {σ : L2.St} {H1 : Hp} {ad : Addr} {xs : List V} {ds : List PB.D} {K : PySem.W.Frag} (h : ∀ Z' Zo' H', Kp (zt Γ F σ) Z' H1 H' → Kp (zo Γ F σ) Zo' H1 H' → SqL K H' ad xs) (r : RepL (zt Γ F σ) H1 ds xs) : ItOk Γ F σ H1 (Itl K ad) ds := by
  have hl := RepL.length _ _ r
  refine ⟨fun H => SqL K H ad xs, YAt xs, by rw [← hl]; exact walk_list, h, fun i x Z' H' H'' k hi zh y => ?_⟩
  obtain ⟨y1, y2⟩ := y
  subst y1
  obtain ⟨d, q1, q2⟩ := RepL.at _ _ (RepL.mono k _ _ r) i x y2
  exact ⟨Ex.refl, d, q1, q2⟩
theorem itTup {F : Fm} {σ : L2.St} {H1 : Hp} {ad : Addr} {xs : List V} {ds : List PB.D} {K : PySem.W.Frag} (h : ∀ Z' Zo' H', Kp (zt Γ F σ) Z' H1 H' → Kp (zo Γ F σ) Zo' H1 H' → SqT K H' ad xs) (r : RepL (zt Γ F σ) H1 ds xs) : ItOk Γ F σ H1 (Itt K ad) ds := by
  have hl := RepL.length _ _ r
  refine ⟨fun H => SqT K H ad xs, YAt xs, by rw [← hl]; exact walk_tup, h, fun i x Z' H' H'' k hi zh y => ?_⟩
  obtain ⟨y1, y2⟩ := y
  subst y1
  obtain ⟨d, q1, q2⟩ := RepL.at _ _ (RepL.mono k _ _ r) i x y2
  exact ⟨Ex.refl, d, q1, q2⟩
/-- the list or tuple of an operand stays -/
theorem seqIt {F : Fm} {σ : L2.St} {H1 : Hp} {e1 : En} (E : ER Γ F H1 σ e1) {d : PB.D} {v : V} {ds : List PB.D} (r : VR0 Γ F H1 σ c d v) (hl : lcOk Γ.ks c = true ∨ ∃ i, c = .scr i) (q : itemsOf Γ.ks c d e1 = some ds) {K : PySem.W.Frag} (hK : Γ.K = K) {R : It → Hp → Prop} (hR : ∀ J, ItOk Γ F σ H1 J ds → R J H1) :
    ∃ a, v = .ref a ∧ (((∃ xs, SqL K H1 a xs) ∧ R (Itl K a) H1) ∨ ((∃ xs, SqT K H1 a xs) ∧ R (Itt K a) H1)) := by
  have main : ∀ (Z : AS) (zz : ∀ a o, H1 a = some o → (∀ ps, o ≠ .tbl ps) → ¬ Z a → ∀ Z' Zo' H', Kp (zt Γ F σ) Z' H1 H' → Kp (zo Γ F σ) Zo' H1 H' → H' a = some o) (d : PB.D), seqOf d = some ds → RepO Z (zt Γ F σ) H1 d v →
      ∃ a, v = .ref a ∧ (((∃ xs, SqL K H1 a xs) ∧ R (Itl K a) H1) ∨ ((∃ xs, SqT K H1 a xs) ∧ R (Itt K a) H1)) := by
    intro Z zz d hs r
    cases d <;> simp only [seqOf] at hs <;> first | cases hs | skip
    · obtain ⟨ad, xs, rfl, ⟨h1, h2⟩, r⟩ := r
      refine ⟨ad, rfl, .inr ⟨⟨xs, .of h2⟩, hR _ (itTup (fun Z' Zo' H' k k2 => .of (zz ad _ h2 (fun ps z => by cases z) h1 Z' Zo' H' k k2)) r)⟩⟩
    · obtain ⟨ad, xs, rfl, ⟨h1, h2⟩, r⟩ := r
      refine ⟨ad, rfl, .inl ⟨⟨xs, .of h2⟩, hR _ (itList (fun Z' Zo' H' k k2 => .of (zz ad _ h2 (fun ps z => by cases z) h1 Z' Zo' H' k k2)) r)⟩⟩
  have gen : (∀ i, c ≠ .loc i) → (∀ i, c ≠ .scr i) → ∃ a, v = .ref a ∧ (((∃ xs, SqL K H1 a xs) ∧ R (Itl K a) H1) ∨ ((∃ xs, SqT K H1 a xs) ∧ R (Itt K a) H1)) := fun n1 n2 => by
    have q' : seqOf d = some ds := by
      cases c <;> first | exact q | exact absurd rfl (n1 _) | exact absurd rfl (n2 _)
    have r' : Rep (zt Γ F σ) H1 d v := by
      cases c <;> first | exact r | exact absurd rfl (n1 _) | exact absurd rfl (n2 _)
    refine main (zt Γ F σ) (fun a o h n z Z' Zo' H' k k2 => (k a o h n z).1) d q' ?_
    exact Rep.toO (fun _ z => z) _ _ r'
  cases c with
  | loc i =>
    simp only [itemsOf] at q
    split at q
    · rename_i hk
      obtain ⟨d', q1, q2⟩ := Option.bind_eq_some_iff.mp q
      obtain ⟨w, r1, r2⟩ := E.brw i d' hk (rdS_some q1)
      have r' : σ[i]? = some (some v) := r
      rw [r'] at r1
      cases r1
      exact main (zo Γ F σ) (fun a o h n z Z' Zo' H' k k2 => (k2 a o h n z).1) d' q2 r2
    · cases q
  | scr i =>
    simp only [itemsOf] at q
    split at q
    · rename_i hk
      obtain ⟨d', q1, q2⟩ := Option.bind_eq_some_iff.mp q
      obtain ⟨ad, l, r1, rfl, r3, r4⟩ := E.frz i d' hk (rdS_some q1)
      have r' : σ[i]? = some (some v) := r
      rw [r'] at r1
      cases r1
      cases q2
      have r5 := E.sq r3 r4
      refine ⟨ad, rfl, .inl ⟨⟨l.map V.int, hK ▸ r5.sq⟩, hR _ (itList (fun Z' Zo' H' k k2 => ?_) (repL_ints l))⟩⟩
      rcases r3 with ⟨o, h0⟩ | r5
      · have r5 := E.base ad _ h0 (fun ps z => by cases z) (r4 _ _ h0)
        have nz : ¬ zo Γ F σ ad := fun z => by
          rcases z with ⟨j, z1, z2⟩ | z
          · obtain ⟨a', d2, e1, _, _, _, _, e2⟩ := E.own j _ z1 z2
            cases e1
            exact e2.notFrz _ _ r5
          · rw [h0] at z; cases z
        exact .inl (.inr ⟨o, (k2 ad _ r5 (fun ps z => by cases z) nz).1⟩)
      · exact hK ▸ (show SqF Γ.K H' ad l from .inr r5).sq
    · cases q
  | _ => exact gen (fun i z => by cases z) (fun i z => by cases z)
theorem I_seq (hK : Γ.K = X.K) (hl : lcOk Γ.ks c = true ∨ ∃ i, c = .scr i) (h : PE X ex (rdE Γ fq XW G c)) : PI X tg ex (rdI Γ XW G c) := PIimp (pi_seq h) fun σ H R q => by
  obtain ⟨F, e, E, w⟩ := q
  refine rd_step E w fun d e1 v H1 w1 k1 E1 r1 => ?_
  obtain ⟨ds, q1, q2⟩ := w1
  exact seqIt E1 r1.1 hl q1 hK fun J j => q2 J H1 k1 E1 j
/-! range -/
theorem rangeD_length : ∀ (n : Nat) (lo : Int), (rangeD lo n).length = n
  | 0, _ => rfl
  | n + 1, lo => by simp [rangeD, rangeD_length n]
theorem rangeD_get : ∀ (n : Nat) (lo : Int) (i : Nat), i < n → (rangeD lo n)[i]? = some (.int (lo + i))
  | 0, _, i, h => by omega
  | n + 1, lo, 0, h => by simp [rangeD]
  | n + 1, lo, i + 1, h => by
    have := rangeD_get n (lo + 1) i (by omega)
    simp only [rangeD, List.getElem?_cons_succ, this]
    congr 2
    omega
theorem rangeC_length : ∀ (n : Nat) (lo c : Int), (rangeC lo c n).length = n
  | 0, _, _ => rfl
  | n + 1, lo, c => by simp [rangeC, rangeC_length n]
theorem rangeC_get : ∀ (n : Nat) (lo c : Int) (i : Nat), i < n → (rangeC lo c n)[i]? = some (.int (lo + (i : Nat) * c))
  | 0, _, _, i, h => by omega
  | n + 1, lo, c, 0, h => by simp [rangeC]
  | n + 1, lo, c, i + 1, h => by
    have := rangeC_get n (lo + c) c i (by omega)
    simp only [rangeC, List.getElem?_cons_succ, this]
    congr 2
    have : ((i + 1 : Nat) : Int) * c = (i : Int) * c + c := by
      rw [Int.natCast_add]
      simp [Int.add_mul]
    omega
theorem itRange {F : Fm} {σ : L2.St} {H1 : Hp} {lo : Int} {n : Nat} : ItOk Γ F σ H1 (Itr lo n) (rangeD lo n) := by
  refine ⟨fun _ => True, YFn fun i => .int (lo + i), by rw [rangeD_length]; exact walk_range, fun _ _ _ _ _ => trivial, fun i x Z' H' H'' k hi zh y => ?_⟩
  obtain ⟨y1, y2⟩ := y
  subst y1 y2
  rw [rangeD_length] at hi
  exact ⟨Ex.refl, _, rangeD_get n lo i hi, rfl⟩
theorem itRangeC {F : Fm} {σ : L2.St} {H1 : Hp} {lo c : Int} {n : Nat} : ItOk Γ F σ H1 (Itc lo c n) (rangeC lo c n) := by
  refine ⟨fun _ => True, YFn fun i => .int (lo + (i : Nat) * c), by rw [rangeC_length]; exact walk_rangeC, fun _ _ _ _ _ => trivial, fun i x Z' H' H'' k hi zh y => ?_⟩
  obtain ⟨y1, y2⟩ := y
  subst y1 y2
  rw [rangeC_length] at hi
  exact ⟨Ex.refl, _, rangeC_get n lo c i hi, rfl⟩
theorem bltI {f : Bi} {R : It → Hp → Prop} {F : Fm} {σ : L2.St} {H : Hp} {e : En} (w : Wt (ev (.blt f a) G e) (PI0 Γ F σ H (.blt f a) R) (XF Γ XW F σ H)) :
    Wt (ev a G e) (fun d e1 => ∃ l ds z zs, d = .lst l ∧ finL a l e1 = some ds ∧ bi f ds = some z ∧ seqOf z = some zs ∧ ∀ J H1, Sp Γ F σ H H1 → ER Γ F H1 σ e1 → ItOk Γ F σ H1 J zs → R J H1) (XF Γ XW F σ H) := by
  simp only [ev] at w
  refine (Wt_bnd w).imp (fun d e1 w1 => ?_) fun _ _ q => q
  cases d with
  | lst l =>
    obtain ⟨ds, f1, w1⟩ := Wt_bind w1
    cases q : bi f ds with
    | none => rw [q] at w1; exact w1.elim
    | some z =>
      rw [q] at w1
      obtain ⟨zs, q1, q2⟩ := w1
      exact ⟨l, ds, z, zs, rfl, f1, q, q1, q2⟩
  | _ => exact w1.elim
theorem RepBs.len {Z : AS} {H : Hp} : ∀ {ds : List PB.D} {vs : List V}, RepBs Z H ds vs → vs.length = ds.length
  | [], _, h => by cases h; rfl
  | d :: ds, vs, h => by
    obtain ⟨v, r, q, h1, h2⟩ := h
    subst q
    simp [RepBs.len h2]
theorem VRs.len {F : Fm} {H : Hp} {σ : L2.St} : ∀ {c : C} {l : List PB.D} {vs : List V}, VRs Γ F H σ c l vs → vs.length = lenG c := by
  intro c
  induction c with
  | nil => intro l vs h; cases l with
    | nil => cases h; rfl
    | cons d l => exact h.elim
  | cons a b iha ihb => intro l vs h; cases l with
    | nil => exact h.elim
    | cons d l =>
      obtain ⟨v, r, q, h1, h2⟩ := h
      subst q
      simp [lenG, ihb h2]
  | _ => intro l vs h; exact h.elim
theorem RepBs.three {Z : AS} {H : Hp} {d e f : PB.D} {vs : List V} (h : RepBs Z H [d, e, f] vs) : ∃ u v w, vs = [u, v, w] ∧ RepB Z H d u ∧ RepB Z H e v ∧ RepB Z H f w := by
  obtain ⟨v, r, q, h1, h2⟩ := h
  obtain ⟨w, x, q2, h3, h4⟩ := h2.two
  subst q2
  exact ⟨v, w, x, q, h1, h3, h4⟩
theorem len1 {α : Type} {l : List α} (h : l.length = 1) : ∃ a, l = [a] := by
  match l, h with
  | [a], _ => exact ⟨a, rfl⟩
theorem len2 {α : Type} {l : List α} (h : l.length = 2) : ∃ a b, l = [a, b] := by
  match l, h with
  | [a, b], _ => exact ⟨a, b, rfl⟩
theorem len3 {α : Type} {l : List α} (h : l.length = 3) : ∃ a b c, l = [a, b, c] := by
  match l, h with
  | [a, b, c], _ => exact ⟨a, b, c, rfl⟩
theorem I_range1 (la : lcsOk Γ.ks a = true) (hn : lenG a = 1) (h : PI X tg ex (iRng1 (rdA Γ XW G a))) : PI X tg ex (rdI Γ XW G (.blt .range a)) := PIimp h fun σ H R q => by
  obtain ⟨F, e, E, w⟩ := q
  refine rd_stepA E (bltI w) fun d e1 w1 => ?_
  obtain ⟨l, ds, z, zs, rfl, f1, q1, q2, k⟩ := w1
  refine ⟨l, rfl, fun vs H1 k1 E1 rs => ?_⟩
  have rb := rs.fin E1 la f1
  obtain ⟨x, rfl⟩ := len1 (rb.len.symm.trans (rs.len.trans hn))
  cases x <;> simp only [bi] at q1 <;> first | cases q1 | skip
  rename_i j
  split at q1
  · rename_i hj
    cases q1
    cases q2
    simp only [Bool.and_eq_true, decide_eq_true_eq] at hj
    obtain ⟨v, rfl, rv⟩ := rb.one
    cases rv
    exact ⟨j, rfl, hj.1, hj.2, k _ H1 k1 E1 itRange⟩
  · cases q1
theorem I_range2 (la : lcsOk Γ.ks a = true) (hn : lenG a = 2) (h : PI X tg ex (iRng2 (rdA Γ XW G a))) : PI X tg ex (rdI Γ XW G (.blt .range a)) := PIimp h fun σ H R q => by
  obtain ⟨F, e, E, w⟩ := q
  refine rd_stepA E (bltI w) fun d e1 w1 => ?_
  obtain ⟨l, ds, z, zs, rfl, f1, q1, q2, k⟩ := w1
  refine ⟨l, rfl, fun vs H1 k1 E1 rs => ?_⟩
  have rb := rs.fin E1 la f1
  obtain ⟨x, y, rfl⟩ := len2 (rb.len.symm.trans (rs.len.trans hn))
  cases x <;> cases y <;> simp only [bi] at q1 <;> first | cases q1 | skip
  rename_i i j
  split at q1
  · rename_i hj
    cases q1
    cases q2
    simp only [Bool.and_eq_true, decide_eq_true_eq] at hj
    obtain ⟨v, u, rfl, rv, ru⟩ := rb.two
    cases rv
    cases ru
    exact ⟨i, j, rfl, ⟨hj.1.1.1, hj.1.1.2, hj.1.2, hj.2⟩, k _ H1 k1 E1 itRange⟩
  · cases q1
/-! enumerate, zip -/
theorem enumD_length : ∀ (l : List PB.D) (n : Nat), (enumD n l).length = l.length
  | [], _ => rfl
  | _ :: l, n => by simp [enumD, enumD_length l]
theorem enumD_get : ∀ (l : List PB.D) (n i : Nat) (d : PB.D), l[i]? = some d → (enumD n l)[i]? = some (.tup [.int ((n + i : Nat) : Int), d])
  | [], _, i, _, h => by simp at h
  | x :: l, n, 0, d, h => by simp at h; subst h; simp [enumD]
  | x :: l, n, i + 1, d, h => by
    have := enumD_get l (n + 1) i d (by simpa using h)
    simp only [enumD, List.getElem?_cons_succ, this]
    congr 5
    omega
theorem zipD_length : ∀ (l m : List PB.D), (zipD l m).length = min l.length m.length
  | [], _ => by simp [zipD]
  | _ :: _, [] => by simp [zipD]
  | _ :: l, _ :: m => by simp [zipD, zipD_length l m]
theorem zipD_get : ∀ (l m : List PB.D) (i : Nat) (d e : PB.D), l[i]? = some d → m[i]? = some e → (zipD l m)[i]? = some (.tup [d, e])
  | [], _, i, _, _, h, _ => by simp at h
  | _ :: _, [], i, _, _, _, h => by simp at h
  | x :: l, y :: m, 0, d, e, h, h' => by simp at h h'; subst h h'; simp [zipD]
  | x :: l, y :: m, i + 1, d, e, h, h' => by
    have := zipD_get l m i d e (by simpa using h) (by simpa using h')
    simp only [zipD, List.getElem?_cons_succ, this]
/-- a pair that the iterator makes -/
theorem pair_new {Z : AS} {H' : Hp} {T : Addr} {u v : V} {d e : PB.D} (zh : ZH Z H') (hT : H' T = none) (hd : Rep Z H' d u) (he : Rep Z H' e v) : Rep Z (upd H' T (.tup [u, v])) (.tup [d, e]) (.ref T) := by
  have x : Ex H' (upd H' T (.tup [u, v])) := Ex.new hT
  exact ⟨T, [u, v], rfl, ⟨zh.free hT, upd_same⟩, u, [v], rfl, Rep.mono x.kp _ _ hd, v, [], rfl, Rep.mono x.kp _ _ he, rfl⟩
theorem itEnum {F : Fm} {σ : L2.St} {H1 : Hp} {ad : Addr} {xs : List V} {ds : List PB.D} {K : PySem.W.Frag} (h : ∀ Z' Zo' H', Kp (zt Γ F σ) Z' H1 H' → Kp (zo Γ F σ) Zo' H1 H' → SqL K H' ad xs) (r : RepL (zt Γ F σ) H1 ds xs) : ItOk Γ F σ H1 (Ite K ad) (enumD 0 ds) := by
  have hl := RepL.length _ _ r
  refine ⟨fun H => SqL K H ad xs, _, by rw [enumD_length, ← hl]; exact walk_enum, h, fun i x Z' H' H'' k hi zh y => ?_⟩
  obtain ⟨T, u, v, y1, y2, y3, y4, y5⟩ := y
  subst y1 y3
  cases y4
  obtain ⟨d, q1, q2⟩ := RepL.at _ _ (RepL.mono k _ _ r) i v y5
  refine ⟨Ex.new y2, _, enumD_get ds 0 i d q1, ?_⟩
  rw [Nat.zero_add]
  exact pair_new zh y2 rfl q2
theorem itZip {F : Fm} {σ : L2.St} {H1 : Hp} {ad bd : Addr} {xs ys : List V} {ds es : List PB.D} {K : PySem.W.Frag} (h : ∀ Z' Zo' H', Kp (zt Γ F σ) Z' H1 H' → Kp (zo Γ F σ) Zo' H1 H' → SqL K H' ad xs ∧ SqL K H' bd ys) (r : RepL (zt Γ F σ) H1 ds xs) (r' : RepL (zt Γ F σ) H1 es ys) : ItOk Γ F σ H1 (Itz K ad bd) (zipD ds es) := by
  have hl := RepL.length _ _ r
  have hl' := RepL.length _ _ r'
  refine ⟨fun H => SqL K H ad xs ∧ SqL K H bd ys, _, walk_zip (by rw [zipD_length, hl, hl']), h, fun i x Z' H' H'' k hi zh y => ?_⟩
  obtain ⟨T, u, v, y1, y2, y3, y4, y5⟩ := y
  subst y1 y3
  obtain ⟨d, q1, q2⟩ := RepL.at _ _ (RepL.mono k _ _ r) i u y4
  obtain ⟨e, q3, q4⟩ := RepL.at _ _ (RepL.mono k _ _ r') i v y5
  exact ⟨Ex.new y2, _, zipD_get ds es i d e q1 q3, pair_new zh y2 q2 q4⟩
/-! for -/
theorem S_for {b : C} (hks : G.ks = Γ.ks) (h : PS X st (tFor (rdI Γ XW G c) (rdG Γ a) (rdSt Γ fr XW G b))) : PS X st (rdSt Γ fr XW G (.fr a c b)) := PSimp h fun D σ H q => by
  obtain ⟨F, e, E, w⟩ := q
  simp only [exec, hks] at w
  refine ⟨F, e, E, (WtS_outB w).imp (fun d e1 w1 => ?_) fun _ _ q => q⟩
  obtain ⟨ds, q1, w1⟩ := rdS_bind w1
  refine ⟨ds, q1, fun J H1 k1 E1 it => ?_⟩
  obtain ⟨Gd, Y, wk, hG, hY⟩ := it
  refine for_it wk (fun i σ' H' => ∃ e', ER Γ F H' σ' e' ∧ Stp Γ F σ σ' H1 H' ∧ rdS' Γ fr XW F D σ' H' (forE (asgT Γ.ks a) (fun e => exec b G e) (ds.drop i) e')) ⟨e1, E1, Stp.refl, by rw [List.drop_zero]; exact w1.mono k1.stp⟩ (fun i σ' H' hi ⟨e', E', k', w'⟩ => hG _ _ H' k'.kp k'.ko.so) ?_ ?_
  · rintro i x σ' H' H'' hi ⟨e', E', k', w'⟩ y
    obtain ⟨x1, d, q2, r⟩ := hY i x _ H' H'' k'.kp hi E'.ztH y
    have hlt := lt_of_get q2
    have ed : ds.drop i = d :: ds.drop (i + 1) := by
      rw [List.drop_eq_getElem_cons hlt]
      congr 1
      rw [List.getElem?_eq_getElem hlt] at q2
      exact Option.some.inj q2
    rw [ed] at w'
    simp only [forE] at w'
    obtain ⟨e2, q3, w'⟩ := rdS_bind w'
    have s1 : Stp Γ F σ' σ' H' H'' := (x1.sp (Γ := Γ) (F := F) (σ := σ')).stp
    refine ⟨F, e', d, e2, E'.ext x1, r, q3, fun σ2 E2 z2 _ => ⟨F, e2, E2, ?_⟩⟩
    have s2 : Stp Γ F σ' σ2 H' H'' := stp_same (x1.sp (Γ := Γ) (F := F) (σ := σ')) z2
    have w2 := w'.mono s2
    cases qb : exec b G e2 with
    | none => rw [qb] at w2; exact w2
    | some o =>
      rw [qb] at w2
      cases o with
      | nx e3 => exact fun σ3 H3 k3 E3 => ⟨e3, E3, (k'.trans s2).trans k3, w2.mono k3⟩
      | ct e3 => exact fun σ3 H3 k3 E3 => ⟨e3, E3, (k'.trans s2).trans k3, w2.mono k3⟩
      | bk e3 => exact w2
      | _ => exact w2
  · rintro σ' H' ⟨e', E', k', w'⟩
    rw [List.drop_length] at w'
    exact w' σ' H' Stp.refl E'
theorem S_whl {b : C} (h : PS X st (tWhile (rdT Γ XW G c) (rdSt Γ fr XW G b))) : PS X st (rdSt Γ fr XW G (.whl c b)) := PSimp h fun D σ H q => by
  obtain ⟨F, e, E, w⟩ := q
  simp only [exec] at w
  refine ⟨fun m σ' H' => ∃ e', ER Γ F H' σ' e' ∧ rdS' Γ fr XW F D σ' H' (whileE (fun e => ev c G e) (finT c) (fun e => exec b G e) m e'), ⟨G.wf, e, E, w⟩, ?_⟩
  rintro m σ' H' ⟨e', E', w'⟩
  cases m with
  | zero => exact w'.elim
  | succ n =>
    simp only [whileE] at w'
    refine rd_stepT E' (WtS_outB w') fun d e1 w1 => ?_
    obtain ⟨t, ht, w1⟩ := rdS_bind w1
    refine ⟨t, ht, fun H1 k1 E1 => ?_⟩
    cases t with
    | false => exact (w1.mono k1.stp) σ' H1 Stp.refl E1
    | true =>
      refine ⟨fun σ2 H2 => ∃ e2, ER Γ F H2 σ2 e2 ∧ rdS' Γ fr XW F D σ2 H2 (whileE (fun e => ev c G e) (finT c) (fun e => exec b G e) n e2), fun σ2 H2 q => ⟨n, by omega, q⟩, F, e1, E1, ?_⟩
      have w2 := w1.mono k1.stp
      simp only [if_true] at w2
      cases qb : exec b G e1 with
      | none => rw [qb] at w2; exact w2
      | some o =>
        rw [qb] at w2
        cases o with
        | nx e3 => exact fun σ3 H3 k3 E3 => ⟨e3, E3, w2.mono k3⟩
        | ct e3 => exact fun σ3 H3 k3 E3 => ⟨e3, E3, w2.mono k3⟩
        | bk e3 => exact w2
        | _ => exact w2
end
end PB
set_option maxHeartbeats 4000000
/-! Il: comprehensions. -/
namespace PB
open PySem PySem.Spec PyProof.Rows L2
theorem getw {α : Type} (f : Nat → Option α) (g : List (Option α) → List Nat → List (Option α)) (hn : ∀ l, g l [] = l) (hc : ∀ l v vs, g l (v :: vs) = (g l vs).set v (f v)) :
    ∀ (vs : List Nat) (l : List (Option α)) (i : Nat), (g l vs).length = l.length ∧ (g l vs)[i]? = if i ∈ vs ∧ i < l.length then some (f i) else l[i]?
  | [], l, i => by rw [hn]; simp
  | v :: vs, l, i => by
    obtain ⟨h1, h2⟩ := getw f g hn hc vs l i
    rw [hc]
    refine ⟨by rw [List.length_set]; exact h1, ?_⟩
    by_cases hv : i = v
    · subst hv
      by_cases hl : i < l.length
      · rw [List.getElem?_set_self (by rw [h1]; exact hl), if_pos ⟨List.mem_cons_self, hl⟩]
      · rw [if_neg (fun z => hl z.2), List.getElem?_eq_none (by rw [List.length_set, h1]; omega), List.getElem?_eq_none (by omega)]
    · rw [get_set hv, h2]
      by_cases hm : i ∈ vs ∧ i < l.length
      · rw [if_pos hm, if_pos ⟨List.mem_cons_of_mem _ hm.1, hm.2⟩]
      · rw [if_neg hm, if_neg (fun z => hm ⟨(List.mem_cons.mp z.1).resolve_left hv, z.2⟩)]
theorem wipe_get (vs : List Nat) (l : L2.St) (i : Nat) : (wipe l vs).length = l.length ∧ (wipe l vs)[i]? = if i ∈ vs ∧ i < l.length then some none else l[i]? := getw (fun _ => none) wipe (fun _ => rfl) (fun _ _ _ => rfl) vs l i
theorem wipeE_get (vs : List Nat) (l : En) (i : Nat) : (wipeE l vs).length = l.length ∧ (wipeE l vs)[i]? = if i ∈ vs ∧ i < l.length then some none else l[i]? := getw (fun _ => none) wipeE (fun _ => rfl) (fun _ _ _ => rfl) vs l i
theorem restE_get (e0 : En) (vs : List Nat) (l : En) (i : Nat) : (restE e0 l vs).length = l.length ∧ (restE e0 l vs)[i]? = if i ∈ vs ∧ i < l.length then some (rdS e0 i) else l[i]? := getw (rdS e0) (restE e0) (fun _ => rfl) (fun _ _ _ => rfl) vs l i
section
variable {Γ : Gm} {F : Fm} {H H1 : Hp} {σ : L2.St} {e e1 : En} {vs : List Nat}
/-- the block's own slots -/
def vsOk (Γ : Gm) (vs : List Nat) : Prop := ∀ i ∈ vs, Γ.ks[i]? = some Kd.shr ∧ Fre Γ i
theorem vsOk.not (h : vsOk Γ vs) {i : Nat} {k : Kd} (q : Γ.ks[i]? = some k) (n : k ≠ .shr) : i ∉ vs := fun z => by
  rw [(h i z).1] at q
  exact n (Option.some.inj q).symm
theorem wipe_not {i : Nat} (h : i ∉ vs) : (wipe σ vs)[i]? = σ[i]? := by rw [(wipe_get vs σ i).2, if_neg (fun z => h z.1)]
theorem wipeE_not {i : Nat} (h : i ∉ vs) : (wipeE e vs)[i]? = e[i]? := by rw [(wipeE_get vs e i).2, if_neg (fun z => h z.1)]
theorem osS_wipe (hv : vsOk Γ vs) : OsS Γ.ks (wipe σ vs) = OsS Γ.ks σ := funext fun a => propext ⟨fun ⟨i, h1, h2⟩ => ⟨i, h1, by rw [← wipe_not (hv.not h1 (by decide))]; exact h2⟩, fun ⟨i, h1, h2⟩ => ⟨i, h1, by rw [wipe_not (hv.not h1 (by decide))]; exact h2⟩⟩
theorem zt_wipe (hv : vsOk Γ vs) : zt Γ F (wipe σ vs) = zt Γ F σ := by unfold zt; rw [osS_wipe hv]
theorem zo_wipe (hv : vsOk Γ vs) : zo Γ F (wipe σ vs) = zo Γ F σ := by unfold zo; rw [osS_wipe hv]
theorem zs_wipe (hv : vsOk Γ vs) : zs Γ F (wipe σ vs) = zs Γ F σ := by unfold zs; rw [osS_wipe hv]
theorem ER.wiped (E : ER Γ F H σ e) (hv : vsOk Γ vs) : ER Γ F H (wipe σ vs) (wipeE e vs) := by
  refine ⟨(wipeE_get vs e 0).1.trans E.le, (wipe_get vs σ 0).1.trans E.lσ, fun i d h1 h2 => ?_, fun i d h1 h2 => ?_, fun i d h1 h2 => ?_, fun i v h1 h2 => ?_, fun i d h1 h2 => ?_, fun i v h0 h1 h2 => ?_, fun i j a h1 h2 h3 h4 => ?_, E.base, E.dom, E.zh, E.tabs, fun i a dx ds h => ?_, fun f c q h => ?_⟩
  · rw [zt_wipe hv]
    by_cases hi : i ∈ vs
    · rw [(wipeE_get vs e i).2, if_pos ⟨hi, by rw [E.le]; exact lt_of_get h1⟩] at h2
      cases h2
    · rw [wipeE_not hi] at h2
      rw [wipe_not hi]
      exact E.shr i d h1 h2
  · have hi := hv.not h1 (by decide)
    rw [wipeE_not hi] at h2
    rw [wipe_not hi, zt_wipe hv, zo_wipe hv]
    exact E.brw i d h1 h2
  · have hi := hv.not h1 (by decide)
    rw [wipeE_not hi] at h2
    rw [wipe_not hi]
    exact E.frz i d h1 h2
  · have hi := hv.not h1 (by decide)
    rw [wipe_not hi] at h2
    rw [wipeE_not hi, zt_wipe hv]
    exact E.own i v h1 h2
  · have hi := hv.not h1 (by decide)
    rw [wipeE_not hi] at h2
    rw [wipe_not hi]
    exact E.ownE i d h1 h2
  · rw [wipe_not (hv.not h1 (by decide))]
    exact E.par i v h0 h1 h2
  · rw [wipe_not (hv.not h1 (by decide))] at h3
    rw [wipe_not (hv.not h2 (by decide))] at h4
    exact E.inj i j a h1 h2 h3 h4
  · obtain ⟨q1, q2, q3⟩ := E.exo i a dx ds h
    have hi : i ∉ vs := fun z => (hv i z).2.1 a dx ds h
    rw [wipe_not hi, zt_wipe hv]
    exact ⟨q1, q2, q3⟩
  · have hi : 0 ∉ vs := fun z => by rw [(hv 0 z).2.2 rfl] at h; cases h
    rw [wipe_not hi]
    exact E.lam f c q h
/-- behind a block -/
theorem ER.rest (E : ER Γ F H (wipe σ vs) (wipeE e vs)) (E1 : ER Γ F H1 σ e1) (k : Kp (zt Γ F σ) (zt Γ F σ) H1 H) (hv : vsOk Γ vs) : ER Γ F H σ (restE e1 e vs) := by
  have le : e.length = Γ.ks.length := (wipeE_get vs e 0).1.symm.trans E.le
  have rn : ∀ {i : Nat}, i ∉ vs → (restE e1 e vs)[i]? = e[i]? := fun {i} h => by rw [(restE_get e1 vs e i).2, if_neg (fun z => h z.1)]
  refine ⟨(restE_get e1 vs e 0).1.trans le, E1.lσ, fun i d h1 h2 => ?_, fun i d h1 h2 => ?_, fun i d h1 h2 => ?_, fun i v h1 h2 => ?_, fun i d h1 h2 => ?_, E1.par, E1.inj, E.base, E.dom, E.zh, E.tabs, fun i a dx ds h => ?_, fun f c q h => ?_⟩
  · by_cases hi : i ∈ vs
    · rw [(restE_get e1 vs e i).2, if_pos ⟨hi, by rw [le]; exact lt_of_get h1⟩] at h2
      obtain ⟨v, q1, q2⟩ := E1.shr i d h1 (rdS_some (Option.some.inj h2))
      exact ⟨v, q1, Rep.mono k _ _ q2⟩
    · rw [rn hi] at h2
      obtain ⟨v, q1, q2⟩ := E.shr i d h1 (by rw [wipeE_not hi]; exact h2)
      rw [wipe_not hi] at q1
      rw [zt_wipe hv] at q2
      exact ⟨v, q1, q2⟩
  · have hi := hv.not h1 (by decide)
    rw [rn hi] at h2
    obtain ⟨v, q1, q2⟩ := E.brw i d h1 (by rw [wipeE_not hi]; exact h2)
    rw [wipe_not hi] at q1
    rw [zt_wipe hv, zo_wipe hv] at q2
    exact ⟨v, q1, q2⟩
  · have hi := hv.not h1 (by decide)
    rw [rn hi] at h2
    have q := E.frz i d h1 (by rw [wipeE_not hi]; exact h2)
    rw [wipe_not hi] at q
    exact q
  · have hi := hv.not h1 (by decide)
    have q := E.own i v h1 (by rw [wipe_not hi]; exact h2)
    rw [wipeE_not hi, zt_wipe hv] at q
    rw [rn hi]
    exact q
  · have hi := hv.not h1 (by decide)
    rw [rn hi] at h2
    have q := E.ownE i d h1 (by rw [wipeE_not hi]; exact h2)
    rw [wipe_not hi] at q
    exact q
  · obtain ⟨q1, q2, q3⟩ := E.exo i a dx ds h
    have hi : i ∉ vs := fun z => (hv i z).2.1 a dx ds h
    rw [wipe_not hi] at q1
    rw [zt_wipe hv] at q3
    exact ⟨q1, q2, q3⟩
  · have hi : 0 ∉ vs := fun z => by rw [(hv 0 z).2.2 rfl] at h; cases h
    have q1 := E.lam f c q h
    rw [wipe_not hi] at q1
    exact q1
end
theorem RepL.monoZ {Z Z' : AS} {H : Hp} {ds : List PB.D} {xs : List V} (h : RepL Z H ds xs) (q : ∀ a, Z' a → Z a) : RepL Z' H ds xs := RepL.mono (Kp.sub q) _ _ h
theorem bnd0_ok {α β : Type} {m : Option (R α)} {f : α → En → Option (R β)} {y : R β} (h : bnd0 m f = some y) : ∃ a e, m = some (.ok a e) ∧ f a e = some y := by
  unfold bnd0 at h
  cases m with
  | none => cases h
  | some r => cases r with
    | ok a e => exact ⟨a, e, rfl, h⟩
    | xc x e => cases h
theorem Wt_bnd0 {α β : Type} {m : Option (R α)} {f : α → En → Option (R β)} {P : β → En → Prop} {Xc : Exn → En → Prop} (h : Wt (bnd0 m f) P Xc) : ∃ a e, m = some (.ok a e) ∧ Wt (f a e) P Xc := by
  unfold bnd0 at h
  cases m with
  | none => exact h.elim
  | some r => cases r with
    | ok a e => exact ⟨a, e, rfl, h⟩
    | xc x e => exact h.elim
/-- nothing is raised within a block -/
def noX : WX := fun _ _ _ _ => False
section
variable {X : Cx} {Γ : Gm} {fq : Nat → Bool} {XW : WX} {G : Gx} {a b c elt : C} {tg ex : Expr} {vs : List Nat}
theorem fresh_ne {H : Hp} {D a : Addr} {o : HO} (hD : H D = none) (h : H a = some o) : a ≠ D := fun z => by rw [z, hD] at h; cases h
theorem lc_read (hks : G.ks = Γ.ks) (hv : vsOk Γ vs) (ht : ∀ i ∈ slotsG a, i ∈ vs) {σ : L2.St} {H : Hp} {Q : VK} (q : rdE Γ fq XW G (.lc vs a c b elt) σ H Q) : tLc (rdI Γ XW G c) (rdG Γ a) (rdT Γ noX G b) (rdE Γ fq noX G elt) vs σ H Q := by
  obtain ⟨F, e, E, w⟩ := q
  simp only [ev, hks] at w
  refine ⟨F, e, E, (Wt_bnd w).imp (fun d e1 w1 => ?_) fun _ _ q => q⟩
  obtain ⟨ds, q1, w1⟩ := Wt_bind w1
  refine ⟨ds, q1, fun J H1 k1 E1 it D hD => ?_⟩
  obtain ⟨Gd, Y, wk, hG, hY⟩ := it
  obtain ⟨L, eL, hloop, w2⟩ := Wt_bnd0 w1
  obtain ⟨hlim, w2⟩ := Wt_ite w2
  generalize hstep : (fun (x : PB.D) (e2 : En) => (asgT Γ.ks a x (wipeE e2 vs)).bind fun e3 => bnd0 (ev b G e3) fun t e4 => (finT b t e4).bind fun t => if t = true then bnd0 (ev elt G e4) fun y e5 => if isLoc elt = true then none else some (R.ok (some y) e5) else some (R.ok (none : Option PB.D) e4)) = step at hloop
  have D0 : F.H0 D = none := E1.h0 hD
  have Dz : ¬ zt Γ F σ D := fun z => (E1.ztH D z).1 hD
  have Ds : ∀ {σ : L2.St}, ¬ zt Γ F σ D → ¬ zs Γ (F.add D) σ D := fun {σ} n z => by
    rcases z with z | z
    · exact n (.inr z)
    · exact z.2 (.inr rfl)
  have x0 : Ex H1 (upd H1 D (.lst [])) := Ex.new hD
  have E0 : ER Γ (F.add D) (upd H1 D (.lst [])) σ e1 := E1.extZ x0 fun q hq => by
    rcases hq with hq | hq
    · exact .inl hq
    · subst hq
      exact .inr ⟨hD, (by intro z; rw [upd_same] at z; cases z), (by intro _ z; rw [upd_same] at z; cases z), (by intro _ z; rw [upd_same] at z; cases z)⟩
  have kz0 : Kp (zt Γ F σ) (zt Γ (F.add D) σ) H1 (upd H1 D (.lst [])) := kp_of (fun q o hq _ _ => x0 q o hq) fun q hq => hq.imp id fun (z : q = D) => by rw [z]; exact hD
  have ks0 : Kp (zs Γ F σ) (zs Γ F σ) H1 (upd H1 D (.lst [])) := x0.kp
  refine lc_it wk (fun i H' => ∃ e' acc accV l, ER Γ (F.add D) H' (wipe σ vs) (wipeE e' vs) ∧ Kp (zt Γ F σ) (zt Γ (F.add D) σ) H1 H' ∧ Kp (zs Γ F σ) (zs Γ F σ) H1 H' ∧ (∀ q, H1 q ≠ none → H' q ≠ none) ∧ H' D = some (.lst accV) ∧ RepL (zt Γ (F.add D) σ) H' acc accV ∧
    lcLoop step (ds.drop i) e' = some (.ok l eL) ∧ acc ++ l = L) ⟨e1, [], [], L, E0.wiped hv, kz0, ks0, fun q hq => upd_dom q hq, upd_same, rfl, by rw [List.drop_zero]; exact hloop, rfl⟩ ?_ ?_ ?_
  · rintro i H' hi ⟨e', acc, accV, l, E', kz, kk, dm, _⟩
    exact hG _ _ H' kz kk.so
  · rintro i x H' H'' hi ⟨e', acc, accV, l, E', kz, kk, dm, hDD, rA, hl, hL⟩ y
    have zw := zt_wipe (F := F.add D) (σ := σ) hv
    have zw0 := zt_wipe (F := F) (σ := σ) hv
    have sw := zs_wipe (F := F.add D) (σ := σ) hv
    obtain ⟨x1, d, q2, r⟩ := hY i x _ H' H'' kz hi (by rw [← zw]; exact E'.ztH) y
    have hlt := lt_of_get q2
    have ed : ds.drop i = d :: ds.drop (i + 1) := by
      rw [List.drop_eq_getElem_cons hlt]
      congr 1
      rw [List.getElem?_eq_getElem hlt] at q2
      exact Option.some.inj q2
    rw [ed] at hl
    simp only [lcLoop] at hl
    obtain ⟨o, e6, hst, hl⟩ := bnd0_ok hl
    obtain ⟨l', e7, hl2, hl3⟩ := bnd0_ok hl
    cases hl3
    rw [← hstep] at hst
    obtain ⟨e3, q3, hst⟩ := Option.bind_eq_some_iff.mp hst
    obtain ⟨t, e4, q4, hst⟩ := bnd0_ok hst
    obtain ⟨tt, q5, hst⟩ := Option.bind_eq_some_iff.mp hst
    have s1 : Sp Γ (F.add D) (wipe σ vs) H' H'' := x1.sp
    refine ⟨F.add D, wipeE e' vs, d, e3, E'.ext x1, by rw [zw]; exact r, q3, fun σ2 E2 z2 y2 => ⟨?_, ?_⟩⟩
    · rw [y2 vs ht]
      have : ∀ us : List Nat, (∀ i ∈ us, i ∈ vs) → wipe (wipe σ vs) us = wipe σ vs := by
        intro us
        induction us with
        | nil => intro _; rfl
        | cons u us ih =>
          intro hu
          show (wipe (wipe σ vs) us).set u none = wipe σ vs
          rw [ih fun i hi => hu i (List.mem_cons_of_mem _ hi)]
          have hm := hu u List.mem_cons_self
          apply List.ext_getElem?
          intro j
          by_cases hj : j = u
          · subst hj
            by_cases hlt : j < σ.length
            · rw [List.getElem?_set_self (by rw [(wipe_get vs σ 0).1]; exact hlt), (wipe_get vs σ j).2, if_pos ⟨hm, hlt⟩]
            · rw [List.getElem?_eq_none (by rw [List.length_set, (wipe_get vs σ 0).1]; omega), List.getElem?_eq_none (by rw [(wipe_get vs σ 0).1]; omega)]
          · rw [get_set hj]
      exact this vs fun _ q => q
    have zz : zt Γ (F.add D) σ2 = zt Γ (F.add D) σ := by unfold zt; rw [z2, osS_wipe hv]
    have zz0 : zt Γ F σ2 = zt Γ F σ := by unfold zt; rw [z2, osS_wipe hv]
    have zzs : zs Γ (F.add D) σ2 = zs Γ (F.add D) σ := by unfold zs; rw [z2, osS_wipe hv]
    have wp2 : wipe σ2 vs = wipe σ vs := by
      rw [y2 vs ht]
      apply List.ext_getElem?
      intro j
      rw [(wipe_get vs (wipe σ vs) j).2, (wipe_get vs σ j).2, (wipe_get vs σ 0).1]
      split <;> rfl
    have Dn : ¬ zs Γ (F.add D) σ D := Ds Dz
    have keepD : ∀ {Ha Hb : Hp}, Sp Γ (F.add D) σ2 Ha Hb → Ha D = some (.lst accV) → Hb D = some (.lst accV) := fun k h => by
      have ko := k.ko
      rw [zzs] at ko
      exact (ko D _ h (fun ps z => by cases z) Dn).1
    have sub : ∀ {Ha Hb : Hp}, Sp Γ (F.add D) σ2 Ha Hb → (Ha D = some (.lst accV)) → Kp (zt Γ F σ) (zt Γ (F.add D) σ) H1 Ha → Kp (zs Γ F σ) (zs Γ F σ) H1 Ha → (∀ q, H1 q ≠ none → Ha q ≠ none) → Kp (zt Γ F σ) (zt Γ (F.add D) σ) H1 Hb ∧ Kp (zs Γ F σ) (zs Γ F σ) H1 Hb ∧ ∀ q, H1 q ≠ none → Hb q ≠ none := fun {Ha Hb} k _ a1 a2 a3 => by
      have kp := k.kp
      have ko := k.ko
      rw [zz] at kp
      rw [zzs] at ko
      refine ⟨a1.trans kp, fun q o hq hn hz => ?_, fun q hq => k.dom q (a3 q hq)⟩
      have b1 := a2 q o hq hn hz
      refine ⟨(ko q o b1.1 hn fun z => hz ?_).1, hz⟩
      rcases z with z | z
      · exact .inl z
      · exact .inr ⟨z.1, fun y => z.2 (.inl y)⟩
    have c0 : Kp (zt Γ F σ) (zt Γ (F.add D) σ) H1 H'' ∧ Kp (zs Γ F σ) (zs Γ F σ) H1 H'' ∧ ∀ q, H1 q ≠ none → H'' q ≠ none := ⟨kz.trans x1.kp, kk.trans x1.kp, fun q hq => (x1.sp (Γ := Γ) (F := F) (σ := σ)).dom q (dm q hq)⟩
    have hD2 : H'' D = some (.lst accV) := x1 D _ hDD
    have rA2 : RepL (zt Γ (F.add D) σ) H'' acc accV := RepL.mono x1.kp _ _ rA
    refine ⟨F.add D, e3, E2, Wt.ifs ?_ q4.symm⟩
    refine ⟨tt, q5, fun H3 k3 E3 => ?_⟩
    have c3 := sub k3 hD2 c0.1 c0.2.1 c0.2.2
    have hD3 := keepD k3 hD2
    have kz3 := k3.kp
    rw [zz] at kz3
    have rA3 : RepL (zt Γ (F.add D) σ) H3 acc accV := RepL.mono kz3 _ _ rA2
    cases tt with
    | false =>
      cases hst
      exact ⟨_, acc, accV, l', by rw [← wp2]; exact E3.wiped hv, c3.1, c3.2.1, c3.2.2, hD3, rA3, hl2, hL⟩
    | true =>
      obtain ⟨yv, e5, q6, hst⟩ := bnd0_ok hst
      split at hst
      · cases hst
      · rename_i hloc
        cases hst
        refine ⟨F.add D, e4, E3, Wt.ifs ?_ q6.symm⟩
        intro v H4 k4 E4 r4
        have rv := r4.1.rep (by simpa using hloc)
        rw [zz] at rv
        have c4 := sub k4 hD3 c3.1 c3.2.1 c3.2.2
        have hD4 := keepD k4 hD3
        have kz4 := k4.kp
        rw [zz] at kz4
        have rA4 : RepL (zt Γ (F.add D) σ) H4 acc accV := RepL.mono kz4 _ _ rA3
        have hlen := RepL.length _ _ rA4
        have dz : zt Γ (F.add D) σ D := .inl (.inr rfl)
        have kD : Kp (zt Γ (F.add D) σ) (zt Γ (F.add D) σ) H4 (upd H4 D (.lst (accV ++ [v]))) := fun q o hq _ hz => ⟨by rw [upd_ne (fun z => hz (by rw [z]; exact dz))]; exact hq, hz⟩
        refine ⟨accV, hD4, ?_, e6, acc ++ [yv], accV ++ [v], l', ?_, c4.1.trans kD, ?_, fun q hq => upd_dom q (c4.2.2 q hq), upd_same, RepL.mono kD _ _ (RepL.append _ _ _ _ rA4 ⟨v, [], rfl, rv, rfl⟩), hl2, by rw [List.append_assoc]; exact hL⟩
        · have h1 : acc.length ≤ L.length := by rw [← hL]; simp
          have := sizeLine_eq
          unfold lim at hlim
          omega
        · rw [← wp2]
          exact (E4.wrZ hD4 (.inr rfl) D0).wiped hv
        · intro q o hq hn hz
          have b1 := c4.2.1 q o hq hn hz
          exact ⟨by rw [upd_ne (fresh_ne hD hq)]; exact b1.1, hz⟩
  · rintro H' ⟨e', acc, accV, l, E', kz, kk, dm, hDD, rA, hl, hL⟩
    rw [List.drop_length] at hl
    cases hl
    rw [List.append_nil] at hL
    subst hL
    have Ef : ER Γ F H' σ (restE e1 eL vs) := E'.unadd.rest E1 (fun q o hq hn hz => ⟨(kz q o hq hn hz).1, hz⟩) hv
    have EfD : ER Γ (F.add D) H' σ (restE e1 eL vs) := E'.rest E0 (fun q o hq hn hz => by
      by_cases hqD : q = D
      · subst hqD; exact absurd (.inl (.inr rfl)) hz
      · rw [upd_ne hqD] at hq
        exact ⟨(kz q o hq hn fun z => hz (z.imp .inl id)).1, hz⟩) hv
    have own : Own (addZ (zt Γ F σ) D) H' D (.lst acc) := ⟨accV, hDD, rA.monoZ fun q hq => by
      rcases hq with (hq | hq) | hq
      · exact .inl (.inl hq)
      · exact .inr hq
      · exact .inl (.inr hq)⟩
    refine w2 (.ref D) H' (k1.trans ⟨fun q o hq hn hz => ⟨(kz q o hq hn hz).1, hz⟩, kk, dm⟩) Ef ⟨⟨D, accV, rfl, ⟨Dz, hDD⟩, rA.monoZ fun q hq => ?_⟩, fun _ _ => ⟨D, rfl, ?_, D0, Dz, EfD, own⟩⟩
    · exact hq.imp .inl id
    · cases qa : H D with
      | none => rfl
      | some o => exact absurd hD (k1.dom D (by rw [qa]; exact fun z => nomatch z))
theorem E_lc (hks : G.ks = Γ.ks) (hv : vsOk Γ vs) (ht : ∀ i ∈ slotsG a, i ∈ vs) (h : PE X ex (tLc (rdI Γ XW G c) (rdG Γ a) (rdT Γ noX G b) (rdE Γ fq noX G elt) vs)) : PE X ex (rdE Γ fq XW G (.lc vs a c b elt)) := PEimp h fun _ _ _ q => lc_read hks hv ht q
theorem S_asgLc {fr : Bool} {st : Stmt} (hks : G.ks = Γ.ks) (hv : vsOk Γ vs) (ht : ∀ i ∈ slotsG a, i ∈ vs) {i : Nat} (hx : Fre Γ i) (h : PS X st (tAsg (tLc (rdI Γ XW G c) (rdG Γ a) (rdT Γ noX G b) (rdE Γ fq noX G elt) vs) (gName i))) :
    PS X st (rdSt Γ fr XW G (.asg (.var i) (.lc vs a c b elt))) := PSimp h fun D σ H q => lc_read hks hv ht (rdE_imp (asg_read hks (fun i z => by cases z) q) fun v H1 q => var_read hx q)
theorem S_asgLcO {fr : Bool} {st : Stmt} (hks : G.ks = Γ.ks) (hv : vsOk Γ vs) (ht : ∀ i ∈ slotsG a, i ∈ vs) {i : Nat} (hn : Γ.np ≤ i) (h : PS X st (tAsg (tLc (rdI Γ XW G c) (rdG Γ a) (rdT Γ noX G b) (rdE Γ fq noX G elt) vs) (gName i))) :
    PS X st (rdSt Γ fr XW G (.asg (.loc i) (.lc vs a c b elt))) := PSimp h fun D σ H q => lc_read hks hv ht (asgO_read hks hn rfl q)
end
end PB
set_option maxHeartbeats 4000000
/-! Im: calls of one's own defs: what is handed over, what comes back. -/
namespace PB
open PySem PySem.Spec PyProof.Rows L2

/-- the n-th argument -/
def argC : C → Nat → Option C
  | .cons c _, 0 => some c
  | .cons _ b, i + 1 => argC b i
  | _, _ => none
def lentV (kk : List Kd) (vs : List V) : AS := fun a => ∃ i : Nat, kk[i]? = some Kd.own ∧ vs[i]? = some (V.ref a)
/-- the arguments of a call: Z, what the caller's side owns -/
structure ArgR (T : List (Addr × Str)) (K : PySem.W.Frag) (kk : List Kd) (Z : AS) (H : Hp) (ds : List PB.D) (vs : List V) : Prop where
  lv : vs.length = kk.length
  ld : ds.length = kk.length
  shr : ∀ (i : Nat) d v, kk[i]? = some Kd.shr → ds[i]? = some d → vs[i]? = some v → Rep Z H d v
  own : ∀ (i : Nat) d v, kk[i]? = some Kd.own → ds[i]? = some d → vs[i]? = some v → ∃ a, v = .ref a ∧ Z a ∧ Own Z H a d
  brw : ∀ (i : Nat) d v, kk[i]? = some Kd.brw → ds[i]? = some d → vs[i]? = some v → RepO (lentV kk vs) Z H d v
  frz : ∀ (i : Nat) d v, kk[i]? = some Kd.frz → ds[i]? = some d → vs[i]? = some v → ∃ (a : Addr) (l : List Int), v = .ref a ∧ d = .lst (l.map PB.D.int) ∧ SqF K H a l
  inj : ∀ (i j : Nat) a, kk[i]? = some Kd.own → kk[j]? = some Kd.own → vs[i]? = some (V.ref a) → vs[j]? = some (V.ref a) → i = j
  zh : ∀ a, Z a → H a ≠ none ∧ (∀ xs, H a ≠ some (.tup xs)) ∧ ∀ ps, H a ≠ some (.tbl ps)
  tabs : LamX.Tabs T H
/-- behind a call -/
structure AftB (T : List (Addr × Str)) (kk : List Kd) (Z : AS) (vs : List V) (H H' : Hp) (o : En) : Prop where
  keep : ∀ a u, H a = some u → (∀ ps, u ≠ .tbl ps) → ¬ lentV kk vs a → H' a = some u
  dom : ∀ a, H a ≠ none → H' a ≠ none
  tabs : LamX.Tabs T H'
  lo : o.length = kk.length
  outs : ∀ (i : Nat) a, kk[i]? = some Kd.own → vs[i]? = some (V.ref a) → ∃ d, o[i]? = some (some d) ∧ Own Z H' a d
def AftC (T : List (Addr × Str)) (kk : List Kd) (fr : Bool) (Z : AS) (vs : List V) (H H' : Hp) (o : En) (d : PB.D) (v : V) : Prop :=
  AftB T kk Z vs H H' o ∧ Rep Z H' d v ∧ (fr = true → isHp d = true → ∃ p, v = .ref p ∧ H p = none ∧ Own (addZ Z p) H' p d ∧ ∀ (i : Nat) a e, kk[i]? = some Kd.own → vs[i]? = some (V.ref a) → o[i]? = some (some e) → Own (addZ Z p) H' a e)
def ExR (cA : Nat → Option Addr) (Z : AS) (H : Hp) (x : Exn) (cls : Value) (od : Option Addr) : Prop :=
  ∃ C, cA x.cls = some C ∧ cls = .ref C ∧ ∃ dx fs, od = some dx ∧ H dx = some (.xd fs) ∧ ∀ f d, x.flds.lookup f = some d → ∃ v, fs.lookup f = some v ∧ Rep Z H d v
/-- the promise of a def of the table -/
structure Ctx where
  T : Tb
  K : PySem.W.Frag
  tb : List (Addr × Str)
  cA : Nat → Option Addr
  fq : Nat → Bool
def Ctx.kk (Δ : Ctx) (f : Nat) : List Kd := match Δ.T.defs[f]? with
  | some d => d.ks.take d.np
  | none => []
def outC (Δ : Ctx) (f : Nat) (Z : AS) (vs : List V) (H : Hp) (Q : VK) (E : XK) : Option CO → Prop
  | none => False
  | some (.ok d o) => ∀ v H', AftC Δ.tb (Δ.kk f) (Δ.fq f) Z vs H H' o d v → Q v H'
  | some (.xc x o) => ∀ cls od H', AftB Δ.tb (Δ.kk f) Z vs H H' o → ExR Δ.cA Z H' x cls od → E cls od H'
def spI (Δ : Ctx) (n f : Nat) : L2.Sp := fun vs H Q E => ∃ Z ds, ArgR Δ.tb Δ.K (Δ.kk f) Z H ds vs ∧ outC Δ f Z vs H Q E (callN Δ.T n f none ds)

/-! ### the caller's side -/
/-- one argument -/
def ItemR (Γ : Gm) (F : Fm) (H : Hp) (σ : L2.St) (e : En) (k : Kd) (c : C) (d : PB.D) (v : V) : Prop := match k with
  | .shr => Rep (zt Γ F σ) H d v
  | .own => ∃ j, c = .loc j ∧ Γ.ks[j]? = some Kd.own ∧ rdS e j = some d ∧ σ[j]? = some (some v)
  | .brw => (∃ j, c = .loc j ∧ (Γ.ks[j]? = some Kd.own ∨ Γ.ks[j]? = some Kd.brw) ∧ rdS e j = some d ∧ σ[j]? = some (some v)) ∨ ((∀ j, c ≠ .loc j) ∧ Rep (zt Γ F σ) H d v)
  | .frz => ∃ j, c = .scr j ∧ Γ.ks[j]? = some Kd.frz ∧ rdS e j = some d ∧ σ[j]? = some (some v)
section
variable {Γ : Gm} {F : Fm} {H H1 : Hp} {σ : L2.St} {e : En}
theorem argL_items : ∀ {kk : List Kd} {a : C} {l ds : List PB.D} {vs : List V}, VRs Γ F H σ a l vs → argL Γ.ks kk a l e = some ds →
    ds.length = kk.length ∧ vs.length = kk.length ∧ ∀ (i : Nat) k d v, kk[i]? = some k → ds[i]? = some d → vs[i]? = some v → ∃ c, argC a i = some c ∧ ItemR Γ F H σ e k c d v
  | [], a, l, ds, vs, h, q => by
    cases a <;> cases l <;> simp only [argL] at q <;> first | cases q | skip
    cases h
    exact ⟨rfl, rfl, fun i k d v h => by simp at h⟩
  | k :: kk, a, l, ds, vs, h, q => by
    cases a <;> cases l <;> first | (simp only [argL] at q; cases q; done) | skip
    rename_i c b d0 l
    simp only [argL] at q
    obtain ⟨x, q1, q2⟩ := Option.bind_eq_some_iff.mp q
    obtain ⟨ds', q3, rfl⟩ := Option.map_eq_some_iff.mp q2
    obtain ⟨v0, r, rfl, h1, h2⟩ := h
    obtain ⟨i1, i2, i3⟩ := argL_items h2 q3
    refine ⟨by simp [i1], by simp [i2], fun i k' d v e1 e2 e3 => ?_⟩
    cases i with
    | succ i => exact i3 i k' d v (by simpa using e1) (by simpa using e2) (by simpa using e3)
    | zero =>
      simp at e1 e2 e3
      subst e1 e2 e3
      refine ⟨c, rfl, ?_⟩
      cases c with
      | loc j =>
        cases k <;> dsimp only at q1 <;> first | (cases q1; done) | skip
        · split at q1
          · exact ⟨j, rfl, by assumption, q1, h1⟩
          · cases q1
        · split at q1
          · exact .inl ⟨j, rfl, by assumption, q1, h1⟩
          · cases q1
      | scr j =>
        cases k <;> dsimp only at q1 <;> first | (cases q1; done) | skip
        split at q1
        · exact ⟨j, rfl, by assumption, q1, h1⟩
        · cases q1
      | _ =>
        cases k <;> dsimp only at q1 <;> first | (cases q1; done) | skip
        · cases q1; exact h1
        · cases q1; exact .inr ⟨(fun j z => by cases z), h1⟩
/-- no owned thing is handed over twice -/
def sepOk (kk : List Kd) (a : C) : Bool :=
  (List.range kk.length).all fun i => (List.range kk.length).all fun i' => match kk[i]?, argC a i, argC a i' with
    | some .own, some (.loc j), some (.loc j') => decide (i = i') || decide (j ≠ j')
    | _, _, _ => true
theorem sep_of {kk : List Kd} {a : C} (h : sepOk kk a = true) {i i' j : Nat} (hi : i < kk.length) (hi' : i' < kk.length) (h1 : kk[i]? = some Kd.own) (h2 : argC a i = some (.loc j)) (h3 : argC a i' = some (.loc j)) : i = i' := by
  unfold sepOk at h
  simp only [List.all_eq_true, List.mem_range] at h
  have q := h i hi i' hi'
  rw [h1, h2, h3] at q
  simpa using q
theorem argR_of {Ta : List (Addr × Str)} {Ka : PySem.W.Frag} (hT : Γ.T = Ta) (hK : Γ.K = Ka) (E : ER Γ F H σ e) {kk : List Kd} {a : C} {l ds : List PB.D} {vs : List V} (hs : sepOk kk a = true) (h : VRs Γ F H σ a l vs) (q : argL Γ.ks kk a l e = some ds) : ArgR Ta Ka kk (zt Γ F σ) H ds vs := by
  obtain ⟨ld, lv, it⟩ := argL_items h q
  have gd : ∀ {i : Nat} {k : Kd}, kk[i]? = some k → ∃ d v, ds[i]? = some d ∧ vs[i]? = some v := fun {i k} h => by
    have hi := lt_of_get h
    exact ⟨ds[i]'(by omega), vs[i]'(by omega), by simp, by simp⟩
  have lentO : ∀ ad, lentV kk vs ad → OsS Γ.ks σ ad := fun ad ⟨i, h1, h2⟩ => by
    obtain ⟨d, v, g1, g2⟩ := gd h1
    obtain ⟨c, _, j, _, j2, _, j4⟩ := it i _ d _ h1 g1 h2
    exact ⟨j, j2, j4⟩
  refine ⟨lv, ld, fun i d v h1 h2 h3 => ?_, fun i d v h1 h2 h3 => ?_, fun i d v h1 h2 h3 => ?_, fun i d v h1 h2 h3 => ?_, fun i j ad h1 h2 h3 h4 => ?_, fun ad h => ?_, hT ▸ E.tabs⟩
  · obtain ⟨c, _, r⟩ := it i _ d v h1 h2 h3
    exact r
  · obtain ⟨c, _, j, _, j2, j3, j4⟩ := it i _ d v h1 h2 h3
    obtain ⟨ad, r1, r2⟩ := E.own' j2 j4 (rdS_some j3)
    exact ⟨ad, r1, .inr ⟨j, j2, r1 ▸ j4⟩, r2⟩
  · obtain ⟨c, hc, r⟩ := it i _ d v h1 h2 h3
    rcases r with ⟨j, rfl, j2, j3, j4⟩ | ⟨_, r⟩
    · rcases j2 with j2 | j2
      · obtain ⟨ad, r1, r2⟩ := E.own' j2 j4 (rdS_some j3)
        subst r1
        have nl : ¬ lentV kk vs ad := fun ⟨i', g1, g2⟩ => by
          obtain ⟨d', v', g3, g4⟩ := gd g1
          obtain ⟨c', hc', j', rfl, p2, p3, p4⟩ := it i' _ d' _ g1 g3 g2
          have ej : j' = j := E.inj j' j ad p2 j2 p4 j4
          subst ej
          have ei := sep_of hs (lt_of_get g1) (lt_of_get h1) g1 hc' hc
          subst ei
          rw [g1] at h1
          cases h1
        have rb := Own.toB r2
        cases d with
        | lst xs => obtain ⟨a', ys, e1, e2, e3⟩ := rb; cases e1; exact ⟨_, ys, rfl, ⟨nl, e2.2⟩, e3⟩
        | dic t xs => obtain ⟨a', e1, e2, e3⟩ := rb; cases e1; exact ⟨_, rfl, nl, e3⟩
        | _ => exact r2.elim
      · obtain ⟨w, r1, r2⟩ := E.brw j d j2 (rdS_some j3)
        rw [j4] at r1
        cases r1
        exact RepO.mono (Kp.sub fun ad z => .inl (lentO ad z)) Kp.refl _ _ r2
    · exact Rep.toO (fun ad z => .inr (lentO ad z)) _ _ r
  · obtain ⟨c, _, j, _, j2, j3, j4⟩ := it i _ d v h1 h2 h3
    obtain ⟨ad, li, r1, rfl, r3, r4⟩ := E.frz j d j2 (rdS_some j3)
    rw [j4] at r1
    cases r1
    exact ⟨ad, li, rfl, rfl, hK ▸ E.sq r3 r4⟩
  · obtain ⟨d1, v1, g1, g2⟩ := gd h1
    obtain ⟨d2, v2, g3, g4⟩ := gd h2
    obtain ⟨c1, hc1, j1, rfl, p2, p3, p4⟩ := it i _ d1 _ h1 g1 h3
    obtain ⟨c2, hc2, j2, rfl, s2, s3, s4⟩ := it j _ d2 _ h2 g3 h4
    have ej : j1 = j2 := E.inj j1 j2 ad p2 s2 p4 s4
    subst ej
    exact sep_of hs (lt_of_get h1) (lt_of_get h2) h1 hc1 hc2
  · rcases h with h | ⟨j, h1, h2⟩
    · exact E.zh ad h
    · obtain ⟨a', d, q1, _, _, _, _, o⟩ := E.own j _ h1 h2
      cases q1
      exact ⟨o.there, o.notTup, o.notTbl⟩
/-- what comes back into the owned slots -/
theorem backL_get : ∀ {kk : List Kd} {a : C} {o e e2 : En}, backL kk a o e = some e2 → e2.length = e.length ∧
    (∀ j, (∀ i : Nat, kk[i]? = some Kd.own → argC a i ≠ some (.loc j)) → e2[j]? = e[j]?) ∧
    (∀ i j : Nat, kk[i]? = some Kd.own → argC a i = some (.loc j) → (∀ i' : Nat, kk[i']? = some Kd.own → argC a i' = some (.loc j) → i' = i) → j < e.length → ∃ d, o[i]? = some (some d) ∧ e2[j]? = some (some d))
  | [], a, o, e, e2, h => by
    cases a <;> simp only [backL] at h <;> first | cases h | skip
    exact ⟨rfl, fun j _ => rfl, fun i j h => by simp at h⟩
  | k :: kk, a, o, e, e2, h => by
    cases a <;> first | (simp only [backL] at h; cases h; done) | skip
    rename_i c b
    cases o with
    | nil => simp [backL] at h
    | cons o0 o =>
      simp only [backL] at h
      obtain ⟨e1, h1, h2⟩ := Option.bind_eq_some_iff.mp h
      obtain ⟨r1, r2, r3⟩ := backL_get h2
      by_cases hk : k = .own
      · subst hk
        have : ∃ j0 d0, c = .loc j0 ∧ o0 = some d0 ∧ e1 = e.set j0 (some d0) := by
          cases c <;> cases o0 <;> first | (cases h1; done) | skip
          cases h1
          exact ⟨_, _, rfl, rfl, rfl⟩
        obtain ⟨j0, d0, rfl, rfl, rfl⟩ := this
        refine ⟨r1.trans (List.length_set ..), fun j hj => ?_, fun i j e3 e4 hu hl => ?_⟩
        · have n0 : j ≠ j0 := fun z => hj 0 rfl (by rw [z]; rfl)
          rw [r2 j fun i hi => hj (i + 1) (by simpa using hi), get_set n0]
        · cases i with
          | zero =>
            cases e4
            refine ⟨d0, rfl, ?_⟩
            rw [r2 j0 fun i hi hc => by have := hu (i + 1) (by simpa using hi) hc; omega, List.getElem?_set_self hl]
          | succ i =>
            have e3' : kk[i]? = some Kd.own := by simpa using e3
            obtain ⟨d, s1, s2⟩ := r3 i j e3' e4 (fun i' q1 q2 => by have := hu (i' + 1) (by simpa using q1) q2; omega) (by rw [List.length_set]; exact hl)
            exact ⟨d, by simpa using s1, s2⟩
      · have : e1 = e := by
          cases k <;> first | exact absurd rfl hk | (simp at h1; exact h1.symm)
        subst this
        refine ⟨r1, fun j hj => r2 j fun i hi => hj (i + 1) (by simpa using hi), fun i j e3 e4 hu hl => ?_⟩
        cases i with
        | zero => simp at e3; exact absurd e3 hk
        | succ i =>
          have e3' : kk[i]? = some Kd.own := by simpa using e3
          obtain ⟨d, s1, s2⟩ := r3 i j e3' e4 (fun i' q1 q2 => by have := hu (i' + 1) (by simpa using q1) q2; omega) hl
          exact ⟨d, by simpa using s1, s2⟩
/-- the caller's state behind the call; Z', what is others' then -/
theorem ER.aft {Ta : List (Addr × Str)} (hT : Γ.T = Ta) (E : ER Γ F H σ e) {kk : List Kd} {a : C} {l ds : List PB.D} {vs : List V} (hs : sepOk kk a = true) (h : VRs Γ F H σ a l vs) (q : argL Γ.ks kk a l e = some ds) {o e2 : En} {Z' : AS}
    (A : AftB Ta kk (zt Γ F σ) vs H H1 o) (hb : backL kk a o e = some e2) (hZ : ∀ ad, Z' ad → F.Z ad ∨ (H ad = none ∧ H1 ad ≠ none ∧ (∀ xs, H1 ad ≠ some (.tup xs)) ∧ ∀ ps, H1 ad ≠ some (.tbl ps)))
    (ho : ∀ (i : Nat) ad d, kk[i]? = some Kd.own → vs[i]? = some (V.ref ad) → o[i]? = some (some d) → Own (zt Γ (F.wz Z') σ) H1 ad d) : ER Γ (F.wz Z') H1 σ e2 := by
  obtain ⟨ld, lv, it⟩ := argL_items h q
  have gd : ∀ {i : Nat} {k : Kd}, kk[i]? = some k → ∃ d v, ds[i]? = some d ∧ vs[i]? = some v := fun {i k} h => by
    have hi := lt_of_get h
    exact ⟨ds[i]'(by omega), vs[i]'(by omega), by simp, by simp⟩
  have lentO : ∀ ad, lentV kk vs ad → OsS Γ.ks σ ad := fun ad ⟨i, h1, h2⟩ => by
    obtain ⟨d, v, g1, g2⟩ := gd h1
    obtain ⟨c, _, j, _, j2, _, j4⟩ := it i _ d _ h1 g1 h2
    exact ⟨j, j2, j4⟩
  obtain ⟨b1, b2, b3⟩ := backL_get hb
  have k : ∀ ad u, H ad = some u → (∀ ps, u ≠ .tbl ps) → ¬ OsS Γ.ks σ ad → H1 ad = some u := fun ad u hu n z => A.keep ad u hu n fun y => z (lentO ad y)
  have kp : Kp (zt Γ F σ) (zt Γ (F.wz Z') σ) H H1 := kp_of k fun ad q => (hZ ad q).imp id fun q => q.1
  have cases' : ∀ j, (∃ i : Nat, kk[i]? = some Kd.own ∧ argC a i = some (.loc j)) ∨ ∀ i : Nat, kk[i]? = some Kd.own → argC a i ≠ some (.loc j) := fun j => by
    by_cases hx : ∃ i : Nat, kk[i]? = some Kd.own ∧ argC a i = some (.loc j)
    · exact .inl hx
    · exact .inr fun i h1 h2 => hx ⟨i, h1, h2⟩
  have slot : ∀ {i j : Nat}, kk[i]? = some Kd.own → argC a i = some (.loc j) → Γ.ks[j]? = some Kd.own ∧ ∃ v, vs[i]? = some v ∧ σ[j]? = some (some v) := fun {i j} h1 h2 => by
    obtain ⟨d, v, g1, g2⟩ := gd h1
    obtain ⟨c, hc, j', rfl, p2, p3, p4⟩ := it i _ d v h1 g1 g2
    rw [h2] at hc
    cases hc
    exact ⟨p2, v, g2, p4⟩
  refine E.next k hZ b1 (fun j hj => b2 j fun i h1 h2 => hj (slot h1 h2).1) A.dom (hT ▸ A.tabs) (fun j ad h1 h2 => ?_) (fun j d h1 h2 => ?_)
  · rcases cases' j with ⟨i, c1, c2⟩ | hn
    · obtain ⟨_, v, s1, s2⟩ := slot c1 c2
      rw [h2] at s2
      cases s2
      obtain ⟨d, t1, t2⟩ := b3 i j c1 c2 (fun i' q1 q2 => (sep_of hs (lt_of_get c1) (lt_of_get q1) c1 c2 q2).symm) (by rw [E.le]; exact lt_of_get h1)
      exact ⟨d, t2, ho i ad d c1 s1 t1⟩
    · obtain ⟨a', d0, r1, _, _, _, r5, r6⟩ := E.own j _ h1 h2
      cases r1
      have nl : ¬ lentV kk vs ad := fun ⟨i, g1, g2⟩ => by
        obtain ⟨d, v, g3, g4⟩ := gd g1
        obtain ⟨c, hc, j', rfl, p2, p3, p4⟩ := it i _ d _ g1 g3 g2
        have ej : j' = j := E.inj j' j ad p2 h1 p4 h2
        exact hn i g1 (ej ▸ hc)
      exact ⟨d0, (b2 j hn).trans r5, r6.mono (fun u hu => A.keep ad u hu (fun ps z => r6.notTbl ps (by rw [hu, z])) nl) kp⟩
  · rcases cases' j with ⟨i, c1, c2⟩ | hn
    · obtain ⟨_, v, s1, s2⟩ := slot c1 c2
      exact ⟨v, s2⟩
    · rw [b2 j hn] at h2
      exact E.ownE j d h1 h2
theorem aft_sp {Ta : List (Addr × Str)} {kk : List Kd} {a : C} {l ds : List PB.D} {vs : List V} (h : VRs Γ F H σ a l vs) (q : argL Γ.ks kk a l e = some ds) {o : En} {Z : AS} (A : AftB Ta kk Z vs H H1 o) : Sp Γ F σ H H1 := by
  obtain ⟨ld, lv, it⟩ := argL_items h q
  refine sp_of (fun ad u hu n z => A.keep ad u hu n fun ⟨i, h1, h2⟩ => z ?_) A.dom
  have hi := lt_of_get h1
  obtain ⟨c, _, j, _, j2, _, j4⟩ := it i _ (ds[i]'(by omega)) _ h1 (by simp) h2
  exact ⟨j, j2, j4⟩
end
/-- a call's reading -/
def tCallG (sp : L2.Sp) (XW : WX) (t : TA) : TE := fun σ H Q => t σ H fun vs H1 => sp vs H1 Q fun cls d H2 => XW cls d σ H2
theorem E_call {X : Cx} {Γ : Gm} {XW : WX} {G : Gx} {a : C} {ex : Expr} {Δ : Ctx} {n f : Nat} (hT : Γ.T = Δ.tb) (hKK : Γ.K = Δ.K) (hc : Γ.cA = Δ.cA) (hks : G.ks = Γ.ks) (hcf : G.cf = callN Δ.T n) (hinf : G.info f = Δ.kk f) (hs : sepOk (Δ.kk f) a = true)
    (h : PE X ex (tCallG (spI Δ n f) XW (rdA Γ XW G a))) : PE X ex (rdE Γ Δ.fq XW G (.call f a)) := PEimp h fun σ H Q q => by
  obtain ⟨F, e, E, w⟩ := q
  simp only [ev, hks, hcf, hinf] at w
  refine ⟨F, e, E, (Wt_bnd w).imp (fun d1 e1 w1 => ?_) fun _ _ q => q⟩
  cases d1 with
  | lst l =>
    obtain ⟨ds, q1, w1⟩ := Wt_bind w1
    refine ⟨l, rfl, fun vs H1 k1 E1 rs => ⟨zt Γ F σ, ds, argR_of hT hKK E1 hs rs q1, ?_⟩⟩
    cases qc : callN Δ.T n f none ds with
    | none => rw [qc] at w1; exact w1.elim
    | some co =>
      rw [qc] at w1
      cases co with
      | ok d o =>
        dsimp only at w1
        cases qb : backL (Δ.kk f) a o e1 with
        | none => rw [qb] at w1; exact w1.elim
        | some e2 =>
          rw [qb] at w1
          intro v H2 ⟨A, r, fr⟩
          have k2 : Sp Γ F σ H1 H2 := aft_sp rs q1 A
          have E2 : ER Γ F H2 σ e2 := E1.aft (Z' := F.Z) hT hs rs q1 A qb (fun _ z => .inl z) fun i ad d' h1 h2 h3 => by
            obtain ⟨d2, t1, t2⟩ := A.outs i ad h1 h2
            rw [h3] at t1
            cases t1
            exact t2
          refine w1 v H2 (k1.trans k2) E2 ⟨r, fun hf => ?_⟩
          intro hd
          obtain ⟨p, e1', hp, op, os⟩ := fr hf hd
          refine ⟨p, e1', ?_, E1.h0 hp, fun z => (E1.ztH p z).1 hp, ?_, op⟩
          · cases qa : H p with
            | none => rfl
            | some u => exact absurd hp (k1.dom p (by rw [qa]; exact fun z => nomatch z))
          · refine E1.aft (Z' := addZ F.Z p) hT hs rs q1 A qb (fun ad z => ?_) fun i ad d' h1 h2 h3 => (os i ad d' h1 h2 h3).ofZ fun b z => ?_
            · rcases z with z | z
              · exact .inl z
              · subst z
                exact .inr ⟨hp, op.there, op.notTup, op.notTbl⟩
            · rcases z with (z | z) | z
              · exact .inl (.inl z)
              · exact .inr z
              · exact .inl (.inr z)
      | xc x o =>
        dsimp only at w1
        cases qb : backL (Δ.kk f) a o e1 with
        | none => rw [qb] at w1; exact w1.elim
        | some e2 =>
          rw [qb] at w1
          intro cls od H2 A r
          have k2 : Sp Γ F σ H1 H2 := aft_sp rs q1 A
          have E2 : ER Γ F H2 σ e2 := E1.aft (Z' := F.Z) hT hs rs q1 A qb (fun _ z => .inl z) fun i ad d' h1 h2 h3 => by
            obtain ⟨d2, t1, t2⟩ := A.outs i ad h1 h2
            rw [h3] at t1
            cases t1
            exact t2
          exact w1 cls od H2 (k1.trans k2) E2 (by unfold XR; rw [hc]; exact r)
  | _ => exact w1.elim
end PB
set_option maxHeartbeats 4000000
/-! In: a def's body and its promise. -/
namespace PB
open PySem PySem.Spec PyProof.Rows L2

/-- a def keeps its promise wherever no repr stands around -/
structure FnG (P : Program) (w : World) (K : PySem.W.Frag) (mg : Str → Option Value) (base : Heap) (gd : Bool) (k : Nat) (f : Addr) (fd : FuncData) (ps : List Str) (sp : L2.Sp) : Prop where
  len : ∀ vs H Q E, sp vs H Q E → vs.length = ps.length
  run : ∀ (A : Around) (outer : List Env) (s : Shared) (H : Hp) (args : Args) (us : List Value) (vs : List V) (Q : VK) (E : XK), (gd = true → A.guards = some []) → Room k A → Env0 P w K mg base A outer s H → BindsTo s fd args (ps.zip us) → Vals vs us →
    sp vs H Q E → codeAny (model P w) A (.call (.ref f) args) (CR (L2.CX P w) outer P w H s Q E) s
theorem FnG.mono {P : Program} {w : World} {K : PySem.W.Frag} {mg : Str → Option Value} {base : Heap} {gd : Bool} {j k : Nat} {f : Addr} {fd : FuncData} {ps : List Str} {sp : L2.Sp} (F : FnG P w K mg base gd j f fd ps sp) (h : j ≤ k) : FnG P w K mg base gd k f fd ps sp :=
  ⟨F.len, fun A outer s H args us vs Q E hg hr => F.run A outer s H args us vs Q E hg (hr.mono h)⟩
section
variable {P : Program} {w : World} {K : PySem.W.Frag} {mg : Str → Option Value} {base : Heap} {gd : Bool} {k : Nat} {f : Addr} {name qual : Str} {params : Arguments} {body : List Stmt} {scope : Scope} {dV kV doc pm cdv ct oc : Value} {an od : Option Addr}
  {osl : Array (Option Value)} {N ps : List Str} {sp : L2.Sp}
/-- a def, by its body's reading -/
theorem fnG_of (lk : K.lookup f = some ⟨oc, od, .func (PySem.W.fnOf name qual params body scope dV kV doc pm an cdv ct), osl⟩) (hcd : PySem.W.codeIn K cdv qual = true) (S : FnScope N ps scope) (hlen : ∀ vs H Q E, sp vs H Q E → vs.length = ps.length)
    (hb : ∀ (A : Around) (outer : List Env) (s : Shared) (H : Hp) (vs : List V) (Q : VK) (E : XK), (gd = true → A.guards = some []) → Room (k + 1) A → sp vs H Q E →
      ∃ t, PSs (cxOf (L2.CX P w) P w K mg base N qual scope f cdv A outer s H E) body t ∧ t { nx := fun _ H' => Q .non H', rt := Q } (L2.start N vs) H) :
    FnG P w K mg base gd (k + 1) f (PySem.W.fnOf name qual params body scope dV kV doc pm an cdv ct) ps sp := by
  refine ⟨hlen, ?_⟩
  intro A outer s H args us vs Q E gds room e0 bd rel pr
  have ev0 : vs.length = ps.length := hlen vs H Q E pr
  have inK : K.In s.heap := e0.mod.kin.keeps (fun q u z => (e0.bs q u z).1)
  have nolim : s.heap.NoLimit := e0.mod.nolimit.keeps (fun q u z => (e0.bs q u z).1)
  have kinds : ∀ q ∈ ps.zip us, scope.names.lookup q.1 = some .local ∨ (scope.names.lookup q.1 = some .cell ∧ ((cellsFrom (s.heap.objs.size + 1) scope.names []).lookup q.1).isSome = true) := by
    rintro ⟨z, u⟩ hz
    have hm := (List.of_mem_zip hz).1
    cases S.par z hm with
    | inl q => exact Or.inl q
    | inr q => exact Or.inr ⟨q, PySem.W.cellsFrom_some _ _ _ (Or.inl q)⟩
  refine codeAny_call_function room.depth (inK _ _ lk) rfl S.co S.gen rfl (PySem.W.codeRec_of inK hcd) (bd _ _ _ _ ?_)
  apply wpAny_newFunctionEnv_cells S.kind kinds
  intro env ee s1 st
  subst ee
  refine ⟨nolim.keeps st.toInCall.keep, codeAny_func ?_⟩
  obtain ⟨t, pt, qt⟩ := hb A outer s H vs Q E gds room pr
  have J : Inv (cxOf (L2.CX P w) P w K mg base N qual scope f cdv A outer s H E) [] (L2.start N vs) H s1 := inv_start S room.hd e0 ev0 rel st
  refine wpAny_mono (pt.run [] s1 (L2.start N vs) H _ J qt) ?_ (fun e s' z => z)
  intro fl s' z
  have out : ∀ {σ' : L2.St} {H' : Hp} {v : V} {u : Value}, Inv (cxOf (L2.CX P w) P w K mg base N qual scope f cdv A outer s H E) [] σ' H' s' → RelV v u → Q v H' → CE outer P w H s Q u s' := by
    intro σ' H' v u J' rv q
    exact ⟨v, H', J'.os, J'.bare, J'.base, J'.hok, rv, q⟩
  match fl, z with
  | .ret u, ⟨v, σ', H', J', rv, q⟩ => exact out J' rv q
  | .next, ⟨σ', H', J', q⟩ => exact out (v := .non) (u := .none) J' rfl q
  | .brk, ⟨_, _, _, q⟩ => exact q.elim
  | .cont, ⟨_, _, _, q⟩ => exact q.elim
end
section
variable {X : Cx} {gd : Bool} {k : Nat} {f : Addr} {fd : FuncData} {ps : List Str} {sp : L2.Sp} {XW : WX} {x : Str} {p pos : Pos} {e : Expr} {es : List Expr} {t : TA}
theorem run_fnG {pins : List (Addr × Obj)} {σ : L2.St} {H : Hp} {s : Shared} {Q : VK} {us : List Value} {vs : List V} (F : FnG X.prog X.w X.K X.mg X.base gd k f fd ps sp) (hgd : gd = true → X.A.guards = some []) (hr : Room k X.A) (hb : Binds X.K fd ps []) (tk : Takes X XW)
    (I : Inv X pins σ H s) (r : Vals vs us) (h : sp vs H Q (fun cls d H2 => XW cls d σ H2)) : wpAny (model X.prog X.w) X.A (call (.ref f) us) (EP X pins σ Q) X.xe s := by
  have hn : us.length = ps.length := (Paired.length r).symm.trans (F.len vs H Q _ h)
  have bd := hb s us I.kIn (by rw [List.append_nil]; exact hn)
  rw [List.append_nil] at bd
  refine wpAny_call (codeAny_mono (F.run X.A X.stack s H ⟨us, []⟩ us vs Q _ hgd hr I.env0 bd r h) ?_)
  intro res s' z
  match res, z with
  | .error ev, z => exact passAt tk σ pins H s ev s' I z
  | .ok (.ret u), z => exact I.after z
  | .ok .next, z => exact z.elim
  | .ok .brk, z => exact z.elim
  | .ok .cont, z => exact z.elim
theorem pe_callG (F : FnG X.prog X.w X.K X.mg X.base gd k f fd ps sp) (hgd : gd = true → X.A.guards = some []) (hr : Room k X.A) (hg : Gl X x) (hm : X.mg x = some (.ref f)) (hk : PySem.W.keepIn X.K (.ref f) = true) (hb : Binds X.K fd ps []) (tk : Takes X XW)
    (ha : PA X (e :: es) t) (hdb : (x == ("__debug__" : Str)) = false) (he : starEach (e :: es) X.env = (false, eval e X.env) :: starEach es X.env) (hpl : (backTo pos (starEach es X.env)).any (·.1) = false) :
    PE X (.Call (.Name x p) (e :: es) [] pos) (tCallG sp XW t) := ⟨by
  intro pins s σ H Q I h
  refine wpAny_Call_Name_kw (ld_glob I hg hm (PySem.W.callWith_K (h₀ := X.base) I.ok.mod.kin hk (thn (ha.run pos pins s σ H _ I h) ?_) he hpl) hdb)
  rintro us s1 ⟨vs, H1, I1, r, q⟩
  exact ⟨I1.kIn, run_fnG F hgd hr hb tk I1 r q⟩⟩
theorem pe_callG0 (F : FnG X.prog X.w X.K X.mg X.base gd k f fd ps sp) (hgd : gd = true → X.A.guards = some []) (hr : Room k X.A) (hg : Gl X x) (hm : X.mg x = some (.ref f)) (hk : PySem.W.keepIn X.K (.ref f) = true) (hb : Binds X.K fd ps []) (tk : Takes X XW)
    (hdb : (x == ("__debug__" : Str)) = false) : PE X (.Call (.Name x p) [] [] pos) (tCallG sp XW tNil) := ⟨by
  intro pins s σ H Q I h
  refine wpAny_Call_Name_kw (ld_glob I hg hm (PySem.W.callWith_K0 I.kIn hk ?_) hdb)
  exact run_fnG (us := []) F hgd hr hb tk I .nil h⟩
end

/-! ### the callee's side -/
theorem start_get {N : List Str} {vs : List V} (hl : vs.length ≤ N.length) (i : Nat) : (L2.start N vs)[i]? = if i < vs.length then some (vs[i]?) else if i < N.length then some none else none := by
  unfold L2.start
  by_cases h : i < vs.length
  · rw [if_pos h, List.getElem?_append_left (by simpa using h), List.getElem?_map, List.getElem?_eq_getElem h]
    rfl
  · rw [if_neg h, List.getElem?_append_right (by simpa using h), List.getElem?_replicate, List.length_map]
    by_cases h2 : i < N.length
    · rw [if_pos h2, if_pos (by omega)]
    · rw [if_neg h2, if_neg (by omega)]
theorem e0_get {n : Nat} {ds : List PB.D} (hl : ds.length ≤ n) (i : Nat) : (ds.map some ++ List.replicate (n - ds.length) none)[i]? = if i < ds.length then some (ds[i]?) else if i < n then some none else none := by
  by_cases h : i < ds.length
  · rw [if_pos h, List.getElem?_append_left (by simpa using h), List.getElem?_map, List.getElem?_eq_getElem h]
    rfl
  · rw [if_neg h, List.getElem?_append_right (by simpa using h), List.getElem?_replicate, List.length_map]
    by_cases h2 : i < n
    · rw [if_pos h2, if_pos (by omega)]
    · rw [if_neg h2, if_neg (by omega)]
theorem take_get {ks : List Kd} {np i : Nat} {k : Kd} : (ks.take np)[i]? = some k ↔ i < np ∧ ks[i]? = some k := by
  rw [List.getElem?_take]
  split
  · exact ⟨fun h => ⟨by assumption, h⟩, fun h => h.2⟩
  · exact ⟨(fun h => by cases h), fun h => absurd h.1 (by assumption)⟩
section
variable {Γ : Gm} {H : Hp} {N : List Str} {Z : AS} {ds : List PB.D} {vs : List V}
theorem ER.start (hx : Γ.xo = none) (hlm : Γ.lam = none) (hN : N.length = Γ.ks.length) (hnp : Γ.np ≤ Γ.ks.length) (A : ArgR Γ.T Γ.K (Γ.ks.take Γ.np) Z H ds vs) :
    ER Γ ⟨fun a => Z a ∧ ¬ lentV (Γ.ks.take Γ.np) vs a, H, L2.start N vs⟩ H (L2.start N vs) (ds.map some ++ List.replicate (Γ.ks.length - ds.length) none) ∧ (∀ a, OsS Γ.ks (L2.start N vs) a ↔ lentV (Γ.ks.take Γ.np) vs a) ∧ (∀ a, LsS Γ.ks Γ.np (L2.start N vs) a ↔ lentV (Γ.ks.take Γ.np) vs a) ∧
      vs.length = Γ.np ∧ ds.length = Γ.np := by
  have tl : (Γ.ks.take Γ.np).length = Γ.np := by rw [List.length_take]; omega
  have lv : vs.length = Γ.np := A.lv.trans tl
  have ld : ds.length = Γ.np := A.ld.trans tl
  have sg : ∀ {i : Nat} {v : V}, (L2.start N vs)[i]? = some (some v) → i < Γ.np ∧ vs[i]? = some v := fun {i v} h => by
    rw [start_get (by omega)] at h
    split at h
    · exact ⟨by omega, Option.some.inj h⟩
    · split at h <;> cases h
  have gs : ∀ {i : Nat} {v : V}, vs[i]? = some v → (L2.start N vs)[i]? = some (some v) := fun {i v} h => by
    rw [start_get (by omega), if_pos (lt_of_get h), h]
  have eg : ∀ {i : Nat} {d : PB.D}, (ds.map some ++ List.replicate (Γ.ks.length - ds.length) none)[i]? = some (some d) → i < Γ.np ∧ ds[i]? = some d := fun {i d} h => by
    rw [e0_get (by omega)] at h
    split at h
    · exact ⟨by omega, Option.some.inj h⟩
    · split at h <;> cases h
  have ge : ∀ {i : Nat} {d : PB.D}, ds[i]? = some d → (ds.map some ++ List.replicate (Γ.ks.length - ds.length) none)[i]? = some (some d) := fun {i d} h => by
    rw [e0_get (by omega), if_pos (lt_of_get h), h]
  have vex : ∀ {i : Nat}, i < Γ.np → ∃ v, vs[i]? = some v := fun {i} h => ⟨vs[i]'(by omega), by simp⟩
  have dex : ∀ {i : Nat}, i < Γ.np → ∃ v, ds[i]? = some v := fun {i} h => ⟨ds[i]'(by omega), by simp⟩
  have hO : ∀ a, OsS Γ.ks (L2.start N vs) a ↔ lentV (Γ.ks.take Γ.np) vs a := fun a => by
    constructor
    · rintro ⟨i, h1, h2⟩
      obtain ⟨h3, h4⟩ := sg h2
      exact ⟨i, take_get.mpr ⟨h3, h1⟩, h4⟩
    · rintro ⟨i, h1, h2⟩
      exact ⟨i, (take_get.mp h1).2, gs h2⟩
  have hL : ∀ a, LsS Γ.ks Γ.np (L2.start N vs) a ↔ lentV (Γ.ks.take Γ.np) vs a := fun a => by
    constructor
    · rintro ⟨i, h0, h1, h2⟩
      exact ⟨i, take_get.mpr ⟨h0, h1⟩, (sg h2).2⟩
    · rintro ⟨i, h1, h2⟩
      exact ⟨i, (take_get.mp h1).1, (take_get.mp h1).2, gs h2⟩
  have lz : ∀ a, lentV (Γ.ks.take Γ.np) vs a → Z a ∧ ∃ d, Own Z H a d := fun a ⟨i, h1, h2⟩ => by
    obtain ⟨d, hd⟩ := dex (take_get.mp h1).1
    obtain ⟨a', e, z, o⟩ := A.own i d _ h1 hd h2
    cases e
    exact ⟨z, d, o⟩
  have zz : ∀ a, zt Γ ⟨fun a => Z a ∧ ¬ lentV (Γ.ks.take Γ.np) vs a, H, L2.start N vs⟩ (L2.start N vs) a → Z a := fun a h => by
    rcases h with h | h
    · exact h.1
    · exact (lz a ((hO a).mp h)).1
  refine ⟨⟨?_, ?_, fun i d h1 h2 => ?_, fun i d h1 h2 => ?_, fun i d h1 h2 => ?_, fun i v h1 h2 => ?_, fun i d h1 h2 => ?_, fun i v _ _ h => h, fun i j a h1 h2 h3 h4 => ?_, fun a o h _ _ => h, fun a h => h, fun a h => A.zh a h.1, A.tabs, fun i a dx ds h => ?_, fun f c q h => ?_⟩, hO, hL, lv, ld⟩
  · simp; omega
  · unfold L2.start; simp; omega
  · obtain ⟨h3, h4⟩ := eg h2
    obtain ⟨v, hv⟩ := vex h3
    exact ⟨v, gs hv, (A.shr i d v (take_get.mpr ⟨h3, h1⟩) h4 hv).ofZ zz⟩
  · obtain ⟨h3, h4⟩ := eg h2
    obtain ⟨v, hv⟩ := vex h3
    refine ⟨v, gs hv, RepO.mono (fun a o ho _ n => ⟨ho, fun z => ?_⟩) (Kp.sub zz) _ _ (A.brw i d v (take_get.mpr ⟨h3, h1⟩) h4 hv)⟩
    rcases z with z | z
    · exact n ((hO a).mp z)
    · rw [show H a = none from z] at ho; cases ho
  · obtain ⟨h3, h4⟩ := eg h2
    obtain ⟨v, hv⟩ := vex h3
    obtain ⟨a, l, e1, e2, e3⟩ := A.frz i d v (take_get.mpr ⟨h3, h1⟩) h4 hv
    refine ⟨a, l, by rw [gs hv, e1], e2, e3, fun o u h z => ?_⟩
    obtain ⟨_, d', o'⟩ := lz a ((hL a).mp z)
    exact o'.notFrz _ _ h
  · obtain ⟨h3, h4⟩ := sg h2
    obtain ⟨d, hd⟩ := dex h3
    obtain ⟨a, e1, z, o⟩ := A.own i d v (take_get.mpr ⟨h3, h1⟩) hd h4
    refine ⟨a, d, e1, fun q => q.2 ⟨i, take_get.mpr ⟨h3, h1⟩, e1 ▸ h4⟩, fun _ => by rw [← e1]; exact h2, fun q => by omega, ge hd, o.ofZ zz⟩
  · obtain ⟨h3, h4⟩ := eg h2
    obtain ⟨v, hv⟩ := vex h3
    exact ⟨v, gs hv⟩
  · obtain ⟨g1, g2⟩ := sg h3
    obtain ⟨g3, g4⟩ := sg h4
    exact A.inj i j a (take_get.mpr ⟨g1, h1⟩) (take_get.mpr ⟨g3, h2⟩) g2 g4
  · rw [hx] at h; cases h
  · rw [hlm] at h; cases h
/-- the frame of a call -/
abbrev frm (Γ : Gm) (Z : AS) (H : Hp) (N : List Str) (vs : List V) : Fm := ⟨fun a => Z a ∧ ¬ lentV (Γ.ks.take Γ.np) vs a, H, L2.start N vs⟩
theorem outs_get {ks : List Kd} {np : Nat} {e : En} {i : Nat} (hi : i < np) (h : ks[i]? = some Kd.own) : (outsOf ks np e)[i]? = some (rdS e i) := by
  unfold outsOf
  rw [List.getElem?_map, List.getElem?_range hi]
  simp [h]
theorem aft_of {H' : Hp} {σ' : L2.St} {e : En} (hnp : Γ.np ≤ Γ.ks.length) (hN : N.length = Γ.ks.length) (hlv : vs.length = Γ.np) (hL : ∀ a, LsS Γ.ks Γ.np (L2.start N vs) a ↔ lentV (Γ.ks.take Γ.np) vs a)
    (E : ER Γ (frm Γ Z H N vs) H' σ' e) : AftB Γ.T (Γ.ks.take Γ.np) Z vs H H' (outsOf Γ.ks Γ.np e) ∧ (∀ a, Z a → zt Γ (frm Γ Z H N vs) σ' a) := by
  have par : ∀ {i : Nat} {v : V}, (Γ.ks.take Γ.np)[i]? = some Kd.own → vs[i]? = some v → σ'[i]? = some (some v) := fun {i v} h1 h2 => by
    obtain ⟨g1, g2⟩ := take_get.mp h1
    refine E.par i v g1 g2 ?_
    show (L2.start N vs)[i]? = _
    rw [start_get (by omega), if_pos (by omega), h2]
  have zz : ∀ a, Z a → zt Γ (frm Γ Z H N vs) σ' a := fun a h => by
    by_cases hl : lentV (Γ.ks.take Γ.np) vs a
    · obtain ⟨i, h1, h2⟩ := hl
      exact .inr ⟨i, (take_get.mp h1).2, par h1 h2⟩
    · exact .inl ⟨h, hl⟩
  refine ⟨⟨fun a u h1 h2 h3 => E.base a u h1 h2 fun z => h3 ((hL a).mp z), E.dom, E.tabs, by unfold outsOf; simp; omega, fun i a h1 h2 => ?_⟩, zz⟩
  obtain ⟨g1, g2⟩ := take_get.mp h1
  obtain ⟨a', d, r1, r2, r3, r4, r5, r6⟩ := E.own i _ g2 (par h1 h2)
  cases r1
  exact ⟨d, by rw [outs_get g1 g2, rdS_of r5], r6.ofZ zz⟩
theorem ret_aft {H' : Hp} {e : En} {fr : Bool} {d : PB.D} {v : V} (hnp : Γ.np ≤ Γ.ks.length) (hN : N.length = Γ.ks.length) (hlv : vs.length = Γ.np) (hL : ∀ a, LsS Γ.ks Γ.np (L2.start N vs) a ↔ lentV (Γ.ks.take Γ.np) vs a)
    (h : RetR Γ fr (frm Γ Z H N vs) H' e d v) : AftC Γ.T (Γ.ks.take Γ.np) fr Z vs H H' (outsOf Γ.ks Γ.np e) d v := by
  rcases h with ⟨σ', E, r, f⟩ | ⟨σ', i, a, e0, E, rfl, h1, h2, h3, h4, rfl⟩
  · obtain ⟨A, zz⟩ := aft_of hnp hN hlv hL E
    refine ⟨A, r.ofZ zz, fun hf hd => ?_⟩
    obtain ⟨p, e1, e2, e3, E2, o⟩ := f hf hd
    refine ⟨p, e1, e2, o.ofZ fun a q => q.imp (zz a) id, fun i a d' q1 q2 q3 => ?_⟩
    obtain ⟨g1, g2⟩ := take_get.mp q1
    have hσ : σ'[i]? = some (some (V.ref a)) := by
      refine E.par i _ g1 g2 ?_
      show (L2.start N vs)[i]? = _
      rw [start_get (by omega), if_pos (by omega), q2]
    obtain ⟨a', d2, r1, _, _, _, r5, r6⟩ := E2.own i _ g2 hσ
    cases r1
    rw [outs_get g1 g2, rdS_of r5] at q3
    cases q3
    exact r6.ofZ fun b q => by
      rcases q with q | q
      · rcases zz b q with z | z
        · exact .inl (.inl z)
        · exact .inr z
      · exact .inl (.inr q)
  · obtain ⟨A, zz⟩ := aft_of hnp hN hlv hL E
    have eo : outsOf Γ.ks Γ.np (e0.set i none) = outsOf Γ.ks Γ.np e0 := by
      unfold outsOf
      apply List.map_congr_left
      intro j hj
      have : j < Γ.np := List.mem_range.mp hj
      unfold rdS
      rw [get_set (show j ≠ i by omega)]
    rw [eo]
    obtain ⟨a', d2, r1, r2, _, r4, r5, r6⟩ := E.own i _ h1 h3
    cases r1
    rw [rdS_of r5] at h4
    cases h4
    have na : ¬ Z a := fun z => by
      by_cases hl : lentV (Γ.ks.take Γ.np) vs a
      · obtain ⟨i', q1, q2⟩ := hl
        obtain ⟨g1, g2⟩ := take_get.mp q1
        have hσ : σ'[i']? = some (some (V.ref a)) := by
          refine E.par i' _ g1 g2 ?_
          show (L2.start N vs)[i']? = _
          rw [start_get (by omega), if_pos (by omega), q2]
        have := E.inj i' i a g2 h1 hσ h3
        omega
      · exact r2 ⟨z, hl⟩
    have az : zt Γ (frm Γ Z H N vs) σ' a := .inr ⟨i, h1, h3⟩
    refine ⟨A, r6.toRep na (Kp.sub zz), fun _ _ => ⟨a, rfl, r4 h2, r6.ofZ fun b q => ?_, fun j b d' q1 q2 q3 => ?_⟩⟩
    · rcases q with q | q
      · exact zz b q
      · exact q ▸ az
    · obtain ⟨d2, s1, s2⟩ := A.outs j b q1 q2
      rw [q3] at s1
      cases s1
      obtain ⟨g1, g2⟩ := take_get.mp q1
      have hσ : σ'[j]? = some (some (V.ref b)) := by
        refine E.par j _ g1 g2 ?_
        show (L2.start N vs)[j]? = _
        rw [start_get (by omega), if_pos (by omega), q2]
      obtain ⟨a', d3, t1, _, _, _, t5, t6⟩ := E.own j _ g2 hσ
      cases t1
      rw [outs_get g1 g2, rdS_of t5] at q3
      cases q3
      exact t6.ofZ fun c q => by
        rcases q with q | q
        · exact zz c q
        · exact q ▸ az
end
/-- what a body runs with -/
def gOf (Δ : Ctx) (n : Nat) (d : DefI) (act : Act) : Gx := { ks := d.ks, cf := callN Δ.T n, info := Δ.kk, sub := Δ.T.sub, xin := Δ.T.xin, wf := Δ.T.wf, act := act, ex := none }
def gmOf (Δ : Ctx) (d : DefI) : Gm := { T := Δ.tb, K := Δ.K, cA := Δ.cA, ks := d.ks, np := d.np, xo := none, lam := none }
theorem callN_eq {Δ : Ctx} {n f : Nat} {d : DefI} (hd : Δ.T.defs[f]? = some d) {ds : List PB.D} (hl : ds.length = d.np) : callN Δ.T (n + 1) f none ds = match exec d.code (gOf Δ n d none) (ds.map some ++ List.replicate (d.ks.length - ds.length) none) with
      | some (.nx e) => some (.ok .non (outsOf d.ks d.np e))
      | some (.rt v e) => some (.ok v (outsOf d.ks d.np e))
      | some (.xc x e) => some (.xc x (outsOf d.ks d.np e))
      | _ => none := by
  have hk : (fun g => match Δ.T.defs[g]? with | some d => d.ks.take d.np | none => []) = Δ.kk := by
    funext g
    rfl
  rw [callN]
  simp only [hd, Option.isNone_none, Bool.true_and, hl, ne_eq, not_true_eq_false, decide_false, Bool.false_eq_true, if_false]
  rfl
/-- a body that is read as its code keeps the promise -/
theorem body_spec {Δ : Ctx} {n f : Nat} {d : DefI} (hd : Δ.T.defs[f]? = some d) (hnp : d.np ≤ d.ks.length) {N : List Str} (hN : N.length = d.ks.length) {vs : List V} {H : Hp} {Q : VK} {E : XK} (h : spI Δ (n + 1) f vs H Q E) :
    rdSt (gmOf Δ d) (Δ.fq f) (fun cls od _ H' => E cls od H') (gOf Δ n d none) d.code { nx := fun _ H' => Q .non H', rt := Q } (L2.start N vs) H := by
  obtain ⟨Z, ds, A, out⟩ := h
  have hkk : Δ.kk f = d.ks.take d.np := by unfold Ctx.kk; rw [hd]
  rw [hkk] at A
  obtain ⟨ES, hO, hL, hlv, hld⟩ := ER.start (Γ := gmOf Δ d) rfl rfl hN hnp A
  rw [callN_eq hd hld] at out
  refine ⟨_, _, ES, ?_⟩
  show rdS' _ _ _ (frm (gmOf Δ d) Z H N vs) _ _ _ (exec d.code (gOf Δ n d none) (ds.map some ++ List.replicate (d.ks.length - ds.length) none))
  revert out
  cases exec d.code (gOf Δ n d none) (ds.map some ++ List.replicate (d.ks.length - ds.length) none) with
  | none => exact fun z => z.elim
  | some o =>
    intro out
    cases o with
    | nx e =>
      intro σ' H' k E'
      refine out .non H' ?_
      rw [hkk]
      exact ret_aft (Γ := gmOf Δ d) hnp hN hlv hL (.inl ⟨σ', E', rfl, fun _ z => by cases z⟩)
    | rt v e =>
      intro w H' r
      refine out w H' ?_
      rw [hkk]
      exact ret_aft (Γ := gmOf Δ d) hnp hN hlv hL r
    | bk e => exact out.elim
    | ct e => exact out.elim
    | xc x e =>
      intro cls od σ' H' k E' r
      obtain ⟨AB, zz⟩ := aft_of (Γ := gmOf Δ d) hnp hN hlv hL E'
      refine out cls od H' (by rw [hkk]; exact AB) ?_
      obtain ⟨C, e1, e2, dx, fs, e3, e4, e5⟩ := r
      refine ⟨C, e1, e2, dx, fs, e3, e4, fun f' d' hf => ?_⟩
      obtain ⟨v, s1, s2⟩ := e5 f' d' hf
      exact ⟨v, s1, s2.ofZ zz⟩
end PB
set_option maxHeartbeats 4000000
/-! Is: enumerate over a tuple. -/
namespace PySem
open Sem (wp)
open AutoSeq1 (wpAny_loadPart')
theorem pb_enum_newT (l : Addr) (items : Array Value) (n : Nat) (dct : Option Addr) (sl : Array (Option Value)) :
    Meets (Builtin.«enumerate.__new__» ⟨[.type "enumerate", .ref l], []⟩) (fun _ R s => s.heap.get? l = some { cls := .type "tuple", dict := dct, data := .seq items n, slots := sl } ∧
      R (.ok (.ret (.ref (s.heap.push { cls := .type "tuple_iterator", data := .fields #[.ref l, .int 0 0] }).objs.size)))
        { s with heap := (s.heap.push { cls := .type "tuple_iterator", data := .fields #[.ref l, .int 0 0] }).push { cls := .type "enumerate", data := .fields #[.none, .bool false, .ref s.heap.objs.size, rawInt 0, .none, .none] } }) :=
  .of_wp fun prog w A R s h => by
    obtain ⟨hp, g, d, tk, os⟩ := s
    obtain ⟨hl, h⟩ := h
    have hsub := sub_enumerate
    have hL : Heap.IsTuple (Shared.heap ⟨hp, g, d, tk, os⟩) l items := ⟨_, hl, rfl, n, rfl⟩
    wp_walk using wpAny_loadPart' hl
    refine wpAny_stack_any fun st => wpAny_pure ?_
    split
    · rename_i c _ _ _ _ _
      cases (c == Value.type "enumerate")
      · wp_walk using wpAny_loadPart' hl, wpAny_pyIter_tuple hL
        exact ⟨_, rfl, h⟩
      · wp_walk using wpAny_loadPart' hl, wpAny_pyIter_tuple hL
        exact ⟨_, rfl, h⟩
    · wp_walk using wpAny_loadPart' hl, wpAny_pyIter_tuple hL
      exact ⟨_, rfl, h⟩
end PySem
namespace PySem
section
variable {prog : Program} {w : World} {A : Around} {E : Value → Shared → Prop} {s : Shared}
theorem pb_call_enumT {l : Addr} {items : Array Value} {Q : Value → Shared → Prop} (hL : s.heap.IsTuple l items)
    (h : ∀ h', IsEnum h' (s.heap.objs.size + 1) s.heap.objs.size 0 .none → h'.IsTupleIter s.heap.objs.size l 0 → (∀ b o, s.heap.get? b = some o → h'.get? b = some o) → Q (.ref (s.heap.objs.size + 1)) { s with heap := h' }) :
    wpAny (model prog w) A (call (.type "enumerate") [.ref l]) Q E s := by
  obtain ⟨⟨c, dct, dt, sl⟩, hl, hc, n, hd⟩ := hL
  cases (show c = .type "tuple" from hc)
  cases (show dt = .seq items n from hd)
  refine callType_new F.called_enumerate (by decide) (F.typeCall_enumerate_1 _) (F.newCall_enumerate_1 _) (fun obj => F.args_object_init_2 obj _) F.entry_enumerate_new (pb_enum_newT l items n dct sl) ⟨hl, ?_⟩
  generalize h1 : s.heap.push { cls := .type "tuple_iterator", data := .fields #[.ref l, .int 0 0] } = g1
  have z1 : g1.objs.size = s.heap.objs.size + 1 := by rw [← h1]; exact Heap.size_push ..
  generalize h2 : g1.push { cls := .type "enumerate", data := .fields #[.none, .bool false, .ref s.heap.objs.size, rawInt 0, .none, .none] } = g2
  have k1 : ∀ b o, s.heap.get? b = some o → g1.get? b = some o := fun b o e => by rw [← h1]; exact Heap.get?_push_of_some _ e
  have k2 : ∀ b o, g1.get? b = some o → g2.get? b = some o := fun b o e => by rw [← h2]; exact Heap.get?_push_of_some _ e
  have a1 : g1.get? s.heap.objs.size = some { cls := .type "tuple_iterator", data := .fields #[.ref l, .int 0 0] } := by rw [← h1]; exact Heap.get?_push_size _ rfl
  have a2 : g2.get? g1.objs.size = some { cls := .type "enumerate", data := .fields #[.none, .bool false, .ref s.heap.objs.size, rawInt 0, .none, .none] } := by rw [← h2]; exact Heap.get?_push_size _ rfl
  show _ ∧ _
  rw [z1] at a2 ⊢
  exact ⟨⟨_, a2, rfl⟩, h _ a2 ⟨_, k2 _ _ a1, rfl, rfl⟩ fun b o e => k2 _ _ (k1 _ _ e)⟩
theorem pb_enum_endT {e it l : Addr} {i : Nat} {items : Array Value} {old : Value} {Q : Option Value → Shared → Prop} (hh : A.handled = none) (he : IsEnum s.heap e it i old) (hit : s.heap.IsTupleIter it l i) (hl : s.heap.IsTuple l items) (hx : items[i]? = none)
    (hQ : ∀ h', Heap.ExtBut it s.heap h' → Q none { s with heap := h' }) : wpAny (model prog w) A (pyNext (.ref e)) Q E s := by
  have ty : s.TypeIs (.ref e) "enumerate" := ⟨_, he, rfl⟩
  unfold pyNext
  refine wpAny_bind (wpAny_attempt ?_)
  refine wpAny_callSpecial?_slot (name := Str.ofString "__next__") ty F.slot_enumerate_next ?_
  refine wpAny_call_entry F.slot_enumerate_next ty F.entry_enumerate_next ?_ (F.args_enumerate_next_1 _)
  show wpAny _ _ (field (.ref e) 2 >>= _) _ _ s
  refine wpAny_bind (wpAny_field he rfl (x := .ref it) rfl (wpAny_bind ?_))
  refine wpAny_nextOf_tuple_end (show A.in1.handled = none from hh) hit hl hx ?_
  rintro h' x eb ⟨o, ho, hc⟩
  refine wpAny_bind (wpAny_isInstance (T := "StopIteration") (b := true) ⟨o, ho, hc⟩ isSubtype_stop ?_)
  exact wpAny_pure (hQ h' eb)
end
end PySem
namespace PB
open RZ (ItzT iZipA pi_zipA)
open PySem PySem.Spec PyProof.Rows L2
def IteT (K : PySem.W.Frag) (a : Addr) : It :=
  ⟨fun i H => ∃ (xs : List V) (x : V), SqT K H a xs ∧ xs[i]? = some x, fun i H v H' => ∃ T x, v = .ref T ∧ H T = none ∧ H' = upd H T (.tup [.int (i : Nat), x]) ∧ ∀ xs, SqT K H a xs → xs[i]? = some x, fun i H => ∃ xs : List V, SqT K H a xs ∧ xs.length ≤ i⟩
theorem turn_enumT {P : Program} {w : World} {K : PySem.W.Frag} {elts : List Expr} {kk : Nat} {tpos : Pos} (a e it : Addr) (hai : a ≠ it) (hae : a ≠ e) :
    Turn P w K (.Tuple elts kk tpos) (IteT K a) [e, it] e (fun i h => (∃ old, IsEnum h e it ((i : Nat) : Int) old) ∧ h.IsTupleIter it a i ∧ e ≠ it) where
  mem := List.mem_cons_self
  obj := by
    rintro i h ⟨⟨old, he⟩, ⟨o, ho, hc, hd⟩, _⟩ b hb
    rcases List.mem_cons.mp hb with z | z
    · exact z ▸ ⟨_, he, fun v q => nomatch q⟩
    · cases List.mem_singleton.mp z
      exact ⟨o, ho, fun v q => by rw [hd] at q; cases q⟩
  keep := by
    rintro i h h' ⟨⟨old, he⟩, hi, hne⟩ k
    exact ⟨⟨old, k e List.mem_cons_self _ he⟩, hi.at fun o q => k it (List.mem_cons_of_mem _ List.mem_cons_self) o q, hne⟩
  item := by
    intro X hP hw hK hc i pins s σ H E I hf st hg
    cases hP
    cases hw
    cases hK
    obtain ⟨⟨old, he⟩, hit, hne⟩ := st
    obtain ⟨xs, x, hq, hx⟩ := hg
    obtain ⟨its, rv, p, hz⟩ := I.tuple hq
    obtain ⟨u, hu, ru⟩ := rv.get hx
    have p' : s.heap.IsTuple a its.toArray := p
    have hel : e < s.heap.objs.size := Heap.lt_size he
    have hil : it < s.heap.objs.size := by obtain ⟨_, q, _⟩ := hit; exact Heap.lt_size q
    have hin : i < its.toArray.size := by
      rw [List.size_toArray]
      exact (List.getElem?_eq_some_iff.mp hu).1
    refine wpAny_pyNext_enum_itemD (Draws.tuple (A := X.A.in1) (I.ok.hd hc) it a hai its.toArray) he ⟨hit, p'⟩ hin hne (fun q => ?_) fun x' h' tk hP' ho hs' hT hsz hk => ?_
    · rcases List.mem_cons.mp q with z | z
      · exact hne z
      · exact hae (List.mem_singleton.mp z).symm
    have ex : x' = u := by
      have h1 : its[i]? = some x' := by simpa using hP'
      rw [hu] at h1
      exact (Option.some.inj h1).symm
    subst ex
    refine ⟨_, rfl, wpAny_letOwnedTupleGo_enum (s := { s with heap := h', toks := tk + 1 }) ho fun h'' he' sb => ?_⟩
    have hT2 : h''.get? s.heap.objs.size = some { cls := .type "tuple", data := .seq #[.int i tk, x'] } := (sb.2 _ (Nat.ne_of_gt hel)).trans hT
    have new : ObjOk X.prog X.w (upd H s.heap.objs.size (.tup [.int (i : Nat), x])) h'' s.heap.objs.size (.tup [.int (i : Nat), x]) := by
      refine ⟨?_, [.int i tk, x'], .cons ⟨_, rfl⟩ (.cons ru .nil), ⟨_, hT2, rfl, _, rfl⟩⟩
      show 2 ≤ sizeLine
      decide
    have J : Inv X pins σ (upd H s.heap.objs.size (.tup [.int (i : Nat), x])) { s with heap := h'', toks := tk + 1 } := by
      refine I.turnedNew (ch := [e, it]) (fun b ob hb q => ?_) hf (Nat.le_refl _) new
      have be : b ≠ e := fun z => hb (z ▸ List.mem_cons_self)
      have bi : b ≠ it := fun z => hb (z ▸ List.mem_cons_of_mem _ List.mem_cons_self)
      exact (sb.2 b be).trans (hk b ob be bi q)
    refine ⟨.ref s.heap.objs.size, _, J, rfl, ⟨_, x, rfl, I.hok.fresh (Nat.le_refl _), rfl, fun ys hy => by rw [I.tuple_inj hy hq]; exact hx⟩, ⟨⟨x', ?_⟩, ?_, hne⟩, fun b hb => ?_⟩
    · rw [show ((i + 1 : Nat) : Int) = (i : Int) + 1 by omega]
      exact he'
    · exact hs'.1.at fun o q => (sb.2 it (Ne.symm hne)).trans q
    · have hb' : b < s.heap.objs.size := by
        rcases List.mem_cons.mp hb with z | z
        · exact z ▸ hel
        · exact (List.mem_singleton.mp z) ▸ hil
      rw [upd_ne (Nat.ne_of_lt hb')]
      exact (hf b hb).1
  done := by
    intro X hP hw hK hc i pins s σ H E I hf st hg
    cases hP
    cases hw
    cases hK
    obtain ⟨⟨old, he⟩, hit, hne⟩ := st
    obtain ⟨xs, hq, hx⟩ := hg
    obtain ⟨its, rv, p, hz⟩ := I.tuple hq
    obtain ⟨f0, f1, f2, f3, f4, f5⟩ := hf it (List.mem_cons_of_mem _ List.mem_cons_self)
    have hl := rv.length
    refine pb_enum_endT (I.ok.hd hc) he hit p (by simp; omega) fun h' eb => ⟨rfl, ?_⟩
    exact I.turned (t' := s.toks) (fun b o hb q => eb b o hb q) f0 f1 f3 f4 f5
  self := by
    rintro A i s Q E ⟨⟨_, he⟩, _⟩ h
    exact wpAny_pyIter_enum he h
/-- enumerate(e) of a list or a tuple -/
def iEnumS (K : PySem.W.Frag) (ta : TA) : TI := fun σ H R => ta σ H fun vs H1 => ∃ a, vs = [.ref a] ∧ (((∃ xs, SqL K H1 a xs) ∧ R (Ite K a) H1) ∨ ((∃ xs, SqT K H1 a xs) ∧ R (IteT K a) H1))
theorem pi_enumS {X : Cx} {e : Expr} {ta : TA} {p pos tpos : Pos} {elts : List Expr} {kk : Nat} (hg : Gl X "enumerate") (hm : X.mg "enumerate" = none) (ha : PA X [e] ta) (hs : starEach [e] X.env = (false, eval e X.env) :: starEach [] X.env) :
    PI X (.Tuple elts kk tpos) (.Call (.Name "enumerate" p) [e] [] pos) (iEnumS X.K ta) := by
  refine ⟨fun pins s σ H R I h => ?_⟩
  have step := ha.run pos pins s σ H _ I h
  refine Call_ (ld_blt I hg hm boot_enumerate (PyProof.Rows.callWith_type1 (thn step ?_) hs rfl))
  rintro us s1 ⟨vs, H1, J, rs, a, rfl, q⟩
  obtain ⟨u, rfl, ru⟩ := vals1 rs
  cases ru
  have fp : ∀ b ∈ [s1.heap.objs.size + 1, s1.heap.objs.size], FpOk X pins H1 b := fun b hb => by
    have hle : s1.heap.objs.size ≤ b := by
      rcases List.mem_cons.mp hb with z | z
      · exact z ▸ Nat.le_succ _
      · exact (List.mem_singleton.mp z) ▸ Nat.le_refl _
    exact J.fpOk hle (J.hok.fresh hle)
  rcases q with ⟨⟨xs, sq⟩, q⟩ | ⟨⟨xs, sq⟩, q⟩
  · obtain ⟨its, rv, pl, hz⟩ := J.list sq
    refine call_enumerate_list pl.isList fun h' he hit hsz hk => wpAny_pyIter_enum he ?_
    exact ⟨s1.heap.objs.size + 1, [s1.heap.objs.size + 1, s1.heap.objs.size], _, _, H1, rfl, J.kept (t' := s1.toks) hk, turn_enum a _ _, ⟨⟨.none, he⟩, hit, Nat.succ_ne_self _⟩, fp, q⟩
  · obtain ⟨its, rv, pl, hz⟩ := J.tuple sq
    have hlt : a < s1.heap.objs.size := pl.lt
    refine pb_call_enumT (show s1.heap.IsTuple a its.toArray from pl) fun h' he hit hk => wpAny_pyIter_enum he ?_
    exact ⟨s1.heap.objs.size + 1, [s1.heap.objs.size + 1, s1.heap.objs.size], _, _, H1, rfl, J.kept (t' := s1.toks) hk, turn_enumT a _ _ (Nat.ne_of_lt hlt) (Nat.ne_of_lt (Nat.lt_succ_of_lt hlt)), ⟨⟨.none, he⟩, hit, Nat.succ_ne_self _⟩, fp, q⟩
theorem walk_enumT {K : PySem.W.Frag} {a : Addr} {xs : List V} : Walk (IteT K a) xs.length (fun H => SqT K H a xs) (YPair (fun i => some (.int (i : Nat))) (fun i => xs[i]?)) := by
  refine ⟨fun i _ hi q => ⟨xs, xs[i], q, List.getElem?_eq_getElem hi⟩, fun _ q => ⟨xs, q, Nat.le_refl _⟩, ?_⟩
  rintro i H v H' _ q ⟨T, x, h1, h2, h3, h4⟩
  exact ⟨T, .int (i : Nat), x, h1, h2, h3, rfl, h4 xs q⟩
section
variable {Γ : Gm}
theorem itEnumT {F : Fm} {σ : L2.St} {H1 : Hp} {ad : Addr} {xs : List V} {ds : List PB.D} {K : PySem.W.Frag} (h : ∀ Z' Zo' H', Kp (zt Γ F σ) Z' H1 H' → Kp (zo Γ F σ) Zo' H1 H' → SqT K H' ad xs) (r : RepL (zt Γ F σ) H1 ds xs) : ItOk Γ F σ H1 (IteT K ad) (enumD 0 ds) := by
  have hl := RepL.length _ _ r
  refine ⟨fun H => SqT K H ad xs, _, by rw [enumD_length, ← hl]; exact walk_enumT, h, fun i x Z' H' H'' k hi zh y => ?_⟩
  obtain ⟨T, u, v, y1, y2, y3, y4, y5⟩ := y
  subst y1 y3
  cases y4
  obtain ⟨d, q1, q2⟩ := RepL.at _ _ (RepL.mono k _ _ r) i v y5
  refine ⟨Ex.new y2, _, enumD_get ds 0 i d q1, ?_⟩
  rw [Nat.zero_add]
  exact pair_new zh y2 rfl q2
variable {X : Cx} {XW : WX} {G : Gx} {a : C} {tg ex : Expr}
theorem finL_noLocs : ∀ {a : C} {l ds : List PB.D} {e : En}, noLocs a = true → finL a l e = some ds → ds = l := by
  intro a
  induction a with
  | nil => intro l ds e _ h; cases l with
    | nil => cases h; rfl
    | cons d l => cases h
  | cons a b iha ihb => intro l ds e hn h; cases l with
    | nil => cases h
    | cons d l =>
      simp only [noLocs, Bool.and_eq_true, Bool.not_eq_true'] at hn
      simp only [finL] at h
      obtain ⟨x, g1, g2⟩ := Option.bind_eq_some_iff.mp h
      obtain ⟨y, g3, g4⟩ := Option.map_eq_some_iff.mp g2
      cases g4
      rw [ihb hn.2 g3]
      have : x = d := by cases a <;> first | (cases g1; rfl) | (have := hn.1; cases this)
      rw [this]
  | _ => intro l ds e _ h; cases l <;> cases h
theorem rep1 {Z : AS} {H : Hp} {d : PB.D} {vs : List V} (h : RepL Z H [d] vs) : ∃ v, vs = [v] ∧ Rep Z H d v := by
  obtain ⟨v, r, e, h1, h2⟩ := h
  cases h2
  exact ⟨v, e, h1⟩
theorem rep2 {Z : AS} {H : Hp} {d e : PB.D} {vs : List V} (h : RepL Z H [d, e] vs) : ∃ v w, vs = [v, w] ∧ Rep Z H d v ∧ Rep Z H e w := by
  obtain ⟨v, r, q, h1, h2⟩ := h
  obtain ⟨w, q2, h3⟩ := rep1 h2
  subst q2
  exact ⟨v, w, q, h1, h3⟩
theorem I_enum (hb : noLocs a = true) (hn : lenG a = 1) (h : PI X tg ex (iEnumS X.K (rdA Γ XW G a))) : PI X tg ex (rdI Γ XW G (.blt .enum a)) := PIimp h fun σ H R q => by
  obtain ⟨F, e, E, w⟩ := q
  refine rd_stepA E (bltI w) fun d e1 w1 => ?_
  obtain ⟨l, ds, z, zs', rfl, f1, q1, q2, k⟩ := w1
  cases finL_noLocs hb f1
  refine ⟨_, rfl, fun vs H1 k1 E1 rs => ?_⟩
  have rl := VRs.repL hb rs
  obtain ⟨d, rfl⟩ := len1 ((RepL.length _ _ rl).symm.trans (rs.len.trans hn))
  obtain ⟨v, rfl, r⟩ := rep1 rl
  simp only [bi, Option.map_eq_some_iff] at q1
  obtain ⟨m, q3, rfl⟩ := q1
  cases q2
  cases d <;> simp only [seqOf] at q3 <;> first | cases q3 | skip
  · obtain ⟨ad, xs, rfl, ⟨h1, h2⟩, rl⟩ := r
    exact ⟨ad, rfl, .inr ⟨⟨xs, .of h2⟩, k _ H1 k1 E1 (itEnumT (fun Z' Zo' H' kk _ => .of (kk ad _ h2 (fun ps z => by cases z) h1).1) rl)⟩⟩
  · obtain ⟨ad, xs, rfl, ⟨h1, h2⟩, rl⟩ := r
    exact ⟨ad, rfl, .inl ⟨⟨xs, .of h2⟩, k _ H1 k1 E1 (itEnum (fun Z' Zo' H' kk _ => .of (kk ad _ h2 (fun ps z => by cases z) h1).1) rl)⟩⟩
theorem itZipT {F : Fm} {σ : L2.St} {H1 : Hp} {ad bd : Addr} {xs ys : List V} {ds es : List PB.D} {K : PySem.W.Frag} (h : ∀ Z' Zo' H', Kp (zt Γ F σ) Z' H1 H' → Kp (zo Γ F σ) Zo' H1 H' → SqT K H' ad xs ∧ SqT K H' bd ys) (r : RepL (zt Γ F σ) H1 ds xs) (r' : RepL (zt Γ F σ) H1 es ys) : ItOk Γ F σ H1 (ItzT K ad bd) (zipD ds es) := by
  have hl := RepL.length _ _ r
  have hl' := RepL.length _ _ r'
  refine ⟨fun H => SqT K H ad xs ∧ SqT K H bd ys, YPair (fun i => xs[i]?) (fun i => ys[i]?), ⟨fun i H hi q => ?_, fun H q => ⟨xs, ys, q.1, q.2, ?_⟩, ?_⟩, h, fun i x Z' H' H'' k hi zh y => ?_⟩
  · rw [zipD_length] at hi
    have h1 : i < xs.length := by omega
    have h2 : i < ys.length := by omega
    exact ⟨xs, ys, xs[i], ys[i], q.1, q.2, List.getElem?_eq_getElem h1, List.getElem?_eq_getElem h2⟩
  · rw [zipD_length]
    omega
  · rintro i H v H' _ q ⟨T, x, z, h1, h2, h3, h4, h5⟩
    exact ⟨T, x, z, h1, h2, h3, h4 xs q.1, h5 ys q.2⟩
  · obtain ⟨T, u, v, y1, y2, y3, y4, y5⟩ := y
    subst y1 y3
    obtain ⟨d, q1, q2⟩ := RepL.at _ _ (RepL.mono k _ _ r) i u y4
    obtain ⟨e, q3, q4⟩ := RepL.at _ _ (RepL.mono k _ _ r') i v y5
    exact ⟨Ex.new y2, _, zipD_get ds es i d e q1 q3, pair_new zh y2 q2 q4⟩
def isLsX : PB.D → Bool
  | .lst _ => true
  | _ => false
/-- zip of two lists, of two tuples -/
theorem I_zip (hb : noLocs a = true) (hn : lenG a = 2) (h : PI X tg ex (iZipA X.K (rdA Γ XW G a))) : PI X tg ex (rdI Γ XW G (.blt .zip a)) := PIimp h fun σ H R q => by
  obtain ⟨F, e, E, w⟩ := q
  refine rd_stepA E (bltI w) fun d e1 w1 => ?_
  obtain ⟨l, ds, z, zs', rfl, f1, q1, q2, k⟩ := w1
  cases finL_noLocs hb f1
  refine ⟨_, rfl, fun vs H1 k1 E1 rs => ?_⟩
  have rl := VRs.repL hb rs
  obtain ⟨d, e, rfl⟩ := len2 ((RepL.length _ _ rl).symm.trans (rs.len.trans hn))
  obtain ⟨v, w, rfl, r, r'⟩ := rep2 rl
  simp only [bi] at q1
  split at q1
  · rename_i hsame
    obtain ⟨m, q3, q1⟩ := Option.bind_eq_some_iff.mp q1
    obtain ⟨m', q4, q5⟩ := Option.map_eq_some_iff.mp q1
    subst q5
    cases q2
    cases d <;> simp only [seqOf] at q3 <;> first | cases q3 | skip
    · cases e <;> simp only [seqOf] at q4 <;> first | cases q4 | skip
      · obtain ⟨ad, xs, rfl, ⟨h1, h2⟩, rl1⟩ := r
        obtain ⟨bd, ys, rfl, ⟨h3, h4⟩, rl2⟩ := r'
        exact ⟨ad, bd, xs, ys, rfl, .inr ⟨.of h2, .of h4, k _ H1 k1 E1 (itZipT (fun Z' Zo' H' kk _ => ⟨.of (kk ad _ h2 (fun ps z => by cases z) h1).1, .of (kk bd _ h4 (fun ps z => by cases z) h3).1⟩) rl1 rl2)⟩⟩
      · cases hsame
    · cases e <;> simp only [seqOf] at q4 <;> first | cases q4 | skip
      · cases hsame
      · obtain ⟨ad, xs, rfl, ⟨h1, h2⟩, rl1⟩ := r
        obtain ⟨bd, ys, rfl, ⟨h3, h4⟩, rl2⟩ := r'
        exact ⟨ad, bd, xs, ys, rfl, .inl ⟨.of h2, .of h4, k _ H1 k1 E1 (itZip (fun Z' Zo' H' kk _ => ⟨.of (kk ad _ h2 (fun ps z => by cases z) h1).1, .of (kk bd _ h4 (fun ps z => by cases z) h3).1⟩) rl1 rl2)⟩⟩
  · cases q1
theorem bi_r3 {x y z r : PB.D} (h : bi .range [x, y, z] = some r) : ∃ i j : Int, x = .int i ∧ y = .int j ∧ z = .int (-1) ∧ (-(2 ^ 62) ≤ i ∧ i < 2 ^ 62 ∧ -(2 ^ 62) ≤ j ∧ j < 2 ^ 62) ∧ r = .lst (rangeC i (-1) (i - j).toNat) := by
  unfold bi at h
  split at h <;> first | (cases h; done) | skip
  all_goals (first | (rename_i heq; cases heq; done) | skip)
  rename_i i j heq1 heq2
  cases heq2
  split at h
  · rename_i hj
    cases h
    simp only [Bool.and_eq_true, decide_eq_true_eq] at hj
    exact ⟨i, j, rfl, rfl, rfl, ⟨hj.1.1.1, hj.1.1.2, hj.1.2, hj.2⟩, rfl⟩
  · cases h
theorem I_range3 (la : lcsOk Γ.ks a = true) (hn : lenG a = 3) (h : PI X tg ex (iRng3 (rdA Γ XW G a))) : PI X tg ex (rdI Γ XW G (.blt .range a)) := PIimp h fun σ H R q => by
  obtain ⟨F, e, E, w⟩ := q
  refine rd_stepA E (bltI w) fun d e1 w1 => ?_
  obtain ⟨l, ds, z, zs', rfl, f1, q1, q2, k⟩ := w1
  refine ⟨l, rfl, fun vs H1 k1 E1 rs => ?_⟩
  have rb := rs.fin E1 la f1
  obtain ⟨x, y, z', rfl⟩ := len3 (rb.len.symm.trans (rs.len.trans hn))
  obtain ⟨i, j, rfl, rfl, rfl, hj, rfl⟩ := bi_r3 q1
  cases q2
  obtain ⟨v, u, t, rfl, rv, ru, rt⟩ := rb.three
  cases rv
  cases ru
  cases rt
  exact ⟨i, j, -1, (i - j).toNat, rfl, RgC.neg hj.1 hj.2.1 hj.2.2.1 hj.2.2.2, k _ H1 k1 E1 itRangeC⟩
end
end PB
set_option maxHeartbeats 4000000
/-! Ip: isinstance; list(range(..)); a, b = x, y with owned slots. -/
namespace PB
open PySem PySem.Spec PyProof.Rows L2
section
variable {X : Cx} {Γ : Gm} {fq : Nat → Bool} {fr : Bool} {XW : WX} {G : Gx} {a b : C} {ex : Expr} {st : Stmt}
/-! isinstance -/
def tyNm : PB.D → String
  | .non => "NoneType"
  | .bl _ => "bool"
  | .int _ => "int"
  | .str _ => "str"
  | .tup _ => "tuple"
  | .lst _ => "list"
  | .dic _ _ => "dict"
theorem tyX_of {K : PySem.W.Frag} {Z : AS} {H : Hp} {d : PB.D} {v : V} (h : RepB Z H d v) : TyX K H v (.type (tyNm d)) := by
  cases d with
  | non => cases h; exact .base .non
  | bl b => cases h; exact .base (.bl b)
  | int i => cases h; exact .base (.int i)
  | str x => cases h; exact .base (.str x)
  | tup ds => obtain ⟨ad, xs, rfl, q, _⟩ := RepO.tup h; exact .base (.tup q)
  | lst ds => obtain ⟨ad, xs, rfl, q, _⟩ := RepO.lst h; exact .base (.lst q)
  | dic t ds =>
    obtain ⟨ad, rfl, _, ⟨_, kvs, q, _⟩ | ⟨_, kvs, q, _⟩⟩ := h
    · exact .base (.dK q)
    · exact .base (.dT q)
def isiTy : Bi → Option String
  | .isinstTuple => some "tuple"
  | .isinstList => some "list"
  | .isinstInt => some "int"
  | .isinstBool => some "bool"
  | .isinstStr => some "str"
  | _ => none
theorem isi_kit {f : Bi} {T : String} (h : isiTy f = some T) (d : PB.D) (K : PySem.W.Frag) : bi f [d] = some (.bl (isTag f d)) ∧ PySem.W.kitOne K (.type (tyNm d)) (.type T) = some (isTag f d) := by
  cases f <;> simp only [isiTy] at h <;> first | (cases h; done) | skip
  all_goals (cases h; refine ⟨by simp [bi], kit_ty ?_⟩; cases d <;> simp only [tyNm, isTag] <;> decide +kernel)
theorem E_isi {f : Bi} {T : String} (h0 : isiTy f = some T) (la : lcOk Γ.ks a = true) (h : PE X ex (tCB (rIsi X.K) (tCons (rdE Γ fq XW G a) (tCons (tC (.ty T)) tNil)))) : PE X ex (rdE Γ fq XW G (.isi f a)) := PEimp h fun σ H Q q => by
  obtain ⟨F, e, E, w⟩ := q
  simp only [ev] at w
  refine rd_step E (Wt_bnd w) fun d1 e1 v H1 w1 k1 E1 r1 => ?_
  obtain ⟨d, f1, w1⟩ := Wt_bind w1
  obtain ⟨q1, q2⟩ := isi_kit h0 d X.K
  rw [q1] at w1
  exact ⟨v, .ty T, _, _, _, rfl, .ty T, tyX_of (r1.1.fin E1 la f1), q2, w1 _ H1 k1 E1 ⟨rfl, fun z => by cases z⟩⟩
/-! list(range(..)) -/
theorem rgV_D {Z : AS} {H : Hp} : ∀ (n : Nat) (lo : Int), RepL Z H (rangeD lo n) ((List.range n).map fun i => V.int (lo + (i : Nat)))
  | 0, _ => rfl
  | n + 1, lo => by
    rw [List.range_succ_eq_map, List.map_cons, List.map_map]
    refine ⟨_, _, rfl, by show _ = _; simp, ?_⟩
    have := rgV_D (Z := Z) (H := H) n (lo + 1)
    have e : ((fun i : Nat => V.int (lo + (i : Nat))) ∘ Nat.succ) = fun i : Nat => V.int (lo + 1 + (i : Nat)) := by
      funext i
      show V.int (lo + ((i + 1 : Nat) : Int)) = _
      congr 1
      omega
    rw [e]
    exact this
def rdRg (Γ : Gm) (XW : WX) (G : Gx) (a : C) : L2.St → Hp → (Int → Int → Hp → Prop) → Prop := fun σ H Q => ∃ F e, ER Γ F H σ e ∧ Wt (ev a G e) (fun d e1 => ∃ l p, d = .lst l ∧ noLocs a = true ∧ rngOf l = some p ∧ ∀ H1, Sp Γ F σ H H1 → ER Γ F H1 σ e1 → Q p.1 p.2 H1) (XF Γ XW F σ H)
theorem PRgimp {t t' : L2.St → Hp → (Int → Int → Hp → Prop) → Prop} (h : PRg X ex t) (i : ∀ σ H Q, t' σ H Q → t σ H Q) : PRg X ex t' := fun pins s σ H Q I q => h pins s σ H Q I (i σ H Q q)
/-- range(e, ..) by its arguments -/
def tRgA (ta : TA) : L2.St → Hp → (Int → Int → Hp → Prop) → Prop := fun σ H Q => ta σ H fun vs H1 => ∃ lo hi, ((vs = [.int hi] ∧ lo = 0) ∨ vs = [.int lo, .int hi]) ∧ Q lo hi H1
theorem prg_A {e : Expr} {es : List Expr} {ta : TA} {p pos : Pos} (hg : Gl X "range") (hm : X.mg "range" = none) (ha : PA X (e :: es) ta) (he : starEach (e :: es) X.env = (false, eval e X.env) :: starEach es X.env) (hpl : (backTo pos (starEach es X.env)).any (·.1) = false) :
    PRg X (.Call (.Name "range" p) (e :: es) [] pos) (tRgA ta) := by
  intro pins s σ H Q I h
  have step := ha.run pos pins s σ H _ I h
  refine Call_ (ld_blt I hg hm boot_range (PyProof.Rows.callWith_type1 (thn step ?_) he hpl))
  rintro us s1 ⟨vs, H1, J, rs, lo, hi, hv, q⟩
  rcases hv with ⟨rfl, rfl⟩ | rfl
  · obtain ⟨u, rfl, ru⟩ := vals1 rs
    obtain ⟨t, rfl⟩ := ru
    exact call_range_1 ⟨_, 0, hi, _, _, _, H1, rfl, IsRange.new _ _ _ _ _ _ _, J.kept fun b u e => Heap.get?_push_of_some _ e, q⟩
  · obtain ⟨u, w, rfl, ru, rw'⟩ := vals2 rs
    obtain ⟨t, rfl⟩ := ru
    obtain ⟨t', rfl⟩ := rw'
    exact call_range_2 ⟨_, lo, hi, _, _, _, H1, rfl, IsRange.new _ _ _ _ _ _ _, J.kept fun b u e => Heap.get?_push_of_some _ e, q⟩
theorem R_A (h : PRg X ex (tRgA (rdA Γ XW G a))) : PRg X ex (rdRg Γ XW G a) := PRgimp h fun σ H Q q => by
  obtain ⟨F, e, E, w⟩ := q
  refine rd_stepA E w fun d e1 w1 => ?_
  obtain ⟨l, p, rfl, hn, hr, k⟩ := w1
  refine ⟨l, rfl, fun vs H1 k1 E1 rs => ?_⟩
  have rl := VRs.repL hn rs
  unfold rngOf at hr
  split at hr
  · split at hr
    · cases hr
      obtain ⟨v, r, rfl, h1, h2⟩ := rl
      cases h2
      cases h1
      exact ⟨_, _, .inl ⟨rfl, rfl⟩, k H1 k1 E1⟩
    · cases hr
  · split at hr
    · cases hr
      obtain ⟨v, r, rfl, h1, h2⟩ := rl
      obtain ⟨v2, r2, rfl, h3, h4⟩ := h2
      cases h4
      cases h1
      cases h3
      exact ⟨_, _, .inr rfl, k H1 k1 E1⟩
    · cases hr
  · cases hr
theorem rng_small {l : List PB.D} {p : Int × Int} (h : rngOf l = some p) : (-(2 ^ 62) ≤ p.1 ∧ p.1 < 2 ^ 62) ∧ -(2 ^ 62) ≤ p.2 ∧ p.2 < 2 ^ 62 := by
  unfold rngOf at h
  split at h
  · split at h
    · rename_i hs
      cases h
      unfold smallI at hs
      simp only [Bool.and_eq_true, decide_eq_true_eq] at hs
      exact ⟨⟨by omega, by omega⟩, hs⟩
    · cases h
  · split at h
    · rename_i hs
      cases h
      unfold smallI at hs
      simp only [Bool.and_eq_true, decide_eq_true_eq] at hs
      exact hs
    · cases h
  · cases h
theorem E_lrngL (h : PE X ex (tLstRg (rdRg Γ XW G a))) : PE X ex (rdE Γ fq XW G (.lrng false a)) := PEimp h fun σ H Q q => by
  obtain ⟨F, e, E, w⟩ := q
  simp only [ev] at w
  refine ⟨F, e, E, (Wt_bnd w).imp (fun d1 e1 w1 => ?_) fun x e' q => q⟩
  cases d1 with
  | lst l =>
    obtain ⟨hn, w1⟩ := Wt_ite w1
    obtain ⟨p, hp, w1⟩ := Wt_bind w1
    obtain ⟨hl, w1⟩ := Wt_ite w1
    refine ⟨l, p, rfl, hn, hp, fun H1 k1 E1 => ⟨?_, fun q hq => ?_⟩⟩
    · obtain ⟨s1, s2⟩ := rng_small hp
      unfold lim at hl
      exact ⟨s1.1, s1.2, s2.1, s2.2, by omega⟩
    · exact Res.lst (res_of (e := e1) E1 fun v' H' k E' r fr => w1 v' H' (k1.trans k) E' ⟨r, fun _ => fr.back k1⟩) E1.ztH (rgV_D _ _) hq
  | _ => exact w1.elim
theorem E_lrngT (h : PE X ex (tTupRg (rdRg Γ XW G a))) : PE X ex (rdE Γ fq XW G (.lrng true a)) := PEimp h fun σ H Q q => by
  obtain ⟨F, e, E, w⟩ := q
  simp only [ev] at w
  refine ⟨F, e, E, (Wt_bnd w).imp (fun d1 e1 w1 => ?_) fun x e' q => q⟩
  cases d1 with
  | lst l =>
    obtain ⟨hn, w1⟩ := Wt_ite w1
    obtain ⟨p, hp, w1⟩ := Wt_bind w1
    obtain ⟨hl, w1⟩ := Wt_ite w1
    refine ⟨l, p, rfl, hn, hp, fun H1 k1 E1 => ⟨?_, fun q hq => ?_⟩⟩
    · obtain ⟨s1, s2⟩ := rng_small hp
      unfold lim at hl
      exact ⟨s1.1, s1.2, s2.1, s2.2, by omega⟩
    · exact Res.tup (res_of (e := e1) E1 fun v' H' k E' r fr => w1 v' H' (k1.trans k) E' ⟨r, fun _ => fr.back k1⟩) E1.ztH (rgV_D _ _) hq
  | _ => exact w1.elim
/-! a, b = x, y: shared or owned slots -/
theorem Sp.unadd {F : Fm} {σ : L2.St} {H H' : Hp} {p : Addr} (k : Sp Γ (F.add p) σ H H') (hO : ¬ OsS Γ.ks σ p) : Sp Γ F σ H H' := by
  have np : ¬ zs Γ (F.add p) σ p := fun z => by
    rcases z with z | z
    · exact hO z
    · exact z.2 (.inr rfl)
  refine ⟨fun a o h n z => ⟨?_, z⟩, fun a o h n z => ⟨(k.ko a o h n fun y => z ?_).1, z⟩, k.dom⟩
  · by_cases ha : a = p
    · rw [ha] at h ⊢
      exact (k.ko p o h n np).1
    · exact (k.kp a o h n fun y => z (by
        rcases y with (y | y) | y
        · exact .inl y
        · exact absurd y ha
        · exact .inr y)).1
  · rcases y with y | y
    · exact .inl y
    · exact .inr ⟨y.1, fun q => y.2 (.inl q)⟩
theorem XR.unadd {F : Fm} {σ : L2.St} {H : Hp} {p : Addr} {x : Exn} {cls : Value} {od : Option Addr} (h : XR Γ (F.add p) σ H x cls od) : XR Γ F σ H x cls od := by
  obtain ⟨C, e1, e2, dx, fs, e3, e4, e5⟩ := h
  refine ⟨C, e1, e2, dx, fs, e3, e4, fun f d hf => ?_⟩
  obtain ⟨v, s1, s2⟩ := e5 f d hf
  exact ⟨v, s1, s2.ofZ fun a q => q.imp .inl id⟩
theorem XF.add {F : Fm} {σ : L2.St} {H : Hp} {p : Addr} {x : Exn} {e' : En} (h : XF Γ XW F σ H x e') (hO : ¬ OsS Γ.ks σ p) : XF Γ XW (F.add p) σ H x e' := fun cls od H' k E r => h cls od H' (k.unadd hO) E.unadd r.unadd
/-- how a slot takes a value: shared, or owned and new -/
def tkOk (Γ : Gm) (fq : Nat → Bool) (i : Nat) (c : C) : Prop := (Γ.ks[i]? = some Kd.shr ∧ Fre Γ i) ∨ (Γ.ks[i]? = some Kd.own ∧ Γ.np ≤ i ∧ frC fq c = true)
theorem setComm {α : Type} {l : List α} {i j : Nat} {x y : α} (h : i ≠ j) : (l.set i x).set j y = (l.set j y).set i x := List.set_comm _ _ h
theorem par_read (hks : G.ks = Γ.ks) {i j : Nat} (hij : i ≠ j) (ti : tkOk Γ fq i a) (tj : tkOk Γ fq j b) {D : Ends} {σ : L2.St} {H : Hp} (q : rdSt Γ fr XW G (.par i j a b) D σ H) : tPar i j (tCons (rdE Γ fq XW G a) (tCons (rdE Γ fq XW G b) tNil)) D σ H := by
  obtain ⟨F, e, E, w⟩ := q
  simp only [exec, hks] at w
  refine rd_step E (WtS_outB w) fun d e1 v H1 w1 k1 E1 r1 => ?_
  rcases ti with ⟨hi, fi⟩ | ⟨hi, ni, ci⟩
  · -- the first is shared
    refine rd_step E1 ((WtS_outB w1).imp (fun _ _ q => q) fun x e' q => XF.mono q k1) fun q e2 y H2 w2 k2 E2 r2 => ?_
    obtain ⟨hll, w2⟩ := rdS_ite' w2
    obtain ⟨la, lb⟩ := loc2 hll
    have rv : Rep (zt Γ F σ) H1 d v := r1.1.rep la
    obtain ⟨e3, q3, w2⟩ := rdS_bind w2
    obtain ⟨e4, q4, w2⟩ := rdS_map w2
    cases setK_shr hi q3
    have no : Γ.ks[i]? ≠ some Kd.own := by rw [hi]; exact fun z => nomatch z
    refine ⟨v, y, rfl, ?_⟩
    rcases tj with ⟨hj, fj⟩ | ⟨hj, nj, cj⟩
    · cases setK_shr hj q4
      have no' : Γ.ks[j]? ≠ some Kd.own := by rw [hj]; exact fun z => nomatch z
      exact w2 _ H2 (stp_same (k1.trans k2) (by rw [osS_set' no', osS_set' no])) ((E2.setShr hi fi (Rep.mono k2.kp _ _ rv)).setShr hj fj (by rw [zt_set no]; exact r2.1.rep lb))
    · obtain ⟨hd, rfl⟩ := setK_own hj q4
      obtain ⟨p, rfl, hs, h0, hz, E3, o⟩ := (r2.2 cj).back k1 hd
      have rv' : Rep (zt Γ (F.add p) σ) H2 d v := by
        refine Rep.mono (fun c u hc hn hzc => ⟨(k2.kp c u hc hn hzc).1, fun z => ?_⟩) _ _ rv
        rcases z with (z | z) | z
        · exact hzc (.inl z)
        · have h1p : H1 p = none := by
            obtain ⟨p', e', hs', _⟩ := r2.2 cj hd
            cases e'
            exact hs'
          rw [show c = p from z, h1p] at hc
          cases hc
        · exact hzc (.inr z)
      have E4 := (E3.setShr hi fi rv').setOwn hj nj h0 (by rw [zt_set no]; exact hz) (by rw [zt_set no]; exact o)
      refine w2 _ H2 ?_ E4
      have s1 := Stp.own (i := j) (k1.trans k2) hs
      refine ⟨?_, ?_, s1.dom⟩
      · rw [setComm hij, zt_set no]; exact s1.kp
      · have e2 : zs Γ F ((σ.set i (some v)).set j (some (V.ref p))) = zs Γ F (σ.set j (some (V.ref p))) := by
          rw [setComm hij]
          unfold zs
          rw [osS_set' no]
        rw [e2]
        exact s1.ko
  · -- the first is a new object
    by_cases hd1 : isHp d = true
    · obtain ⟨p, rfl, hs, h0, hz, Ep, o⟩ := r1.2 ci hd1
      have hO : ¬ OsS Γ.ks σ p := fun z => hz (.inr z)
      have np : ¬ zs Γ (F.add p) σ p := fun z => by
        rcases z with z | z
        · exact hO z
        · exact z.2 (.inr rfl)
      refine rd_step Ep ((WtS_outB w1).imp (fun _ _ q => q) fun x e' q => (XF.mono q k1).add hO) fun q e2 y H2 w2 k2 E2 r2 => ?_
      have k2' : Sp Γ F σ H1 H2 := k2.unadd hO
      obtain ⟨hll, w2⟩ := rdS_ite' w2
      obtain ⟨la, lb⟩ := loc2 hll
      obtain ⟨e3, q3, w2⟩ := rdS_bind w2
      obtain ⟨e4, q4, w2⟩ := rdS_map w2
      obtain ⟨_, rfl⟩ := setK_own hi q3
      have hp1 : ∃ u, H1 p = some u ∧ (∀ ps, u ≠ .tbl ps) := by
        cases qa : H1 p with
        | none => exact absurd qa o.there
        | some u => exact ⟨u, rfl, fun ps z => o.notTbl ps (by rw [qa, z])⟩
      obtain ⟨u, hu, hnt⟩ := hp1
      have hp2 : H2 p = some u := (k2.ko p u hu hnt np).1
      have eZ : ∀ c, zt Γ (F.add p) σ c → addZ (zt Γ F σ) p c := fun c z => by
        rcases z with (z | z) | z
        · exact .inl (.inl z)
        · exact .inr z
        · exact .inl (.inr z)
      have Ze : ∀ c, addZ (zt Γ F σ) p c → zt Γ (F.add p) σ c := fun c z => by
        rcases z with (z | z) | z
        · exact .inl (.inl z)
        · exact .inr z
        · exact .inl (.inr z)
      have o1 : Own (zt Γ (F.add p) σ) H1 p d := o.ofZ eZ
      refine ⟨_, y, rfl, ?_⟩
      rcases tj with ⟨hj, fj⟩ | ⟨hj, nj, cj⟩
      · cases setK_shr hj q4
        have no' : Γ.ks[j]? ≠ some Kd.own := by rw [hj]; exact fun z => nomatch z
        have o2 : Own (zt Γ (F.add p) σ) H2 p d := o1.mono (fun o q => by rw [hu] at q; cases q; exact hp2) k2.kp
        have E4 := (E2.setShr hj fj (r2.1.rep lb))
        have E5 := ER.setOwn E4 hi ni h0 (by rw [zt_set no']; exact hz) (by rw [zt_set no']; exact o2.ofZ Ze)
        rw [setComm (Ne.symm hij), setComm (Ne.symm hij)] at E5
        refine w2 _ H2 ?_ E5
        have s1 := Stp.own (i := i) (k1.trans k2') hs
        refine ⟨?_, ?_, s1.dom⟩
        · rw [zt_set no']; exact s1.kp
        · have e2 : zs Γ F ((σ.set i (some (V.ref p))).set j (some y)) = zs Γ F (σ.set i (some (V.ref p))) := by
            unfold zs
            rw [osS_set' no']
          rw [e2]
          exact s1.ko
      · obtain ⟨hd2, rfl⟩ := setK_own hj q4
        obtain ⟨p', rfl, hs', h0', hz', E3, o'⟩ := r2.2 cj hd2
        have npp : p ≠ p' := fun z => by rw [z] at hu; rw [hs'] at hu; cases hu
        have o2 : Own (zt Γ ((F.add p).add p') σ) H2 p d := by
          refine o1.mono (fun o q => by rw [hu] at q; cases q; exact hp2) fun c u' hc hn hzc => ⟨(k2.kp c u' hc hn hzc).1, fun z => ?_⟩
          rcases z with (z | z) | z
          · exact hzc (.inl z)
          · rw [show c = p' from z, hs'] at hc; cases hc
          · exact hzc (.inr z)
        have E4 : ER Γ (F.add p) H2 (σ.set j (some (.ref p'))) (e2.set j (some q)) := ER.setOwn E3 hj nj h0' hz' o'
        have sub : ∀ c, zt Γ (F.add p) (σ.set j (some (V.ref p'))) c → zt Γ ((F.add p).add p') σ c := fun c z => by
          rcases z with z | ⟨m, z1, z2⟩
          · exact .inl (.inl z)
          · by_cases hm : m = j
            · subst hm
              by_cases hlt : m < σ.length
              · rw [List.getElem?_set_self hlt] at z2
                cases z2
                exact .inl (.inr rfl)
              · rw [List.getElem?_eq_none (by simpa using hlt)] at z2
                cases z2
            · rw [get_set hm] at z2
              exact .inr ⟨m, z1, z2⟩
        have hzp : ¬ zt Γ F (σ.set j (some (V.ref p'))) p := fun z => by
          rcases z with z | ⟨m, z1, z2⟩
          · exact hz (.inl z)
          · by_cases hm : m = j
            · subst hm
              by_cases hlt : m < σ.length
              · rw [List.getElem?_set_self hlt] at z2
                cases z2
                exact npp rfl
              · rw [List.getElem?_eq_none (by simpa using hlt)] at z2
                cases z2
            · rw [get_set hm] at z2
              exact hO ⟨m, z1, z2⟩
        have E5 := ER.setOwn E4 hi ni h0 hzp (o2.ofZ fun c z => sub c (by
          rcases z with (z | z) | z
          · exact .inl (.inl z)
          · exact .inr z
          · exact .inl (.inr z)))
        rw [setComm (Ne.symm hij), setComm (Ne.symm hij)] at E5
        refine w2 _ H2 ?_ E5
        have hsP : H p' = none := by
          cases qa : H p' with
          | none => rfl
          | some o => exact absurd hs' (k1.dom p' (by rw [qa]; exact fun z => nomatch z))
        have s0 : Sp Γ F σ H H2 := k1.trans k2'
        have sO : ∀ c u', H c = some u' → ¬ OsS Γ.ks σ c → ¬ OsS Γ.ks ((σ.set i (some (V.ref p))).set j (some (V.ref p'))) c := fun c u' hc hn ⟨m, z1, z2⟩ => by
          by_cases hm : m = j
          · subst hm
            by_cases hlt : m < (σ.set i (some (V.ref p))).length
            · rw [List.getElem?_set_self hlt] at z2
              cases z2
              rw [hsP] at hc
              cases hc
            · rw [List.getElem?_eq_none (by simpa using hlt)] at z2
              cases z2
          · rw [get_set hm] at z2
            by_cases hm2 : m = i
            · subst hm2
              by_cases hlt : m < σ.length
              · rw [List.getElem?_set_self hlt] at z2
                cases z2
                rw [hs] at hc
                cases hc
              · rw [List.getElem?_eq_none (by simpa using hlt)] at z2
                cases z2
            · rw [get_set hm2] at z2
              exact hn ⟨m, z1, z2⟩
        refine ⟨fun c u' hc hn hzc => ⟨(s0.kp c u' hc hn hzc).1, fun z => ?_⟩, fun c u' hc hn hzc => ⟨(s0.ko c u' hc hn hzc).1, fun z => ?_⟩, s0.dom⟩
        · rcases z with z | z
          · exact hzc (.inl z)
          · exact sO c u' hc (fun y => hzc (.inr y)) z
        · rcases z with z | z
          · exact sO c u' hc (fun y => hzc (.inl y)) z
          · exact hzc (.inr z)
    · refine rd_step E1 ((WtS_outB w1).imp (fun _ _ q => q) fun x e' q => XF.mono q k1) fun q e2 y H2 w2 k2 E2 r2 => ?_
      obtain ⟨hll, w2⟩ := rdS_ite' w2
      obtain ⟨e3, q3, w2⟩ := rdS_bind w2
      exact absurd (setK_own hi q3).1 hd1
/-- .. where the pair itself is laid, and left -/
abbrev exN (D : Ends) : Ends := { D with nx := fun σ' H' => ∀ p o, H' p = none → D.nx σ' (upd H' p o) }
theorem rdS_ex {F : Fm} {D : Ends} {σ : L2.St} {H : Hp} {o : Option Out} (h : rdS' Γ fr XW F D σ H o) : rdS' Γ fr XW F (exN D) σ H o := by
  refine h.imp (fun e q σ' H' k E p u hp => ?_) (fun _ q => q) (fun _ q => q) (fun _ _ q => q) fun _ _ q => q
  have x : Ex H' (upd H' p u) := Ex.new hp
  exact q σ' _ (k.trans (x.sp (Γ := Γ) (F := F) (σ := σ')).stp) (E.ext x)
theorem rdSt_ex {D : Ends} {σ : L2.St} {H : Hp} {c : C} (h : rdSt Γ fr XW G c D σ H) : rdSt Γ fr XW G c (exN D) σ H := by
  obtain ⟨F, e, E, w⟩ := h
  exact ⟨F, e, E, rdS_ex w⟩
/-! three shared slots -/
theorem par3_read {c : C} (hks : G.ks = Γ.ks) {i j l : Nat} (hi : Γ.ks[i]? = some Kd.shr) (hj : Γ.ks[j]? = some Kd.shr) (hl : Γ.ks[l]? = some Kd.shr) (fi : Fre Γ i) (fj : Fre Γ j) (fl : Fre Γ l) {D : Ends} {σ : L2.St} {H : Hp}
    (q : rdSt Γ fr XW G (.par3 i j l a b c) D σ H) : L2.tPar3 i j l (tCons (rdE Γ fq XW G a) (tCons (rdE Γ fq XW G b) (tCons (rdE Γ fq XW G c) tNil))) D σ H := by
  obtain ⟨F, e, E, w⟩ := q
  simp only [exec, hks] at w
  refine rd_step E (WtS_outB w) fun d e1 v H1 w1 k1 E1 r1 => ?_
  refine rd_step E1 ((WtS_outB w1).imp (fun _ _ q => q) fun x e' q => XF.mono q k1) fun d2 e2 v2 H2 w2 k2 E2 r2 => ?_
  refine rd_step E2 ((WtS_outB w2).imp (fun _ _ q => q) fun x e' q => XF.mono q (k1.trans k2)) fun d3 e3 v3 H3 w3 k3 E3 r3 => ?_
  obtain ⟨hll, w3⟩ := rdS_ite' w3
  have h3 : isLoc a = false ∧ isLoc b = false ∧ isLoc c = false := by
    revert hll
    cases isLoc a <;> cases isLoc b <;> cases isLoc c <;> simp
  obtain ⟨e4, q4, w3⟩ := rdS_bind w3
  obtain ⟨e5, q5, w3⟩ := rdS_bind w3
  obtain ⟨e6, q6, w3⟩ := rdS_map w3
  cases setK_shr hi q4
  cases setK_shr hj q5
  cases setK_shr hl q6
  have ni : Γ.ks[i]? ≠ some Kd.own := by rw [hi]; exact fun z => nomatch z
  have nj : Γ.ks[j]? ≠ some Kd.own := by rw [hj]; exact fun z => nomatch z
  have nl : Γ.ks[l]? ≠ some Kd.own := by rw [hl]; exact fun z => nomatch z
  have g1 : Rep (zt Γ F σ) H3 d v := Rep.mono (k2.trans k3).kp _ _ (r1.1.rep h3.1)
  have g2 : Rep (zt Γ F σ) H3 d2 v2 := Rep.mono k3.kp _ _ (r2.1.rep h3.2.1)
  have g3 : Rep (zt Γ F σ) H3 d3 v3 := r3.1.rep h3.2.2
  have E6 := ((E3.setShr hi fi g1).setShr hj fj (by rw [zt_set ni]; exact g2)).setShr hl fl (by rw [zt_set nj, zt_set ni]; exact g3)
  exact ⟨v, v2, v3, rfl, w3 _ H3 (stp_same ((k1.trans k2).trans k3) (by rw [osS_set' nl, osS_set' nj, osS_set' ni])) E6⟩
end
end PB
set_option maxHeartbeats 4000000
/-! Iw: when a, b = x, y is stored at once. -/
namespace PB
open PySem PySem.Spec PyProof.Rows L2
def isStar : Expr → Bool
  | .Starred _ _ => true
  | _ => false
section
variable {env : Env} {x y z : Str} {px py pz p p2 : Pos} {k k2 : Nat} {a b c : Expr}
theorem star_eq : (match a with | .Starred .. => true | _ => false) = isStar a := by cases a <;> rfl
theorem sw_two (hk : env.scope.kind = .function) (hx : env.scope.names.lookup x = some .local) (hy : env.scope.names.lookup y = some .local) (hl : (py.line == px.line) = true) (hxy : x ≠ y) (na : isStar a = false) (nb : isStar b = false)
    (hf : (foldedForSure 8 a && foldedForSure 8 b) = false) (hc : (constantsAlone 8 a && constantsAlone 8 b) = false) :
    swappedStores [.Tuple [.Name x px, .Name y py] k p] (.Tuple [a, b] k2 p2) env = pure (some [x, y]) := by
  have kx : env.kindOf x = some .local := hx
  have ky : env.kindOf y = some .local := hy
  have hb : env.blockKind = .function := by unfold Env.blockKind; rw [hk]; rfl
  have e2 : (y == x) = false := by simpa using (Ne.symm hxy)
  have sa := (star_eq (a := a)).trans na
  have sb := (star_eq (a := b)).trans nb
  have h1 : ¬ (foldedForSure 8 a = true ∧ foldedForSure 8 b = true) := fun q => by rw [q.1, q.2] at hf; cases hf
  have h2 : ¬ (constantsAlone 8 a = true ∧ constantsAlone 8 b = true) := fun q => by rw [q.1, q.2] at hc; cases hc
  unfold swappedStores
  simp [hb, kx, ky, hl, Expr.pos, List.filterMap, List.eraseDups, List.eraseDupsBy, List.eraseDupsBy.loop, e2]
  rw [if_neg (fun q => by
    rcases q with q | q
    · exact Bool.false_ne_true (sa.symm.trans q)
    · exact Bool.false_ne_true (sb.symm.trans q)), if_neg h1, if_neg h2]
theorem sw_three (hk : env.scope.kind = .function) (hx : env.scope.names.lookup x = some .local) (hy : env.scope.names.lookup y = some .local) (hz : env.scope.names.lookup z = some .local) (hl : (py.line == px.line) = true) (hl2 : (pz.line == px.line) = true) (hxy : x ≠ y) (hxz : x ≠ z) (hyz : y ≠ z) (na : isStar a = false) (nb : isStar b = false) (nc : isStar c = false)
    (hf : (foldedForSure 8 a && foldedForSure 8 b && foldedForSure 8 c) = false) (hc : (constantsAlone 8 a && constantsAlone 8 b && constantsAlone 8 c) = false) :
    swappedStores [.Tuple [.Name x px, .Name y py, .Name z pz] k p] (.Tuple [a, b, c] k2 p2) env = pure (some [x, y, z]) := by
  have kx : env.kindOf x = some .local := hx
  have ky : env.kindOf y = some .local := hy
  have kz : env.kindOf z = some .local := hz
  have hb : env.blockKind = .function := by unfold Env.blockKind; rw [hk]; rfl
  have e2 : (y == x) = false := by simpa using (Ne.symm hxy)
  have e3 : (z == x) = false := by simpa using (Ne.symm hxz)
  have e4 : (z == y) = false := by simpa using (Ne.symm hyz)
  have sa := (star_eq (a := a)).trans na
  have sb := (star_eq (a := b)).trans nb
  have sc := (star_eq (a := c)).trans nc
  have h1 : ¬ (foldedForSure 8 a = true ∧ foldedForSure 8 b = true ∧ foldedForSure 8 c = true) := fun q => by rw [q.1, q.2.1, q.2.2] at hf; cases hf
  have h2 : ¬ (constantsAlone 8 a = true ∧ constantsAlone 8 b = true ∧ constantsAlone 8 c = true) := fun q => by rw [q.1, q.2.1, q.2.2] at hc; cases hc
  unfold swappedStores
  simp [hb, kx, ky, kz, hl, hl2, Expr.pos, List.filterMap, List.eraseDups, List.eraseDupsBy, List.eraseDupsBy.loop, e2, e3, e4]
  rw [if_neg (fun q => by
    rcases q with q | q | q
    · exact Bool.false_ne_true (sa.symm.trans q)
    · exact Bool.false_ne_true (sb.symm.trans q)
    · exact Bool.false_ne_true (sc.symm.trans q)), if_neg h1, if_neg h2]
def plainB (sc : Scope) (line : Nat) (x : Str) (p : Pos) : Bool := decide (sc.names.lookup x = some .local) && (p.line == line)
theorem sw_none2 {ts vs : List Expr} (h : ((ts.filterMap fun
      | .Name id pos => if env.kindOf id == some .local && pos.line == (ts.head?.map (·.pos.line)).getD 0 then some id else none
      | _ => none).length != ts.length) = true ∨ vs.all (foldedForSure 8) = true) : swappedStores [.Tuple ts k p] (.Tuple vs k2 p2) env = pure none := by
  unfold swappedStores
  dsimp only [pure_bind, bind_pure]
  by_cases c1 : ((!(ts.length == 2 || ts.length == 3) || vs.length != ts.length || env.blockKind != .function) = true)
  · simp only [c1, if_true, pure_bind]
  · simp only [c1, if_false, pure_bind]
    rw [if_neg Bool.false_ne_true]
    split
    · rfl
    · rcases h with h | h
      · exact if_pos ((Bool.or_eq_true _ _).mpr (.inl h))
      · simp only [h, if_true]
        exact ite_self _
end
end PB
set_option maxHeartbeats 4000000
/-! Ix: {k: v, ..} with text keys. -/
namespace PB
open PySem PySem.Spec PyProof.Rows L2
def keyE : Str → Option Expr → Bool
  | k, some (.Constant (.str x) _ _) => decide (k = x)
  | _, _ => false
/-- the pairs' readings, keys known -/
def trsOf (ks : List Str) (ts : List TE) : List (TE × TE) := (ks.map fun k => tC (.str k)).zip ts
section
variable {X : Cx} {Γ : Gm} {fq : Nat → Bool} {XW : WX} {G : Gx} {a b : C} {ex : Expr}
/-- the values' readings, one after the other -/
def rdD (Γ : Gm) (fq : Nat → Bool) (XW : WX) (G : Gx) : C → List TE
  | .cons a b => rdE Γ fq XW G a :: rdD Γ fq XW G b
  | _ => []
theorem zipLen {ks : List Str} {ds : List PB.D} {kvs : List (Str × PB.D)} (h : flds0 ks ds = some kvs) : ds.length = ks.length ∧ kvs = ks.zip ds := by
  induction ks generalizing ds kvs with
  | nil => cases ds with
    | nil => cases h; exact ⟨rfl, rfl⟩
    | cons d ds => cases h
  | cons k ks ih => cases ds with
    | nil => cases h
    | cons d ds =>
      simp only [flds0] at h
      obtain ⟨l, h1, h2⟩ := Option.map_eq_some_iff.mp h
      cases h2
      obtain ⟨i1, i2⟩ := ih h1
      subst i2
      exact ⟨by simp [i1], rfl⟩
def consN0 : C → Nat
  | .cons _ b => consN0 b + 1
  | _ => 0
/-- the pairs, by the values' code -/
theorem pairs_read {F : Fm} {σ : L2.St} : ∀ {c : C} {ks : List Str} {e : En} {H : Hp} {Q : List (V × V) → Hp → Prop}, ER Γ F H σ e → isTgs c = true → consN0 c = ks.length → noLocs c = true →
    Wt (ev c G e) (fun d e1 => ∀ vs H1, Sp Γ F σ H H1 → ER Γ F H1 σ e1 → (∃ l, d = .lst l ∧ RepL (zt Γ F σ) H1 l vs) → Q ((ks.map V.str).zip vs) H1) (XF Γ XW F σ H) → tPairs (trsOf ks (rdD Γ fq XW G c)) σ H Q := by
  intro c
  induction c with
  | nil =>
    intro ks e H Q E _ hn _ w
    cases ks with
    | nil =>
      simp only [ev] at w
      exact w [] H Sp.refl E ⟨[], rfl, rfl⟩
    | cons k ks => simp [consN0] at hn
  | cons a b iha ihb =>
    intro ks e H Q E ht hn hl w
    cases ks with
    | nil => simp [consN0] at hn
    | cons k ks =>
      simp only [noLocs, Bool.and_eq_true, Bool.not_eq_true'] at hl
      simp only [ev] at w
      show rdE Γ fq XW G a σ H (fun y H2 => tPairs (trsOf ks (rdD Γ fq XW G b)) σ H2 fun ps H3 => Q ((V.str k, y) :: ps) H3)
      refine rd_step E (Wt_bnd w) fun d1 e1 v H1 w1 k1 E1 r1 => ?_
      refine ihb E1 ht (by simpa [consN0] using hn) hl.2 ((Wt_bnd w1).imp (fun d2 e2 w2 => ?_) fun x e' q => XF.mono q k1)
      rintro vs H3 k3 E3 ⟨l, rfl, rl⟩
      exact w2 (v :: vs) H3 (k1.trans k3) E3 ⟨d1 :: l, rfl, v, vs, rfl, Rep.mono k3.kp _ _ (r1.1.rep hl.1), rl⟩
  | _ => intro ks e H Q E ht; cases ht
theorem merge_new : ∀ {l acc : List (Key × V)}, (∀ p ∈ l, ∀ q ∈ acc, q.1 ≠ p.1) → (l.map (·.1)).Nodup → mergeK acc l = acc ++ l
  | [], acc, _, _ => by simp [mergeK]
  | p :: l, acc, h, nd => by
    have h1 : putK acc p.1 p.2 = acc ++ [p] := by
      unfold putK
      rw [if_neg]
      intro z
      obtain ⟨q, hq, e⟩ := List.any_eq_true.mp z
      exact h p List.mem_cons_self q hq (of_decide_eq_true e)
    show mergeK (putK acc p.1 p.2) l = _
    have nd' : (p.1 :: l.map (·.1)).Nodup := nd
    rw [h1, merge_new ?_ (List.nodup_cons.mp nd').2]
    · simp
    · intro q hq r hr
      rcases List.mem_append.mp hr with hr | hr
      · exact h q (List.mem_cons_of_mem _ hq) r hr
      · rw [List.mem_singleton.mp hr]
        intro z
        have := (List.nodup_cons.mp nd').1
        exact this (by rw [z]; exact List.mem_map.mpr ⟨q, hq, rfl⟩)
theorem repK_zip {Z : AS} {H : Hp} : ∀ {ks : List Str} {l : List PB.D} {vs : List V}, l.length = ks.length → RepL Z H l vs → RepK Z H ((ks.zip l).map fun p => (PB.D.str p.1, p.2)) ((ks.map fun k => (Sum.inr k : Key)).zip vs)
  | [], [], _, _, h => by cases h; rfl
  | k :: ks, d :: l, _, hl, h => by
    obtain ⟨v, r, rfl, h1, h2⟩ := h
    exact ⟨.inr k, v, _, rfl, rfl, h1, repK_zip (by simpa using hl) h2⟩
  | [], _ :: _, _, hl, _ => by simp at hl
  | _ :: _, [], _, hl, _ => by simp at hl
theorem zip_keys : ∀ (ks : List Str) (vs : List V), (ks.map V.str).zip vs = ((ks.map fun k => (Sum.inr k : Key)).zip vs).map fun kv => (kV kv.1, kv.2)
  | [], _ => rfl
  | _ :: _, [] => rfl
  | k :: ks, v :: vs => by simp [zip_keys ks vs, kV]
theorem zip_fst : ∀ (ks : List Str) (vs : List V), vs.length = ks.length → ((ks.map fun k => (Sum.inr k : Key)).zip vs).map (·.1) = ks.map fun k => (Sum.inr k : Key)
  | [], [], _ => rfl
  | [], _ :: _, h => by simp at h
  | _ :: _, [], h => by simp at h
  | k :: ks, v :: vs, h => by simp [zip_fst ks vs (by simpa using h)]
theorem E_disp {ks : List Str} (hn : consN0 a = ks.length) (ht : isTgs a = true) (hl : noLocs a = true) (nd : ks.Nodup) (h15 : ks.length ≤ 15) (h : PE X ex (tDisp (trsOf ks (rdD Γ fq XW G a)))) : PE X ex (rdE Γ fq XW G (.disp ks a)) := PEimp h fun σ H Q q p hp => by
  obtain ⟨F, e, E, w⟩ := q
  simp only [ev] at w
  have p0 : F.H0 p = none := E.h0 hp
  have pz : ¬ zt Γ F σ p := fun z => (E.ztH p z).1 hp
  have hO : ¬ OsS Γ.ks σ p := fun z => pz (.inr z)
  have x0 : Ex H (upd H p (.dK [])) := Ex.new hp
  have E0 : ER Γ (F.add p) (upd H p (.dK [])) σ e := E.extZ x0 fun q hq => by
    rcases hq with hq | hq
    · exact .inl hq
    · subst hq
      exact .inr ⟨hp, (by intro z; rw [upd_same] at z; cases z), (by intro _ z; rw [upd_same] at z; cases z), (by intro _ z; rw [upd_same] at z; cases z)⟩
  have np : ¬ zs Γ (F.add p) σ p := fun z => by
    rcases z with z | z
    · exact hO z
    · exact z.2 (.inr rfl)
  refine pairs_read E0 ht hn hl ((Wt_bnd w).imp (fun d e1 w1 => ?_) fun x e' q => (XF.mono q (x0.sp (Γ := Γ) (F := F) (σ := σ))).add hO)
  rintro vs H1 k1 E1 ⟨l, rfl, rl⟩
  obtain ⟨_, w1⟩ := Wt_ite w1
  have hp1 : H1 p = some (.dK []) := (k1.ko p _ upd_same (fun ps z => by cases z) np).1
  cases hf : flds0 ks l with
  | none => rw [hf] at w1; exact w1.elim
  | some kvs =>
    rw [hf] at w1
    obtain ⟨ll, rfl⟩ := zipLen hf
    have lv := RepL.length _ _ rl
    have hm : mergeK [] ((ks.map fun k => (Sum.inr k : Key)).zip vs) = (ks.map fun k => (Sum.inr k : Key)).zip vs := by
      rw [merge_new (fun _ _ _ q => by cases q) ?_]
      · rfl
      · rw [zip_fst ks vs (by omega)]
        exact List.Pairwise.map _ (fun a b hab e => hab (Sum.inr.inj e)) nd
    refine ⟨hp1, (ks.map fun k => (Sum.inr k : Key)).zip vs, zip_keys ks vs, by simp; omega, ?_⟩
    rw [hm]
    have k1' : Sp Γ F σ (upd H p (.dK [])) H1 := k1.unadd hO
    have EA : ER Γ (F.add p) (upd H1 p (.dK ((ks.map fun k => (Sum.inr k : Key)).zip vs))) σ e1 := E1.wrO hp1 (fun _ z => by cases z) (fun _ z => by unfold LamX.CodeO at z; cases z) (fun _ z => by cases z) (fun _ z => by cases z) (fun _ z => by cases z) (.inr rfl) p0
    have dz : zt Γ (F.add p) σ p := .inl (.inr rfl)
    have kz : Kp (zt Γ (F.add p) σ) (zt Γ (F.add p) σ) H1 (upd H1 p (.dK ((ks.map fun k => (Sum.inr k : Key)).zip vs))) := fun c u hc _ hz => ⟨by rw [upd_ne (fun z => hz (by rw [z]; exact dz))]; exact hc, hz⟩
    have rK : RepK (zt Γ (F.add p) σ) (upd H1 p (.dK ((ks.map fun k => (Sum.inr k : Key)).zip vs))) ((ks.zip l).map fun p => (PB.D.str p.1, p.2)) ((ks.map fun k => (Sum.inr k : Key)).zip vs) := repK_zip ll (RepL.mono kz _ _ rl)
    have old : ∀ c u, H c = some u → upd H1 p (.dK ((ks.map fun k => (Sum.inr k : Key)).zip vs)) c = H1 c := fun c u hc => upd_ne fun z => by rw [z, hp] at hc; cases hc
    refine w1 (.ref p) _ ⟨fun c u hc hn' hz => ⟨?_, hz⟩, fun c u hc hn' hz => ⟨?_, hz⟩, fun c hc => upd_dom c (k1'.dom c (upd_dom c hc))⟩ EA.unadd ⟨⟨p, rfl, pz, .inl ⟨rfl, _, upd_same, ?_⟩⟩, fun _ _ => ⟨p, rfl, hp, p0, pz, EA, .inl ⟨rfl, _, upd_same, ?_⟩⟩⟩
    · rw [old c u hc]; exact (k1'.kp c u (x0 c u hc) hn' hz).1
    · rw [old c u hc]; exact (k1'.ko c u (x0 c u hc) hn' hz).1
    · exact RepK.mono (Kp.sub fun c z => z.imp .inl id) _ _ rK
    · exact RepK.mono (Kp.sub fun c z => by
        rcases z with (z | z) | z
        · exact .inl (.inl z)
        · exact .inr z
        · exact .inl (.inr z)) _ _ rK
end
end PB
set_option maxHeartbeats 4000000
/-! Iy: sorted, min, max over plain values. -/
namespace PB
open PySem PySem.Spec PyProof.Rows L2

mutual
theorem alike_py : ∀ (x y : D), PySem.W.alike (toPy x) (toPy y) = alikeD x y
  | .non, y => by cases y <;> simp [toPy, PySem.W.alike, alikeD]
  | .bl b, y => by cases y <;> simp [toPy, PySem.W.alike, alikeD]
  | .int i, y => by cases y <;> simp [toPy, PySem.W.alike, alikeD]
  | .str x, y => by cases y <;> simp [toPy, PySem.W.alike, alikeD]
  | .tup xs, y => by
    cases y with
    | tup ys => simp only [toPy, PySem.W.alike, alikeD]; exact alike_pyL xs ys
    | _ => simp [toPy, PySem.W.alike, alikeD]
  | .lst xs, y => by
    cases y with
    | lst ys => simp only [toPy, PySem.W.alike, alikeD]; exact alike_pyL xs ys
    | _ => simp [toPy, PySem.W.alike, alikeD]
  | .dic _ _, y => by cases y <;> simp [toPy, PySem.W.alike, alikeD]
theorem alike_pyL : ∀ (xs ys : List D), PySem.W.alikeAll (toPyL xs) (toPyL ys) = alikeL xs ys
  | [], ys => by simp [toPyL, PySem.W.alikeAll, alikeL]
  | x :: xs, [] => by simp [toPyL, PySem.W.alikeAll, alikeL]
  | x :: xs, y :: ys => by simp only [toPyL, PySem.W.alikeAll, alikeL, alike_py x y, alike_pyL xs ys]
end
mutual
theorem lt_py : ∀ (x y : D), alikeD x y = true → PySem.W.dataLt (toPy x) (toPy y) = ltT x y
  | .non, y, h => by
    cases y <;> simp [alikeD] at h
    simp [toPy, ltT, PySem.W.dataLt, PySem.W.keyToks, PyProof.Rows.lexLt]
  | .bl b, y, h => by
    cases y <;> simp [alikeD] at h
    rename_i c
    simp only [toPy, ltT, PySem.W.dataLt_bool]
    cases b <;> cases c <;> decide
  | .int i, y, h => by
    cases y <;> simp [alikeD] at h
    simp only [toPy, ltT, PySem.W.dataLt_int]
  | .str x, y, h => by
    cases y <;> simp [alikeD] at h
    simp only [toPy, ltT, PySem.W.dataLt_str]
  | .tup xs, y, h => by
    cases y <;> simp [alikeD] at h
    rename_i ys
    simp only [toPy, ltT, PySem.W.dataLt_tuple]
    exact lt_pyL xs ys h
  | .lst xs, y, h => by
    cases y <;> simp [alikeD] at h
    rename_i ys
    simp only [toPy, ltT, PySem.W.dataLt_list]
    exact lt_pyL xs ys h
  | .dic _ _, y, h => by cases y <;> simp [alikeD] at h
theorem lt_pyL : ∀ (xs ys : List D), alikeL xs ys = true → PyProof.Rows.lexLt PyProof.Rows.itemOrd (PySem.W.keyToksAll (toPyL xs)) (PySem.W.keyToksAll (toPyL ys)) = ltTL xs ys
  | [], [], h => by
    simp only [toPyL, ltTL]
    exact PyProof.Rows.lex_irrefl _
  | [], y :: ys, h => by
    simp only [toPyL, ltTL, PySem.W.keyToksAll, PyProof.Rows.lexLt]
    rfl
  | x :: xs, [], h => by
    simp only [toPyL, ltTL, PySem.W.keyToksAll, PyProof.Rows.lexLt]
    rfl
  | x :: xs, y :: ys, h => by
    simp only [alikeL, Bool.and_eq_true] at h
    simp only [toPyL, ltTL]
    rw [PySem.W.dataLt_cons (by rw [alike_py]; exact h.1), eqv_py, lt_py x y h.1, lt_pyL xs ys h.2]
end
theorem alikeL_ints : ∀ {xs ys : List D}, xs.all isIntD = true → ys.all isIntD = true → alikeL xs ys = true
  | [], _, _, _ => by simp [alikeL]
  | _ :: _, [], _, _ => by simp [alikeL]
  | x :: xs, y :: ys, h, h' => by
    simp only [List.all_cons, Bool.and_eq_true] at h h'
    have hx : alikeD x y = true := by
      cases x <;> simp [isIntD] at h
      cases y <;> simp [isIntD] at h'
      simp [alikeD]
    simp only [alikeL, hx, alikeL_ints h.2 h'.2, Bool.and_self]
theorem allAlike_of {l : List D} (h : allAlike l = true) : ∀ x ∈ l, ∀ y ∈ l, alikeD x y = true := by
  intro x hx y hy
  unfold allAlike at h
  rcases (Bool.or_eq_true _ _).mp h with h | h
  · rcases (Bool.or_eq_true _ _).mp h with h | h
    · have h1 := List.all_eq_true.mp h x hx
      have h2 := List.all_eq_true.mp h y hy
      cases x <;> simp [isIntD] at h1
      cases y <;> simp [isIntD] at h2
      simp [alikeD]
    · have h1 := List.all_eq_true.mp h x hx
      have h2 := List.all_eq_true.mp h y hy
      cases x <;> simp only [isIntT] at h1 <;> try cases h1
      cases y <;> simp only [isIntT] at h2 <;> try cases h2
      simp only [alikeD]
      exact alikeL_ints h1 h2
  · exact List.all_eq_true.mp (List.all_eq_true.mp h x hx) y hy
theorem mem_py {l : List D} {p : PyData} (h : p ∈ toPyL l) : ∃ d ∈ l, p = toPy d := by
  induction l with
  | nil => simp [toPyL] at h
  | cons x r ih =>
    simp only [toPyL, List.mem_cons] at h
    rcases h with rfl | h
    · exact ⟨x, List.mem_cons_self, rfl⟩
    · obtain ⟨d, hd, e⟩ := ih h
      exact ⟨d, List.mem_cons_of_mem _ hd, e⟩
theorem toPyL_map (l : List D) : toPyL l = l.map toPy := by
  induction l with
  | nil => simp [toPyL]
  | cons x r ih => simp [toPyL, ih]
/-- insertion from behind is the stable sort -/
theorem insT_sorted {le : D → D → Bool} {x : D} {l₁ l₂ : List D} (hle : ∀ y ∈ l₁ ++ l₂, le x y = !ltT y x) (h1 : ∀ b ∈ l₁, (!le x b) = true) (h2 : ∀ b ∈ l₂, le x b = true) : insT x (l₁ ++ l₂) = l₁ ++ x :: l₂ := by
  induction l₁ with
  | nil =>
    cases l₂ with
    | nil => rfl
    | cons y r =>
      have := h2 y List.mem_cons_self
      rw [hle y (by simp)] at this
      simp only [List.nil_append, insT]
      rw [if_neg (by simpa using this)]
  | cons y r ih =>
    have := h1 y List.mem_cons_self
    rw [hle y (by simp)] at this
    simp only [List.cons_append, insT]
    rw [if_pos (by simpa using this), ih (fun z hz => hle z (by simp only [List.cons_append]; exact List.mem_cons_of_mem _ hz)) fun b hb => h1 b (List.mem_cons_of_mem _ hb)]
theorem sortT_merge {le : D → D → Bool} (T : PySem.W.TotalLe le) : ∀ {l : List D}, (∀ x ∈ l, ∀ y ∈ l, le x y = !ltT y x) → sortT l = l.mergeSort le
  | [], _ => by simp [sortT]
  | a :: l, h => by
    have tr : ∀ a b c : D, le a b = true → le b c = true → le a c = true := T.trans
    have to : ∀ a b : D, (le a b || le b a) = true := fun a b => by
      rcases T.total a b with q | q <;> simp [q]
    obtain ⟨l₁, l₂, e1, e2, h1⟩ := List.mergeSort_cons tr to a l
    have ih := sortT_merge T (l := l) fun x hx y hy => h x (List.mem_cons_of_mem _ hx) y (List.mem_cons_of_mem _ hy)
    have pw := List.pairwise_mergeSort tr to (a :: l)
    rw [e1] at pw
    have h2 : ∀ b ∈ l₂, le a b = true := fun b hb => (List.pairwise_cons.mp (List.pairwise_append.mp pw).2.1).1 b hb
    show insT a (sortT l) = _
    rw [ih, e2, e1]
    refine insT_sorted (fun y hy => ?_) h1 h2
    rw [← e2] at hy
    exact h a List.mem_cons_self y (List.mem_cons_of_mem _ ((List.mergeSort_perm _ _).mem_iff.mp hy))
/-! sorting tuples of which the first is empty -/
section
open PySem.W PySem.SeqAt
variable {prog : Program} {w : World} {A : Around} {s : Shared}
theorem call_tuple_lt {E : Value → Shared → Prop} {Q : Value → Shared → Prop} {l b : Addr} {items items2 : Array Value} {e r : Nat → Bool} (hl : s.heap.IsTuple l items) (hb : s.heap.IsTuple b items2)
    (he : ∀ j (h1 : j < items.size) (h2 : j < items2.size), EqAt A.in1 s items[j] items2[j] (e j)) (hr : ∀ j (h1 : j < items.size) (h2 : j < items2.size), e j = false → RcLt A.in1 s items[j] items2[j] (r j))
    (h : Q (.bool (firstLt e r (decide (items.size < items2.size)) (List.range (min items.size items2.size)))) s) : wpAny (model prog w) A (call (.builtin "tuple.__lt__") [.ref l, .ref b]) Q E s := by
  obtain ⟨⟨cls, dd, data, sl⟩, ho, hc, n, hd⟩ := id hl
  obtain ⟨⟨cls2, dd2, data2, sl2⟩, ho2, hc2, n2, hd2⟩ := id hb
  simp only at hc hd hc2 hd2
  subst hc hd hc2 hd2
  exact PySem.call_meets F.slot_tuple_lt ⟨_, ho, rfl⟩ F.entry_tuple_lt (F.args_tuple_lt_2 _ _) (tuple_ltAt l b items items2 n n2 dd dd2 sl sl2 e r) ⟨ho, ho2, he, hr, h⟩
theorem oneLt_tup {E : Value → Shared → Prop} {xs ys : List PyData} {a b : Value} {as bs : List Addr} {Q : Bool → Shared → Prop} (ra : Reads s.heap a (.tuple xs) as) (rb : Reads s.heap b (.tuple ys) bs) (h : alike (.tuple xs) (.tuple ys) = true)
    (hu : A.units + min (PyData.tuple xs).depth (PyData.tuple ys).depth < cLine) (hq : Q (dataLt (.tuple xs) (.tuple ys)) s) : wpAny (model prog w) A (oneLt' true a b) Q E s := by
  have hal : alikeAll xs ys = true := by simpa [alike] using h
  cases ra with
  | @tuple l o vs n _ as₁ h1 h2 h3 h4 =>
    cases rb with
    | @tuple l' o' vs' n' _ bs₁ k1 k2 k3 k4 =>
      have n1 : vs.size = xs.length := by simpa using ReadsAll.length _ _ _ h4
      have n2 : vs'.size = ys.length := by simpa using ReadsAll.length _ _ _ k4
      rw [dataLt_tuple, ← firstLt_toks xs ys hal, ← n1, ← n2] at hq
      rw [oneLt'_eq]
      simp only [if_true]
      refine wpAny_bind (wpAny_cRoomFor (room_here hu) ?_)
      refine wpAny_bind (wpAny_callSpecialIfBound?_slot (T := "tuple") ⟨_, h1, h2⟩ F.slot_tuple_lt (call_tuple_lt (e := pairEq xs ys) (r := fun j => dataLt (xs.getD j .none) (ys.getD j .none)) ⟨_, h1, h2, _, h3⟩ ⟨_, k1, k2, _, k3⟩ (fun j j1 j2 => ?_) (fun j j1 j2 hj => ?_) ?_))
      · have := eqAt_alikeAll xs ys A.in1 s vs.toList vs'.toList _ _ h4 k4 hal (room_in hu) j (by simpa using j1) (by simpa using j2)
        simpa using this
      · have := rcLt_alikeAll xs ys A.in1 s vs.toList vs'.toList _ _ h4 k4 hal (room_in hu) j (by simpa using j1) (by simpa using j2) hj
        simpa using this
      · exact wpAny_truthy_bool hq
/-- what stands first in a tuple, if it is one -/
theorem first_of {M : Model} {E : Value → Shared → Prop} {v : Value} {xs : List PyData} {as : List Addr} (r : Reads s.heap v (.tuple xs) as) {Q : Option Value → Shared → Prop} (h : ∀ o, (xs = [] → o = none) → Q o s) : wpAny M A (firstOfTuple' v) Q E s := by
  rw [kas_first_eq]
  cases r with
  | @tuple a o vs n _ _ ho hc hd hr =>
    refine wpAny_bind (Looks.here (show Looks M s.heap (typeOf (.ref a)) o.cls from (Looks.ld ho).andThen .now) ?_)
    rw [hc, if_neg (by first | decide | simp)]
    refine wpAny_bind (listItems_at ho hd (wpAny_pure (h _ fun e => ?_)))
    subst e
    have : vs.toList = [] := by
      have := ReadsAll.length _ _ _ hr
      exact List.eq_nil_of_length_eq_zero (by simpa using this)
    have : vs = #[] := by simpa using this
    subst this
    rfl
theorem firsts_any {M : Model} {E : Value → Shared → Prop} : ∀ {vs : List Value} {ds : List PyData}, EachIs (fun v d => ∃ as, Reads s.heap v d as) vs ds → (∀ d ∈ ds, ∃ xs, d = .tuple xs) → ∀ {Q : List (Option Value) → Shared → Prop}, (∀ os, os.length = vs.length → Q os s) → wpAny M A (vs.mapM firstOfTuple') Q E s
  | _, _, .nil, _, Q, h => by rw [List.mapM_nil]; exact wpAny_pure (h [] rfl)
  | _, _, .cons (b := d) ⟨as, r⟩ t, ht, Q, h => by
    obtain ⟨xs, rfl⟩ := ht d List.mem_cons_self
    rw [List.mapM_cons]
    refine wpAny_bind (first_of r fun o _ => ?_)
    exact wpAny_bind (firsts_any t (fun d hd => ht d (List.mem_cons_of_mem _ hd)) fun os hos => wpAny_pure (h (o :: os) (by simp [hos])))
/-- the kind of keys: tuples, the first of them empty -/
theorem kind_tup0 {M : Model} {E : Value → Shared → Prop} {vs : List Value} {ds : List PyData} (e : EachIs (fun v d => ∃ as, Reads s.heap v d as) vs (.tuple [] :: ds)) (ht : ∀ d ∈ ds, ∃ xs, d = .tuple xs) {Q : SortKind → Shared → Prop} (h : Q oneType' s) : wpAny M A (keyKind' vs.toArray) Q E s := by
  cases e with
  | @cons v₁ _ vs' _ h1 t =>
    obtain ⟨as, r⟩ := h1
    rw [kat_kind_eq, List.mapM_toArray, map_eq_pure_bind]
    refine wpAny_bind (wpAny_bind ?_)
    rw [List.mapM_cons]
    refine wpAny_bind (first_of r fun o ho => ?_)
    rw [ho rfl]
    refine wpAny_bind (firsts_any t ht fun os hos => wpAny_pure (wpAny_pure ?_))
    have hall : ((none :: os).toArray.all fun x : Option Value => x.isSome) = false := by simp
    rw [if_neg (by rw [hall]; simp)]
    have hf : ((none :: os).toArray[0]?.bind id : Option Value).isSome = false := by simp
    rw [if_neg (by rw [hf]; simp)]
    rw [oneTypeOnly'_eq, List.mapM_toArray, map_eq_pure_bind]
    refine wpAny_bind (wpAny_bind (wpAny_bind (kas_mapM (r := Value.type "tuple") _ (fun v hv Q' hq => ?_) (wpAny_pure ?_))))
    · have hv' : ∃ d ∈ (PyData.tuple [] :: ds), ∃ as, Reads s.heap v d as := (EachIs.cons ⟨as, r⟩ t).left v hv
      obtain ⟨d, hd, as, rd⟩ := hv'
      have hdt : ∃ xs, d = .tuple xs := by
        rcases List.mem_cons.mp hd with rfl | hd
        · exact ⟨_, rfl⟩
        · exact ht d hd
      obtain ⟨xs, rfl⟩ := hdt
      exact (looks_reads rd).here hq
    · have hall2 : ((List.map (fun _ => Value.type "tuple") (v₁ :: vs')).toArray.all fun x => x == Value.type "tuple") = true := by
        simp only [List.all_toArray, List.all_map, List.all_eq_true]
        intro _ _
        exact beq_self_eq_true _
      have h0 : (List.map (fun _ => Value.type "tuple") (v₁ :: vs')).toArray[0]? = some (Value.type "tuple") := by simp
      rw [h0]
      simp only [hall2, if_true]
      exact wpAny_pure (wpAny_pure h)
theorem SortsAt.tup0 {vs : List Value} {ds : List PyData} (e : EachIs (fun v d => ∃ as, Reads s.heap v d as) vs (.tuple [] :: ds)) (hal : AllAlike (.tuple [] :: ds)) (ht : ∀ d ∈ ds, ∃ xs, d = .tuple xs) (hu : ∀ d, d ∈ (PyData.tuple [] :: ds) → A.units + d.depth < cLine) :
    SortsAt prog w A s (dataKind s.heap (.tuple [] :: ds)) vs := by
  refine ⟨fun v hv => ?_, oneType', ?_, fun h2 E Q hq => kind_tup0 e ht hq⟩
  · obtain ⟨d, hd, as, r⟩ := e.left v hv
    exact ⟨_, dataKind_some hal hd r⟩
  · intro E x y a b Q ha hb hq
    obtain ⟨d, as, hd, ra, rfl⟩ := dataKind_inv ha
    obtain ⟨d', as', hd', rb, rfl⟩ := dataKind_inv hb
    have tp : ∀ d, d ∈ (PyData.tuple [] :: ds) → ∃ xs, d = .tuple xs := fun d hd => by
      rcases List.mem_cons.mp hd with rfl | hd
      · exact ⟨_, rfl⟩
      · exact ht d hd
    obtain ⟨xs, rfl⟩ := tp d hd
    obtain ⟨ys, rfl⟩ := tp d' hd'
    rw [keyLt'_oneType]
    exact oneLt_tup ra rb (hal _ hd _ hd') (Nat.lt_of_le_of_lt (Nat.add_le_add_left (Nat.min_le_left _ _) _) (hu _ hd)) hq
/-- a list or a tuple, collected -/
theorem collect_seq {A : Around} {E : Value → Shared → Prop} {l : Addr} {o : Obj} {n : Nat} {vs : List Value} {Q : List Value → Shared → Prop} (ho : s.heap.get? l = some o) (hc : o.cls = .type "list" ∨ o.cls = .type "tuple") (hd : o.data = .seq vs.toArray n)
    (h : Q vs { s with heap := (s.heap.push (seqObj "list" #[] 0)).update s.heap.objs.size (Obj.mapSeq (· ++ vs.toArray)) }) (hsz : vs.length ≤ sizeLine) :
    wpAny (model prog w) A (collect (.ref l)) Q E s := by
  unfold collect
  refine wpAny_bind (wpAny_runValue (codeAny_builtin entry_proto_collect' ?_))
  show wpAny _ _ (do again (.builtin "list.__iadd__" ⟨[← newList [], .ref l], []⟩)) _ _ s
  refine wpAny_bind (wpAny_newList (wpAny_pure ⟨Code.quiet_builtin _ (by decide +kernel), codeAny_builtin entry_list_iadd' ?_⟩))
  show wpAny _ _ (Builtin.List.listExtendWith (.ref s.heap.objs.size) (.ref l) (.ref s.heap.objs.size)) _ _ { s with heap := s.heap.push (seqObj "list" #[] 0) }
  unfold Builtin.List.listExtendWith
  have ho' : (s.heap.push (seqObj "list" #[] 0)).get? l = some o := Heap.get?_push_of_some _ ho
  refine wpAny_bind (Looks.here (show Looks _ _ (typeOf (.ref l)) o.cls from (Looks.ld ho').andThen .now) ?_)
  have ht : (Builtin.List.listSameRef (.ref s.heap.objs.size) (.ref l) || o.cls == .type "list" || o.cls == .type "tuple") = true := by
    rcases hc with hc | hc <;> rw [hc]
    · rw [show (Value.type "list" == Value.type "list") = true from rfl]; simp
    · rw [show (Value.type "tuple" == Value.type "tuple") = true from rfl]; simp
  rw [if_pos ht]
  refine wpAny_bind (listItems_at ho' hd ?_)
  refine wpAny_bind (listItems_at (xs := #[]) (n := 0) (Heap.get?_push_size _ rfl) rfl ?_)
  rw [if_neg (by simp)]
  refine wpAny_bind (listUpdate_at (xs := #[]) (n := 0) (Heap.get?_push_size _ rfl) rfl ?_ (Nat.zero_le _) (by show (#[] ++ vs.toArray).size ≤ sizeLine + 1; simp only [Array.size_append, List.size_toArray, List.length_nil]; omega))
  refine wpAny_pure ?_
  show wpAny (model prog w) A (do
      let o ← load s.heap.objs.size
      match o.data with
      | .seq xs _ => pure xs.toList
      | _ => unsupported "internal:collect") Q E { s with heap := (s.heap.push (seqObj "list" #[] 0)).update s.heap.objs.size (Obj.mapSeq (· ++ vs.toArray)) }
  refine wpAny_bind (wpAny_load (get?_update_seq (Heap.get?_push_size _ rfl) _) ?_)
  show wpAny _ _ (pure ((#[] : Array Value) ++ vs.toArray).toList) Q E _
  rw [show ((#[] : Array Value) ++ vs.toArray).toList = vs by simp]
  exact wpAny_pure h
/-- sorted of a list or a tuple -/
theorem sorted_seq {A : Around} {E : Value → Shared → Prop} {κ : PyProof.Rows.KeyKind} {l : Addr} {o : Obj} {n : Nat} {vs : List Value} {Q : Value → Shared → Prop} (ho : s.heap.get? l = some o) (hc : o.cls = .type "list" ∨ o.cls = .type "tuple") (hd : o.data = .seq vs.toArray n)
    (S : SortsAt prog w A.in1.in1 { s with heap := sortingHeap (copyHeap s.heap vs) (s.heap.objs.size + 1) vs } κ vs) (hL : vs.length ≤ sizeLine)
    (h : Q (.ref (s.heap.objs.size + 1)) { s with heap := sortedAll s.heap vs (sortVals κ false vs vs).toArray }) : wpAny (model prog w) A (call (.builtin "sorted") [.ref l]) Q E s := by
  refine PyProof.Rows.call_function_entry_kw kind_sorted plain_sorted entry_sorted (args_sorted1 _) ?_
  unfold Builtin.«sorted»
  refine wpAny_bind (m := checkCount "sorted" 1 1 _) (wpAny_pure ?_)
  refine wpAny_bind (collect_seq ho hc hd ?_ hL)
  refine wpAny_bind (wpAny_newList ?_ hL)
  have hsz : ((s.heap.push (seqObj "list" #[] 0)).update s.heap.objs.size (Obj.mapSeq (· ++ vs.toArray))).objs.size = s.heap.objs.size + 1 := by
    rw [Heap.size_update, size_push']
  show wpAny _ _ _ _ _ { s with heap := copyHeap s.heap vs }
  rw [hsz]
  refine wpAny_bind (wpAny_holding (wpAny_call_entry_kw slot_list_sort ⟨_, copyHeap_at s.heap vs, rfl⟩ entry_list_sort ?body (args_list_sort _)))
  case body =>
    show wpAny (model prog w) A.in1.in1 (Builtin.«list.sort» ⟨[.ref (s.heap.objs.size + 1)], []⟩) _ _ _
    refine wpAny_mono (list_sort_vals (P := fun f s' => f = .done (.ret .none) ∧ Q (.ref (s.heap.objs.size + 1)) s') (s := { s with heap := copyHeap s.heap vs }) (copyHeap_at s.heap vs) S hL ⟨rfl, h⟩) (fun f s' hf => ?_) fun _ _ e => e
    obtain ⟨rfl, hq⟩ := hf
    exact ⟨_, rfl, wpAny_pure ⟨_, rfl, hq⟩⟩
end
section
variable {X : Cx} {Z : AS} {H : Hp}
theorem zip_rep : ∀ {ds : List D} {xs : List V}, RepL Z H ds xs → ∀ p ∈ ds.zip xs, Rep Z H p.1 p.2
  | [], xs, h, p, hp => by cases h; simp at hp
  | d :: ds, xs, h, p, hp => by
    obtain ⟨v, r, rfl, h1, h2⟩ := h
    rcases List.mem_cons.mp hp with rfl | hp
    · exact h1
    · exact zip_rep h2 p hp
theorem rep_pairs : ∀ (l : List (D × V)), (∀ p ∈ l, Rep Z H p.1 p.2) → RepL Z H (l.map (·.1)) (l.map (·.2))
  | [], _ => rfl
  | (d, v) :: l, h => ⟨v, l.map (·.2), rfl, h _ List.mem_cons_self, rep_pairs l fun p hp => h p (List.mem_cons_of_mem _ hp)⟩
theorem each_vals {vs : List V} {us : List Value} (r : Vals vs us) : ∀ {ds : List D}, ds.length = vs.length → PySem.W.EachIs (fun u p => RelV (Prod.snd p) u) us (ds.zip vs) := by
  induction r with
  | nil => intro ds h; cases ds <;> first | exact .nil | cases h
  | cons h t ih =>
    intro ds hd
    cases ds with
    | nil => cases hd
    | cons d ds => exact .cons h (ih (by simpa using hd))
theorem vals_each : ∀ {us : List Value} {l : List (D × V)}, PySem.W.EachIs (fun u p => RelV (Prod.snd p) u) us l → Vals (l.map (·.2)) us
  | _, _, .nil => .nil
  | _, _, .cons h t => .cons h (vals_each t)
theorem each_reads {h : Heap} : ∀ {us : List Value} {ds : List PyData} {as : List Addr}, ReadsAll h us ds as → PySem.W.EachIs (fun v d => ∃ as, Reads h v d as) us ds
  | _, _, _, .nil => .nil
  | _, _, _, .cons h1 h2 => .cons ⟨_, h1⟩ (each_reads h2)
theorem each_unmap {β : Type} {h : Heap} {enc : β → PyData} : ∀ {us : List Value} {bs : List β}, PySem.W.EachIs (fun v d => ∃ as, Reads h v d as) us (bs.map enc) → PySem.W.EachIs (fun v b => ∃ as, Reads h v (enc b) as) us bs
  | [], [], _ => .nil
  | u :: us, b :: bs, e => by
    cases e with
    | cons h1 h2 => exact .cons h1 (each_unmap h2)
theorem zip_py {l : List D} {ws : List V} (h : l.length = ws.length) : (l.zip ws).map (fun p => toPy p.1) = toPyL l := by
  rw [toPyL_map]
  conv => rhs; rw [← List.map_fst_zip (l₁ := l) (l₂ := ws) (by omega)]
  rw [List.map_map]
  rfl
theorem depth_py {n : Nat} {l : List D} (h : plainL n l = true) : ∀ d ∈ toPyL l, d.depth ≤ n := by
  intro d hd
  obtain ⟨x, hx, rfl⟩ := mem_py hd
  have : plainD n x = true := by
    clear hd
    induction l with
    | nil => cases hx
    | cons y r ih =>
      simp only [plainL, Bool.and_eq_true] at h
      rcases List.mem_cons.mp hx with rfl | hx
      · exact h.1
      · exact ih h.2 hx
  exact (plain_lay n x this).2
theorem alike_of {l : List D} (h : allAlike l = true) : PySem.W.AllAlike (toPyL l) := by
  intro d hd d' hd'
  obtain ⟨x, hx, rfl⟩ := mem_py hd
  obtain ⟨y, hy, rfl⟩ := mem_py hd'
  rw [alike_py]
  exact allAlike_of h x hx y hy
theorem sorts_at {prog : Program} {w : World} {A : Around} {s : Shared} {l : List D} {us : List Value} {as : List Addr} (h : srtOk l = true) (r : ReadsAll s.heap us (toPyL l) as) (hu : A.units + 40 < cLine) : PySem.W.SortsAt prog w A s (PySem.W.dataKind s.heap (toPyL l)) us := by
  unfold srtOk at h
  simp only [Bool.and_eq_true, decide_eq_true_eq] at h
  obtain ⟨⟨⟨h1, h2⟩, h3⟩, h4⟩ := h
  have hal := alike_of h3
  have hd : ∀ d ∈ toPyL l, A.units + d.depth < cLine := fun d q => by have := depth_py h2 d q; omega
  have e := each_reads r
  unfold srtShape at h4
  rcases (Bool.or_eq_true _ _).mp h4 with h4 | h4
  · rcases (Bool.or_eq_true _ _).mp h4 with h4 | h4
    · refine PySem.W.SortsAt.data e hal (.inl fun d q => ?_) hd
      obtain ⟨x, hx, rfl⟩ := mem_py q
      have := List.all_eq_true.mp h4 x hx
      cases x <;> simp only [isTupN] at this <;> try cases this
      rename_i xs
      cases xs with
      | nil => cases this
      | cons y ys => exact ⟨toPy y, toPyL ys, by simp [toPy, toPyL]⟩
    · refine PySem.W.SortsAt.data e hal (.inr fun d q => ?_) hd
      obtain ⟨x, hx, rfl⟩ := mem_py q
      have := List.all_eq_true.mp h4 x hx
      cases x <;> simp [isTupD, isNonD] at this <;> simp [toPy]
  · simp only [Bool.and_eq_true] at h4
    obtain ⟨h5, h6⟩ := h4
    cases l with
    | nil => cases h6
    | cons x r' =>
      cases x <;> try (cases h6; done)
      rename_i xs
      cases xs with
      | cons => cases h6
      | nil =>
        have e0 : toPyL (.tup [] :: r') = .tuple [] :: toPyL r' := by simp [toPyL, toPy]
        rw [e0] at e hal hd ⊢
        refine SortsAt.tup0 e hal (fun d q => ?_) hd
        obtain ⟨x, hx, rfl⟩ := mem_py q
        have := List.all_eq_true.mp h5 x (List.mem_cons_of_mem _ hx)
        cases x <;> simp only [isTupD] at this <;> try cases this
        exact ⟨_, by simp only [toPy]; rfl⟩
theorem seq_len {d : D} {l : List D} {ws : List V} (ra : RepL Z H l ws) : l.length = ws.length := (RepL.length _ _ ra).symm
theorem b_sorted (hu : X.A.units + 64 < cLine) : CallR X (.builtin "sorted") (rB .sorted) := by
  intro pins s σ H vs us Q I r h
  obtain ⟨Z, ds, z, fr, hz, hd, q, k⟩ := h
  match ds, q with
  | [d], q =>
    simp only [bi] at q
    obtain ⟨l, el, q⟩ := Option.bind_eq_some_iff.mp q
    split at q
    · rename_i hok
      cases q
      obtain ⟨v, rfl, hv⟩ := hd.one
      obtain ⟨a, ws, rfl, ha, ra⟩ := RepO.seq el hv
      have hok0 := hok
      unfold srtOk at hok0
      simp only [Bool.and_eq_true, decide_eq_true_eq] at hok0
      obtain ⟨⟨⟨hl1, hl2⟩, hl3⟩, hl4⟩ := hok0
      have ll := RepL.length _ _ ra
      obtain ⟨its, o, n, rv, ho, hc, hdat, hz2⟩ : ∃ (its : List Value) (o : Obj) (n : Nat), Vals ws its ∧ s.heap.get? a = some o ∧ (o.cls = .type "list" ∨ o.cls = .type "tuple") ∧ o.data = .seq its.toArray n ∧ ws.length ≤ sizeLine := by
        rcases ha with ⟨rfl, ha⟩ | ⟨rfl, ha⟩
        · obtain ⟨its, rv, ⟨o, n, ho, hc, _, hd⟩, hz2⟩ := I.list (.of ha)
          exact ⟨its, o, n, rv, ho, .inl hc, hd, hz2⟩
        · obtain ⟨its, rv, ⟨o, ho, hc, n, hd⟩, hz2⟩ := I.tuple (.of ha)
          exact ⟨its, o, n, rv, ho, .inr hc, hd, hz2⟩
      obtain ⟨u, rfl, ru⟩ := vals1 r
      obtain rfl : u = Value.ref a := ru
      obtain ⟨as, rd⟩ := Dp.readsAll I (toPyL l) ws its (RepL.dp 30 l ws hl2 ra) rv
      have rd' : ReadsAll (PySem.W.sortingHeap (PySem.W.copyHeap s.heap its) (s.heap.objs.size + 1) its) its (toPyL l) as := PyProof.Rows.ReadsAll.keeps (fun _ _ => PySem.W.sorting_copy_old) rd
      refine sorted_seq ho hc hdat (sorts_at (s := { s with heap := PySem.W.sortingHeap (PySem.W.copyHeap s.heap its) (s.heap.objs.size + 1) its }) hok rd' (by show X.A.units + 1 + 1 + 40 < cLine; omega)) (by rw [← rv.length]; exact hz2) ?_
      have er : PySem.W.EachIs (fun v b => ∃ as, Reads (PySem.W.sortingHeap (PySem.W.copyHeap s.heap its) (s.heap.objs.size + 1) its) v (toPy (Prod.fst b)) as) its (l.zip ws) := by
        have := each_reads rd'
        rw [← zip_py ll.symm] at this
        exact each_unmap this
      have out := PySem.W.sortVals_data (R := fun u p => RelV (Prod.snd p) u) (enc := fun p : D × V => toPy p.1) false (each_vals rv ll.symm) er (by rw [zip_py ll.symm]; exact alike_of hl3)
      rw [zip_py ll.symm] at out
      have ro := vals_each out
      have perm := List.mergeSort_perm (l.zip ws) (PySem.W.dataLe false fun p : D × V => toPy p.1)
      have rep := rep_pairs (Z := Z) (H := H) ((l.zip ws).mergeSort (PySem.W.dataLe false fun p : D × V => toPy p.1)) fun p hp => zip_rep ra p (perm.mem_iff.mp hp)
      have e1 : ((l.zip ws).mergeSort (PySem.W.dataLe false fun p : D × V => toPy p.1)).map (·.1) = sortT l := by
        rw [sortT_merge (le := PySem.W.dataLe false toPy) (PySem.W.sortLe_total _ _ _) fun x hx y hy => ?_]
        · refine (PySem.W.sort_maps (r := PySem.W.dataLe false fun p : D × V => toPy p.1) (s := PySem.W.dataLe false toPy) (fun p : D × V => p.1) (fun _ _ _ _ => rfl)).trans ?_
          rw [List.map_fst_zip (by omega)]
        · rw [← lt_py y x (allAlike_of hl3 y hy x hx)]
          rfl
      rw [e1] at rep
      obtain ⟨ep, he'⟩ := PyProof.Rows.sortedAll_at s.heap its (PySem.W.sortVals (PySem.W.dataKind (PySem.W.sortingHeap (PySem.W.copyHeap s.heap its) (s.heap.objs.size + 1) its) (toPyL l)) false its its).toArray
      refine ⟨.ref _, upd H (s.heap.objs.size + 1) (.lst (((l.zip ws).mergeSort (PySem.W.dataLe false fun p : D × V => toPy p.1)).map (·.2))), I.laid (t' := s.toks) (fun _ _ => PyProof.Rows.sortedAll_old) (Nat.le_succ _) ⟨?_, _, ep, ro, he'⟩, rfl, k.lst hz rep (I.hok.fresh (Nat.le_succ _))⟩
      rw [List.length_map, perm.length_eq, List.length_zip]
      omega
    · cases q
/-! min, max -/
mutual
theorem toPy_inj : ∀ (n : Nat) (x y : D), plainD n x = true → plainD n y = true → toPy x = toPy y → x = y
  | n, .non, y, _, p, h => by cases y <;> simp [toPy] at h <;> first | rfl | (cases n <;> simp [plainD] at p)
  | n, .bl b, y, _, p, h => by cases y <;> simp [toPy] at h; subst h; rfl
  | n, .int b, y, _, p, h => by cases y <;> simp [toPy] at h; subst h; rfl
  | n, .str b, y, _, p, h => by cases y <;> simp [toPy] at h; subst h; rfl
  | 0, .tup xs, y, p, _, h => by simp [plainD] at p
  | n + 1, .tup xs, y, p, p', h => by
    cases y <;> simp [toPy] at h
    rename_i ys
    rw [toPyL_inj n xs ys (by simpa [plainD] using p) (by simpa [plainD] using p') h]
  | 0, .lst xs, y, p, _, h => by simp [plainD] at p
  | n + 1, .lst xs, y, p, p', h => by
    cases y <;> simp [toPy] at h
    rename_i ys
    rw [toPyL_inj n xs ys (by simpa [plainD] using p) (by simpa [plainD] using p') h]
  | _, .dic _ _, y, p, _, h => by simp [plainD] at p
theorem toPyL_inj : ∀ (n : Nat) (x y : List D), plainL n x = true → plainL n y = true → toPyL x = toPyL y → x = y
  | _, [], [], _, _, _ => rfl
  | _, [], _ :: _, _, _, h => by simp [toPyL] at h
  | _, _ :: _, [], _, _, h => by simp [toPyL] at h
  | n, x :: xs, y :: ys, p, p', h => by
    simp only [toPyL, List.cons.injEq] at h
    simp only [plainL, Bool.and_eq_true] at p p'
    rw [toPy_inj n x y p.1 p'.1 h.1, toPyL_inj n xs ys p.2 p'.2 h.2]
end
theorem plain_mem {n : Nat} {l : List D} (h : plainL n l = true) {x : D} (hx : x ∈ l) : plainD n x = true := by
  induction l with
  | nil => cases hx
  | cons y r ih =>
    simp only [plainL, Bool.and_eq_true] at h
    rcases List.mem_cons.mp hx with rfl | hx
    · exact h.1
    · exact ih h.2 hx
theorem mm_of {l : List D} (h : mmOk l = true) : plainL 30 l = true ∧ PySem.W.AlikeAll (toPyL l) ∧ (∀ x ∈ l, isHp x = false) := by
  unfold mmOk at h
  simp only [Bool.and_eq_true] at h
  refine ⟨h.1.1, ⟨fun d hd d' hd' => alike_of h.1.2 d hd d' hd', fun d hd => ?_⟩, fun x hx => ?_⟩
  · obtain ⟨x, hx, rfl⟩ := mem_py hd
    have := List.all_eq_true.mp h.2 x hx
    cases x <;> simp [isNonD] at this <;> simp [toPy]
  · have := List.all_eq_true.mp h.2 x hx
    cases x <;> simp [isObD] at this <;> rfl
theorem depthAll_le {l : List D} (h : plainL 30 l = true) : PyData.depthAll (toPyL l) ≤ 30 := (plain_layL 30 l h).2
theorem minT_mem : ∀ (l : List D) (x : D), minT x l ∈ x :: l
  | [], x => List.mem_cons_self
  | y :: r, x => by
    have := minT_mem r (if ltT y x then y else x)
    simp only [minT]
    rcases List.mem_cons.mp this with e | e
    · rw [e]
      split <;> simp
    · exact List.mem_cons_of_mem _ (List.mem_cons_of_mem _ e)
theorem maxT_mem : ∀ (l : List D) (x : D), maxT x l ∈ x :: l
  | [], x => List.mem_cons_self
  | y :: r, x => by
    have := maxT_mem r (if ltT x y then y else x)
    simp only [maxT]
    rcases List.mem_cons.mp this with e | e
    · rw [e]
      split <;> simp
    · exact List.mem_cons_of_mem _ (List.mem_cons_of_mem _ e)
theorem min_py : ∀ (l : List D) (x : D), PySem.W.AlikeAll (toPyL (x :: l)) → toPy (minT x l) = PySem.W.minD (toPy x) (toPyL l)
  | [], x, _ => by simp [minT, PySem.W.minD, toPyL]
  | y :: r, x, h => by
    have hxy : alikeD y x = true := by rw [← alike_py]; exact h.1 _ (by simp [toPyL]) _ (by simp [toPyL])
    have h' : PySem.W.AlikeAll (toPyL ((if ltT y x then y else x) :: r)) := by
      refine ⟨fun d hd d' hd' => h.1 d ?_ d' ?_, fun d hd => h.2 d ?_⟩
      all_goals
        simp only [toPyL, List.mem_cons] at hd ⊢
        try simp only [toPyL, List.mem_cons] at hd'
      · rcases hd with rfl | hd
        · split <;> simp
        · exact .inr (.inr hd)
      · rcases hd' with rfl | hd
        · split <;> simp
        · exact .inr (.inr hd)
      · rcases hd with rfl | hd
        · split <;> simp
        · exact .inr (.inr hd)
    have ih := min_py r (if ltT y x then y else x) h'
    simp only [minT]
    rw [ih]
    unfold PySem.W.minD
    simp only [toPyL, List.foldl_cons]
    rw [lt_py y x hxy]
    congr 1
    split <;> rfl
theorem max_py : ∀ (l : List D) (x : D), PySem.W.AlikeAll (toPyL (x :: l)) → toPy (maxT x l) = PySem.W.maxD (toPy x) (toPyL l)
  | [], x, _ => by simp [maxT, PySem.W.maxD, toPyL]
  | y :: r, x, h => by
    have hxy : alikeD x y = true := by rw [← alike_py]; exact h.1 _ (by simp [toPyL]) _ (by simp [toPyL])
    have h' : PySem.W.AlikeAll (toPyL ((if ltT x y then y else x) :: r)) := by
      refine ⟨fun d hd d' hd' => h.1 d ?_ d' ?_, fun d hd => h.2 d ?_⟩
      all_goals
        simp only [toPyL, List.mem_cons] at hd ⊢
        try simp only [toPyL, List.mem_cons] at hd'
      · rcases hd with rfl | hd
        · split <;> simp
        · exact .inr (.inr hd)
      · rcases hd' with rfl | hd
        · split <;> simp
        · exact .inr (.inr hd)
      · rcases hd with rfl | hd
        · split <;> simp
        · exact .inr (.inr hd)
    have ih := max_py r (if ltT x y then y else x) h'
    simp only [maxT]
    rw [ih]
    unfold PySem.W.maxD
    simp only [toPyL, List.foldl_cons]
    rw [lt_py x y hxy]
    congr 1
    split <;> rfl
theorem mm_end {pins : List (Addr × Obj)} {σ : L2.St} {s : Shared} {l : List D} {ws : List V} {its : List Value} {h' : Heap} {v : Value} {i : Nat} {bs : List Addr} {m : D} (ra : RepL Z H l ws) (p : plainL 30 l = true) (al : PySem.W.AlikeAll (toPyL l)) (I : Inv X pins σ H s) (rv : Vals ws its)
    (hi : its[i]? = some v) (hk : ∀ b o, s.heap.get? b = some o → h'.get? b = some o) (hr : Reads h' v (toPy m) bs) (hm : m ∈ l) : ∃ y, Rep Z H m y ∧ RelV y v ∧ m = m := by
  have hlt : i < ws.length := by rw [rv.length]; exact (List.getElem?_eq_some_iff.mp hi).1
  obtain ⟨u, e1, r1⟩ := rv.get (i := i) (x := ws[i]) (by simp [hlt])
  rw [hi] at e1
  cases e1
  obtain ⟨d, hd, rd⟩ := RepL.at _ _ ra i ws[i] (by simp [hlt])
  have hdl : d ∈ l := List.mem_of_getElem? hd
  obtain ⟨as, rs⟩ := Dp.reads I (toPy d) ws[i] v (Rep.dp 30 d _ (plain_mem p hdl) rd) r1
  have rs' := PyProof.Rows.Reads.keeps hk rs
  have e := PySem.W.alike_unique (toPy d) (toPy m) v as bs (al.1 _ (by rw [toPyL_map]; exact List.mem_map.mpr ⟨d, hdl, rfl⟩) _ (by rw [toPyL_map]; exact List.mem_map.mpr ⟨m, hm, rfl⟩)) rs' hr
  have e' := toPy_inj 30 d m (plain_mem p hdl) (plain_mem p hm) e
  subst e'
  exact ⟨_, rd, r1, rfl⟩
theorem b_min (hc : X.calm = true) (hu : X.A.units + 64 < cLine) : CallR X (.builtin "min") (rB .min) := by
  intro pins s σ H vs us Q I r h
  obtain ⟨Z, ds, z, fr, hz, hd, q, k⟩ := h
  match ds, q with
  | [.int i, .int j], q =>
    cases q
    obtain ⟨v, w, rfl, hv, hw⟩ := hd.two
    cases hv
    cases hw
    exact call_min2 hc pins s σ H _ us Q I r ⟨_, _, rfl, k.flat rfl rfl⟩
  | [.lst (x :: xs)], q =>
    simp only [bi] at q
    split at q
    · rename_i hok
      cases q
      obtain ⟨v, rfl, hv⟩ := hd.one
      obtain ⟨a, ws, rfl, ha, ra⟩ := RepO.lst hv
      obtain ⟨its, rv, hl, _⟩ := I.list (.of ha)
      obtain ⟨p1, p2, p3⟩ := mm_of hok
      obtain ⟨as, rd⟩ := Dp.readsAll I (toPyL (x :: xs)) ws its (RepL.dp 30 _ ws p1 ra) rv
      rw [Vals.ref1 r]
      refine PySem.W.min_list_data (I.ok.hd hc) hl.isList (by simpa [toPyL] using rd) (by simpa [toPyL] using p2) (by have := depthAll_le p1; simp only [toPyL] at this; omega) fun i v h' tk bs hi hr hk => ?_
      obtain ⟨y, hy, ry, _⟩ := mm_end ra p1 p2 I rv (by simpa using hi) hk (by rw [min_py xs x p2]; exact hr) (minT_mem xs x)
      exact ⟨y, H, I.kept hk, ry, k.flat hy (p3 _ (minT_mem xs x))⟩
    · cases q
  | [.tup (x :: xs)], q =>
    simp only [bi] at q
    split at q
    · rename_i hok
      cases q
      obtain ⟨v, rfl, hv⟩ := hd.one
      obtain ⟨a, ws, rfl, ha, ra⟩ := RepO.tup hv
      obtain ⟨its, rv, hl, _⟩ := I.tuple (.of ha)
      obtain ⟨p1, p2, p3⟩ := mm_of hok
      obtain ⟨as, rd⟩ := Dp.readsAll I (toPyL (x :: xs)) ws its (RepL.dp 30 _ ws p1 ra) rv
      rw [Vals.ref1 r]
      refine PySem.W.min_tuple_data (I.ok.hd hc) hl (by simpa [toPyL] using rd) (by simpa [toPyL] using p2) (by have := depthAll_le p1; simp only [toPyL] at this; omega) fun i v h' tk bs hi hr hk => ?_
      obtain ⟨y, hy, ry, _⟩ := mm_end ra p1 p2 I rv (by simpa using hi) hk (by rw [min_py xs x p2]; exact hr) (minT_mem xs x)
      exact ⟨y, H, I.kept hk, ry, k.flat hy (p3 _ (minT_mem xs x))⟩
    · cases q
theorem b_max (hc : X.calm = true) (hu : X.A.units + 64 < cLine) : CallR X (.builtin "max") (rB .max) := by
  intro pins s σ H vs us Q I r h
  obtain ⟨Z, ds, z, fr, hz, hd, q, k⟩ := h
  match ds, q with
  | [.int i, .int j], q =>
    cases q
    obtain ⟨v, w, rfl, hv, hw⟩ := hd.two
    cases hv
    cases hw
    exact call_max2 hc pins s σ H _ us Q I r ⟨_, _, rfl, k.flat rfl rfl⟩
  | [.lst (x :: xs)], q =>
    simp only [bi] at q
    split at q
    · rename_i hok
      cases q
      obtain ⟨v, rfl, hv⟩ := hd.one
      obtain ⟨a, ws, rfl, ha, ra⟩ := RepO.lst hv
      obtain ⟨its, rv, hl, _⟩ := I.list (.of ha)
      obtain ⟨p1, p2, p3⟩ := mm_of hok
      obtain ⟨as, rd⟩ := Dp.readsAll I (toPyL (x :: xs)) ws its (RepL.dp 30 _ ws p1 ra) rv
      rw [Vals.ref1 r]
      refine PySem.W.max_list_data (I.ok.hd hc) hl.isList (by simpa [toPyL] using rd) (by simpa [toPyL] using p2) (by have := depthAll_le p1; simp only [toPyL] at this; omega) fun i v h' tk bs hi hr hk => ?_
      obtain ⟨y, hy, ry, _⟩ := mm_end ra p1 p2 I rv (by simpa using hi) hk (by rw [max_py xs x p2]; exact hr) (maxT_mem xs x)
      exact ⟨y, H, I.kept hk, ry, k.flat hy (p3 _ (maxT_mem xs x))⟩
    · cases q
  | [.tup (x :: xs)], q =>
    simp only [bi] at q
    split at q
    · rename_i hok
      cases q
      obtain ⟨v, rfl, hv⟩ := hd.one
      obtain ⟨a, ws, rfl, ha, ra⟩ := RepO.tup hv
      obtain ⟨its, rv, hl, _⟩ := I.tuple (.of ha)
      obtain ⟨p1, p2, p3⟩ := mm_of hok
      obtain ⟨as, rd⟩ := Dp.readsAll I (toPyL (x :: xs)) ws its (RepL.dp 30 _ ws p1 ra) rv
      rw [Vals.ref1 r]
      refine PySem.W.max_tuple_data (I.ok.hd hc) hl (by simpa [toPyL] using rd) (by simpa [toPyL] using p2) (by have := depthAll_le p1; simp only [toPyL] at this; omega) fun i v h' tk bs hi hr hk => ?_
      obtain ⟨y, hy, ry, _⟩ := mm_end ra p1 p2 I rv (by simpa using hi) hk (by rw [max_py xs x p2]; exact hr) (maxT_mem xs x)
      exact ⟨y, H, I.kept hk, ry, k.flat hy (p3 _ (maxT_mem xs x))⟩
    · cases q
end
end PB
set_option maxHeartbeats 4000000
/-! Iyd: dict of a list of pairs with tuple keys. -/
namespace PB
open PySem PySem.Spec PyProof.Rows L2
section
variable {X : Cx} {Z : AS} {H : Hp}
structure PrE where
  t : Addr
  k : List Key
  b : Addr
  v : V
  u : Value
/-- a list of pairs as it stands -/
inductive PrL (Z : AS) (H : Hp) (h : Heap) : List (D × D) → List V → List PrE → Prop
  | nil : PrL Z H h [] [] []
  | cons {ks : List D} {d : D} {e : PrE} {ps ws es} : H e.t = some (.tup [.ref e.b, e.v]) → H e.b = some (.tup (e.k.map kV)) → ¬ Z e.b → repKeys e.k ks → Rep Z H d e.v → RelV e.v e.u → IsTup h e.t #[.ref e.b, e.u] →
      PrL Z H h ps ws es → PrL Z H h ((.tup ks, d) :: ps) (.ref e.t :: ws) (e :: es)
theorem prL_of {pins : List (Addr × Obj)} {σ : L2.St} {s : Shared} (I : Inv X pins σ H s) : ∀ (xs : List D) (ws : List V) (ps : List (D × D)), RepL Z H xs ws → pairsOf xs = some ps → (ps.all fun p => isKey true p.1) = true → ∃ es, PrL Z H s.heap ps ws es
  | [], ws, ps, r, hp, ha => by
    cases r
    cases hp
    exact ⟨[], .nil⟩
  | x :: xs, ws, ps, r, hp, ha => by
    obtain ⟨v, rr, rfl, h1, h2⟩ := r
    cases x <;> try (cases hp; done)
    rename_i l
    match l, hp with
    | [k, d], hp =>
      simp only [pairsOf, Option.map_eq_some_iff] at hp
      obtain ⟨qs, hq, rfl⟩ := hp
      simp only [List.all_cons, Bool.and_eq_true] at ha
      obtain ⟨es, hes⟩ := prL_of I xs rr qs h2 hq ha.2
      obtain ⟨t, ys, rfl, ⟨nt, ht⟩, ry⟩ := h1
      obtain ⟨vk, r1, rfl, hk, r2⟩ := ry
      obtain ⟨vd, r3, rfl, hd, r4⟩ := r2
      cases r4
      cases k <;> try (cases ha.1; done)
      rename_i ks
      obtain ⟨b, xs', rfl, ⟨nb, hb⟩, rl⟩ := hk
      obtain ⟨kk, e1, rfl⟩ := keys_of1 ks xs' ha.1 rl
      obtain ⟨_, its, rv, it⟩ := (show ObjOk X.prog X.w H s.heap t (.tup [.ref b, vd]) from I.hok t _ ht)
      obtain ⟨u1, u2, rfl, ru1, ru2⟩ := rv.two
      obtain rfl : u1 = Value.ref b := ru1
      exact ⟨⟨t, kk, b, vd, u2⟩ :: es, .cons (e := ⟨t, kk, b, vd, u2⟩) ht hb nb e1 hd ru2 it hes⟩
theorem PrL.ws {h : Heap} : ∀ {ps ws es}, PrL Z H h ps ws es → ws = es.map fun e => V.ref e.t
  | _, _, _, .nil => rfl
  | _, _, _, .cons _ _ _ _ _ _ _ t => by rw [t.ws]; rfl
theorem PrL.len {h : Heap} : ∀ {ps ws es}, PrL Z H h ps ws es → es.length = ps.length ∧ ws.length = ps.length
  | _, _, _, .nil => ⟨rfl, rfl⟩
  | _, _, _, .cons _ _ _ _ _ _ _ t => by have := t.len; simp [this.1, this.2]
theorem PrL.mem {h : Heap} : ∀ {ps ws es}, PrL Z H h ps ws es → ∀ e ∈ es, IsTup h e.t #[.ref e.b, e.u] ∧ H e.b = some (.tup (e.k.map kV)) ∧ RelV e.v e.u
  | _, _, _, .nil, e, he => nomatch he
  | _, _, _, .cons h1 h2 h3 h4 h5 h6 h7 t, e, he => by
    rcases List.mem_cons.mp he with rfl | he
    · exact ⟨h7, h2, h6⟩
    · exact t.mem e he
abbrev PrE.p (e : PrE) : List Key × Addr × Value := (e.k, e.b, e.u)
theorem prL_kt {h : Heap} : ∀ {ps ws es}, PrL Z H h ps ws es → ∀ (acc : List (List Key × V)) (bcc : List (List Key × Addr × Value)), KT H acc bcc → KT H (es.foldl (fun a e => putK a e.k e.v) acc) (storedAllH bcc (es.map PrE.p))
  | _, _, _, .nil, acc, bcc, k => k
  | _, _, _, .cons (e := e) h1 h2 h3 h4 h5 h6 h7 t, acc, bcc, k => prL_kt t (putK acc e.k e.v) (storedH bcc e.k e.b e.u) (k.put e.k h2 h6)
theorem prL_rep {h : Heap} : ∀ {ps ws es}, PrL Z H h ps ws es → ∀ (ds : List (D × D)) (acc : List (List Key × V)), RepT Z H ds acc → RepT Z H (ps.foldl (fun a p => dPut a p.1 p.2) ds) (es.foldl (fun a e => putK a e.k e.v) acc)
  | _, _, _, .nil, ds, acc, r => r
  | _, _, _, .cons (ks := ks) (d := d) (e := e) h1 h2 h3 h4 h5 h6 h7 t, ds, acc, r => by
    refine prL_rep t (dPut ds (.tup ks) d) (putK acc e.k e.v) ?_
    obtain ⟨i1, i2, i3⟩ := repT_put h4 h5 ds acc r
    unfold dPut putK
    rw [i1]
    split
    · exact i2
    · exact i3
theorem prL_putlen : ∀ (es : List PrE) (acc : List (List Key × V)), (es.foldl (fun a e => putK a e.k e.v) acc).length ≤ acc.length + es.length
  | [], acc => Nat.le_refl _
  | e :: es, acc => by
    have h1 := prL_putlen es (putK acc e.k e.v)
    have h2 := length_putK acc e.k e.v
    simp only [List.foldl_cons, List.length_cons]
    omega
theorem vals_ts : ∀ (es : List PrE) (its : List Value), Vals (es.map fun e => V.ref e.t) its → its = es.map fun e => Value.ref e.t
  | [], _, r => by cases r; rfl
  | e :: es, _, r => by
    rw [List.map_cons] at r
    cases r with
    | @cons _ u _ us h1 h2 =>
      obtain rfl : u = Value.ref e.t := h1
      rw [vals_ts es us h2]
      rfl
theorem b_dict (hc : X.calm = true) (hu : X.A.units + 64 < cLine) : CallR X (.type "dict") (rB .dict) := by
  intro pins s σ H vs us Q I r h
  obtain ⟨Z, ds, z, fr, hz, hd, q, k⟩ := h
  match ds, q with
  | [.lst xs], q =>
    simp only [bi] at q
    obtain ⟨ps, hp, q⟩ := Option.bind_eq_some_iff.mp q
    split at q
    · rename_i hk
      cases q
      obtain ⟨v, rfl, hv⟩ := hd.one
      obtain ⟨a, ws, rfl, ha, ra⟩ := RepO.lst hv
      obtain ⟨es, pl⟩ := prL_of I xs ws ps ra hp hk
      obtain ⟨its, rv, ⟨o, n, ho, hcl, hdd, hdat⟩, hz2⟩ := I.list (.of ha)
      obtain ⟨u, rfl, ru⟩ := vals1 r
      obtain rfl : u = Value.ref a := ru
      have ews := pl.ws
      have hits : its = es.map fun e => Value.ref e.t := vals_ts es its (by rw [← ews]; exact rv)
      have hlen := pl.len
      have P := PairArg.list (prog := X.prog) (w := X.w) a its.toArray (fun j => (es[j]?.elim 0 (·.t))) (es.map fun e => (Value.ref e.b, e.u))
      have size : (es.map fun e => (Value.ref e.b, e.u)).length = es.length := by simp
      refine call_dict_pairsH (knd := tupleKind (mixKind X.prog X.w)) (ps := es.map PrE.p) P (I.ok.hd hc) (tupleKind_room_in1 (by show X.A.units + 1 + 1 < cLine; omega)) ⟨⟨o, n, ho, hcl, hdd, hdat⟩, ?_, ?_⟩ ⟨by simp, ?_⟩ ?_ (by rw [size]; rw [hlen.1, ← hlen.2]; exact hz2) fun h' tk hd' hkk => ?_
      · simp [hits]
      · intro j kk vv hj
        rw [List.getElem?_map] at hj
        obtain ⟨e, he, hj⟩ := Option.map_eq_some_iff.mp hj
        cases hj
        refine ⟨by simp [hits, he], .inl ?_⟩
        show s.heap.IsTuple (es[j]?.elim 0 (·.t)) _
        rw [he]
        exact (pl.mem e (List.mem_of_getElem? he)).1
      · intro i key vv hi
        have hi' : (es.map fun e => (Value.ref e.b, e.u))[i]? = some (key, vv) := hi
        rw [List.getElem?_map] at hi'
        obtain ⟨e, he, hj⟩ := Option.map_eq_some_iff.mp hi'
        cases hj
        exact ⟨e.k, e.b, by rw [List.getElem?_map, he]; rfl, rfl⟩
      · intro h'' hkeep x hx
        obtain ⟨e, he, rfl⟩ := List.mem_map.mp hx
        obtain ⟨o', its', n', g1, g2, g3, g4⟩ := key_of I.hok (pl.mem e he).2.1
        exact ⟨o', its', n', hkeep _ _ (Nat.ne_of_lt (Heap.lt_size g1)) (fun z => nomatch z) g1, g2, g3, g4⟩
      · have hm : (s.heap.objs.size == sysModules) = false := beq_eq_false_iff_ne.mpr (Nat.ne_of_gt I.big)
        have hnew := I.hok.fresh (Nat.le_refl s.heap.objs.size)
        have hl : (es.foldl (fun a e => putK a e.k e.v) []).length ≤ sizeLine := by
          have := prL_putlen es []
          rw [List.length_nil, Nat.zero_add] at this
          rw [hlen.2] at hz2
          omega
        have kt := prL_kt pl [] [] .nil
        have rt := prL_rep pl [] [] (by rfl)
        obtain ⟨o', es', ep', g1, g2, g3, g4, _, g5⟩ := hd'
        have kp : ∀ o, Kp Z Z H (upd H s.heap.objs.size o) := fun o b u hb n z => ⟨by rw [upd_ne (fun q => by rw [q, hnew] at hb; cases hb)]; exact hb, z⟩
        have ex : ∀ o, Ex H (upd H s.heap.objs.size o) := fun o => Ex.new hnew
        refine ⟨.ref s.heap.objs.size, upd H s.heap.objs.size (.dT (es.foldl (fun a e => putK a e.k e.v) [])), I.laid (t' := tk) (fun b o e => hkk b o (fun z => nomatch z) e) (Nat.le_refl _) ⟨hl, hm, _, kt.keeps fun b ys eb => ?_, o', es', ep', g1, g2, g3, g4, g5⟩, rfl, k _ _ (ex _) ⟨_, rfl, hz.free hnew, .inr ⟨rfl, _, upd_same, RepT.mono (kp _) _ _ rt⟩⟩ fun _ _ => ⟨_, rfl, hnew, .inr ⟨rfl, _, upd_same, RepT.mono ?_ _ _ rt⟩⟩⟩
        · rw [upd_ne (fun q => by rw [q, hnew] at eb; cases eb)]; exact eb
        · exact (ex _).kpZ hnew
    · cases q
end
end PB
set_option maxHeartbeats 4000000
/-! Iz: exceptions with fields, made and raised. -/
namespace PB
open PySem PySem.Spec PyProof.Rows L2
def noCX : CXT := fun _ _ _ _ _ _ => False
/-- the body of an __init__ that keeps its arguments -/
def iniB : List Str → List Stmt → Bool
  | [], [] => true
  | f :: fs, .Assign [.Attribute (.Name s _) g _] (.Name h _) _ :: r => decide (s = "self") && decide (g = f) && decide (h = f) && iniB fs r
  | _, _ => false
def nmB (sc : Scope) (x : Str) : Bool := (match sc.names.lookup x with
  | some .local => true
  | some .cell => true
  | some .free => true
  | _ => false) && !(x == ("__debug__" : Str)) && !(x == ("__classdict__" : Str))
def spIni (K : PySem.W.Frag) (C : Addr) (fs : List Str) : L2.Sp := fun vs H Q _ => ∃ a ws, vs = .ref a :: ws ∧ ws.length = fs.length ∧ H a = some (exo a C none) ∧
  ∀ d H' l, H d = none → d ≠ a → H' a = some (exo a C (some d)) → H' d = some (exd d l) → (∀ b, b ≠ a → b ≠ d → H' b = H b) → (∀ f v, (fs.zip ws).lookup f = some v → l.lookup f = some v) → Q .non H'
section
variable {X : Cx}
theorem nm_of {i : Nat} {x : Str} {pos : Pos} (hN : X.N[i]? = some x) (h : nmB X.env.scope x = true) : PE X (.Name x pos) (tVar i) := by
  unfold nmB at h
  simp only [Bool.and_eq_true, Bool.not_eq_true'] at h
  refine pe_var hN ?_ h.1.2 h.2
  unfold Vis
  have h1 := h.1.1
  split at h1
  · rename_i q; exact .inl q
  · rename_i q; exact .inr (.inl q)
  · rename_i q; exact .inr (.inr q)
  · cases h1
theorem lookup_ne {f g : Str} {y : V} {l : List (Str × V)} (h : g ≠ f) : ((f, y) :: l).lookup g = l.lookup g := by rw [lookup_put, if_neg h]
/-- the stores behind the first one -/
theorem ini_more {cA : Addr} (T : OexC X.K cA) (h0 : X.N[0]? = some ("self" : Str)) (s0 : nmB X.env.scope "self" = true) : ∀ (fs : List Str) (r : List Stmt) (j : Nat), iniB fs r = true → (∀ i f, fs[i]? = some f → X.N[j + i]? = some f) → (∀ f ∈ fs, nmB X.env.scope f = true ∧ PySem.W.findIn X.K (.ref cA) f = some none) → fs.Nodup →
    ∃ t, PSs X r t ∧ ∀ (D : Ends) (σ : L2.St) (H : Hp) (a d : Addr) (l : List (Str × V)) (ws : List V), σ[0]? = some (some (V.ref a)) → ws.length = fs.length → (∀ i v, ws[i]? = some v → σ[j + i]? = some (some v)) → H a = some (exo a cA (some d)) → H d = some (exd d l) → d ≠ a → l.length + fs.length ≤ 900 →
      (∀ H' l', H' a = some (exo a cA (some d)) → H' d = some (exd d l') → (∀ b, b ≠ d → H' b = H b) → (∀ f v, (fs.zip ws).lookup f = some v → l'.lookup f = some v) → (∀ f, f ∉ fs → l'.lookup f = l.lookup f) → D.nx σ H') → t D σ H
  | [], r, j, hb, _, _, _ => by
    cases r with
    | nil =>
      refine ⟨_, pss_nil, fun D σ H a d l ws _ hl _ ha hd _ _ k => k H l ha hd (fun _ _ => rfl) (fun f v q => ?_) fun _ _ => rfl⟩
      simp at q
    | cons _ _ => cases hb
  | f :: fs, r, j, hb, hN, hs, nd => by
    cases r with
    | nil => cases hb
    | cons st r =>
      unfold iniB at hb
      split at hb
      · cases ‹_ = []›
      · rename_i f' fs' s ps g pa h ph pp r' e1 e2
        obtain ⟨rfl, rfl⟩ := List.cons.inj e1
        obtain ⟨rfl, rfl⟩ := List.cons.inj e2
        simp only [Bool.and_eq_true, decide_eq_true_eq] at hb
        obtain ⟨⟨⟨rfl, e3⟩, e4⟩, hr⟩ := hb
        have e3 := e3.symm
        have e4 := e4.symm
        subst e3
        subst e4
        have hd := List.nodup_cons.mp nd
        obtain ⟨t, pt, qt⟩ := ini_more T h0 s0 fs r (j + 1) hr (fun i f q => by rw [show j + 1 + i = j + (i + 1) by omega]; exact hN (i + 1) f (by simpa using q)) (fun f q => hs f (List.mem_cons_of_mem _ q)) hd.2
        obtain ⟨hn, hno⟩ := hs f List.mem_cons_self
        have p1 : PS X (.Assign [.Attribute (.Name "self" ps) f pa] (.Name f ph) pp) (tOst X.K f (tVar 0) (tVar j)) := ps_ost (nm_of h0 s0) (nm_of (by simpa using hN 0 f rfl) hn)
        have fin : ∀ (D : Ends) (σ : L2.St) (H : Hp) (a d : Addr) (l : List (Str × V)) (w : V) (ws : List V), σ[0]? = some (some (V.ref a)) → ws.length = fs.length → (∀ i v, (w :: ws)[i]? = some v → σ[j + i]? = some (some v)) → H a = some (exo a cA (some d)) → H d = some (exd d l) → d ≠ a → l.length + (f :: fs).length ≤ 900 →
            (∀ H' l', H' a = some (exo a cA (some d)) → H' d = some (exd d l') → (∀ b, b ≠ d → H' b = H b) → (∀ g v, ((f :: fs).zip (w :: ws)).lookup g = some v → l'.lookup g = some v) → (∀ g, g ∉ f :: fs → l'.lookup g = l.lookup g) → D.nx σ H') → t D σ (upd H d (exd d ((f, w) :: l))) := by
          intro D σ H a d l w ws h1 hl h2 ha hd hne hz k
          refine qt D σ _ a d ((f, w) :: l) ws h1 hl (fun i v q => by rw [show j + 1 + i = j + (i + 1) by omega]; exact h2 (i + 1) v (by simpa using q)) (by rw [upd_ne (Ne.symm hne)]; exact ha) upd_same hne (by simp only [List.length_cons] at hz ⊢; omega) fun H' l' k1 k2 k3 k4 k5 => ?_
          refine k H' l' k1 k2 (fun b hb => by rw [k3 b hb, upd_ne hb]) (fun g v q => ?_) fun g q => ?_
          · simp only [List.zip_cons_cons] at q
            rw [lookup_put] at q
            split at q
            · rename_i e
              subst e
              cases q
              rw [k5 g hd.1, lookup_put, if_pos rfl]
            · exact k4 g v q
          · rw [k5 g (fun z => q (List.mem_cons_of_mem _ z)), lookup_ne fun z => q (by rw [z]; exact List.mem_cons_self)]
        have stp : ∀ (D : Ends) (σ : L2.St) (H : Hp) (a d : Addr) (l : List (Str × V)) (w : V) (ws : List V), σ[0]? = some (some (V.ref a)) → (∀ i v, (w :: ws)[i]? = some v → σ[j + i]? = some (some v)) → H a = some (exo a cA (some d)) → H d = some (exd d l) → l.length + (f :: fs).length ≤ 900 → D.nx σ (upd H d (exd d ((f, w) :: l))) → tOst X.K f (tVar 0) (tVar j) D σ H := fun D σ H a d l w ws h1 h2 ha hd hz q =>
          ⟨w, by simpa using h2 0 w rfl, _, h1, a, cA, rfl, T, hno, .inr ⟨d, l, ha, hd, by simp only [List.length_cons] at hz; omega, q⟩⟩
        cases r with
        | nil =>
          refine ⟨_, pss_one p1, fun D σ H a d l ws h1 hl h2 ha hd hne hz k => ?_⟩
          cases ws with
          | nil => cases hl
          | cons w ws =>
            refine stp D σ H a d l w ws h1 h2 ha hd hz ?_
            have hfs : fs = [] := by cases fs <;> first | rfl | cases hr
            subst hfs
            have hws : ws = [] := by simpa using hl
            subst hws
            refine k _ ((f, w) :: l) (by rw [upd_ne (Ne.symm hne)]; exact ha) upd_same (fun b hb => upd_ne hb) (fun g v q => ?_) fun g q => lookup_ne fun z => q (by rw [z]; exact List.mem_cons_self)
            simp only [List.zip_cons_cons, List.zip_nil_left] at q
            rw [lookup_put] at q ⊢
            split at q
            · rename_i e; rw [if_pos e]; exact q
            · cases q
        | cons st2 r =>
          refine ⟨_, pss_cons p1 pt, fun D σ H a d l ws h1 hl h2 ha hd hne hz k => ?_⟩
          cases ws with
          | nil => cases hl
          | cons w ws =>
            refine stp _ σ H a d l w ws h1 h2 ha hd hz ?_
            exact fin D σ H a d l w ws h1 (by simpa using hl) h2 ha hd hne hz k
      · cases hb
/-- the whole body -/
theorem ini_all {cA : Addr} (T : OexC X.K cA) (h0 : X.N[0]? = some ("self" : Str)) (s0 : nmB X.env.scope "self" = true) {f : Str} {fs : List Str} {st : Stmt} {r : List Stmt} (hb : iniB (f :: fs) (st :: r) = true) (hN : ∀ i g, (f :: fs)[i]? = some g → X.N[1 + i]? = some g)
    (hs : ∀ g ∈ f :: fs, nmB X.env.scope g = true ∧ PySem.W.findIn X.K (.ref cA) g = some none) (nd : (f :: fs).Nodup) (hz : (f :: fs).length ≤ 900) :
    ∃ t, PSs X (st :: r) t ∧ ∀ (D : Ends) (σ : L2.St) (H : Hp) (a : Addr) (ws : List V), σ[0]? = some (some (V.ref a)) → ws.length = (f :: fs).length → (∀ i v, ws[i]? = some v → σ[1 + i]? = some (some v)) → H a = some (exo a cA none) →
      (∀ d H' l, H d = none → d ≠ a → H' a = some (exo a cA (some d)) → H' d = some (exd d l) → (∀ b, b ≠ a → b ≠ d → H' b = H b) → (∀ g v, ((f :: fs).zip ws).lookup g = some v → l.lookup g = some v) → D.nx σ H') → t D σ H := by
  unfold iniB at hb
  split at hb
  · cases ‹_ = []›
  · rename_i f' fs' s ps g pa h ph pp r' e1 e2
    obtain ⟨rfl, rfl⟩ := List.cons.inj e1
    obtain ⟨rfl, rfl⟩ := List.cons.inj e2
    simp only [Bool.and_eq_true, decide_eq_true_eq] at hb
    obtain ⟨⟨⟨rfl, e3⟩, e4⟩, hr⟩ := hb
    have e3 := e3.symm
    have e4 := e4.symm
    subst e3
    subst e4
    have hd := List.nodup_cons.mp nd
    obtain ⟨hn, hno⟩ := hs _ List.mem_cons_self
    obtain ⟨t, pt, qt⟩ := ini_more T h0 s0 fs r 2 hr (fun i g q => by rw [show 2 + i = 1 + (i + 1) by omega]; exact hN (i + 1) g (by simpa using q)) (fun f q => hs f (List.mem_cons_of_mem _ q)) hd.2
    have p1 : PS X (.Assign [.Attribute (.Name "self" ps) f pa] (.Name f ph) pp) (tOst X.K f (tVar 0) (tVar 1)) := ps_ost (nm_of h0 s0) (nm_of (by simpa using hN 0 f rfl) hn)
    have stp : ∀ (D : Ends) (σ : L2.St) (H : Hp) (a : Addr) (w : V) (ws : List V), σ[0]? = some (some (V.ref a)) → (∀ i v, (w :: ws)[i]? = some v → σ[1 + i]? = some (some v)) → H a = some (exo a cA none) →
        (∀ d, H d = none → d ≠ a → D.nx σ (upd (upd H d (exd d [(f, w)])) a (exo a cA (some d)))) → tOst X.K f (tVar 0) (tVar 1) D σ H := fun D σ H a w ws h1 h2 ha q =>
      ⟨w, by simpa using h2 0 w rfl, _, h1, a, cA, rfl, T, hno, .inl ⟨ha, q⟩⟩
    cases r with
    | nil =>
      refine ⟨_, pss_one p1, fun D σ H a ws h1 hl h2 ha k => ?_⟩
      cases ws with
      | nil => cases hl
      | cons w ws =>
        refine stp D σ H a w ws h1 h2 ha fun d hd1 hd2 => ?_
        have hfs : fs = [] := by cases fs <;> first | rfl | cases hr
        subst hfs
        have hws : ws = [] := by simpa using hl
        subst hws
        refine k d _ [(f, w)] hd1 hd2 upd_same (by rw [upd_ne hd2]; exact upd_same) (fun b b1 b2 => by rw [upd_ne b1, upd_ne b2]) fun g v q => ?_
        simpa using q
    | cons st2 r =>
      refine ⟨_, pss_cons p1 pt, fun D σ H a ws h1 hl h2 ha k => ?_⟩
      cases ws with
      | nil => cases hl
      | cons w ws =>
        refine stp _ σ H a w ws h1 h2 ha fun d hd1 hd2 => ?_
        refine qt D σ _ a d [(f, w)] ws h1 (by simpa using hl) (fun i v q => by rw [show 2 + i = 1 + (i + 1) by omega]; exact h2 (i + 1) v (by simpa using q)) upd_same (by rw [upd_ne hd2]; exact upd_same) hd2 (by simp only [List.length_cons, List.length_nil] at hz ⊢; omega) fun H' l' k1 k2 k3 k4 k5 => ?_
        refine k d H' l' hd1 hd2 k1 k2 (fun b b1 b2 => by rw [k3 b b2, upd_ne b1, upd_ne b2]) fun g v q => ?_
        simp only [List.zip_cons_cons] at q
        rw [lookup_put] at q
        split at q
        · rename_i e
          subst e
          cases q
          rw [k5 g hd.1, lookup_put, if_pos rfl]
        · exact k4 g v q
  · cases hb
end
/-- a class of exceptions whose __init__ keeps its arguments -/
theorem ini_ok {P : Program} {w : World} {K : PySem.W.Frag} {mg : Str → Option Value} {base : Heap} {fI cA : Addr} {qual name : Str} {params : Arguments} {body : List Stmt} {scope : Scope} {dV kV doc pm cdv ct oc : Value} {an od : Option Addr} {osl : Array (Option Value)} {fs : List Str}
    (lk : K.lookup fI = some ⟨oc, od, .func (PySem.W.fnOf name qual params body scope dV kV doc pm an cdv ct), osl⟩) (hcd : PySem.W.codeIn K cdv qual = true) (S : FnScope ("self" :: fs) ("self" :: fs) scope) (T : OexC K cA) (hb : iniB fs body = true) (hne : fs ≠ [])
    (hs : ∀ g ∈ fs, nmB scope g = true ∧ PySem.W.findIn K (.ref cA) g = some none) (s0 : nmB scope "self" = true) (nd : fs.Nodup) (hz : fs.length ≤ 900) (k : Nat) :
    FnOk P w K mg base noCX (k + 1) fI (PySem.W.fnOf name qual params body scope dV kV doc pm an cdv ct) ("self" :: fs) (spIni K cA fs) := by
  refine fn_of lk hcd S (fun vs H Q E ⟨a, ws, e, hl, _⟩ => by rw [e]; simp [hl]) fun A outer s H vs Q E room h => ?_
  obtain ⟨a, ws, rfl, hl, ha, q⟩ := h
  cases fs with
  | nil => exact absurd rfl hne
  | cons f fs =>
    cases body with
    | nil => cases hb
    | cons st r =>
      obtain ⟨t, pt, qt⟩ := ini_all (X := cxOf noCX P w K mg base ("self" :: f :: fs) qual scope fI cdv A outer s H E) T rfl s0 hb (fun i g z => by rw [Nat.add_comm]; exact z) hs nd hz
      refine ⟨t, pt, qt _ _ H a ws ?_ hl (fun i v z => ?_) ha fun d H' l h1 h2 h3 h4 h5 h6 => q d H' l h1 h2 h3 h4 h5 h6⟩
      · rw [start_get (by simp [hl])]
        simp
      · have hi := lt_of_get z
        rw [start_get (by simp [hl])]
        simp only [List.length_cons]
        rw [if_pos (by omega), Nat.add_comm 1 i, List.getElem?_cons_succ, z]
section
variable {X : Cx} {Γ : Gm} {fq : Nat → Bool} {fr : Bool} {XW : WX} {G : Gx} {a : C} {st : Stmt}
theorem flds0_zip : ∀ {fs : List Str} {l : List PB.D} {z : List (Str × PB.D)}, flds0 fs l = some z → z = fs.zip l ∧ l.length = fs.length
  | [], [], z, h => by cases h; exact ⟨rfl, rfl⟩
  | [], _ :: _, z, h => by cases h
  | _ :: _, [], z, h => by cases h
  | f :: fs, d :: l, z, h => by
    simp only [flds0] at h
    obtain ⟨q, hq, rfl⟩ := Option.map_eq_some_iff.mp h
    obtain ⟨e1, e2⟩ := flds0_zip hq
    subst e1
    exact ⟨rfl, by simp [e2]⟩
theorem zip_lookup {Z : AS} {H : Hp} : ∀ {fs : List Str} {l : List PB.D} {vs : List V}, RepL Z H l vs → ∀ f d, (fs.zip l).lookup f = some d → ∃ v, (fs.zip vs).lookup f = some v ∧ Rep Z H d v
  | [], _, _, _, f, d, h => by simp at h
  | _ :: _, [], _, _, f, d, h => by simp at h
  | g :: fs, d0 :: l, vs, r, f, d, h => by
    obtain ⟨v, r', rfl, h1, h2⟩ := r
    simp only [List.zip_cons_cons, List.lookup_cons] at h ⊢
    split at h
    · cases h; exact ⟨v, rfl, h1⟩
    · exact zip_lookup h2 f d h
theorem S_raise {cls : Nat} {cA : Addr} {fs : List Str} (hxin : G.xin cls = fs) (hC : Γ.cA cls = some cA) (hln : ∀ l e e', ev a G e = some (.ok (.lst l) e') → l.length ≤ 1000)
    (h : PS X st (fun _ σ H => tMkO cA (spIni X.K cA fs) [] (rdA Γ XW G a) σ H fun cl d H' => XW cl d σ H')) : PS X st (rdSt Γ fr XW G (.raise cls a)) := PSimp h fun D σ H q => by
  obtain ⟨F, e, E, w⟩ := q
  simp only [exec] at w
  have w1 := WtS_outB w
  refine ⟨F, e, E, ?_⟩
  revert w1
  cases hev : ev a G e with
  | none => exact fun z => z
  | some r => cases r with
    | xc x e1 => exact fun z => z
    | ok xs e1 =>
      intro w1
      cases xs with
      | lst l =>
       have w2 : rdS' Γ fr XW F D σ H (if noLocs a then (flds0 (G.xin cls) l).map fun fs => Out.xc ⟨cls, fs⟩ e1 else none) := w1
       obtain ⟨hno, w3⟩ := rdS_ite w2
       cases hf : flds0 (G.xin cls) l with
       | none => rw [hf] at w3; exact w3.elim
       | some z =>
         rw [hf] at w3
         obtain ⟨rfl, hlen⟩ := flds0_zip hf
         rw [hxin] at hlen w3
         have w4 : XFS Γ XW F σ H ⟨cls, fs.zip l⟩ e1 := w3
         refine ⟨l, rfl, fun vs H1 k1 E1 rs => ?_⟩
         have rep := VRs.repL hno rs
         have lv := RepL.length _ _ rep
         refine ⟨by have := hln l e e1 hev; omega, fun o ho => ⟨o, vs, by simp, by omega, upd_same, fun d H' l' hd hne ha' hd' hk hl' => ⟨rfl, d, l', ha', hd', ?_, ?_⟩⟩⟩
         · rw [upd_ne hne] at hd; exact hd
         · have hd1 : H1 d = none := by rw [upd_ne hne] at hd; exact hd
           have ex : Ex H1 (upd (del H' o) d (.xd l')) := fun b u hb => by
             have b1 : b ≠ d := fun z => by rw [z, hd1] at hb; cases hb
             have b2 : b ≠ o := fun z => by rw [z, ho] at hb; cases hb
             rw [upd_ne b1, del_ne b2, hk b b2 b1, upd_ne b2]
             exact hb
           refine w4 (.ref cA) (some d) σ _ (k1.stp.trans (Ex.sp ex).stp) (E1.ext ex) ⟨cA, hC, rfl, d, l', rfl, upd_same, fun f dd hfd => ?_⟩
           obtain ⟨v, q1, q2⟩ := zip_lookup rep f dd hfd
           exact ⟨v, hl' f v q1, Rep.mono ex.kp _ _ q2⟩
      | _ => exact (show False from w1).elim
end
end PB
set_option maxHeartbeats 4000000
/-! Il2: comprehensions of two clauses. -/
namespace PB
open PySem PySem.Spec PyProof.Rows L2
/-- the inner walk of a comprehension -/
theorem lc_in {J : It} {n : Nat} {Gd : Hp → Prop} {Y : Nat → Hp → V → Hp → Prop} (w : Walk J n Gd Y) {g : TG} {tt : TT} {te : TE} {vs : List Nat} {σ : L2.St} {H1 : Hp} {D : Addr} {Nx : Hp → Prop} (Pv : Nat → Hp → Prop) (h0 : Pv 0 H1) (hG : ∀ i H, i ≤ n → Pv i H → Gd H)
    (hs : ∀ i x H H', i < n → Pv i H → Y i H x H' → g x (wipe σ vs) H' fun σ2 H2 => wipe σ2 vs = wipe σ vs ∧ tt σ2 H2 fun b H3 =>
      if b = true then te σ2 H3 fun y H4 => ∃ acc, H4 D = some (.lst acc) ∧ acc.length < sizeLine ∧ Pv (i + 1) (upd H4 D (.lst (acc ++ [y]))) else Pv (i + 1) H3) (hd : ∀ H, Pv n H → Nx H) :
    ∃ W : Nat → Nat → Hp → Prop, (∃ m, W 0 m H1) ∧ ∀ i m H, W i m H →
      (J.stop i H ∧ Nx H) ∨ (J.go i H ∧ ∃ Nx : Hp → Prop, (∀ H', Nx H' → ∃ m', m' < m ∧ W (i + 1) m' H') ∧ ∀ x H', J.yld i H x H' → g x (wipe σ vs) H' fun σ2 H2 => wipe σ2 vs = wipe σ vs ∧ tt σ2 H2 fun b H3 =>
        if b = true then te σ2 H3 fun y H4 => ∃ acc, H4 D = some (.lst acc) ∧ acc.length < sizeLine ∧ Nx (upd H4 D (.lst (acc ++ [y]))) else Nx H3) := by
  refine ⟨fun i m H => m = n - i ∧ i ≤ n ∧ Pv i H, ⟨n, by simp, Nat.zero_le _, h0⟩, ?_⟩
  rintro i m H ⟨rfl, hi, p⟩
  have q := hG i H hi p
  by_cases hlt : i < n
  · refine .inr ⟨w.goes i H hlt q, Pv (i + 1), fun H' p' => ⟨n - (i + 1), by omega, rfl, hlt, p'⟩, fun x H' y => hs i x H H' hlt p (w.yields i H x H' hlt q y)⟩
  · have e : i = n := by omega
    subst e
    exact .inl ⟨w.stops H q, hd H p⟩
/-- the outer walk -/
theorem lc_out {J : It} {n : Nat} {Gd : Hp → Prop} {Y : Nat → Hp → V → Hp → Prop} (w : Walk J n Gd Y) {g : TG} {T : L2.St → Hp → (Hp → Prop) → Prop} {vs : List Nat} {σ : L2.St} {H1 : Hp} {Qd : Hp → Prop} (Pv : Nat → Hp → Prop) (h0 : Pv 0 H1) (hG : ∀ i H, i ≤ n → Pv i H → Gd H)
    (hs : ∀ i x H H', i < n → Pv i H → Y i H x H' → g x (wipe σ vs) H' fun σ2 H2 => wipe σ2 vs = wipe σ vs ∧ T σ2 H2 (Pv (i + 1))) (hd : ∀ H, Pv n H → Qd H) :
    ∃ W : Nat → Nat → Hp → Prop, (∃ m, W 0 m H1) ∧ ∀ i m H, W i m H →
      (J.stop i H ∧ Qd H) ∨ (J.go i H ∧ ∃ Nx : Hp → Prop, (∀ H', Nx H' → ∃ m', m' < m ∧ W (i + 1) m' H') ∧ ∀ x H', J.yld i H x H' → g x (wipe σ vs) H' fun σ2 H2 => wipe σ2 vs = wipe σ vs ∧ T σ2 H2 Nx) := by
  refine ⟨fun i m H => m = n - i ∧ i ≤ n ∧ Pv i H, ⟨n, by simp, Nat.zero_le _, h0⟩, ?_⟩
  rintro i m H ⟨rfl, hi, p⟩
  have q := hG i H hi p
  by_cases hlt : i < n
  · refine .inr ⟨w.goes i H hlt q, Pv (i + 1), fun H' p' => ⟨n - (i + 1), by omega, rfl, hlt, p'⟩, fun x H' y => hs i x H H' hlt p (w.yields i H x H' hlt q y)⟩
  · have e : i = n := by omega
    subst e
    exact .inl ⟨w.stops H q, hd H p⟩
theorem wipe_wipe {vs us : List Nat} {σ : L2.St} (h : ∀ i ∈ us, i ∈ vs) : wipe (wipe σ us) vs = wipe σ vs := by
  apply List.ext_getElem?
  intro j
  rw [(wipe_get vs (wipe σ us) j).2, (wipe_get vs σ j).2, (wipe_get us σ 0).1]
  split
  · rfl
  · rename_i n
    by_cases hj : j < σ.length
    · exact wipe_not fun z => n ⟨h j z, hj⟩
    · rw [List.getElem?_eq_none (by rw [(wipe_get us σ 0).1]; omega), List.getElem?_eq_none (by omega)]
theorem wipeE_wipeE {vs us : List Nat} {e : En} (h : ∀ i ∈ us, i ∈ vs) : wipeE (wipeE e us) vs = wipeE e vs := by
  apply List.ext_getElem?
  intro j
  rw [(wipeE_get vs (wipeE e us) j).2, (wipeE_get vs e j).2, (wipeE_get us e 0).1]
  split
  · rfl
  · rename_i n
    by_cases hj : j < e.length
    · exact wipeE_not fun z => n ⟨h j z, hj⟩
    · rw [List.getElem?_eq_none (by rw [(wipeE_get us e 0).1]; omega), List.getElem?_eq_none (by omega)]
section
variable {X : Cx} {Γ : Gm} {fq : Nat → Bool} {XW : WX} {G : Gx} {a b c a1 b1 c1 elt : C} {tg ex : Expr} {vs vs1 : List Nat}
theorem lc2_read (hks : G.ks = Γ.ks) (hv : vsOk Γ vs) (ht : ∀ i ∈ slotsG a, i ∈ vs) (hv1 : ∀ i ∈ vs1, i ∈ vs) (ht1 : ∀ i ∈ slotsG a1, i ∈ vs1) {σ : L2.St} {H : Hp} {Q : VK} (q : rdE Γ fq XW G (.lc2 vs vs1 a c b a1 c1 b1 elt) σ H Q) :
    tLc2 (rdI Γ XW G c) (rdG Γ a) (rdT Γ noX G b) (rdI Γ noX G c1) (rdG Γ a1) (rdT Γ noX G b1) (rdE Γ fq noX G elt) vs vs1 σ H Q := by
  obtain ⟨F, e, E, w⟩ := q
  simp only [ev, hks] at w
  refine ⟨F, e, E, (Wt_bnd w).imp (fun d e1 w1 => ?_) fun _ _ q => q⟩
  obtain ⟨ds, q1, w1⟩ := Wt_bind w1
  refine ⟨ds, q1, fun J H1 k1 E1 it D hD => ?_⟩
  obtain ⟨Gd, Y, wk, hG, hY⟩ := it
  obtain ⟨L, eL, hloop, w2⟩ := Wt_bnd0 w1
  obtain ⟨hlim, w2⟩ := Wt_ite w2
  generalize hstep1 : (fun (x : PB.D) (e6 : En) => (asgT Γ.ks a1 x (wipeE e6 vs1)).bind fun e7 => bnd0 (ev b1 G e7) fun t e8 => (finT b1 t e8).bind fun t => if t = true then bnd0 (ev elt G e8) fun y e9 => if isLoc elt = true then none else some (R.ok (some y) e9) else some (R.ok (none : Option PB.D) e8)) = step1 at hloop
  generalize hstep : (fun (x : PB.D) (e2 : En) => (asgT Γ.ks a x (wipeE e2 vs)).bind fun e3 => bnd0 (ev b G e3) fun t e4 => (finT b t e4).bind fun t => if t = true then bnd0 (ev c1 G e4) fun d1 e5 => (itemsOf Γ.ks c1 d1 e5).bind fun ds1 => lcLoop step1 ds1 e5 else some (R.ok ([] : List PB.D) e4)) = step at hloop
  have hvs1 : vsOk Γ vs1 := fun i hi => hv i (hv1 i hi)
  have D0 : F.H0 D = none := E1.h0 hD
  have Dz : ¬ zt Γ F σ D := fun z => (E1.ztH D z).1 hD
  have Ds : ∀ {σ : L2.St}, ¬ zt Γ F σ D → ¬ zs Γ (F.add D) σ D := fun {σ} n z => by
    rcases z with z | z
    · exact n (.inr z)
    · exact z.2 (.inr rfl)
  have x0 : Ex H1 (upd H1 D (.lst [])) := Ex.new hD
  have E0 : ER Γ (F.add D) (upd H1 D (.lst [])) σ e1 := E1.extZ x0 fun q hq => by
    rcases hq with hq | hq
    · exact .inl hq
    · subst hq
      exact .inr ⟨hD, (by intro z; rw [upd_same] at z; cases z), (by intro _ z; rw [upd_same] at z; cases z), (by intro _ z; rw [upd_same] at z; cases z)⟩
  have kz0 : Kp (zt Γ F σ) (zt Γ (F.add D) σ) H1 (upd H1 D (.lst [])) := kp_of (fun q o hq _ _ => x0 q o hq) fun q hq => hq.imp id fun (z : q = D) => by rw [z]; exact hD
  have ks0 : Kp (zs Γ F σ) (zs Γ F σ) H1 (upd H1 D (.lst [])) := x0.kp
  have Dn : ¬ zs Γ (F.add D) σ D := Ds Dz
  have dz : zt Γ (F.add D) σ D := .inl (.inr rfl)
  have dzo : zo Γ (F.add D) σ D := .inr D0
  -- what holds of a heap in the block, σq having the own slots of σ
  have sub : ∀ {σ2 : L2.St} {accV : List V} {Ha Hb : Hp}, OsS Γ.ks σ2 = OsS Γ.ks σ → Sp Γ (F.add D) σ2 Ha Hb → Ha D = some (.lst accV) → Kp (zt Γ F σ) (zt Γ (F.add D) σ) H1 Ha ∧ Kp (zs Γ F σ) (zs Γ F σ) H1 Ha ∧ (∀ q, H1 q ≠ none → Ha q ≠ none) →
      (Kp (zt Γ F σ) (zt Γ (F.add D) σ) H1 Hb ∧ Kp (zs Γ F σ) (zs Γ F σ) H1 Hb ∧ ∀ q, H1 q ≠ none → Hb q ≠ none) ∧ Hb D = some (.lst accV) ∧ Kp (zt Γ (F.add D) σ) (zt Γ (F.add D) σ) Ha Hb ∧ Kp (zo Γ (F.add D) σ) (zo Γ (F.add D) σ) Ha Hb := fun {σ2 accV Ha Hb} ho k hh ⟨a1, a2, a3⟩ => by
    have zz : zt Γ (F.add D) σ2 = zt Γ (F.add D) σ := by unfold zt; rw [ho]
    have zzs : zs Γ (F.add D) σ2 = zs Γ (F.add D) σ := by unfold zs; rw [ho]
    have kp := k.kp
    have ko := k.ko
    rw [zz] at kp
    rw [zzs] at ko
    refine ⟨⟨a1.trans kp, fun q o hq hn hz => ?_, fun q hq => k.dom q (a3 q hq)⟩, (ko D _ hh (fun ps z => by cases z) Dn).1, kp, fun q o hq hn hz => ⟨(ko q o hq hn fun z => hz (z.imp id fun z => z.1)).1, hz⟩⟩
    have b1 := a2 q o hq hn hz
    refine ⟨(ko q o b1.1 hn fun z => hz ?_).1, hz⟩
    rcases z with z | z
    · exact .inl z
    · exact .inr ⟨z.1, fun y => z.2 (.inl y)⟩
  refine lc_out wk (g := rdG Γ a) (T := fun σ2 H2 Nx => rdT Γ noX G b σ2 H2 fun b H3 => if b = true then rdI Γ noX G c1 σ2 H3 fun J1 H4 => ∃ W1 : Nat → Nat → Hp → Prop, (∃ m, W1 0 m H4) ∧ ∀ j k H, W1 j k H →
      (J1.stop j H ∧ Nx H) ∨ (J1.go j H ∧ ∃ Nx1 : Hp → Prop, (∀ H', Nx1 H' → ∃ k', k' < k ∧ W1 (j + 1) k' H') ∧ ∀ x H', J1.yld j H x H' → rdG Γ a1 x (wipe σ2 vs1) H' fun σ3 H5 => wipe σ3 vs1 = wipe σ2 vs1 ∧ rdT Γ noX G b1 σ3 H5 fun b H6 =>
        if b = true then rdE Γ fq noX G elt σ3 H6 fun y H7 => ∃ acc, H7 D = some (.lst acc) ∧ acc.length < sizeLine ∧ Nx1 (upd H7 D (.lst (acc ++ [y]))) else Nx1 H6) else Nx H3)
    (fun i H' => ∃ e' acc accV l, ER Γ (F.add D) H' (wipe σ vs) (wipeE e' vs) ∧ Kp (zt Γ F σ) (zt Γ (F.add D) σ) H1 H' ∧ Kp (zs Γ F σ) (zs Γ F σ) H1 H' ∧ (∀ q, H1 q ≠ none → H' q ≠ none) ∧ H' D = some (.lst accV) ∧ RepL (zt Γ (F.add D) σ) H' acc accV ∧
    lcLoop2 step (ds.drop i) e' = some (.ok l eL) ∧ acc ++ l = L) ⟨e1, [], [], L, E0.wiped hv, kz0, ks0, fun q hq => upd_dom q hq, upd_same, rfl, by rw [List.drop_zero]; exact hloop, rfl⟩ ?_ ?_ ?_
  · rintro i H' hi ⟨e', acc, accV, l, E', kz, kk, dm, _⟩
    exact hG _ _ H' kz kk.so
  · rintro i x H' H'' hi ⟨e', acc, accV, l, E', kz, kk, dm, hDD, rA, hl, hL⟩ y
    have zw := zt_wipe (F := F.add D) (σ := σ) hv
    obtain ⟨x1, d, q2, r⟩ := hY i x _ H' H'' kz hi (by rw [← zw]; exact E'.ztH) y
    have hlt := lt_of_get q2
    have ed : ds.drop i = d :: ds.drop (i + 1) := by
      rw [List.drop_eq_getElem_cons hlt]
      congr 1
      rw [List.getElem?_eq_getElem hlt] at q2
      exact Option.some.inj q2
    rw [ed] at hl
    simp only [lcLoop2] at hl
    obtain ⟨o, e6, hst, hl⟩ := bnd0_ok hl
    obtain ⟨l', e7, hl2, hl3⟩ := bnd0_ok hl
    cases hl3
    rw [← hstep] at hst
    obtain ⟨e3, q3, hst⟩ := Option.bind_eq_some_iff.mp hst
    obtain ⟨t, e4, q4, hst⟩ := bnd0_ok hst
    obtain ⟨tt, q5, hst⟩ := Option.bind_eq_some_iff.mp hst
    refine ⟨F.add D, wipeE e' vs, d, e3, E'.ext x1, by rw [zw]; exact r, q3, fun σ2 E2 z2 y2 => ?_⟩
    have os2 : OsS Γ.ks σ2 = OsS Γ.ks σ := by rw [z2, osS_wipe hv]
    have zz : zt Γ (F.add D) σ2 = zt Γ (F.add D) σ := by unfold zt; rw [os2]
    have zzo : zo Γ (F.add D) σ2 = zo Γ (F.add D) σ := by unfold zo; rw [os2]
    have wp2 : wipe σ2 vs = wipe σ vs := by
      rw [y2 vs ht]
      exact wipe_wipe fun _ q => q
    refine ⟨wp2, ?_⟩
    have c0 : Kp (zt Γ F σ) (zt Γ (F.add D) σ) H1 H'' ∧ Kp (zs Γ F σ) (zs Γ F σ) H1 H'' ∧ ∀ q, H1 q ≠ none → H'' q ≠ none := ⟨kz.trans x1.kp, kk.trans x1.kp, fun q hq => (x1.sp (Γ := Γ) (F := F) (σ := σ)).dom q (dm q hq)⟩
    have hD2 : H'' D = some (.lst accV) := x1 D _ hDD
    have rA2 : RepL (zt Γ (F.add D) σ) H'' acc accV := RepL.mono x1.kp _ _ rA
    refine ⟨F.add D, e3, E2, Wt.ifs ?_ q4.symm⟩
    refine ⟨tt, q5, fun H3 k3 E3 => ?_⟩
    obtain ⟨c3, hD3, kz3, _⟩ := sub os2 k3 hD2 c0
    have rA3 : RepL (zt Γ (F.add D) σ) H3 acc accV := RepL.mono kz3 _ _ rA2
    cases tt with
    | false =>
      cases hst
      rw [if_neg Bool.false_ne_true]
      exact ⟨_, acc, accV, l', by rw [← wp2]; exact E3.wiped hv, c3.1, c3.2.1, c3.2.2, hD3, rA3, hl2, hL⟩
    | true =>
      rw [if_pos rfl] at hst ⊢
      obtain ⟨d1, e5, q6, hst⟩ := bnd0_ok hst
      obtain ⟨ds1, q7, hst⟩ := Option.bind_eq_some_iff.mp hst
      refine ⟨F.add D, e4, E3, Wt.ifs ?_ q6.symm⟩
      refine ⟨ds1, q7, fun J1 H4 k4 E4 it1 => ?_⟩
      obtain ⟨Gd1, Y1, wk1, hG1, hY1⟩ := it1
      rw [zz] at hG1 hY1
      rw [zzo] at hG1
      obtain ⟨c4, hD4, kz4, _⟩ := sub os2 k4 hD3 c3
      have rA4 : RepL (zt Γ (F.add D) σ) H4 acc accV := RepL.mono kz4 _ _ rA3
      refine lc_in wk1 (fun j H' => ∃ e' acc accV l1, ER Γ (F.add D) H' (wipe σ2 vs1) (wipeE e' vs1) ∧ (Kp (zt Γ (F.add D) σ) (zt Γ (F.add D) σ) H4 H' ∧ Kp (zo Γ (F.add D) σ) (zo Γ (F.add D) σ) H4 H') ∧ (Kp (zt Γ F σ) (zt Γ (F.add D) σ) H1 H' ∧ Kp (zs Γ F σ) (zs Γ F σ) H1 H' ∧ ∀ q, H1 q ≠ none → H' q ≠ none) ∧ H' D = some (.lst accV) ∧ RepL (zt Γ (F.add D) σ) H' acc accV ∧
        lcLoop step1 (ds1.drop j) e' = some (.ok l1 e6) ∧ acc ++ (l1 ++ l') = L) ⟨e5, acc, accV, o, E4.wiped hvs1, ⟨Kp.refl, Kp.refl⟩, c4, hD4, rA4, by rw [List.drop_zero]; exact hst, hL⟩ ?_ ?_ ?_
      · rintro j H' hj ⟨e', acc, accV, l1, E', ⟨ka, kb⟩, _⟩
        exact hG1 _ _ H' ka kb
      · rintro j x1 H5 H6 hj ⟨e', acc, accV, l1, E', ⟨ka, kb⟩, c5, hD5, rA5, hl1, hL1⟩ y1
        have zw1 : zt Γ (F.add D) (wipe σ2 vs1) = zt Γ (F.add D) σ := (zt_wipe hvs1).trans zz
        obtain ⟨xx, dd, q8, rr⟩ := hY1 j x1 _ H5 H6 ka hj (by rw [← zw1]; exact E'.ztH) y1
        have hlt1 := lt_of_get q8
        have ed1 : ds1.drop j = dd :: ds1.drop (j + 1) := by
          rw [List.drop_eq_getElem_cons hlt1]
          congr 1
          rw [List.getElem?_eq_getElem hlt1] at q8
          exact Option.some.inj q8
        rw [ed1] at hl1
        simp only [lcLoop] at hl1
        obtain ⟨o1, e8, hst1, hl1⟩ := bnd0_ok hl1
        obtain ⟨l2, e9, hl3, hl4⟩ := bnd0_ok hl1
        cases hl4
        rw [← hstep1] at hst1
        obtain ⟨e7, p3, hst1⟩ := Option.bind_eq_some_iff.mp hst1
        obtain ⟨t1, ea, p4, hst1⟩ := bnd0_ok hst1
        obtain ⟨tt1, p5, hst1⟩ := Option.bind_eq_some_iff.mp hst1
        refine ⟨F.add D, wipeE e' vs1, dd, e7, E'.ext xx, by rw [zw1]; exact rr, p3, fun σ3 E7 z3 y3 => ?_⟩
        have os3 : OsS Γ.ks σ3 = OsS Γ.ks σ := by rw [z3, osS_wipe hvs1, os2]
        have zz3 : zt Γ (F.add D) σ3 = zt Γ (F.add D) σ := by unfold zt; rw [os3]
        have wp3 : wipe σ3 vs1 = wipe σ2 vs1 := by
          rw [y3 vs1 ht1]
          exact wipe_wipe fun _ q => q
        refine ⟨wp3, ?_⟩
        have c6 : Kp (zt Γ F σ) (zt Γ (F.add D) σ) H1 H6 ∧ Kp (zs Γ F σ) (zs Γ F σ) H1 H6 ∧ ∀ q, H1 q ≠ none → H6 q ≠ none := ⟨c5.1.trans xx.kp, c5.2.1.trans xx.kp, fun q hq => (xx.sp (Γ := Γ) (F := F) (σ := σ)).dom q (c5.2.2 q hq)⟩
        have hD6 : H6 D = some (.lst accV) := xx D _ hD5
        have rA6 : RepL (zt Γ (F.add D) σ) H6 acc accV := RepL.mono xx.kp _ _ rA5
        refine ⟨F.add D, e7, E7, Wt.ifs ?_ p4.symm⟩
        refine ⟨tt1, p5, fun H7 k7 Ea => ?_⟩
        obtain ⟨c7, hD7, kz7, ko7⟩ := sub os3 k7 hD6 c6
        have rA7 : RepL (zt Γ (F.add D) σ) H7 acc accV := RepL.mono kz7 _ _ rA6
        have ka7 := (ka.trans xx.kp).trans kz7
        have kb7 := (kb.trans xx.kp).trans ko7
        cases tt1 with
        | false =>
          rw [if_neg Bool.false_ne_true] at hst1 ⊢
          cases hst1
          exact ⟨_, acc, accV, l2, by rw [← wp3]; exact Ea.wiped hvs1, ⟨ka7, kb7⟩, c7, hD7, rA7, hl3, hL1⟩
        | true =>
          rw [if_pos rfl] at hst1 ⊢
          obtain ⟨yv, eb, p6, hst1⟩ := bnd0_ok hst1
          split at hst1
          · cases hst1
          · rename_i hloc
            cases hst1
            refine ⟨F.add D, ea, Ea, Wt.ifs ?_ p6.symm⟩
            intro v H8 k8 Eb r8
            have rv := r8.1.rep (by simpa using hloc)
            rw [zz3] at rv
            obtain ⟨c8, hD8, kz8, ko8⟩ := sub os3 k8 hD7 c7
            have rA8 : RepL (zt Γ (F.add D) σ) H8 acc accV := RepL.mono kz8 _ _ rA7
            have hlen := RepL.length _ _ rA8
            have kD : Kp (zt Γ (F.add D) σ) (zt Γ (F.add D) σ) H8 (upd H8 D (.lst (accV ++ [v]))) := fun q o hq _ hz => ⟨by rw [upd_ne (fun z => hz (by rw [z]; exact dz))]; exact hq, hz⟩
            have kDo : Kp (zo Γ (F.add D) σ) (zo Γ (F.add D) σ) H8 (upd H8 D (.lst (accV ++ [v]))) := fun q o hq _ hz => ⟨by rw [upd_ne (fun z => hz (by rw [z]; exact dzo))]; exact hq, hz⟩
            refine ⟨accV, hD8, ?_, e8, acc ++ [yv], accV ++ [v], l2, ?_, ⟨(ka7.trans kz8).trans kD, (kb7.trans ko8).trans kDo⟩, ⟨c8.1.trans kD, ?_, fun q hq => upd_dom q (c8.2.2 q hq)⟩, upd_same, RepL.mono kD _ _ (RepL.append _ _ _ _ rA8 ⟨v, [], rfl, rv, rfl⟩), hl3, by rw [List.append_assoc]; exact hL1⟩
            · have h1 : acc.length ≤ L.length := by rw [← hL1]; simp
              have := sizeLine_eq
              unfold lim at hlim
              omega
            · rw [← wp3]
              exact (Eb.wrZ hD8 (.inr rfl) D0).wiped hvs1
            · intro q o hq hn hz
              have b1 := c8.2.1 q o hq hn hz
              exact ⟨by rw [upd_ne (fresh_ne hD hq)]; exact b1.1, hz⟩
      · rintro H' ⟨e', acc, accV, l1, E', _, c5, hD5, rA5, hl1, hL1⟩
        rw [List.drop_length] at hl1
        cases hl1
        refine ⟨e6, acc, accV, l', ?_, c5.1, c5.2.1, c5.2.2, hD5, rA5, hl2, hL1⟩
        have := E'.wiped hv
        rw [wipe_wipe hv1, wipeE_wipeE hv1, wp2] at this
        exact this
  · rintro H' ⟨e', acc, accV, l, E', kz, kk, dm, hDD, rA, hl, hL⟩
    rw [List.drop_length] at hl
    cases hl
    rw [List.append_nil] at hL
    subst hL
    have Ef : ER Γ F H' σ (restE e1 eL vs) := E'.unadd.rest E1 (fun q o hq hn hz => ⟨(kz q o hq hn hz).1, hz⟩) hv
    have EfD : ER Γ (F.add D) H' σ (restE e1 eL vs) := E'.rest E0 (fun q o hq hn hz => by
      by_cases hqD : q = D
      · subst hqD; exact absurd (.inl (.inr rfl)) hz
      · rw [upd_ne hqD] at hq
        exact ⟨(kz q o hq hn fun z => hz (z.imp .inl id)).1, hz⟩) hv
    have own : Own (addZ (zt Γ F σ) D) H' D (.lst acc) := ⟨accV, hDD, rA.monoZ fun q hq => by
      rcases hq with (hq | hq) | hq
      · exact .inl (.inl hq)
      · exact .inr hq
      · exact .inl (.inr hq)⟩
    refine w2 (.ref D) H' (k1.trans ⟨fun q o hq hn hz => ⟨(kz q o hq hn hz).1, hz⟩, kk, dm⟩) Ef ⟨⟨D, accV, rfl, ⟨Dz, hDD⟩, rA.monoZ fun q hq => ?_⟩, fun _ _ => ⟨D, rfl, ?_, D0, Dz, EfD, own⟩⟩
    · exact hq.imp .inl id
    · cases qa : H D with
      | none => rfl
      | some o => exact absurd hD (k1.dom D (by rw [qa]; exact fun z => nomatch z))
theorem E_lc2 (hks : G.ks = Γ.ks) (hv : vsOk Γ vs) (ht : ∀ i ∈ slotsG a, i ∈ vs) (hv1 : ∀ i ∈ vs1, i ∈ vs) (ht1 : ∀ i ∈ slotsG a1, i ∈ vs1) (h : PE X ex (tLc2 (rdI Γ XW G c) (rdG Γ a) (rdT Γ noX G b) (rdI Γ noX G c1) (rdG Γ a1) (rdT Γ noX G b1) (rdE Γ fq noX G elt) vs vs1)) : PE X ex (rdE Γ fq XW G (.lc2 vs vs1 a c b a1 c1 b1 elt)) := PEimp h fun _ _ _ q => lc2_read hks hv ht hv1 ht1 q
end
end PB
set_option maxHeartbeats 4000000
/-! Ilt: a try with several clauses that name the exception. -/
namespace PB
open PySem PySem.Spec PyProof.Rows L2 LamX
/-! the try -/
abbrev goneD (i : Nat) (D : Ends) : Ends := { nx := fun σ' H' => D.nx (σ'.set i none) H', rt := D.rt, bk := fun σ' H' => D.bk (σ'.set i none) H', ct := fun σ' H' => D.ct (σ'.set i none) H' }
/-- what clauses with names wish of an exception of the body; none is let out -/
def wA (K : PySem.W.Frag) (D : Ends) : List (Addr × Nat × (Addr → Value → Option Addr → TS)) → WX
  | [] => fun _ _ _ _ => False
  | (c, i, ts) :: r => fun cls d σ H => ∃ b, PySem.W.exmOne K cls (.ref c) = some b ∧ (b = true → ∀ a, H a = none → ts a cls d (goneD i D) (σ.set i (some (.ref a))) H) ∧ (b = false → wA K D r cls d σ H)
inductive HdA (X : Cx) : List ExceptHandler → List (Addr × Nat × (Addr → Value → Option Addr → TS)) → Prop
  | nil : HdA X [] []
  | cons {x n : Str} {c : Addr} {i : Nat} {ts : Addr → Value → Option Addr → TS} {b₀ : Stmt} {suite : List Stmt} {np pos' : Pos} {hds : List ExceptHandler} {l : List (Addr × Nat × (Addr → Value → Option Addr → TS))} (hc : Names X x (.ref c)) (hi : X.N[i]? = some n) (hl : X.env.kindOf n = some .local)
      (hsu : ∀ (a : Addr) (oe : Obj) (cls : Value) (d : Option Addr) (pn : List (Addr × Obj)), Zc cls d oe → (∃ vs, oe.data = .fields vs) → PSs (X.suite a ((a, oe) :: pn)) (b₀ :: suite) (ts a cls d)) (r : HdA X hds l) :
      HdA X (.ExceptHandler (some (.Name x np)) (some n) (b₀ :: suite) pos' :: hds) ((c, i, ts) :: l)
section
variable {X : Cx} {body : List Stmt} {h₀ : ExceptHandler} {hds : List ExceptHandler} {l : List (Addr × Nat × (Addr → Value → Option Addr → TS))} {pos : Pos} {tb : WX → TS}
theorem sp_ofTry {xe : Value → Shared → Prop} {pins : List (Addr × Obj)} {D : Ends} {f : Flow} {s1 : Shared} (ok : X.Ok) (h : SP (X.tr (X.pn ++ pins) xe) [] D f s1) : SP X pins D f s1 := by
  cases f with
  | next => obtain ⟨σ', H', J', q⟩ := h; exact ⟨σ', H', J'.ofTry ok, q⟩
  | brk => obtain ⟨σ', H', J', q⟩ := h; exact ⟨σ', H', J'.ofTry ok, q⟩
  | cont => obtain ⟨σ', H', J', q⟩ := h; exact ⟨σ', H', J'.ofTry ok, q⟩
  | ret u => obtain ⟨v, σ', H', J', r, q⟩ := h; exact ⟨v, σ', H', J'.ofTry ok, r, q⟩
theorem ps_tryA (hs : X.stack = X.env :: X.outer) (hf : X.env.frame = some X.env.locals) (hN : X.N.Nodup)
    (hb : ∀ (W : WX) (pn : List (Addr × Obj)) (xe : Value → Shared → Prop), Takes (X.tr pn xe) W → PassesOwn (model X.prog X.w) X.A X.env xe → PSs (X.tr pn xe) body (tb W))
    (hh : HdA X (h₀ :: hds) l) : PS X (.Try body (h₀ :: hds) [] [] pos) (fun D σ H => tb (wA X.K D l) D σ H) := ⟨by
  intro pins s σ H D I h
  have okX := I.ok
  have frX : X.A.frames = some (X.env :: X.outer) := by rw [okX.frames, hs]
  refine wpAny_Try_except ?_
  refine wpAny_mono ((hb (wA X.K D l) (X.pn ++ pins) (fun e s₁ => wpAny (model X.prog X.w) X.A (noteFrame e X.env) (fun _ s₂ => wpAny (model X.prog X.w) X.A (setFlight e none) (fun _ s₃ =>
    wpAny (model X.prog X.w) X.A (handleBy e X.env (h₀ :: hds)) (SP X pins D) X.xe s₃) X.xe s₂) X.xe s₁) ?_ PassesOwn.looking).run [] s σ H D (I.toTry _) h) ?_ (fun _ _ z => z)
  · rintro u s' ⟨ad, B, sI, pins', σ', H', cls, od, rfl, Jt, nb, up, sky, adn, os, bare, wish⟩
    have J : Inv X pins σ' H' sI := Jt.ofTry okX
    rw [show (X.tr (X.pn ++ pins) _).stack = X.env :: X.outer from hs] at sky
    show wpAny (model X.prog X.w) X.A (noteFrame (.ref ad) X.env) _ _ _
    refine Sky.land Zc.steady frX hf sky fun h3 fl3 up3 => ?_
    have I3 : Inv X pins σ' H' { s' with heap := h3 } := J.landed nb fl3.1 (up.trans up3) os bare
    obtain ⟨o3, fs3, g3, z3, d3⟩ := fl3.there
    have out : ad ∉ frs (X.env :: X.outer) := fun hm => by
      obtain ⟨_, o', q1, q2⟩ := fl3.2.2.1.mem hm
      rw [g3] at q1
      cases q1
      exact q2 _ d3
    have outL : ad ≠ X.env.locals := fun z => out (List.mem_filterMap.mpr ⟨X.env, List.mem_cons_self, by rw [hf, z]⟩)
    have outF : ad ∉ X.fs := fun hm => by
      obtain ⟨e, q1, q2⟩ := List.mem_filterMap.mp hm
      exact out (List.mem_filterMap.mpr ⟨e, List.mem_cons_of_mem _ q1, q2⟩)
    have I3s := I3.suite g3 d3 adn outL outF
    -- the clauses, one by one
    have walk : ∀ {hs' : List ExceptHandler} {l' : List (Addr × Nat × (Addr → Value → Option Addr → TS))}, HdA X hs' l' → wA X.K D l' cls od σ' H' → wpAny (model X.prog X.w) X.A (handleBy (.ref ad) X.env hs') (SP X pins D) X.xe { s' with heap := h3 } := by
      intro hs' l' k
      induction k with
      | nil => exact fun z => z.elim
      | @cons x n c i ts b₀ suite np pos' hs2 l2 hc hi hl hsu r ih =>
        rintro ⟨b, hm, yes, no⟩
        have ty : PySem.W.Looks (model X.prog X.w) h3 (typeOf (.ref ad)) cls := fun A Q E s k q => wpAny_typeOf_ref (k _ _ g3) (by rw [z3.1]; exact q)
        have mt := PySem.W.exm_one (M := model X.prog X.w) I3.kIn ty hm
        refine wpAny_handleBy_cons (codeAny_handlers_test ?_) (by intro q; cases q)
        have rd : ∀ {Q E : Value → Shared → Prop}, Q (.ref c) { s' with heap := h3 } → wpAny (model X.prog X.w) (X.A.mark (some (.ref ad))) (eval (.Name x np) X.env) Q E { s' with heap := h3 } := fun {Q E} q => by
          obtain ⟨q1, q2, q3 | ⟨q3, q4, q5⟩⟩ := hc
          · exact ld_glob (X := X.suite ad ((ad, o3) :: (X.pn ++ pins))) I3s q1 q3 q q2
          · exact ld_blt (X := X.suite ad ((ad, o3) :: (X.pn ++ pins))) I3s q1 q3 q4 q q5 q2
        refine rd (mt.here ?_)
        cases b with
        | false => exact ih (no rfl)
        | true =>
          refine codeAny_handlers_suite_as ?_
          refine HandSPX.lands_againZ fl3 fun h4 fl4 up4 => ?_
          have I4 : Inv X pins σ' H' { s' with heap := h4 } := J.landed nb fl4.1 ((up.trans up3).trans up4) os bare
          obtain ⟨o4, fs4, g4, z4, d4⟩ := fl4.there
          refine store_ok (X := X.suite ad ((ad, o4) :: (X.pn ++ pins))) (v := .ref ad) (I4.suite g4 d4 adn outL outF) hN hi (.inl hl) rfl (fun s5 I5 => ?_) (.inr hl)
          refine wpAny_mono ((hsu ad o4 cls od (X.pn ++ pins) z4 ⟨_, d4⟩).run [] s5 _ H' _ I5 (yes rfl ad adn)) (fun fl s6 sp => ?_) (fun _ _ z => z.elim)
          have done : ∀ {σ6 : L2.St} {H6 : Hp} {Q : Shared → Prop}, Inv (X.suite ad ((ad, o4) :: (X.pn ++ pins))) [] σ6 H6 s6 → (∀ s7, Inv X pins (σ6.set i none) H6 s7 → Q s7) →
              wpAny (model X.prog X.w) X.A (do bindName X.env n .none; unbindBehindTheSuite X.env n pos') (fun _ s7 => Q s7) X.xe s6 := fun {σ6 H6 Q} I6 q => gone_ok (I6.unsuite okX) hN hi hl q
          cases fl with
          | next => obtain ⟨σ6, H6, I6, q⟩ := sp; exact done I6 fun s7 I7 => ⟨_, _, I7, q⟩
          | brk => obtain ⟨σ6, H6, I6, q⟩ := sp; exact done I6 fun s7 I7 => ⟨_, _, I7, q⟩
          | cont => obtain ⟨σ6, H6, I6, q⟩ := sp; exact done I6 fun s7 I7 => ⟨_, _, I7, q⟩
          | ret u => obtain ⟨v, σ6, H6, I6, rv, q⟩ := sp; exact done I6 fun s7 I7 => ⟨_, _, _, I7, rv, q⟩
    exact walk hh wish
  · intro f s1 sp
    have sp' := sp_ofTry okX sp
    cases f with
    | next => exact wpAny_execs_nil sp'
    | _ => exact sp'⟩
end
end PB
set_option maxHeartbeats 4000000
/-! Ilm: a lambda handed to a def that calls it in a try with several clauses. -/
namespace PB
open PySem PySem.Spec PyProof.Rows L2 LamX
/-! the items of a clause's tuple -/
def consL : PB.C → Nat
  | .cons _ b => consL b + 1
  | _ => 0
theorem bnd_ok {α β : Type} {m : Option (R α)} {f : α → En → Option (R β)} {y : β} {e' : En} (h : bnd m f = some (.ok y e')) : ∃ a e, m = some (.ok a e) ∧ f a e = some (.ok y e') := by
  unfold bnd at h
  cases m with
  | none => cases h
  | some r => cases r with
    | ok a e => exact ⟨a, e, rfl, h⟩
    | xc x e => cases h
def mkL : List PB.C → PB.C
  | [] => .nil
  | a :: l => .cons a (mkL l)
def cL : PB.C → Option (List PB.C)
  | .nil => some []
  | .cons a b => (cL b).map (a :: ·)
  | _ => none
theorem cL_eq {c : PB.C} : ∀ {l : List PB.C}, cL c = some l → c = mkL l := by
  induction c with
  | nil => intro l h; simp only [cL] at h; cases h; rfl
  | cons a b _ ih =>
    intro l h
    simp only [cL] at h
    obtain ⟨l', h1, rfl⟩ := Option.map_eq_some_iff.mp h
    rw [ih h1]
    rfl
  | _ => intro l h; simp only [cL] at h; cases h
/-- an item: a text, or a field -/
def cIt : PB.C → Option (Str ⊕ (Nat × Str))
  | .cst (.str s) => some (.inl s)
  | .fld j f => some (.inr (j, f))
  | _ => none
def eIt : Expr → Option (Str ⊕ (Str × Str))
  | .Constant (.str s) _ _ => some (.inl s)
  | .Attribute (.Name x _) f _ => some (.inr (x, f))
  | _ => none
theorem cIt_inl {c : PB.C} {s : Str} (h : cIt c = some (.inl s)) : c = .cst (.str s) := by
  unfold cIt at h
  split at h <;> cases h
  rfl
theorem cIt_inr {c : PB.C} {j : Nat} {f : Str} (h : cIt c = some (.inr (j, f))) : c = .fld j f := by
  unfold cIt at h
  split at h <;> cases h
  rfl
theorem eIt_inl {e : Expr} {s : Str} (h : eIt e = some (.inl s)) : ∃ k p, e = .Constant (.str s) k p := by
  unfold eIt at h
  split at h <;> cases h
  exact ⟨_, _, rfl⟩
theorem eIt_inr {e : Expr} {x f : Str} (h : eIt e = some (.inr (x, f))) : ∃ p q, e = .Attribute (.Name x p) f q := by
  unfold eIt at h
  split at h <;> cases h
  exact ⟨_, _, rfl⟩
def itE (CS : Addr) (i : Nat) (a : Addr) (cls : Value) (od : Option Addr) (c : PB.C) : TE := match cIt c with
  | some (.inl s) => tC (.str s)
  | some (.inr (_, f)) => tXf a cls od CS f (tVar i)
  | none => fun _ _ _ => False
def itA (CS : Addr) (i : Nat) (a : Addr) (cls : Value) (od : Option Addr) : List PB.C → TA
  | x :: r => tCons (itE CS i a cls od x) (itA CS i a cls od r)
  | [] => tNil
def itB (i : Nat) (n : Str) (fs : List Str) (c : PB.C) (e : Expr) : Bool := match cIt c, eIt e with
  | some (.inl s), some (.inl s') => decide (s = s')
  | some (.inr (j, f)), some (.inr (x, f')) => decide (j = i) && decide (x = n) && decide (f = f') && fs.contains f
  | _, _ => false
theorem itB_cases {i : Nat} {n : Str} {fs : List Str} {c : PB.C} {e : Expr} (h : itB i n fs c e = true) : (∃ s k p, c = .cst (.str s) ∧ e = .Constant (.str s) k p) ∨ ∃ f p q, c = .fld i f ∧ e = .Attribute (.Name n p) f q ∧ f ∈ fs := by
  unfold itB at h
  split at h
  · rename_i s s' h1 h2
    obtain ⟨k, p, rfl⟩ := eIt_inl h2
    have e := of_decide_eq_true h
    subst e
    exact .inl ⟨s, k, p, cIt_inl h1, rfl⟩
  · rename_i j f x f' h1 h2
    obtain ⟨p, q, rfl⟩ := eIt_inr h2
    simp only [Bool.and_eq_true, decide_eq_true_eq] at h
    obtain ⟨⟨⟨rfl, rfl⟩, rfl⟩, h4⟩ := h
    exact .inr ⟨f, p, q, cIt_inr h1, rfl, List.contains_iff_mem.mp h4⟩
  · cases h
def itsB (i : Nat) (n : Str) (fs : List Str) : List PB.C → List Expr → Bool
  | [], [] => true
  | a :: b, e :: es => itB i n fs a e && itsB i n fs b es
  | _, _ => false
theorem itB_star {i : Nat} {n : Str} {fs : List Str} {a : PB.C} {e : Expr} {es : List Expr} {env : Env} (h : itB i n fs a e = true) : starEach (e :: es) env = (false, eval e env) :: starEach es env := by
  rcases itB_cases h with ⟨s, k, p, _, rfl⟩ | ⟨f, p, q, _, rfl, _⟩ <;> rfl
section
variable {X : Cx} {a CS : Addr} {oe : Obj} {cls : Value} {od : Option Addr} {pn : List (Addr × Obj)} {i : Nat} {n : Str} {fs : List Str}
theorem it_pe (T : XfC X.K CS) (hno : ∀ f ∈ fs, PySem.W.findIn X.K (.ref CS) f = some none) (hz : Zc cls od oe) (hf : ∃ vs, oe.data = .fields vs) (hN : X.N[i]? = some n) (hv : Vis X.env.scope n) (hd : (n == ("__debug__" : Str)) = false) (hcd : (n == ("__classdict__" : Str)) = false)
    {c : PB.C} {e : Expr} (h : itB i n fs c e = true) : PE (X.suite a ((a, oe) :: pn)) e (itE CS i a cls od c) := by
  rcases itB_cases h with ⟨s, k, p, rfl, rfl⟩ | ⟨f, p, q, rfl, rfl, hm⟩
  · exact pe_str
  · exact pe_xf T (hno f hm) hz hf (pe_var (X := X.suite a ((a, oe) :: pn)) hN hv hd hcd)
theorem its_pa (T : XfC X.K CS) (hno : ∀ f ∈ fs, PySem.W.findIn X.K (.ref CS) f = some none) (hz : Zc cls od oe) (hf : ∃ vs, oe.data = .fields vs) (hN : X.N[i]? = some n) (hv : Vis X.env.scope n) (hd : (n == ("__debug__" : Str)) = false) (hcd : (n == ("__classdict__" : Str)) = false) :
    ∀ {c : List PB.C} {es : List Expr}, itsB i n fs c es = true → PA (X.suite a ((a, oe) :: pn)) es (itA CS i a cls od c)
  | [], [], h => pa_nil
  | x :: r, e :: es, h => by
    obtain ⟨h1, h2⟩ := (Bool.and_eq_true _ _).mp (show (itB i n fs x e && itsB i n fs r es) = true from h)
    exact pa_cons (it_pe T hno hz hf hN hv hd hcd h1) (its_pa T hno hz hf hN hv hd hcd h2) (itB_star h1)
  | [], _ :: _, h => by cases h
  | _ :: _, [], h => by cases h
end
/-- the items' values -/
theorem its_ev {G : Gx} {i : Nat} {n : Str} {fn : List Str} {xf : List (Str × PB.D)} (hex : G.ex = some (i, xf)) {Z : AS} {H : Hp} {vf : List (Str × V)} {dd CS a : Addr} {σ : L2.St} (hdd : H dd = some (.xd vf)) (hσ : σ[i]? = some (some (V.ref a))) (hv : ∀ f d, xf.lookup f = some d → ∃ v, vf.lookup f = some v ∧ Rep Z H d v) :
    ∀ {c : List PB.C} {es : List Expr} {e e' : En} {x : PB.D}, itsB i n fn c es = true → ev (mkL c) G e = some (.ok x e') → noLocs (mkL c) = true ∧ e' = e ∧ ∃ ds, x = .lst ds ∧ ds.length = c.length ∧ ∀ K : List V → Hp → Prop, (∀ vs, RepL Z H ds vs → K vs H) → itA CS i a (.ref CS) (some dd) c σ H K
  | [], [], e, e', x, h, q => by
    simp only [mkL, ev] at q
    cases q
    exact ⟨rfl, rfl, [], rfl, rfl, fun K k => k [] rfl⟩
  | y :: r, ex :: es, e, e', x, h, q => by
    obtain ⟨h1, h2⟩ := (Bool.and_eq_true _ _).mp (show (itB i n fn y ex && itsB i n fn r es) = true from h)
    simp only [mkL, ev] at q
    obtain ⟨d1, e1, q1, q⟩ := bnd_ok q
    obtain ⟨d2, e2, q2, q⟩ := bnd_ok q
    obtain ⟨nl, he, ds, hx, hl, k2⟩ := its_ev hex hdd hσ hv h2 q2
    subst hx
    rw [he] at q
    have q : some (R.ok (PB.D.lst (d1 :: ds)) e1) = some (R.ok x e') := q
    obtain ⟨hx, he'⟩ := R.ok.inj (Option.some.inj q)
    subst hx
    have key : isLoc y = false ∧ e1 = e ∧ ∃ v, Rep Z H d1 v ∧ ∀ Q : VK, Q v H → itE CS i a (.ref CS) (some dd) y σ H Q := by
      rcases itB_cases h1 with ⟨s, k, p, rfl, rfl⟩ | ⟨f, p, q, rfl, rfl, hm⟩
      · simp only [ev, isCst, if_true] at q1
        cases q1
        exact ⟨rfl, rfl, .str s, rfl, fun Q q => q⟩
      · simp only [ev, hex, if_true] at q1
        obtain ⟨d, q4, q3⟩ := Option.map_eq_some_iff.mp q1
        cases q3
        obtain ⟨v, r1, r2⟩ := hv f _ q4
        exact ⟨rfl, rfl, v, r2, fun Q q => ⟨.ref a, hσ, rfl, rfl, dd, vf, v, rfl, hdd, r1, q⟩⟩
    obtain ⟨ny, he1, v, rv, kv⟩ := key
    refine ⟨by simp only [mkL, noLocs, ny, nl]; rfl, he'.symm.trans he1, d1 :: ds, rfl, by simp [hl], fun K k => ?_⟩
    exact kv _ (k2 _ fun vs rs => k (v :: vs) ⟨v, vs, rfl, rv, rs⟩)
  | [], _ :: _, _, _, _, h, _ => by cases h
  | _ :: _, [], _, _, _, h, _ => by cases h
end PB
set_option maxHeartbeats 4000000
/-! Ilm2: the clauses of a try, as code; the def that calls what it is given. -/
namespace PB
open PySem PySem.Spec PyProof.Rows L2 LamX
abbrev HC := Nat × Nat × List PB.C
def mkH : List HC → PB.C
  | [] => .hnil
  | (c, i, l) :: r => .hcons c i (.ret (.tup (mkL l))) (mkH r)
def tupOf : PB.C → Option PB.C
  | .ret (.tup a) => some a
  | _ => none
theorem tupOf_eq {c a : PB.C} (h : tupOf c = some a) : c = .ret (.tup a) := by
  unfold tupOf at h
  split at h <;> cases h
  rfl
def hC : PB.C → Option (List HC)
  | .hnil => some []
  | .hcons c i s r => (tupOf s).bind fun a => (cL a).bind fun l => (hC r).map ((c, i, l) :: ·)
  | _ => none
theorem hC_eq {c : PB.C} : ∀ {l : List HC}, hC c = some l → c = mkH l := by
  induction c with
  | hnil => intro l h; simp only [hC] at h; cases h; rfl
  | hcons c i s r _ ih =>
    intro l h
    simp only [hC] at h
    obtain ⟨a, h1, h⟩ := Option.bind_eq_some_iff.mp h
    obtain ⟨il, h2, h⟩ := Option.bind_eq_some_iff.mp h
    obtain ⟨l', h3, rfl⟩ := Option.map_eq_some_iff.mp h
    rw [tupOf_eq h1, cL_eq h2, ih h3]
    rfl
  | _ => intro l h; simp only [hC] at h; cases h
def hT : ExceptHandler → Option (Str × Str × List Expr)
  | .ExceptHandler (some (.Name x _)) (some n) [.Return (some (.Tuple es _ _)) _] _ => some (x, n, es)
  | _ => none
theorem hT_eq {e : ExceptHandler} {x n : Str} {es : List Expr} (h : hT e = some (x, n, es)) : ∃ np k p q p', e = .ExceptHandler (some (.Name x np)) (some n) [.Return (some (.Tuple es k p)) q] p' := by
  unfold hT at h
  split at h <;> cases h
  exact ⟨_, _, _, _, _, rfl⟩
structure HdOk (cls : List (Str × Nat)) (xin : Nat → List Str) (N : List Str) (sc : Scope) (c i : Nat) (l : List PB.C) (x n : Str) (es : List Expr) : Prop where
  cl : cls.lookup x = some c
  gx : sc.names.lookup x = some .globalImplicit
  dx : (x == ("__debug__" : Str)) = false
  ni : N[i]? = some n
  nl : sc.names.lookup n = some .local
  dn : (n == ("__debug__" : Str)) = false
  cn : (n == ("__classdict__" : Str)) = false
  it : itsB i n (xin c) l es = true
  ln : l.length ≤ 1000
def hdB1 (cls : List (Str × Nat)) (xin : Nat → List Str) (N : List Str) (sc : Scope) (c i : Nat) (l : List PB.C) (x n : Str) (es : List Expr) : Bool :=
  decide (cls.lookup x = some c) && decide (sc.names.lookup x = some .globalImplicit) && !(x == ("__debug__" : Str)) && decide (N[i]? = some n) && decide (sc.names.lookup n = some .local) && !(n == ("__debug__" : Str)) && !(n == ("__classdict__" : Str)) && itsB i n (xin c) l es && decide (l.length ≤ 1000)
theorem hdB1_ok {cls : List (Str × Nat)} {xin : Nat → List Str} {N : List Str} {sc : Scope} {c i : Nat} {l : List PB.C} {x n : Str} {es : List Expr} (h : hdB1 cls xin N sc c i l x n es = true) : HdOk cls xin N sc c i l x n es := by
  unfold hdB1 at h
  simp only [Bool.and_eq_true, decide_eq_true_eq, Bool.not_eq_true'] at h
  obtain ⟨⟨⟨⟨⟨⟨⟨⟨h1, h2⟩, h3⟩, h4⟩, h5⟩, h6⟩, h7⟩, h8⟩, h9⟩ := h
  exact ⟨h1, h2, h3, h4, h5, h6, h7, h8, h9⟩
def hdB (cls : List (Str × Nat)) (xin : Nat → List Str) (N : List Str) (sc : Scope) : List HC → List ExceptHandler → Bool
  | [], [] => true
  | (c, i, l) :: r, e :: es => (match hT e with | some (x, n, fs) => hdB1 cls xin N sc c i l x n fs | none => false) && hdB cls xin N sc r es
  | _, _ => false
theorem hdB_cons {cls : List (Str × Nat)} {xin : Nat → List Str} {N : List Str} {sc : Scope} {c i : Nat} {l : List PB.C} {r : List HC} {e : ExceptHandler} {es : List ExceptHandler} (h : hdB cls xin N sc ((c, i, l) :: r) (e :: es) = true) :
    (∃ x n fs, hT e = some (x, n, fs) ∧ HdOk cls xin N sc c i l x n fs) ∧ hdB cls xin N sc r es = true := by
  simp only [hdB] at h
  obtain ⟨h1, h2⟩ := (Bool.and_eq_true _ _).mp h
  split at h1
  · exact ⟨⟨_, _, _, by assumption, hdB1_ok h1⟩, h2⟩
  · cases h1
def hdL (cA : Nat → Addr) : List HC → List (Addr × Nat × (Addr → Value → Option Addr → TS))
  | [] => []
  | (c, i, l) :: r => (cA c, i, fun a cls od => tRet (tTup (itA (cA c) i a cls od l))) :: hdL cA r
/-- what is known of the classes -/
def ClsK (K : PySem.W.Frag) (mg : Str → Option Value) (cls : List (Str × Nat)) (xin : Nat → List Str) (cA : Nat → Addr) : Prop := ∀ x c, cls.lookup x = some c → mg x = some (.ref (cA c)) ∧ XfC K (cA c) ∧ ∀ g ∈ xin c, PySem.W.findIn K (.ref (cA c)) g = some none
theorem hdA_of {X : Cx} {cls : List (Str × Nat)} {xin : Nat → List Str} {cA : Nat → Addr} (k : ClsK X.K X.mg cls xin cA) : ∀ {l : List HC} {hds : List ExceptHandler}, hdB cls xin X.N X.env.scope l hds = true → HdA X hds (hdL cA l)
  | [], [], h => .nil
  | (c, i, its) :: r, e :: es, h => by
    obtain ⟨⟨x, n, fs, h1, H⟩, h2⟩ := hdB_cons h
    obtain ⟨np, kk, p, q, p', rfl⟩ := hT_eq h1
    obtain ⟨k1, k2, k3⟩ := k x c H.cl
    exact .cons ⟨H.gx, H.dx, .inl k1⟩ H.ni H.nl (fun a oe cl d pn hz hf => pss_one (ps_ret (pe_tup (its_pa k2 k3 hz hf H.ni (.inl H.nl) H.dn H.cn H.it)))) (hdA_of k h2)
  | [], _ :: _, h => by cases h
  | _ :: _, [], h => by cases h
/-- the clauses at an exception: what the code gives is what is wished -/
theorem chain {K : PySem.W.Frag} {cls : List (Str × Nat)} {xin : Nat → List Str} {N : List Str} {sc : Scope} {cA : Nat → Addr} {G : Gx} {x : Exn} (hact : G.act = some (.inl x)) {CS dd : Addr} {Z : AS} {H : Hp} {vf : List (Str × V)} {σ : L2.St} {D : Ends} (hCS : cA x.cls = CS)
    (hsub : ∀ y c, cls.lookup y = some c → PySem.W.exmOne K (.ref CS) (.ref (cA c)) = some (G.sub x.cls c)) (hσ : σ.length = N.length)
    (hdd : H dd = some (.xd vf)) (hv : ∀ f d, x.flds.lookup f = some d → ∃ v, vf.lookup f = some v ∧ Rep Z H d v) :
    ∀ {l : List HC} {hds : List ExceptHandler} {e : En} {o : Out}, (∀ q ∈ l, G.sub x.cls q.1 = true → x.cls = q.1) → hdB cls xin N sc l hds = true → exec (mkH l) G e = some o →
      (∃ y e2, o = .xc y e2) ∨ ∃ ds e2, o = .rt (.tup ds) e2 ∧ ((∀ p vs, H p = none → RepL Z H ds vs → D.rt (.ref p) (upd H p (.tup vs))) → wA K D (hdL cA l) (.ref CS) (some dd) σ H)
  | [], [], e, o, _, h, q => by
    simp only [mkH, exec, hact] at q
    cases q
    exact .inl ⟨_, _, rfl⟩
  | (c, i, its) :: r, eh :: es, e, o, hone, h, q => by
    obtain ⟨⟨xn, n, fs, h1, T⟩, h2⟩ := hdB_cons h
    simp only [mkH, exec, hact] at q
    have s1 := hsub xn c T.cl
    cases hb : G.sub x.cls c with
    | false =>
      rw [hb] at q s1
      rcases chain hact hCS hsub hσ hdd hv (fun q hq => hone q (List.mem_cons_of_mem _ hq)) h2 (show exec (mkH r) G e = some o from q) with z | ⟨ds, e2, z1, z2⟩
      · exact .inl z
      · exact .inr ⟨ds, e2, z1, fun k => ⟨false, s1, fun z => Bool.noConfusion z, fun _ => z2 k⟩⟩
    | true =>
      rw [hb] at q s1
      have ec : x.cls = c := hone _ List.mem_cons_self hb
      simp only [if_true, ev] at q
      cases hev : ev (mkL its) { G with ex := some (i, x.flds), act := none } (e.set i none) with
      | none => rw [hev] at q; cases q
      | some rr =>
        cases rr with
        | xc y ye =>
          rw [hev] at q
          cases q
          exact .inl ⟨_, _, rfl⟩
        | ok xs xe =>
          rw [hev] at q
          have hi : i < σ.length := by rw [hσ]; exact (List.getElem?_eq_some_iff.mp T.ni).1
          obtain ⟨nl, _, ds, hx, hl, _⟩ := its_ev (CS := CS) (a := 0) (i := i) (σ := σ.set i (some (V.ref 0))) rfl hdd (List.getElem?_set_self hi) hv T.it hev
          subst hx
          have q : outB (if noLocs (mkL its) = true then some (R.ok (PB.D.tup ds) xe) else none) (fun d e1 => if isLoc (PB.C.tup (mkL its)) = true then none else some (Out.rt d e1)) = some o := q
          rw [if_pos nl] at q
          have q : some (Out.rt (PB.D.tup ds) xe) = some o := q
          cases q
          refine .inr ⟨ds, xe, rfl, fun k => ⟨true, s1, fun _ a ha => ?_, fun z => Bool.noConfusion z⟩⟩
          have hσa : (σ.set i (some (V.ref a)))[i]? = some (some (V.ref a)) := List.getElem?_set_self hi
          obtain ⟨_, _, ds', hx', hl', kk⟩ := its_ev (CS := CS) (a := a) (i := i) (σ := σ.set i (some (V.ref a))) rfl hdd hσa hv T.it hev
          cases hx'
          rw [← ec, hCS]
          refine kk _ fun vs rs => ⟨?_, fun p hp => k p vs hp rs⟩
          have := RepL.length _ _ rs
          have := T.ln
          have := sizeLine_eq
          omega
  | [], _ :: _, _, _, _, h, _ => by cases h
  | _ :: _, [], _, _, _, h, _ => by cases h
/-- the def at a value: the value; at an exception: a clause's tuple -/
theorem met_ok {T : Tb} {n f : Nat} {d : DefI} {l : List HC} (hd : T.defs[f]? = some d) (hc : d.code = .tryx (.ret (.callv 0)) (mkH l)) {v r : PB.D} {o : List (Option PB.D)} (h : callN T n f (some (.inr v)) [] = some (.ok r o)) : r = v := by
  cases n with
  | zero => cases h
  | succ n =>
    rw [callN] at h
    simp only [hd, hc, Option.isNone_some, Bool.false_and, Bool.false_eq_true, if_false, exec, ev, outB, isLoc] at h
    cases h
    rfl
theorem met_xc {T : Tb} {n f : Nat} {d : DefI} {l : List HC} (hd : T.defs[f]? = some d) (hc : d.code = .tryx (.ret (.callv 0)) (mkH l)) {x : Exn} {r : PB.D} {o : List (Option PB.D)} (h : callN T n f (some (.inl x)) [] = some (.ok r o)) :
    ∃ G e ou, G.act = some (.inl x) ∧ G.sub = T.sub ∧ exec (mkH l) G e = some ou ∧ ((∃ e2, ou = .rt r e2) ∨ ∃ e2, ou = .nx e2) := by
  cases n with
  | zero => cases h
  | succ n =>
    rw [callN] at h
    simp only [hd, hc, Option.isNone_some, Bool.false_and, Bool.false_eq_true, if_false, exec, ev, outB, isLoc] at h
    revert h
    generalize hG : ({ ks := d.ks, cf := callN T n, info := fun g => match T.defs[g]? with | some d => d.ks.take d.np | none => [], sub := T.sub, xin := T.xin, wf := T.wf, act := some (.inl x), ex := some (0, x.flds) } : Gx) = G
    intro h
    refine ⟨G, (([] : List PB.D).map some ++ List.replicate (d.ks.length - ([] : List PB.D).length) none), ?_⟩
    revert h
    cases hx : exec (mkH l) G (([] : List PB.D).map some ++ List.replicate (d.ks.length - ([] : List PB.D).length) none) with
    | none => intro h; cases h
    | some ou =>
      intro h
      refine ⟨ou, by rw [← hG], by rw [← hG], rfl, ?_⟩
      cases ou with
      | rt v e => cases h; exact .inl ⟨e, rfl⟩
      | nx e => exact .inr ⟨e, rfl⟩
      | _ => cases h
/-- what the def makes of a lambda's reading -/
def TTm (K : PySem.W.Frag) (Ng : List Str) (l : List (Addr × Nat × (Addr → Value → Option Addr → TS))) : (XK → Hp → VK → Prop) → Hp → VK → Prop := fun tl H Q =>
  tl (fun cls d H' => ∀ σ' : L2.St, σ'.length = Ng.length → wA K { nx := fun _ H' => Q .non H', rt := Q } l cls d σ' H') H Q
theorem met_gives {X : Cx} {Ng : List Str} {x a q : Str} {sg : Scope} {g : Addr} {cdg : Value} {p1 p2 p3 p8 : Pos} {h0 : ExceptHandler} {hds : List ExceptHandler} {l : List (Addr × Nat × (Addr → Value → Option Addr → TS))} (hN : Ng.Nodup)
    (hf : ∀ f : Addr, (L2.start Ng [V.ref f])[0]? = some (some (V.ref f))) (hh : ∀ s H, HdA ((cxOf C8.CX0 X.prog X.w X.K X.mg X.base Ng x sg g cdg X.A X.stack s H C8.E0).nox) (h0 :: hds) l) :
    GivesTo X Ng x sg g cdg [.Try [.Return (some (.Call (.Name a p1) [] [] p2)) p3] (h0 :: hds) [] [] p8] a q (TTm X.K Ng l) := by
  intro f c' s H Q tl act hc h
  refine ⟨_, pss_one (ps_tryA (X := (cxOf C8.CX0 X.prog X.w X.K X.mg X.base Ng x sg g cdg X.A X.stack s H C8.E0).nox)
    (tb := fun W D σ H => ∃ Ech : XK, (∀ cls d (σ' : L2.St) H', Ech cls d H' → σ'.length = Ng.length → W cls d σ' H') ∧ σ[0]? = some (some (.ref f)) ∧ H c' = some (CodeO c' q) ∧ tl Ech H D.rt) rfl rfl hN (fun W pn xe tk _ => ?_) (hh s H)), ?_⟩
  · refine ⟨fun pins s' σ H' D I h' => ?_⟩
    obtain ⟨Ech, hW, h1, h2, h3⟩ := h'
    have tk' : Takes ((cxOf C8.CX0 X.prog X.w X.K X.mg X.base Ng x sg g cdg X.A X.stack s H C8.E0).tr pn xe) (fun cls d (σ' : L2.St) H' => σ'.length = Ng.length → W cls d σ' H') := fun u s' ⟨a, B, sI, pins, σ, H, cls, d, e, I, nb, up, sky, na, os, ag, w⟩ =>
      tk u s' ⟨a, B, sI, pins, σ, H, cls, d, e, I, nb, up, sky, na, os, ag, w I.len⟩
    have hp := act _ pn xe Ech p1 p2 tk' hW
    have hq := pss_one (ps_ret (pos := p3) hp)
    exact hq.run pins s' σ H' D I ⟨h1, h2, h3⟩
  · exact ⟨_, fun cls d σ' H' z hl => z σ' hl, hf f, hc, h⟩
end PB
set_option maxHeartbeats 4000000
/-! Ilm3: a lambda is made and handed over; its reading. -/
namespace PB
open PySem PySem.Spec PyProof.Rows L2 LamX
section
variable {X : Cx} {pins : List (Addr × Obj)} {σ : L2.St} {H : Hp} {s : Shared}
/-- all that is known stays known -/
def Dm (H H' : Hp) : Prop := ∀ a, H a ≠ none → H' a ≠ none
/-- a lambda is made: like LamX.lam_make2, and nothing known is lost -/
theorem lam_mk {T : List (Addr × Str)} {c P : Addr} {params : Arguments} {body : Expr} {scope : Scope} {pos : Pos} {E : Value → Shared → Prop} {Q : Value → Shared → Prop} (I : Inv X pins σ H s) (TB : TabB X.base X.mg c P) (hcode : X.env.code = .ref c)
    (hm : (P, X.env.qual ++ "<lambda>") ∈ T) (hu : ∀ p ∈ T, p.1 = P → p.2 = X.env.qual ++ "<lambda>") (hT : Tabs T H) (hdef : defaultsOf params X.env = ([], [])) (hfree : ∀ y ∈ scope.names, y.2 = .free → ∃ c, X.env.cells.lookup y.1 = some c)
    (h : ∀ (f c' : Addr) (pm ctv : Value) (H1 : Hp) (s' : Shared), Inv X pins σ H1 s' → ExtN H H1 → Dm H H1 → Tabs T H1 →
      s'.heap.get? f = some (PySem.W.kla_obj "<lambda>" (X.env.qual ++ "<lambda>") params body scope (cloFrom X.env.cells scope.names []) pm c' ctv) → H1 f = none → f ∉ frs X.stack → H1 c' = some (CodeO c' (X.env.qual ++ "<lambda>")) → Q (.ref f) s') :
    wpAny (model X.prog X.w) X.A (eval (.Lambda params body scope pos) X.env) Q E s := by
  obtain ⟨ps, tP, tr, am⟩ := hT _ hm
  have hb : s.heap.BuiltinsAt X.mg P := TB.bm.keeps I.bk
  have gP : s.heap.get? P = some { cls := .none, data := .fields ps } := I.hok P _ tP
  have far : ∀ f, s.heap.objs.size ≤ f → f ∉ frs X.stack := fun f hf z => by
    rcases List.mem_cons.mp (I.stkSub _ z) with e | e
    · have h1 := I.lt
      rw [← e] at h1
      exact Nat.lt_irrefl _ (Nat.lt_of_lt_of_le h1 hf)
    · exact I.nofs hf e
  refine PySem.W.kla_eval hdef ?_
  cases ca : codeAmong pos ps.toList with
  | some cv =>
    obtain ⟨c', rfl, kc⟩ := am pos cv ca
    refine PySem.W.kla_makeFunctionHit (mg := X.mg) (c := c) (P := P) (ps := ps) (closure_ok hfree) I.ok.glob (I.mod.glob.keeps I.bk) hcode (TB.code.keeps I.bk) gP tr ca hb fun ctv h' tk kp sz => ?_
    exact h _ c' _ ctv H _ (I.kept (t' := tk) fun b o e => Heap.get?_push_of_some _ (kp b o e)) (ExtN.refl H) (fun _ z => z) hT (Heap.get?_push_size _ rfl) (I.hok.fresh sz) (far _ sz) kc
  | none =>
    refine PySem.W.kla_makeFunction (mg := X.mg) (c := c) (P := P) (ps := ps) (closure_ok hfree) I.ok.glob (I.mod.glob.keeps I.bk) hcode (TB.code.keeps I.bk) gP tr ca TB.gP hb fun c' ctv h' tk kp ge lt rc tb => ?_
    obtain ⟨c2, oc, vs, t, e2, g2, d2, v2⟩ := rc
    cases e2
    have sz : s.heap.objs.size ≤ h'.objs.size := Nat.le_trans ge (Nat.le_of_lt lt)
    have n0 : H c' = none := I.hok.fresh ge
    have J := inv_table (t' := tk) (more := #[rawInt pos.line, rawInt pos.col, .ref c']) (h' := h'.push (PySem.W.kla_obj "<lambda>" (X.env.qual ++ "<lambda>") params body scope (cloFrom X.env.cells scope.names []) ((X.mg "__name__").getD .none) c' ctv)) I tP
      (fun b o q e => Heap.get?_push_of_some _ (kp b o q e)) (Heap.get?_push_of_some _ tb) ge ⟨oc, vs, t, Heap.get?_push_of_some _ g2, d2, v2⟩
    have n1 : h'.objs.size ≠ c' := Nat.ne_of_gt lt
    have n2 : h'.objs.size ≠ P := Nat.ne_of_gt (Nat.lt_of_lt_of_le (Heap.lt_size gP) sz)
    have ext : ExtN H (upd (upd H P (.tbl (ps ++ #[rawInt pos.line, rawInt pos.col, .ref c']))) c' (CodeO c' (X.env.qual ++ "<lambda>"))) := fun b o e nt => by
      have b1 : b ≠ c' := fun z => by rw [z, n0] at e; cases e
      have b2 : b ≠ P := fun z => nt ps (Option.some.inj (e.symm.trans (z ▸ tP)))
      rw [upd_ne b1, upd_ne b2]
      exact e
    have tl : (ps ++ #[rawInt pos.line, rawInt pos.col, .ref c']).toList = ps.toList ++ [rawInt pos.line, rawInt pos.col, .ref c'] := by simp
    have P1 : P ≠ c' := fun z => by rw [← z, tP] at n0; cases n0
    refine h h'.objs.size c' ((X.mg "__name__").getD .none) ctv _ _ J ext (fun a z => upd_dom a (upd_dom a z)) (fun p hp => ?_) (Heap.get?_push_size _ rfl) ?_ (far _ sz) upd_same
    · by_cases hP : p.1 = P
      · rw [hu p hp hP, hP]
        refine ⟨_, by rw [upd_ne P1, upd_same], by rw [tl]; exact PySem.TriplesOk_snoc _ _ _ _ tr, fun p' cv hcv => ?_⟩
        rw [tl] at hcv
        rcases among_app _ tr hcv with z | z
        · obtain ⟨c0, e1, e2⟩ := am p' cv z
          exact ⟨c0, e1, ext _ _ e2 codeO_ne⟩
        · exact ⟨c', z, upd_same⟩
      · obtain ⟨ps', q1, q2, q3⟩ := hT p hp
        have p1 : p.1 ≠ c' := fun z => by rw [z, n0] at q1; cases q1
        refine ⟨ps', by rw [upd_ne p1, upd_ne hP]; exact q1, q2, fun p' cv hcv => ?_⟩
        obtain ⟨c0, e1, e2⟩ := q3 p' cv hcv
        exact ⟨c0, e1, ext _ _ e2 codeO_ne⟩
    · rw [upd_ne n1, upd_ne n2]
      exact I.hok.fresh sz
def tLm (T : List (Addr × Str)) (TT : (XK → Hp → VK → Prop) → Hp → VK → Prop) (t : XK → TE) : TE := fun σ H Q => Tabs T H ∧ ∀ H1, ExtN H H1 → Dm H H1 → Tabs T H1 → TT (fun E H' Q' => t E σ H' Q') H1 Q
/-- x(lambda: body), where nothing known is lost -/
theorem pe_lam {T : List (Addr × Str)} {TT : (XK → Hp → VK → Prop) → Hp → VK → Prop} {x a : Str} {g c P : Addr} {k : Nat} {pg : Arguments} {bg : List Stmt} {sg : Scope} {dV kV doc pm cdv ct oc : Value} {an od : Option Addr} {osl : Array (Option Value)} {Ng : List Str}
    {params : Arguments} {body : Expr} {scope : Scope} {t : XK → TE} {p lpos pos : Pos} (hg : Gl X x) (hm : X.mg x = some (.ref g)) (hk : PySem.W.keepIn X.K (.ref g) = true)
    (lk : X.K.lookup g = some ⟨oc, od, .func (PySem.W.fnOf x x pg bg sg dV kV doc pm an cdv ct), osl⟩) (hcg : PySem.W.codeIn X.K cdv x = true) (hb : L2.Binds X.K (PySem.W.fnOf x x pg bg sg dV kV doc pm an cdv ct) [a] []) (Sg : FnScope Ng [a] sg) (hNg : Ng[0]? = some a) (hva : Vis sg a)
    (hG : GivesTo X Ng x sg g cdv bg a (X.env.qual ++ "<lambda>") TT)
    (TB : TabB X.base X.mg c P) (hcode : X.env.code = .ref c) (hmT : (P, X.env.qual ++ "<lambda>") ∈ T) (hu : ∀ p ∈ T, p.1 = P → p.2 = X.env.qual ++ "<lambda>") (hr : Room (k + 2) X.A) (L : LamS X.env.scope scope) (hdef : defaultsOf params X.env = ([], []))
    (hbind : ∀ (q : Str) (cl : List (Str × Addr)) (pm cv ctv : Value), bindArgs (PySem.W.kla_fn "<lambda>" q params body scope cl pm cv ctv) ⟨[], []⟩ = pure [])
    (hbody : ∀ (A : Around) (outer : List Env) (s : Shared) (H : Hp) (E : XK) (f c' : Addr), Room k (A.deeper (lamEnv X scope s.heap.objs.size f c')) → PE (lamCx X A outer s H E scope f c') body (t E))
    (hdb : (x == ("__debug__" : Str)) = false) (hd : (a == ("__debug__" : Str)) = false) (hcd : (a == ("__classdict__" : Str)) = false) :
    PE X (.Call (.Name x p) [.Lambda params body scope lpos] [] pos) (tLm T TT t) := ⟨by
  intro pins s σ H Q I h
  obtain ⟨hT, h⟩ := h
  refine wpAny_Call_Name_kw (ld_glob I hg hm (PySem.W.callWith_K (h₀ := X.base) I.ok.mod.kin hk ?_ (by rfl) (by rfl)) hdb)
  show wpAny _ _ (spliced ((false, eval (.Lambda params body scope lpos) X.env) :: backTo pos (starEach [] X.env))) _ _ s
  refine Calls.spliced_cons (lam_mk I TB hcode hmT hu hT hdef (L.has I.ok) fun f c' pm' ctv H1 s' I1 eN dm T1 hf hfn hfr hco => Calls.spliced_nil ⟨I1.kIn, ?_⟩)
  have run : codeAny (model X.prog X.w) X.A (.call (.ref g) ⟨[.ref f], []⟩) (CR C8.CX0 X.stack X.prog X.w H1 s' Q C8.E0) s' := by
    refine run_ofS (N := Ng) (ps := [a]) (us := [.ref f]) (vs := [.ref f]) lk hcg Sg hr I1.env0 (hb s' [.ref f] I1.kIn rfl) (.cons rfl .nil) rfl fun hr' => ?_
    obtain ⟨t', q1, q2⟩ := hG f c' s' H1 Q (fun E H' Q' => t E σ H' Q') (fun W pn xe E p1 p2 tk hW => pe_act (i := 0) I1 L hf hfn hfr (hbind _ _ _ _ _) tk hW hr' (fun A outer s H hr2 => hbody A outer s H E f c' hr2) hNg hva hd hcd) hco (h H1 eN dm T1)
    exact ⟨t', q1.nox, q2⟩
  refine wpAny_call (codeAny_mono run fun r s2 z => ?_)
  match r, z with
  | .error e, z => exact (show False from z).elim
  | .ok (.ret u), z => exact I1.after z
  | .ok .next, z => exact z.elim
  | .ok .brk, z => exact z.elim
  | .ok .cont, z => exact z.elim⟩
end
/-! the frame of the lambda's body -/
theorem brwd_get {ks : List Kd} {i : Nat} : (brwd ks)[i]? = (ks[i]?).map fun k => match k with | .own => .brw | k => k := by
  unfold brwd
  rw [List.getElem?_map]
  all_goals
    cases ks[i]? with
    | none => rfl
    | some k => cases k <;> rfl
theorem brwd_shr {ks : List Kd} {i : Nat} (h : (brwd ks)[i]? = some Kd.shr) : ks[i]? = some Kd.shr := by
  rw [brwd_get] at h
  cases q : ks[i]? with
  | none => rw [q] at h; cases h
  | some k => rw [q] at h; cases k <;> first | rfl | cases h
theorem brwd_frz {ks : List Kd} {i : Nat} (h : (brwd ks)[i]? = some Kd.frz) : ks[i]? = some Kd.frz := by
  rw [brwd_get] at h
  cases q : ks[i]? with
  | none => rw [q] at h; cases h
  | some k => rw [q] at h; cases k <;> first | rfl | cases h
theorem brwd_brw {ks : List Kd} {i : Nat} (h : (brwd ks)[i]? = some Kd.brw) : ks[i]? = some Kd.brw ∨ ks[i]? = some Kd.own := by
  rw [brwd_get] at h
  cases q : ks[i]? with
  | none => rw [q] at h; cases h
  | some k => rw [q] at h; cases k <;> first | exact .inl rfl | exact .inr rfl | cases h
theorem brwd_own {ks : List Kd} {i : Nat} (h : (brwd ks)[i]? = some Kd.own) : False := by
  rw [brwd_get] at h
  cases q : ks[i]? with
  | none => rw [q] at h; cases h
  | some k => rw [q] at h; cases k <;> cases h
abbrev lamG (Γ : Gm) : Gm := { Γ with ks := brwd Γ.ks, xo := none, lam := none }
abbrev lamF (Γ : Gm) (F : Fm) (σ : L2.St) (H : Hp) : Fm := ⟨zt Γ F σ, H, σ⟩
section
variable {Γ : Gm} {F : Fm} {H H1 H2 : Hp} {σ : L2.St} {e e2 : En}
theorem lamG_os : OsS (lamG Γ).ks σ = fun _ => False := funext fun a => propext ⟨fun ⟨i, h, _⟩ => brwd_own h, fun z => z.elim⟩
theorem lamG_zt : zt (lamG Γ) (lamF Γ F σ H) σ = zt Γ F σ := by
  unfold zt
  rw [lamG_os]
  funext a
  exact propext ⟨fun z => z.elim id fun z => z.elim, fun z => .inl z⟩
theorem ER.lend (E : ER Γ F H σ e) : ER (lamG Γ) (lamF Γ F σ H) H σ e := by
  have ln : (lamG Γ).ks.length = Γ.ks.length := List.length_map _
  have zo' : ∀ a, zo (lamG Γ) (lamF Γ F σ H) σ a → H a = none := fun a z => by
    rcases z with ⟨i, h, _⟩ | z
    · exact (brwd_own h).elim
    · exact z
  refine ⟨E.le.trans ln.symm, E.lσ.trans ln.symm, fun i d h1 h2 => ?_, fun i d h1 h2 => ?_, fun i d h1 h2 => ?_, fun i v h1 _ => (brwd_own h1).elim, fun i d h1 _ => (brwd_own h1).elim, fun i v _ h1 _ => (brwd_own h1).elim, fun i j a h1 _ _ _ => (brwd_own h1).elim, fun a o h _ _ => h, fun a h => h, fun a h => ?_, E.tabs, fun i a dx ds h => (by cases h), fun f c q h => (by cases h)⟩
  · obtain ⟨v, q1, q2⟩ := E.shr i d (brwd_shr h1) h2
    exact ⟨v, q1, by rw [lamG_zt]; exact q2⟩
  · rw [lamG_zt]
    rcases brwd_brw h1 with h1 | h1
    · obtain ⟨v, q1, q2⟩ := E.brw i d h1 h2
      exact ⟨v, q1, RepO.mono (fun a o h _ z => ⟨h, fun y => by rw [zo' a y] at h; cases h⟩) Kp.refl _ _ q2⟩
    · obtain ⟨v, q1⟩ := E.ownE i d h1 h2
      obtain ⟨a, q2, q3⟩ := E.own' h1 q1 h2
      subst q2
      refine ⟨_, q1, ?_⟩
      have ha : ∀ o, H a = some o → ¬ zo (lamG Γ) (lamF Γ F σ H) σ a := fun o h y => by rw [zo' a y] at h; cases h
      cases d with
      | lst ds => obtain ⟨xs, r1, r2⟩ := q3; exact ⟨a, xs, rfl, ⟨ha _ r1, r1⟩, r2⟩
      | dic t ds =>
        refine ⟨a, rfl, ?_, q3⟩
        rcases q3 with ⟨_, kvs, r1, _⟩ | ⟨_, kvs, r1, _⟩ <;> exact ha _ r1
      | _ => exact q3.elim
  · obtain ⟨a, l, q1, q2, q3, q4⟩ := E.frz i d (brwd_frz h1) h2
    exact ⟨a, l, q1, q2, E.sq q3 q4, fun o u _ ⟨j, _, h, _⟩ => brwd_own h⟩
  · refine ⟨(E.ztH a h).1, (E.ztH a h).2, fun ps z => ?_⟩
    rcases h with h | ⟨i, h1, h2⟩
    · exact (E.zh a h).2.2 ps z
    · obtain ⟨a', d, e1, _, _, _, _, o⟩ := E.own i _ h1 h2
      cases e1
      exact o.notTbl ps z
/-- what was there is there behind the body -/
theorem ER.lent (E2 : ER (lamG Γ) (lamF Γ F σ H) H2 σ e2) : (∀ a o, H a = some o → (∀ ps, o ≠ .tbl ps) → H2 a = some o) ∧ Dm H H2 ∧ Tabs Γ.T H2 :=
  ⟨fun a o h n => E2.base a o h n fun ⟨i, _, z, _⟩ => brwd_own z, E2.dom, E2.tabs⟩
/-- .. so the frame goes on -/
theorem ER.grow (E : ER Γ F H σ e) (k : ∀ a o, H a = some o → (∀ ps, o ≠ .tbl ps) → H1 a = some o) (d : Dm H H1) (t : Tabs Γ.T H1) : ER Γ F H1 σ e ∧ Sp Γ F σ H H1 := by
  refine ⟨E.next (Z' := F.Z) (fun a o h n _ => k a o h n) (fun a z => .inl z) rfl (fun _ _ => rfl) d t (fun i a h1 h2 => ?_) E.ownE, sp_of (fun a o h n _ => k a o h n) d⟩
  obtain ⟨a', dd, e1, _, _, _, q, o⟩ := E.own i _ h1 h2
  cases e1
  have sp : Sp Γ F σ H H1 := sp_of (fun a o h n _ => k a o h n) d
  exact ⟨dd, q, Own.mono o (fun o' h => k a o' h fun ps z => o.notTbl ps (by rw [h, z])) sp.kp⟩
end
section
variable {X : Cx} {Γ : Gm} {fq : Nat → Bool} {XW : WX} {G : Gx} {T : Tb} {n f : Nat} {d : DefI} {l : List HC} {b : PB.C} {K : PySem.W.Frag} {cls : List (Str × Nat)} {xin : Nat → List Str} {Ng : List Str} {sg : Scope} {hds : List ExceptHandler}
abbrev cAd (Γ : Gm) (c : Nat) : Addr := (Γ.cA c).getD 0
theorem lam_read (hcf : G.cf = callN T n) (hd : T.defs[f]? = some d) (hc : d.code = .tryx (.ret (.callv 0)) (mkH l)) (hB : hdB cls xin Ng sg l hds = true)
    (hsub : ∀ y c, cls.lookup y = some c → ∀ a Ca, Γ.cA a = some Ca → PySem.W.exmOne K (.ref Ca) (.ref (cAd Γ c)) = some (T.sub a c)) (hone : ∀ q ∈ l, ∀ a, T.sub a q.1 = true → a = q.1)
    {σ : L2.St} {H : Hp} {Q : VK} (q : rdE Γ fq XW G (.lamcall f b) σ H Q) : tLm Γ.T (TTm K Ng (hdL (cAd Γ) l)) (fun E => rdE (lamG Γ) fq (fun cls d _ H => E cls d H) { G with ks := brwd G.ks } b) σ H Q := by
  obtain ⟨F, e, E, w⟩ := q
  simp only [ev] at w
  refine ⟨E.tabs, fun H1 xN dm T1 => ?_⟩
  obtain ⟨E1, sp1⟩ := E.grow xN dm T1
  refine ⟨lamF Γ F σ H1, e, E1.lend, ?_⟩
  revert w
  cases hev : ev b { G with ks := brwd G.ks } e with
  | none => exact fun w => w.elim
  | some r =>
    intro w0
    obtain ⟨nloc, w⟩ := Wt_ite' w0
    clear w0
    have nloc : isLoc b = false := by simpa using nloc
    rw [hcf] at w
    have res : ∀ {dv : PB.D} {H2 : Hp} {v : V}, PF Γ fq F σ H (.lamcall f b) Q dv e → (∀ a o, H1 a = some o → (∀ ps, o ≠ .tbl ps) → H2 a = some o) → Dm H1 H2 → Tabs Γ.T H2 → Rep (zt Γ F σ) H2 dv v → Q v H2 := fun {dv H2 v} p k1 k2 k3 r => by
      obtain ⟨E3, sp2⟩ := E1.grow k1 k2 k3
      exact p v H2 (sp1.trans sp2) E3 ⟨r, fun z => by cases z⟩
    cases r with
    | ok dv e2 =>
      revert w
      cases hcl : callN T n f (some (.inr dv)) [] with
      | none => exact fun w => w.elim
      | some r2 => cases r2 with
        | xc x o => exact fun w => w.elim
        | ok d' o =>
          intro w0
          have wp : PF Γ fq F σ H (.lamcall f b) Q d' e := w0
          clear w0
          have ed := met_ok hd hc hcl
          subst ed
          intro v H2 k2 E2 r2
          obtain ⟨b1, b2, b3⟩ := E2.lent
          have rv := r2.1.rep nloc
          rw [lamG_zt] at rv
          exact res wp b1 b2 b3 rv
    | xc x e2 =>
      revert w
      cases hcl : callN T n f (some (.inl x)) [] with
      | none => exact fun w => w.elim
      | some r2 => cases r2 with
        | xc x o => exact fun w => w.elim
        | ok d' o =>
          intro w0
          have wp : PF Γ fq F σ H (.lamcall f b) Q d' e := w0
          clear w0
          intro cl od H2 k2 E2 r2
          obtain ⟨b1, b2, b3⟩ := E2.lent
          obtain ⟨CS, hCS, rfl, dd, vf, rfl, hdd, hv⟩ := r2
          rw [lamG_zt] at hv
          obtain ⟨G0, e0, ou, g1, g2, g3, g4⟩ := met_xc hd hc hcl
          intro σ' hl
          have zH : ZH (zt Γ F σ) H2 := (E1.grow b1 b2 b3).1.ztH
          rcases chain (K := K) (cA := cAd Γ) (D := { nx := fun _ H' => Q .non H', rt := Q }) g1 (show cAd Γ x.cls = CS by show (Γ.cA x.cls).getD 0 = CS; rw [show Γ.cA x.cls = some CS from hCS]; rfl) (fun y c hy => by rw [g2]; exact hsub y c hy _ _ hCS) hl hdd hv (fun q hq h => hone q hq _ (by rw [← g2]; exact h)) hB g3 with ⟨y, e2, z⟩ | ⟨ds, e2, z, k⟩
          · subst z
            rcases g4 with ⟨_, z⟩ | ⟨_, z⟩ <;> cases z
          · subst z
            rcases g4 with ⟨_, z⟩ | ⟨_, z⟩ <;> cases z
            refine k fun p vs hp rs => ?_
            have ex : Ex H2 (upd H2 p (.tup vs)) := Ex.new hp
            refine res wp (fun a o h n => ex a o (b1 a o h n)) (fun a h => upd_dom a (b2 a h)) (b3.ext ex) ⟨p, vs, rfl, ⟨zH.free hp, upd_same⟩, RepL.mono ex.kp _ _ rs⟩
end
end PB
set_option maxHeartbeats 4000000
/-! Iys: sum of ints and bools; max and min with a default. -/
namespace PB
open PySem PySem.Spec PyProof.Rows L2
section
variable {X : Cx} {Z : AS} {H : Hp}
theorem RepL.nums : ∀ (ds : List D) (xs : List V) (l : List Int), RepL Z H ds xs → allNum ds = some l → ∀ (vs : List Value), Vals xs vs → vs.length = l.length ∧ ∀ (i : Nat) (v : Value), vs[i]? = some v → NumOf (l.getD i 0) v
  | [], xs, l, h, e, vs, r => by
    cases h
    simp [allNum] at e
    subst e
    cases r
    exact ⟨rfl, fun i v hv => by simp at hv⟩
  | d :: ds, xs, l, h, e, vs, r => by
    obtain ⟨x, t, q, h1, h2⟩ := h
    subst q
    cases r with
    | cons r1 r2 =>
      rename_i v vs
      have key : ∀ (j : Int) (l' : List Int), NumOf j v → allNum ds = some l' → j :: l' = l → (v :: vs).length = l.length ∧ ∀ (i : Nat) (u : Value), (v :: vs)[i]? = some u → NumOf (l.getD i 0) u := fun j l' hj e' q => by
        subst q
        obtain ⟨z1, z2⟩ := RepL.nums ds t l' h2 e' vs r2
        refine ⟨by simp [z1], fun i u hu => ?_⟩
        cases i with
        | zero => simp at hu; subst hu; exact hj
        | succ i => simp at hu; simpa using z2 i u hu
      cases d with
      | int i =>
        simp only [allNum, Option.map_eq_some_iff] at e
        obtain ⟨l', e', rfl⟩ := e
        have q : x = V.int i := h1
        subst q
        exact key i l' (.inl r1) e' rfl
      | bl b =>
        simp only [allNum, Option.map_eq_some_iff] at e
        obtain ⟨l', e', rfl⟩ := e
        have q : x = V.bl b := h1
        subst q
        have q2 : v = Value.bool b := r1
        exact key (i01 b) l' (.inr ⟨b, q2, rfl⟩) e' rfl
      | _ => simp [allNum] at e
theorem preSum_take (l : List Int) : ∀ n, n ≤ l.length → PySem.preSum (fun i => l.getD i 0) n = (l.take n).sum
  | 0, _ => rfl
  | n + 1, h => by
    show PySem.preSum (fun i => l.getD i 0) n + l.getD n 0 = _
    rw [preSum_take l n (by omega), List.take_succ]
    have : l[n]? = some (l.getD n 0) := by rw [List.getD_eq_getElem?_getD, List.getElem?_eq_getElem (by omega)]; rfl
    rw [this]
    simp
theorem b_sum (hc : X.calm = true) : CallR X (.builtin "sum") (rB .sum) := by
  intro pins s σ H vs us Q I r h
  obtain ⟨Z, ds, z, fr, hz, hd, q, k⟩ := h
  match ds, q with
  | [d], q =>
    simp only [bi] at q
    obtain ⟨xs, e1, q⟩ := Option.bind_eq_some_iff.mp q
    obtain ⟨l, el, rfl⟩ := Option.map_eq_some_iff.mp q
    obtain ⟨v, rfl, hv⟩ := hd.one
    obtain ⟨a, ws, rfl, ha, ra⟩ := RepO.seq e1 hv
    rw [Vals.ref1 r]
    have fin : ∀ (its : List Value) (_ : Vals ws its) {P : Nat → Value → Prop} (_ : ∀ i v, P i v → its.toArray[i]? = some v) {s₂ s' : Shared} {o : Obj} {t'} (_ : s₂ = { s with heap := s.heap.push o }) (_ : Moved [s.heap.objs.size] (fun a b => b = a) s₂ s'), EP X pins σ Q (.int (PySem.preSum (fun i => l.getD i 0) its.toArray.size) t') s' := fun its rv P _ s₂ s' o t' e m => by
      obtain ⟨h', tk, rfl, hk'⟩ := PySem.W.moved_old e rfl m
      have hl := (RepL.nums _ _ _ ra el its rv).1
      refine ⟨.int l.sum, H, I.kept hk', ⟨t', ?_⟩, k.flat rfl rfl⟩
      rw [List.size_toArray, preSum_take l _ (by omega), List.take_of_length_le (by omega)]
    rcases ha with ⟨rfl, ha⟩ | ⟨rfl, ha⟩
    · obtain ⟨its, rv, hl, _⟩ := I.list (.of ha)
      refine call_sum_walkAnyB (PySem.W.iter_listW (A := X.A.in1) (I.ok.hd hc) hl.isList fun s₂ e W st hfp hw hk => ?_)
      exact ⟨_, _, _, _, _, _, _, fun i => l.getD i 0, rfl, W, st, hfp, fun i v hP => (RepL.nums _ _ _ ra el its rv).2 i v (by simpa using hP), fun s' t' m => fin its rv (P := fun i v => its.toArray[i]? = some v) (fun _ _ z => z) e m⟩
    · obtain ⟨its, rv, hl, _⟩ := I.tuple (.of ha)
      refine call_sum_walkAnyB (PySem.W.iter_tupleW (A := X.A.in1) (I.ok.hd hc) hl fun s₂ e W st hfp hw hk => ?_)
      exact ⟨_, _, _, _, _, _, _, fun i => l.getD i 0, rfl, W, st, hfp, fun i v hP => (RepL.nums _ _ _ ra el its rv).2 i v (by simpa using hP), fun s' t' m => fin its rv (P := fun i v => its.toArray[i]? = some v) (fun _ _ z => z) e m⟩
/-- max or min of a list with a default -/
def rMmd (mx : Bool) (i : Int) : List V → List V → Hp → VK → Prop := fun vs zs H Q => ∃ Z l z fr v, ZH Z H ∧ vs = [v] ∧ zs = [.int i] ∧ RepB Z H (.lst l) v ∧ mmD mx l i = some z ∧ Res Z H fr z Q
theorem b_mmd {mx : Bool} {i : Int} (hc : X.calm = true) (hu : X.A.units + 64 < cLine) : CallRK X (.builtin (if mx then "max" else "min")) [Str.ofString "default"] (rMmd mx i) := by
  intro pins s σ H vs zs us ws Q I r rz h
  obtain ⟨Z, l, z, fr, v, hz, rfl, rfl, hv, q, k⟩ := h
  obtain ⟨a, xs, rfl, ha, ra⟩ := RepO.lst hv
  obtain ⟨its, rv, hl, _⟩ := I.list (.of ha)
  obtain ⟨w, rfl, tw⟩ := vals1 rz
  have ru := Vals.ref1 r
  subst ru
  have dflt : l = [] → ∀ h' tk, (∀ b o, s.heap.get? b = some o → h'.get? b = some o) → EP X pins σ Q w { s with heap := h', toks := tk } := fun hl0 h' tk hk => by
    subst hl0
    simp only [mmD] at q
    cases q
    exact ⟨.int i, H, I.kept hk, tw, k.flat rfl rfl⟩
  have nilPy : ∀ {l : List D}, toPyL l = [] → l = [] := fun {l} e => by cases l with
    | nil => rfl
    | cons _ _ => simp [toPyL] at e
  have reads : PySem.W.AlikeAll (toPyL l) ∧ plainL 30 l = true := by
    cases l with
    | nil => exact ⟨⟨fun _ h => by simp [toPyL] at h, fun _ h => by simp [toPyL] at h⟩, by simp [plainL]⟩
    | cons x r =>
      simp only [mmD] at q
      split at q
      · rename_i hok
        obtain ⟨p1, p2, _⟩ := mm_of hok
        exact ⟨p2, p1⟩
      · cases q
  obtain ⟨al, pl⟩ := reads
  obtain ⟨as, rd⟩ := Dp.readsAll I (toPyL l) xs its (RepL.dp 30 _ xs pl ra) rv
  have item : ∀ (y : PyData) (ys : List PyData) (j : Nat) (u : Value) h' tk bs, toPyL l = y :: ys → its.toArray[j]? = some u → Reads h' u (if mx then PySem.W.maxD y ys else PySem.W.minD y ys) bs → (∀ b o, s.heap.get? b = some o → h'.get? b = some o) → EP X pins σ Q u { s with heap := h', toks := tk } := fun y ys j u h' tk bs e hi hr hk => by
    cases l with
    | nil => simp [toPyL] at e
    | cons x r =>
      simp only [toPyL, List.cons.injEq] at e
      obtain ⟨rfl, rfl⟩ := e
      simp only [mmD] at q
      split at q
      · rename_i hok
        obtain ⟨p1, p2, p3⟩ := mm_of hok
        cases q
        cases mx with
        | true =>
          obtain ⟨y, hy, ry, _⟩ := mm_end ra p1 p2 I rv (by simpa using hi) hk (by rw [max_py r x p2]; exact hr) (maxT_mem r x)
          exact ⟨y, H, I.kept hk, ry, k.flat hy (p3 _ (maxT_mem r x))⟩
        | false =>
          obtain ⟨y, hy, ry, _⟩ := mm_end ra p1 p2 I rv (by simpa using hi) hk (by rw [min_py r x p2]; exact hr) (minT_mem r x)
          exact ⟨y, H, I.kept hk, ry, k.flat hy (p3 _ (minT_mem r x))⟩
      · cases q
  have hd : X.A.units + 1 + PyData.depthAll (toPyL l) < cLine := by have := depthAll_le pl; omega
  cases mx with
  | true => exact PySem.W.max_list_default (I.ok.hd hc) hl.isList (by simpa using rd) al hd (fun e => dflt (nilPy e)) (fun y ys j u h' tk bs e hi hr hk => item y ys j u h' tk bs e hi hr hk)
  | false => exact PySem.W.min_list_default (I.ok.hd hc) hl.isList (by simpa using rd) al hd (fun e => dflt (nilPy e)) (fun y ys j u h' tk bs e hi hr hk => item y ys j u h' tk bs e hi hr hk)
end
end PB
set_option maxHeartbeats 4000000
/-! Ihm: readings of max, min with a default and of the script's first cells. -/
namespace PB
open PySem PySem.Spec PyProof.Rows L2
section
variable {X : Cx} {Γ : Gm} {fq : Nat → Bool} {XW : WX} {G : Gx} {a b c : C} {ea eb ec ex : Expr} {pos : Pos}
theorem E_mmd {mx : Bool} {i : Int} (la : lcOk Γ.ks a = true) (h : PE X ex (tCKw (rMmd mx i) (tCons (rdE Γ fq XW G a) tNil) (tCons (tC (.int i)) tNil))) : PE X ex (rdE Γ fq XW G (.mmd mx a i)) := PEimp h fun σ H Q q => by
  obtain ⟨F, e, E, w⟩ := q
  simp only [ev] at w
  refine rd_step E (Wt_bnd w) fun d1 e1 v H1 w1 k1 E1 r1 => ?_
  obtain ⟨hl, w1⟩ := Wt_ite' w1
  cases d1 with
  | lst l =>
    have w1 : Wt ((mmD mx l i).map (R.ok · e1)) (PF Γ fq F σ H (C.mmd mx a i) Q) (XF Γ XW F σ H) := w1
    cases q : mmD mx l i with
    | none => rw [q] at w1; exact w1.elim
    | some z =>
      rw [q] at w1
      have f1 : fin a (.lst l) e1 = some (.lst l) := by
        cases a <;> first | rfl | (exact absurd rfl hl)
      show rMmd mx i [v] [.int i] H1 Q
      exact ⟨zt Γ F σ, l, z, true, v, E1.ztH, rfl, rfl, r1.1.fin E1 la f1, q, res_of E1 fun v' H' k E' r fr => w1 v' H' (k1.trans k) E' ⟨r, fun _ => fr.back k1⟩⟩
  | _ => exact w1.elim
theorem E_scrCut (hK : Γ.K = X.K) (hks : G.ks = Γ.ks) {i k : Nat} (h : PE X ex (fun σ H Q => ∃ a xs, σ[i]? = some (some (.ref a)) ∧ SqL X.K H a xs ∧ ∀ p, H p = none → Q (.ref p) (upd H p (.lst (cutV xs none (some (k : Int))))))) : PE X ex (rdE Γ fq XW G (.scrCut i k)) := PEimp h fun σ H Q q => by
  obtain ⟨F, e, E, w⟩ := q
  simp only [ev, hks] at w
  obtain ⟨h1, w⟩ := Wt_ite w
  cases q : rdS e i with
  | none => rw [q] at w; exact w.elim
  | some d =>
    rw [q] at w
    obtain ⟨ad, l, r1, rfl, r3, r4⟩ := E.frz i d h1 (rdS_some q)
    have r5 := (E.sq r3 r4).sq
    rw [hK] at r5
    refine ⟨ad, l.map V.int, r1, r5, fun p hp => ?_⟩
    exact Res.lst (ds := cutD (l.map D.int) none (some (k : Int))) (res_of (e := e) E fun v' H' k E' r fr => w v' H' k E' ⟨r, fun _ => fr⟩) E.ztH (repL_cut (repL_ints l) none (some (k : Int))) hp
end
end PB
set_option maxHeartbeats 4000000
/-! Iq: code and text held together. -/
namespace PB
open PySem PySem.Spec PyProof.Rows L2 LamX

inductive Md where
  | E (e : Expr) | N (x : Str) (p : Pos) (e : Expr) | T (e : Expr) | V (op : BoolOp) (es : List Expr) | W (op : BoolOp) (es : List Expr) | A (es : List Expr) | I (tg e : Expr) | G (e : Expr) | Gs (es : List Expr) | S (s : Stmt) | Ss (ss : List Stmt) | H (hs : List ExceptHandler) | D (ks : List Str) (keys : List (Option Expr)) (es : List Expr)
/-- what is known of a def's text -/
structure Sx where
  N : List Str
  ks : List Kd
  np : Nat
  sc : Scope
  fns : List (Str × Nat)
  cls : List (Str × Nat)
  xin : Nat → List Str
  mets : List (Str × Nat)
  lms : Bool
  cel : Str → Bool
  glb : List Str
  calm : Bool
  gd : Bool
  fq : Nat → Bool
  kk : Nat → List Kd
  gdf : Nat → Bool
  fr : Bool
  xo : Option Nat
  lam : Bool
  top : Bool
def visB (sc : Scope) (x : Str) : Bool := match sc.names.lookup x with
  | some .local => true
  | some .cell => true
  | some .free => true
  | _ => false
def glB (S : Sx) (x : Str) : Bool := decide (S.sc.names.lookup x = some .globalImplicit)
def bltB (S : Sx) (x : Str) : Bool := glB S x && S.glb.contains x
def nmOk (S : Sx) (i : Nat) (x : Str) : Bool := decide (S.N[i]? = some x) && visB S.sc x && !(x == ("__debug__" : Str)) && !(x == ("__classdict__" : Str))
def freB (S : Sx) (i : Nat) : Bool := decide (S.xo ≠ some i) && (!decide (i = 0) || !S.lam)
/-- a name that may be stored -/
def stOk (S : Sx) (i : Nat) (x : Str) : Bool := decide (S.N[i]? = some x) && freB S i && match S.sc.names.lookup x with
  | some .local => true
  | some .cell => S.cel x
  | _ => false
def notStar : Expr → Bool
  | .Starred _ _ => false
  | _ => true
def plainIx : Expr → Bool
  | .Slice _ _ _ _ => false
  | _ => true
def notTest : Expr → Bool
  | .UnaryOp _ _ _ => false
  | .BoolOp _ _ _ => false
  | .IfExp _ _ _ _ => false
  | .Compare _ _ _ _ => false
  | _ => true
def opE : O2 → Operator → Bool
  | .add, .Add => true | .sub, .Sub => true | .mul, .Mult => true | .fdiv, .FloorDiv => true | .mod, .Mod => true | .pow, .Pow => true | .shl, .LShift => true | .shr, .RShift => true
  | .band, .BitAnd => true | .bor, .BitOr => true | .bxor, .BitXor => true
  | _, _ => false
def opC : O2 → CmpOp → Bool
  | .lt, .Lt => true | .le, .LtE => true | .gt, .Gt => true | .ge, .GtE => true | .eq, .Eq => true | .ne, .NotEq => true | .isIn, .In => true | .notIn, .NotIn => true | .is, .Is => true | .isNot, .IsNot => true
  | _, _ => false
def consN : C → Nat
  | .cons _ b => consN b + 1
  | _ => 0
/-- the names of built-ins that are carried -/
def bltName : Bi → Option Str
  | .len => some "len" | .sum => some "sum" | .any => some "any" | .all => some "all" | .tuple => some "tuple" | .list => some "list" | .int => some "int" | .abs => some "abs" | .max => some "max" | .min => some "min" | .sorted => some "sorted" | .dict => some "dict" | .repr => some "repr"
  | _ => none
def isScr : C → Bool
  | .scr _ => true
  | _ => false

def isNoPart : C → Bool
  | .noPart => true
  | _ => false
def isNil : C → Bool
  | .nil => true
  | _ => false
def notSet : Expr → Bool
  | .Set _ _ _ => false
  | _ => true
def isYes : C → Bool
  | .cst (.bl true) => true
  | _ => false
/-- a block's own names, with their slots -/
def ownOf (S : Sx) (vs : List Nat) : List (Str × Nat) := vs.map fun v => ((S.N[v]?).getD "", v)
def lcHead (S : Sx) (vs : List Nat) (tg : C) (scope : Scope) (it : Expr) : Bool :=
  S.calm && blkC S.N S.sc scope (ownOf S vs) && vs.all (fun v => decide (S.ks[v]? = some Kd.shr) && freB S v) && (slotsG tg).all (fun i => vs.contains i) && notSet it
abbrev blkS (S : Sx) (scope : Scope) : Sx := { S with sc := relS scope S.sc, top := false, lms := false, mets := [], cel := fun x => scope.names.lookup x == some .cell }
/-- within a lambda -/
abbrev lamS (S : Sx) (scope : Scope) : Sx := { S with sc := scope, ks := brwd S.ks, gd := false, calm := true, top := false, lms := false, cel := fun _ => false, fr := false, xo := none, lam := false, cls := [], mets := [] }
abbrev noArgs : Arguments := ⟨[], [], none, [], [], none, []⟩
/-- x(lambda: body) -/
def lamM : Md → Option (Str × Expr × Scope)
  | .E (.Call (.Name x _) [.Lambda ⟨[], [], none, [], [], none, []⟩ body scope _] [] _) => some (x, body, scope)
  | _ => none
theorem lamM_eq {m : Md} {x : Str} {body : Expr} {scope : Scope} (h : lamM m = some (x, body, scope)) : ∃ p q r, m = .E (.Call (.Name x p) [.Lambda noArgs body scope q] [] r) := by
  unfold lamM at h
  split at h <;> cases h
  exact ⟨_, _, _, rfl⟩
/-- may a value of code c be walked over -/
def seqOk (S : Sx) (c : C) : Bool := lcOk S.ks c || isScr c
def isLc : C → Bool
  | .lc .. => true
  | .lc2 .. => true
  | _ => false
def isLcE : Expr → Bool
  | .ListComp .. => true
  | .SetComp .. => true
  | .DictComp .. => true
  | _ => false
def isLocI (i : Nat) : C → Bool
  | .loc j => decide (i = j)
  | _ => false
def isPass : C → Bool
  | .pass => true
  | _ => false
def isName : Expr → Bool
  | .Name _ _ => true
  | _ => false
def isTupE : Expr → Bool
  | .Tuple _ _ _ => true
  | .List _ _ => true
  | _ => false
def isTupT : Expr → Bool
  | .Tuple _ _ _ => true
  | _ => false
def tkB (S : Sx) (i : Nat) (c : C) : Bool := decide (S.ks[i]? = some Kd.shr) || (decide (S.ks[i]? = some Kd.own) && decide (S.np ≤ i) && frC S.fq c)
/-- no store at once: some target is no plain local name, or all values are constants -/
def swNo (S : Sx) (ts : List Expr) : Expr → Bool
  | .Tuple vs _ _ => ((ts.filterMap fun
      | .Name id pos => if S.sc.names.lookup id == some .local && pos.line == (ts.head?.map (·.pos.line)).getD 0 then some id else none
      | _ => none).length != ts.length) || vs.all (foldedForSure 8)
  | .List _ _ => false
  | _ => true
def opI : O2 → Operator → Bool
  | .add, .Add => true | .sub, .Sub => true | .mul, .Mult => true | .fdiv, .FloorDiv => true | .mod, .Mod => true | .shl, .LShift => true | .shr, .RShift => true
  | .band, .BitAnd => true | .bor, .BitOr => true | .bxor, .BitXor => true
  | _, _ => false
/-- a comprehension that is stored as it is made -/
def swapB (S : Sx) (scope : Scope) (t : Str) (p q : Pos) : Bool := decide (S.sc.names.lookup t = some .local) && (p.line == q.line) && !(scope.names.any fun (n, k) => n == t && (k == .local || k == .cell))
structure L2E where
  ee : Expr
  te : Expr
  ie : Expr
  i0 : Option Expr
  te1 : Expr
  ie1 : Expr
  i1 : Option Expr
  scope : Scope
  p : Pos
def ifOne : List Expr → Option (Option Expr)
  | [] => some none
  | [c] => some (some c)
  | _ => none
theorem ifOne_eq {l : List Expr} {o : Option Expr} (h : ifOne l = some o) : l = o.toList := by
  unfold ifOne at h
  split at h <;> first | (cases h; rfl) | cases h
/-- a comprehension of two clauses, taken apart -/
def lc2E : Expr → Option L2E
  | .ListComp ee [⟨te, ie, ifs, ia⟩, ⟨te1, ie1, ifs1, ia1⟩] scope p => if ia = 0 ∧ ia1 = 0 then (ifOne ifs).bind fun i0 => (ifOne ifs1).map fun i1 => ⟨ee, te, ie, i0, te1, ie1, i1, scope, p⟩ else none
  | _ => none
theorem lc2E_eq {e : Expr} {r : L2E} (h : lc2E e = some r) : e = .ListComp r.ee [⟨r.te, r.ie, r.i0.toList, 0⟩, ⟨r.te1, r.ie1, r.i1.toList, 0⟩] r.scope r.p := by
  unfold lc2E at h
  split at h
  · split at h
    · rename_i q
      obtain ⟨rfl, rfl⟩ := q
      obtain ⟨i0, h1, h⟩ := Option.bind_eq_some_iff.mp h
      obtain ⟨i1, h2, h⟩ := Option.map_eq_some_iff.mp h
      subst h
      rw [ifOne_eq h1, ifOne_eq h2]
    · cases h
  · cases h
def lc2M (S : Sx) : Md → Option (Bool × L2E)
  | .E e => (lc2E e).map fun r => (true, r)
  | .N x px e => (lc2E e).map fun r => (swapB S r.scope x px r.p || decide (S.sc.names.lookup x = some .cell), r)
  | _ => none
/-- max(e, default=j), min(e, default=j) -/
def mmdM : Md → Option (Str × Expr × Str × Int)
  | .E (.Call (.Name x _) [e] [⟨some k, .Constant (.int j) _ _, _⟩] _) => some (x, e, k, j)
  | _ => none
theorem mmdM_eq {m : Md} {x k : Str} {e : Expr} {j : Int} (h : mmdM m = some (x, e, k, j)) : ∃ p q r s t, m = .E (.Call (.Name x p) [e] [⟨some k, .Constant (.int j) q r, s⟩] t) := by
  unfold mmdM at h
  split at h <;> cases h
  exact ⟨_, _, _, _, _, rfl⟩
/-- x[:j] -/
def cutM : Md → Option (Str × Int)
  | .E (.Subscript (.Name x _) (.Slice none (some (.Constant (.int j) _ _)) none _) _) => some (x, j)
  | _ => none
theorem cutM_eq {m : Md} {x : Str} {j : Int} (h : cutM m = some (x, j)) : ∃ p q r s t, m = .E (.Subscript (.Name x p) (.Slice none (some (.Constant (.int j) q r)) none s) t) := by
  unfold cutM at h
  split at h <;> cases h
  exact ⟨_, _, _, _, _, rfl⟩
def chk : C → Sx → Md → Bool
  | .var i, S, m => match m with
    | .E (.Name x _) => nmOk S i x
    | .G (.Name x _) => stOk S i x
    | _ => false
  | .loc i, S, m => match m with
    | .E (.Name x _) => nmOk S i x
    | _ => false
  | .scr i, S, m => match m with
    | .E (.Name x _) => nmOk S i x
    | _ => false
  | .cst d, S, m => match m, d with
    | .E (.Constant (.int j) _ _), .int i => decide (i = j)
    | .E (.Constant (.bool j) _ _), .bl i => decide (i = j)
    | .E (.Constant (.str j) _ _), .str i => decide (i = j)
    | .E (.Constant .none _ _), .non => true
    | _, _ => false
  | .tup a, S, m => match m with
    | .E (.Tuple es _ _) => chk a S (.A es) && decide (consN a ≤ 1000)
    | .G (.Tuple es _ _) => chk a S (.Gs es) && isTgs a && S.calm && es.all notStar && decide (es.length = lenG a)
    | _ => false
  | .lst a, S, m => match m with
    | .E (.List es _) => chk a S (.A es) && decide (consN a ≤ 1000)
    | _ => false
  | .dnew _, S, m => match m with
    | .E (.Dict [] [] _) => true
    | _ => false
  | .disp ks a, S, m => match m with
    | .E (.Dict keys vals _) => chk a S (.D ks keys vals) && isTgs a && noLocs a && decide (ks.Nodup) && decide (ks.length ≤ 15) && !ks.isEmpty && keys.all (·.isSome) && decide (keys.length = ks.length) && decide (vals.length = ks.length) && decide (consN0 a = ks.length)
    | _ => false
  | .op o a b, S, m => match m with
    | .E (.BinOp ea o' eb _) => opE o o' && chk a S (.E ea) && chk b S (.E eb) && lcOk S.ks a && lcOk S.ks b
    | .E (.Compare ea [o'] [eb] _) => opC o o' && chk a S (.E ea) && chk b S (.E eb) && lcOk S.ks a && lcOk S.ks b && !behindInMarks o' eb
    | .T (.Compare ea [o'] [eb] _) => opC o o' && chk a S (.E ea) && chk b S (.E eb) && lcOk S.ks a && lcOk S.ks b && !behindInMarks o' eb
    | _ => false
  | .neg a, S, m => match m with
    | .E (.UnaryOp .USub ea _) => chk a S (.E ea) && !isLoc a
    | _ => false
  | .not a, S, m => match m with
    | .E (.UnaryOp .Not ea _) => chk a S (.E ea) && lcOk S.ks a
    | .T (.UnaryOp .Not ea _) => chk a S (.T ea) || (chk a S (.E ea) && notTest ea && lcOk S.ks a)
    | _ => false
  | .and a b, S, m => match m with
    | .E (.BoolOp .And (ea :: eb :: es) _) => chk a S (.E ea) && (match es with | [] => chk b S (.E eb) | e :: r => chk b S (.V .And (eb :: e :: r)))
    | .V .And (ea :: eb :: es) => chk a S (.E ea) && (match es with | [] => chk b S (.E eb) | e :: r => chk b S (.V .And (eb :: e :: r)))
    | .T (.BoolOp .And (ea :: eb :: es) _) => (chk a S (.T ea) || (chk a S (.E ea) && notTest ea && lcOk S.ks a)) && (match es with | [] => chk b S (.T eb) || (chk b S (.E eb) && notTest eb && lcOk S.ks b) | e :: r => chk b S (.W .And (eb :: e :: r)))
    | .W .And (ea :: eb :: es) => (chk a S (.T ea) || (chk a S (.E ea) && notTest ea && lcOk S.ks a)) && (match es with | [] => chk b S (.T eb) || (chk b S (.E eb) && notTest eb && lcOk S.ks b) | e :: r => chk b S (.W .And (eb :: e :: r)))
    | _ => false
  | .or a b, S, m => match m with
    | .E (.BoolOp .Or (ea :: eb :: es) _) => chk a S (.E ea) && (match es with | [] => chk b S (.E eb) | e :: r => chk b S (.V .Or (eb :: e :: r)))
    | .V .Or (ea :: eb :: es) => chk a S (.E ea) && (match es with | [] => chk b S (.E eb) | e :: r => chk b S (.V .Or (eb :: e :: r)))
    | .T (.BoolOp .Or (ea :: eb :: es) _) => (chk a S (.T ea) || (chk a S (.E ea) && notTest ea && lcOk S.ks a)) && (match es with | [] => chk b S (.T eb) || (chk b S (.E eb) && notTest eb && lcOk S.ks b) | e :: r => chk b S (.W .Or (eb :: e :: r)))
    | .W .Or (ea :: eb :: es) => (chk a S (.T ea) || (chk a S (.E ea) && notTest ea && lcOk S.ks a)) && (match es with | [] => chk b S (.T eb) || (chk b S (.E eb) && notTest eb && lcOk S.ks b) | e :: r => chk b S (.W .Or (eb :: e :: r)))
    | _ => false
  | .ite c a b, S, m => match m with
    | .E (.IfExp ec ea eb _) => (chk c S (.T ec) || (chk c S (.E ec) && notTest ec && lcOk S.ks c)) && chk a S (.E ea) && chk b S (.E eb)
    | _ => false
  | .idx a b, S, m => match m with
    | .E (.Subscript ea eb _) => chk a S (.E ea) && chk b S (.E eb) && lcOk S.ks a && plainIx eb
    | _ => false
  | .slc a lo hi, S, m => match m with
    | .E (.Subscript ea (.Slice el eh none _) _) => chk a S (.E ea) && lcOk S.ks a && (match el with | none => isNoPart lo | some e => chk lo S (.E e) && !isLoc lo) && (match eh with | none => isNoPart hi | some e => chk hi S (.E e) && !isLoc hi)
    | _ => false
  | .nil, S, m => match m with
    | .A [] => true
    | .Gs [] => true
    | .D [] [] [] => true
    | _ => false
  | .cons a b, S, m => match m with
    | .A (e :: es) => chk a S (.E e) && chk b S (.A es) && notStar e
    | .Gs (e :: es) => chk a S (.G e) && chk b S (.Gs es) && notStar e
    | .D (k :: ks) (ky :: kys) (e :: es) => keyE k ky && chk a S (.E e) && chk b S (.D ks kys es)
    | _ => false
  | .call f a, S, m => match m with
    | .E (.Call (.Name x _) es [] _) => decide (S.fns.lookup x = some f) && glB S x && S.calm && (S.gd || !S.gdf f) && sepOk (S.kk f) a && chk a S (.A es) && es.all notStar && !(x == ("__debug__" : Str))
    | _ => false
  | .blt f a, S, m => match m with
    | .E (.Call (.Name x _) (e :: es) [] _) => decide (bltName f = some x) && bltB S x && S.calm && (S.gd || !(match f with | .repr => true | _ => false)) && chk a S (.A (e :: es)) && lcsOk S.ks a && (e :: es).all notStar
    | .I tg (.Call (.Name x _) es [] _) => bltB S x && chk a S (.A es) && es.all notStar && lcsOk S.ks a && decide (lenG a = es.length) && (match f with
        | .range => decide (x = "range") && (decide (es.length = 1) || decide (es.length = 2) || decide (es.length = 3))
        | .enum => decide (x = "enumerate") && isTupT tg && noLocs a && decide (es.length = 1)
        | .zip => decide (x = "zip") && isTupT tg && noLocs a && decide (es.length = 2)
        | _ => false)
    | _ => false
  | .lc vs tg it cond elt, S, m => match m with
    | .E (.ListComp ee [⟨te, ie, ifs, ia⟩] scope _) => lcHead S vs tg scope ie && decide (ia = 0) && (chk it S (.I te ie) || (chk it S (.E ie) && seqOk S it)) && chk tg (blkS S scope) (.G te) &&
        (match ifs with | [] => isYes cond | [ce] => chk cond (blkS S scope) (.T ce) || (chk cond (blkS S scope) (.E ce) && notTest ce && lcOk S.ks cond) | _ => false) && chk elt (blkS S scope) (.E ee)
    | .N x px (.ListComp ee [⟨te, ie, ifs, ia⟩] scope p) => (swapB S scope x px p || decide (S.sc.names.lookup x = some .cell)) && lcHead S vs tg scope ie && decide (ia = 0) && (chk it S (.I te ie) || (chk it S (.E ie) && seqOk S it)) && chk tg (blkS S scope) (.G te) &&
        (match ifs with | [] => isYes cond | [ce] => chk cond (blkS S scope) (.T ce) || (chk cond (blkS S scope) (.E ce) && notTest ce && lcOk S.ks cond) | _ => false) && chk elt (blkS S scope) (.E ee)
    | _ => false
  | .lc2 vs vs1 tg it cond tg1 it1 cond1 elt, S, m => match lc2M S m with
    | some (w, r) => w && lcHead S vs tg r.scope r.ie && (chk it S (.I r.te r.ie) || (chk it S (.E r.ie) && seqOk S it)) && chk tg (blkS S r.scope) (.G r.te) &&
        (match r.i0 with | none => isYes cond | some ce => chk cond (blkS S r.scope) (.T ce) || (chk cond (blkS S r.scope) (.E ce) && notTest ce && lcOk S.ks cond)) && chk elt (blkS S r.scope) (.E r.ee) &&
        (vs1.all (fun i => vs.contains i) && (slotsG tg1).all (fun i => vs1.contains i) && notSet r.ie1) && (chk it1 (blkS S r.scope) (.I r.te1 r.ie1) || (chk it1 (blkS S r.scope) (.E r.ie1) && seqOk S it1)) && chk tg1 (blkS S r.scope) (.G r.te1) &&
        (match r.i1 with | none => isYes cond1 | some ce => chk cond1 (blkS S r.scope) (.T ce) || (chk cond1 (blkS S r.scope) (.E ce) && notTest ce && lcOk S.ks cond1))
    | none => false
  | .lamcall f b, S, m => match lamM m with
    | some (x, body, scope) => decide (S.mets.lookup x = some f) && glB S x && S.lms && S.top && S.calm && lamSB S.sc scope && chk b (lamS S scope) (.E body) && !(x == ("__debug__" : Str))
    | none => false
  | .isi f a, S, m => match m with
    | .E (.Call (.Name x _) [e, .Name t _] [] _) => decide (x = "isinstance") && decide ((isiTy f).map Str.ofString = some t) && bltB S x && bltB S t && lcOk S.ks a && chk a S (.E e) && notStar e
    | _ => false
  | .lrng t a, S, m => match m with
    | .E (.Call (.Name f _) [.Call (.Name x _) es [] _] [] _) => decide (f = if t then "tuple" else "list") && bltB S f && decide (x = "range") && bltB S x && S.calm && chk a S (.A es) && es.all notStar && !es.isEmpty
    | _ => false
  | .popAt i a, S, m => match m with
    | .E (.Call (.Attribute (.Name x _) mth apos) [e] [] cpos) => decide (mth = "pop") && nmOk S i x && decide (S.ks[i]? = some Kd.own) && (apos.endLine == cpos.line) && chk a S (.E e) && notStar e
    | _ => false
  | .popLast i, S, m => match m with
    | .E (.Call (.Attribute (.Name x _) mth apos) [] [] cpos) => decide (mth = "pop") && nmOk S i x && decide (S.ks[i]? = some Kd.own) && (apos.endLine == cpos.line)
    | _ => false
  | .mmd mx a i, S, m => match mmdM m with
    | some (x, e, k, j) => decide (x = if mx then "max" else "min") && bltB S x && S.calm && decide (k = Str.ofString "default") && decide (i = j) && lcOk S.ks a && chk a S (.E e) && notStar e
    | none => false
  | .scrCut i k, S, m => match cutM m with
    | some (x, j) => nmOk S i x && decide (j = (k : Int))
    | none => false
  | .scrLen i, S, m => match m with
    | .E (.Call (.Name f _) [.Name x _] [] _) => decide (f = "len") && bltB S f && nmOk S i x
    | _ => false
  | .scrList i, S, m => match m with
    | .E (.Call (.Name f _) [.Name x _] [] _) => decide (f = "list") && bltB S f && nmOk S i x && S.calm
    | _ => false
  | .seq a b, S, m => match m with
    | .Ss (s :: s2 :: r) => chk a S (.S s) && (match r with | [] => chk b S (.S s2) | s3 :: r3 => chk b S (.Ss (s2 :: s3 :: r3)))
    | _ => false
  | .pass, _, m => match m with
    | .S (.Pass _) => true
    | _ => false
  | .brk, _, m => match m with
    | .S (.Break _) => true
    | _ => false
  | .cnt, _, m => match m with
    | .S (.Continue _) => true
    | _ => false
  | .drop c, S, m => match m with
    | .S (.Expr e _) => chk c S (.E e) && !isLcE e
    | _ => false
  | .ret c, S, m => match m with
    | .S (.Return (some e) _) => chk c S (.E e) && (!S.fr || frC S.fq c)
    | _ => false
  | .retN, _, m => match m with
    | .S (.Return none _) => true
    | _ => false
  | .retO i, S, m => match m with
    | .S (.Return (some (.Name x _)) _) => nmOk S i x && decide (S.np ≤ i)
    | _ => false
  | .ife c a b, S, m => match m with
    | .S (.If ce sa sb _) => (chk c S (.T ce) || (chk c S (.E ce) && notTest ce && lcOk S.ks c)) && (match sa with | [s] => chk a S (.S s) | _ => chk a S (.Ss sa)) && (match sb with | [] => isPass b | [s] => chk b S (.S s) | _ => chk b S (.Ss sb))
    | _ => false
  | .whl c b, S, m => match m with
    | .S (.While ce sb [] _) => S.top && (chk c S (.T ce) || (chk c S (.E ce) && notTest ce && lcOk S.ks c)) && (match sb with | [s] => chk b S (.S s) | _ => chk b S (.Ss sb))
    | _ => false
  | .fr tg it b, S, m => match m with
    | .S (.For te ie sb [] _) => S.top && S.calm && (chk it S (.I te ie) || (chk it S (.E ie) && seqOk S it)) && chk tg S (.G te) && notSet ie && (match sb with | [s] => chk b S (.S s) | _ => chk b S (.Ss sb))
    | _ => false
  | .asg t c, S, m => match m with
    | .S (.Assign [.Name x px] e pos) => (match t with | .var i => stOk S i x && decide (S.ks[i]? = some Kd.shr) | .loc i => stOk S i x && decide (S.ks[i]? = some Kd.own) && decide (S.np ≤ i) && frC S.fq c | _ => false) &&
        (chk c S (.N x px e) || (chk c S (.E e) && !isLcE e))
    | .S (.Assign [.Tuple es k p] e pos) => (match t with | .tup _ => true | _ => false) && chk t S (.G (.Tuple es k p)) && chk c S (.E e) && swNo S es e && !isLcE e
    | _ => false
  | .par i j a b, S, m => match m with
    | .S (.Assign [.Tuple [.Name x px, .Name y py] _ _] (.Tuple [ea, eb] k2 p2) _) => stOk S i x && stOk S j y && decide (i ≠ j) && decide (x ≠ y) && tkB S i a && tkB S j b && chk a S (.E ea) && chk b S (.E eb) && notStar ea && notStar eb && S.calm &&
        ((plainB S.sc px.line x px && plainB S.sc px.line y py && !(foldedForSure 8 ea && foldedForSure 8 eb) && !(constantsAlone 8 ea && constantsAlone 8 eb)) || swNo S [.Name x px, .Name y py] (.Tuple [ea, eb] k2 p2))
    | _ => false
  | .par3 i j l a b c, S, m => match m with
    | .S (.Assign [.Tuple [.Name x px, .Name y py, .Name z pz] _ _] (.Tuple [ea, eb, ec] _ _) _) => (stOk S i x && stOk S j y && stOk S l z && decide (i ≠ j) && decide (i ≠ l) && decide (j ≠ l)) && (decide (x ≠ y) && decide (x ≠ z) && decide (y ≠ z)) &&
        (decide (S.ks[i]? = some Kd.shr) && decide (S.ks[j]? = some Kd.shr) && decide (S.ks[l]? = some Kd.shr)) && (chk a S (.E ea) && chk b S (.E eb) && chk c S (.E ec)) && (notStar ea && notStar eb && notStar ec) && S.calm &&
        (plainB S.sc px.line x px && plainB S.sc px.line y py && plainB S.sc px.line z pz) && !(foldedForSure 8 ea && foldedForSure 8 eb && foldedForSure 8 ec) && !(constantsAlone 8 ea && constantsAlone 8 eb && constantsAlone 8 ec)
    | _ => false
  | .raise cls a, S, m => match m with
    | .S (.Raise (some (.Call (.Name x _) (e :: es) [] _)) none _) => decide (S.cls.lookup x = some cls) && glB S x && S.calm && S.top && chk a S (.A (e :: es)) && (e :: es).all notStar && !(x == ("__debug__" : Str)) && decide (consN a ≤ 900)
    | _ => false
  | .app i c, S, m => match m with
    | .S (.Expr (.Call (.Attribute (.Name x _) mth apos) [e] [] cpos) pos) => decide (mth = "append") && nmOk S i x && decide (S.ks[i]? = some Kd.own) && (apos.endLine == cpos.line) && chk c S (.E e) && notStar e
    | _ => false
  | .stIx i k c, S, m => match m with
    | .S (.Assign [.Subscript (.Name x _) ke _] e pos) => nmOk S i x && decide (S.ks[i]? = some Kd.own) && chk k S (.E ke) && chk c S (.E e) && plainIx ke && !isLcE e
    | _ => false
  | .aug i o c, S, m => match m with
    | .S (.AugAssign (.Name x _) o' e _) => opI o o' && stOk S i x && chk c S (.E e)
    | _ => false
  | _, _, _ => false
end PB
set_option maxHeartbeats 4000000
/-! Ir: what the check says: expressions. -/
namespace PB
open PySem PySem.Spec PyProof.Rows L2

/-- a def that calls what it is given, in a try -/
inductive MetOk (Δ : Ctx) (X : Cx) (S : Sx) (x : Str) (f : Nat) : Prop
  | mk {g : Addr} {pg : Arguments} {sg : Scope} {dV kV doc pm cdv ct oc : Value} {an od : Option Addr} {osl : Array (Option Value)} {Ng : List Str} {a : Str} {p1 p2 p3 p8 : Pos} {h0 : ExceptHandler} {hds : List ExceptHandler} {d : DefI} {l : List HC}
      (hm : X.mg x = some (.ref g)) (hk : PySem.W.keepIn X.K (.ref g) = true) (lk : X.K.lookup g = some ⟨oc, od, .func (PySem.W.fnOf x x pg [.Try [.Return (some (.Call (.Name a p1) [] [] p2)) p3] (h0 :: hds) [] [] p8] sg dV kV doc pm an cdv ct), osl⟩) (hcg : PySem.W.codeIn X.K cdv x = true)
      (hb : L2.Binds X.K (PySem.W.fnOf x x pg [.Try [.Return (some (.Call (.Name a p1) [] [] p2)) p3] (h0 :: hds) [] [] p8] sg dV kV doc pm an cdv ct) [a] []) (Sg : FnScope Ng [a] sg) (hNg : Ng[0]? = some a) (hNd : Ng.Nodup) (hva : Vis sg a) (had : (a == ("__debug__" : Str)) = false) (hac : (a == ("__classdict__" : Str)) = false)
      (hd : Δ.T.defs[f]? = some d) (hc : d.code = .tryx (.ret (.callv 0)) (mkH l)) (hB : hdB S.cls S.xin Ng sg l (h0 :: hds) = true) (hone : ∀ q ∈ l, ∀ a, Δ.T.sub a q.1 = true → a = q.1) : MetOk Δ X S x f
/-- what a context is to be -/
structure Cok (Δ : Ctx) (n : Nat) (S : Sx) (Γ : Gm) (X : Cx) (XW : WX) (G : Gx) : Prop where
  hN : X.N = S.N
  nd : X.N.Nodup
  sc : X.env.scope = S.sc
  fn : ∀ x, S.cel x = true → X.fn x = true
  calm : S.calm = true → X.calm = true
  gd : S.gd = true → X.A.guards = some []
  hu : X.A.units + 100 < cLine
  room : S.calm = true → Room (3 * n) X.A
  roomT : S.top = true → S.calm = true → Room (3 * n + 2) X.A
  fns : ∀ x f, S.fns.lookup x = some f → ∃ ad fd ps, X.mg x = some (.ref ad) ∧ PySem.W.keepIn X.K (.ref ad) = true ∧ Binds X.K fd ps [] ∧ FnG X.prog X.w X.K X.mg X.base (S.gdf f) (3 * n) ad fd ps (spI Δ n f)
  cls : ∀ x c, S.cls.lookup x = some c → ∃ cA fI fd ps, Δ.cA c = some cA ∧ X.mg x = some (.ref cA) ∧ OexC X.K cA ∧ PySem.W.findIn X.K (.ref cA) "__init__" = some (some (.ref fI)) ∧ PySem.W.typeIn X.K (.ref fI) = some (.type "function") ∧ FnOk X.prog X.w X.K X.mg X.base noCX 1 fI fd ps (spIni X.K cA (S.xin c)) ∧ Binds X.K fd ps []
  gxin : G.xin = S.xin
  clsK : ClsK X.K X.mg S.cls S.xin (cAd Γ)
  csub : ∀ y c, S.cls.lookup y = some c → ∀ a Ca, Γ.cA a = some Ca → PySem.W.exmOne X.K (.ref Ca) (.ref (cAd Γ c)) = some (Δ.T.sub a c)
  mets : ∀ x f, S.mets.lookup x = some f → MetOk Δ X S x f
  lamT : S.lms = true → ∃ c P, LamX.TabB X.base X.mg c P ∧ X.env.code = .ref c ∧ (P, X.env.qual ++ "<lambda>") ∈ Γ.T ∧ ∀ p ∈ Γ.T, p.1 = P → p.2 = X.env.qual ++ "<lambda>"
  glb : ∀ x, S.glb.contains x = true → X.mg x = none
  gks : G.ks = S.ks
  Γks : Γ.ks = S.ks
  Γnp : Γ.np = S.np
  ΓT : Γ.T = Δ.tb
  ΓK : Γ.K = Δ.K
  ΔK : Δ.K = X.K
  ΓC : Γ.cA = Δ.cA
  gcf : G.cf = callN Δ.T n
  ginf : G.info = Δ.kk
  Δkk : Δ.kk = S.kk
  Δfq : Δ.fq = S.fq
  xo : ∀ i a dx ds, Γ.xo = some (i, a, dx, ds) → S.xo = some i
  lam : S.lam = false → Γ.lam = none
  tk : Takes X XW
/-- what is said of a piece of code at a piece of text -/
def Snd (Δ : Ctx) (S : Sx) (Γ : Gm) (X : Cx) (XW : WX) (G : Gx) (c : C) : Md → Prop
  | .E e => PE X e (rdE Γ Δ.fq XW G c)
  | .N x p e => ∀ (i : Nat) (pos : Pos), X.N[i]? = some x → Loc X.env.scope x → (X.fn x = true ∨ X.env.scope.names.lookup x = some .local) → PS X (.Assign [.Name x p] e pos) (tAsg (rdE Γ Δ.fq XW G c) (gName i))
  | .T e => PT X e (rdT Γ XW G c)
  | .V op es => ∀ pos, PE X (.BoolOp op es pos) (rdE Γ Δ.fq XW G c)
  | .W op es => ∀ pos, PW X (.BoolOp op es pos) (rdT Γ XW G c)
  | .A es => PA X es (rdA Γ XW G c)
  | .I tg e => PI X tg e (rdI Γ XW G c)
  | .G e => PG X e (rdG Γ c)
  | .Gs es => PGs X es (rdGs Γ c)
  | .S s => (S.top = true → PassesOwn (model X.prog X.w) X.A X.env X.xe) → PS X s (rdSt Γ S.fr XW G c)
  | .Ss ss => (S.top = true → PassesOwn (model X.prog X.w) X.A X.env X.xe) → PSs X ss (rdSt Γ S.fr XW G c)
  | .H _ => True
  | .D ks kys es => ∀ pos, PPs X pos kys es (trsOf ks (rdD Γ Δ.fq XW G c))
def Good (Δ : Ctx) (n : Nat) (c : C) : Prop := ∀ (S : Sx) (Γ : Gm) (X : Cx) (XW : WX) (G : Gx), Cok Δ n S Γ X XW G → ∀ m, chk c S m = true → Snd Δ S Γ X XW G c m
section
variable {Δ : Ctx} {n : Nat} {S : Sx} {Γ : Gm} {X : Cx} {XW : WX} {G : Gx}
theorem Cok.fre (K : Cok Δ n S Γ X XW G) {i : Nat} (h : freB S i = true) : Fre Γ i := by
  unfold freB at h
  simp only [Bool.and_eq_true, decide_eq_true_eq, Bool.or_eq_true, Bool.not_eq_true', decide_eq_false_iff_not] at h
  exact ⟨fun a dx ds q => h.1 (K.xo i a dx ds q), fun q => h.2.elim (fun z => absurd q z) K.lam⟩
theorem Cok.vis (K : Cok Δ n S Γ X XW G) {x : Str} (h : visB S.sc x = true) : Vis X.env.scope x := by
  rw [K.sc]
  unfold visB at h
  unfold Vis
  split at h
  · rename_i q; exact .inl q
  · rename_i q; exact .inr (.inl q)
  · rename_i q; exact .inr (.inr q)
  · cases h
theorem Cok.gl (K : Cok Δ n S Γ X XW G) {x : Str} (h : glB S x = true) : Gl X x := by
  unfold glB at h
  show X.env.scope.names.lookup x = _
  rw [K.sc]
  exact of_decide_eq_true h
theorem Cok.blt (K : Cok Δ n S Γ X XW G) {x : Str} (h : bltB S x = true) : Gl X x ∧ X.mg x = none := by
  unfold bltB at h
  simp only [Bool.and_eq_true, Bool.not_eq_true'] at h
  exact ⟨K.gl h.1, K.glb x h.2⟩
theorem Cok.name (K : Cok Δ n S Γ X XW G) {i : Nat} {x : Str} {pos : Pos} (h : nmOk S i x = true) : PE X (.Name x pos) (tVar i) := by
  unfold nmOk at h
  simp only [Bool.and_eq_true, decide_eq_true_eq, Bool.not_eq_true'] at h
  exact pe_var (by rw [K.hN]; exact h.1.1.1) (K.vis h.1.1.2) h.1.2 h.2
theorem Cok.store (K : Cok Δ n S Γ X XW G) {i : Nat} {x : Str} {pos : Pos} (h : stOk S i x = true) : PG X (.Name x pos) (gName i) ∧ Fre Γ i ∧ X.N[i]? = some x ∧ Loc X.env.scope x ∧ (X.fn x = true ∨ X.env.scope.names.lookup x = some .local) := by
  unfold stOk at h
  simp only [Bool.and_eq_true, decide_eq_true_eq] at h
  obtain ⟨⟨h1, h2⟩, h3⟩ := h
  have hN : X.N[i]? = some x := by rw [K.hN]; exact h1
  split at h3
  · rename_i q
    have l : X.env.scope.names.lookup x = some .local := by rw [K.sc]; exact q
    exact ⟨pg_name K.nd hN (.inl l) (.inr l), K.fre h2, hN, .inl l, .inr l⟩
  · rename_i q
    have l : X.env.scope.names.lookup x = some .cell := by rw [K.sc]; exact q
    exact ⟨pg_name K.nd hN (.inr l) (.inl (K.fn x h3)), K.fre h2, hN, .inr l, .inl (K.fn x h3)⟩
  · cases h3
theorem star1 {e : Expr} {es : List Expr} {env : Env} (h : notStar e = true) : starEach (e :: es) env = (false, eval e env) :: starEach es env := by
  cases e <;> first | rfl | cases h
theorem asg1 {e : Expr} {es : List Expr} {env : Env} (h : notStar e = true) : assignEach (e :: es) env = (false, assign e env) :: assignEach es env := by
  cases e <;> first | rfl | cases h
theorem starN {pos : Pos} {env : Env} : ∀ {es : List Expr}, es.all notStar = true → (backTo pos (starEach es env)).any (·.1) = false
  | [], _ => rfl
  | e :: es, h => by
    simp only [List.all_cons, Bool.and_eq_true] at h
    rw [star1 h.1]
    have := starN (pos := pos) (env := env) h.2
    unfold backTo at this ⊢
    simpa using this
theorem asgN {env : Env} : ∀ {es : List Expr}, es.all notStar = true → (assignEach es env).findIdx? (·.1) = none ∧ (assignEach es env).length = es.length
  | [], _ => ⟨rfl, rfl⟩
  | e :: es, h => by
    simp only [List.all_cons, Bool.and_eq_true] at h
    rw [asg1 h.1]
    obtain ⟨h1, h2⟩ := asgN (env := env) h.2
    refine ⟨?_, by simp [h2]⟩
    rw [List.findIdx?_cons]
    simp [h1]
theorem isTrue1 {e : Expr} {env : Env} (h : notTest e = true) : ∀ whole, isTrue e env whole = (do let v ← whole; standAt e.pos; holding [v] (truthy v)) := by
  intro whole
  cases e <;> first | rfl | cases h
/-- a test: by itself, or by its value -/
theorem Good.test {c : C} (g : Good Δ n c) (K : Cok Δ n S Γ X XW G) {e : Expr} (h : (chk c S (.T e) || (chk c S (.E e) && notTest e && lcOk S.ks c)) = true) : PT X e (rdT Γ XW G c) := by
  rcases (Bool.or_eq_true _ _).mp h with h | h
  · exact g S Γ X XW G K (.T e) h
  · simp only [Bool.and_eq_true] at h
    exact T_val (fq := Δ.fq) (by rw [K.Γks]; exact h.2) (pt_truth (g S Γ X XW G K (.E e) h.1.1) (isTrue1 h.1.2))
theorem ba2 {a b : Bool} (h : (a && b) = true) : a = true ∧ b = true := by simpa using h
end
section
variable {Δ : Ctx} {n : Nat}
theorem good_var (i : Nat) : Good Δ n (.var i) := by
  intro S Γ X XW G K m h
  simp only [chk] at h
  split at h
  · exact E_var (K.gks.trans K.Γks.symm) (K.name h)
  · obtain ⟨h1, h2, _⟩ := K.store (pos := _) h
    exact G_var h2 h1
  · cases h
theorem good_loc (i : Nat) : Good Δ n (.loc i) := by
  intro S Γ X XW G K m h
  simp only [chk] at h
  split at h
  · exact E_loc (K.gks.trans K.Γks.symm) (K.name h)
  · cases h
theorem good_scr (i : Nat) : Good Δ n (.scr i) := by
  intro S Γ X XW G K m h
  simp only [chk] at h
  split at h
  · exact E_scr (K.gks.trans K.Γks.symm) (K.name h)
  · cases h
theorem good_cst (d : PB.D) : Good Δ n (.cst d) := by
  intro S Γ X XW G K m h
  simp only [chk] at h
  split at h
  · cases of_decide_eq_true h; exact E_cst rfl pe_int
  · cases of_decide_eq_true h; exact E_cst rfl pe_bl
  · cases of_decide_eq_true h; exact E_cst rfl pe_str
  · exact E_cst rfl pe_non
  · cases h
theorem ev_cons_len {G : Gx} : ∀ {a : C} {e e' : En} {l : List PB.D}, ev a G e = some (.ok (.lst l) e') → isTgs a = true → l.length = consN a := by
  intro a
  induction a with
  | nil => intro e e' l h _; simp only [ev] at h; cases h; rfl
  | cons x y ihx ihy =>
    intro e e' l h ht
    simp only [ev] at h
    unfold bnd at h
    split at h
    · cases h
    · rename_i d1 e1 q1
      try dsimp only at h
      split at h
      · cases h
      · rename_i d2 e2 q2
        try dsimp only at h
        split at h
        · cases h
          simp only [List.length_cons, consN]
          rw [ihy q2 ht]
        · cases h
      · cases h
    · cases h
  | _ => intro e e' l h ht; cases ht
theorem chk_tgs : ∀ {a : C} {S : Sx} {es : List Expr}, chk a S (.A es) = true → isTgs a = true := by
  intro a
  induction a with
  | nil => intro S es h; rfl
  | cons x y ihx ihy =>
    intro S es h
    simp only [chk] at h
    split at h
    · rename_i q; cases q
      exact ihy (ba2 (ba2 h).1).2
    · rename_i q; cases q
    · rename_i q; cases q
    · cases h
  | var i => intro S es h; simp [chk] at h
  | loc i => intro S es h; simp [chk] at h
  | lc2 => intro S es h; simp [chk, lc2M] at h
  | lamcall => intro S es h; simp [chk, lamM] at h
  | scrCut => intro S es h; simp [chk, cutM] at h
  | mmd => intro S es h; simp [chk, mmdM] at h
  | scr i => intro S es h; simp [chk] at h
  | cst d => intro S es h; simp [chk] at h
  | _ => intro S es h; simp [chk] at h
theorem lnOk {G : Gx} {a : C} (h1 : isTgs a = true) (h2 : consN a ≤ 1000) : ∀ l e e', ev a G e = some (.ok (.lst l) e') → l.length ≤ sizeLine := fun l e e' q => by
  rw [ev_cons_len q h1]
  have := sizeLine_eq
  omega
theorem good_tup {a : C} (ga : Good Δ n a) : Good Δ n (.tup a) := by
  intro S Γ X XW G K m h
  simp only [chk] at h
  split at h
  · obtain ⟨h1, h2⟩ := ba2 h
    exact E_tup (es := []) (lnOk (chk_tgs h1) (of_decide_eq_true h2)) (pe_tup (ga S Γ X XW G K _ h1))
  · obtain ⟨h, h5⟩ := ba2 h
    obtain ⟨h, h4⟩ := ba2 h
    obtain ⟨h, h3⟩ := ba2 h
    obtain ⟨h1, h2⟩ := ba2 h
    obtain ⟨q1, q2⟩ := asgN (env := X.env) h4
    exact G_tup (fun l e e' q => asgT_len h2 q) (pg_tup (K.calm h3) (ga S Γ X XW G K _ h1) (q2.trans (of_decide_eq_true h5)) q1)
  · cases h
theorem good_lst {a : C} (ga : Good Δ n a) : Good Δ n (.lst a) := by
  intro S Γ X XW G K m h
  simp only [chk] at h
  split at h
  · obtain ⟨h1, h2⟩ := ba2 h
    exact E_lst (es := []) (lnOk (chk_tgs h1) (of_decide_eq_true h2)) (pe_lst (ga S Γ X XW G K _ h1))
  · cases h
theorem good_disp {ks : List Str} {a : C} (ga : Good Δ n a) : Good Δ n (.disp ks a) := by
  intro S Γ X XW G K m h
  simp only [chk] at h
  split at h
  · obtain ⟨h, h10⟩ := ba2 h
    obtain ⟨h, h9⟩ := ba2 h
    obtain ⟨h, h8⟩ := ba2 h
    obtain ⟨h, h7⟩ := ba2 h
    obtain ⟨h, h6⟩ := ba2 h
    obtain ⟨h, h5⟩ := ba2 h
    obtain ⟨h, h4⟩ := ba2 h
    obtain ⟨h, h3⟩ := ba2 h
    obtain ⟨h1, h2⟩ := ba2 h
    have e8 := of_decide_eq_true h8
    have e9 := of_decide_eq_true h9
    have e5 := of_decide_eq_true h5
    refine E_disp (of_decide_eq_true h10) h2 h3 (of_decide_eq_true h4) e5 (pe_disp (ga S Γ X XW G K _ h1 _) h7 (by rw [e8, e9]) (fun z => ?_) (by rw [e8]; exact e5))
    rw [z] at e8
    cases ks with
    | nil => cases h6
    | cons => cases e8
  · cases h
theorem good_dnew (t : Bool) : Good Δ n (.dnew t) := by
  intro S Γ X XW G K m h
  simp only [chk] at h
  split at h
  · cases t
    · exact E_dnewK pe_dnewK
    · exact E_dnewT pe_dnewT
  · cases h
theorem good_neg {a : C} (ga : Good Δ n a) : Good Δ n (.neg a) := by
  intro S Γ X XW G K m h
  simp only [chk] at h
  split at h
  · obtain ⟨h1, h2⟩ := ba2 h
    exact E_neg (by simpa using h2) (pe_un un_neg (ga S Γ X XW G K _ h1))
  · cases h
theorem good_not {a : C} (ga : Good Δ n a) : Good Δ n (.not a) := by
  intro S Γ X XW G K m h
  simp only [chk] at h
  split at h
  · obtain ⟨h1, h2⟩ := ba2 h
    exact E_not (by rw [K.Γks]; exact h2) (pe_notT (ga S Γ X XW G K _ h1))
  · exact T_not (pt_not (ga.test K h))
  · cases h
theorem good_and {a b : C} (ga : Good Δ n a) (gb : Good Δ n b) : Good Δ n (.and a b) := by
  intro S Γ X XW G K m h
  have V : ∀ {ea eb : Expr} {es : List Expr} {pos : Pos}, (chk a S (.E ea) && (match es with | [] => chk b S (.E eb) | e :: r => chk b S (.V .And (eb :: e :: r)))) = true → PE X (.BoolOp .And (ea :: eb :: es) pos) (rdE Γ Δ.fq XW G (.and a b)) := fun {ea eb es pos} h => by
    obtain ⟨h1, h2⟩ := ba2 h
    refine E_and (pe_andT (ga S Γ X XW G K _ h1) ?_)
    cases es with
    | nil => exact pe_one (gb S Γ X XW G K _ h2)
    | cons e r => exact gb S Γ X XW G K _ h2 pos
  have W : ∀ {ea eb : Expr} {es : List Expr} {pos : Pos}, ((chk a S (.T ea) || (chk a S (.E ea) && notTest ea && lcOk S.ks a)) && (match es with | [] => chk b S (.T eb) || (chk b S (.E eb) && notTest eb && lcOk S.ks b) | e :: r => chk b S (.W .And (eb :: e :: r)))) = true →
      PW X (.BoolOp .And (ea :: eb :: es) pos) (rdT Γ XW G (.and a b)) := fun {ea eb es pos} h => by
    obtain ⟨h1, h2⟩ := ba2 h
    refine T_and (pw_and (ga.test K h1) ?_)
    cases es with
    | nil => exact pw_and1 (gb.test K h2)
    | cons e r => exact gb S Γ X XW G K _ h2 pos
  simp only [chk] at h
  split at h
  · exact V h
  · exact fun pos => V h
  · exact (W h).pt
  · exact fun pos => W h
  · cases h
theorem good_or {a b : C} (ga : Good Δ n a) (gb : Good Δ n b) : Good Δ n (.or a b) := by
  intro S Γ X XW G K m h
  have V : ∀ {ea eb : Expr} {es : List Expr} {pos : Pos}, (chk a S (.E ea) && (match es with | [] => chk b S (.E eb) | e :: r => chk b S (.V .Or (eb :: e :: r)))) = true → PE X (.BoolOp .Or (ea :: eb :: es) pos) (rdE Γ Δ.fq XW G (.or a b)) := fun {ea eb es pos} h => by
    obtain ⟨h1, h2⟩ := ba2 h
    refine E_or (pe_orT (ga S Γ X XW G K _ h1) ?_)
    cases es with
    | nil => exact pe_one (gb S Γ X XW G K _ h2)
    | cons e r => exact gb S Γ X XW G K _ h2 pos
  have W : ∀ {ea eb : Expr} {es : List Expr} {pos : Pos}, ((chk a S (.T ea) || (chk a S (.E ea) && notTest ea && lcOk S.ks a)) && (match es with | [] => chk b S (.T eb) || (chk b S (.E eb) && notTest eb && lcOk S.ks b) | e :: r => chk b S (.W .Or (eb :: e :: r)))) = true →
      PW X (.BoolOp .Or (ea :: eb :: es) pos) (rdT Γ XW G (.or a b)) := fun {ea eb es pos} h => by
    obtain ⟨h1, h2⟩ := ba2 h
    refine T_or (pw_or (ga.test K h1) ?_)
    cases es with
    | nil => exact pw_or1 (gb.test K h2)
    | cons e r => exact gb S Γ X XW G K _ h2 pos
  simp only [chk] at h
  split at h
  · exact V h
  · exact fun pos => V h
  · exact (W h).pt
  · exact fun pos => W h
  · cases h
theorem good_ite {c a b : C} (gc : Good Δ n c) (ga : Good Δ n a) (gb : Good Δ n b) : Good Δ n (.ite c a b) := by
  intro S Γ X XW G K m h
  simp only [chk] at h
  split at h
  · obtain ⟨h, h3⟩ := ba2 h
    obtain ⟨h1, h2⟩ := ba2 h
    exact E_ite (pe_ifExp (gc.test K h1) (ga S Γ X XW G K _ h2) (gb S Γ X XW G K _ h3))
  · cases h
theorem good_idx {a b : C} (ga : Good Δ n a) (gb : Good Δ n b) : Good Δ n (.idx a b) := by
  intro S Γ X XW G K m h
  simp only [chk] at h
  split at h
  · rename_i ea eb pos
    obtain ⟨h, h4⟩ := ba2 h
    obtain ⟨h, h3⟩ := ba2 h
    obtain ⟨h1, h2⟩ := ba2 h
    have hp : PlainIx eb := fun o i => by
      cases eb <;> first | rfl | cases h4
    have := K.hu
    exact E_idx (by rw [K.Γks]; exact h3) (pe_ix (ix_plain (by omega)) (ga S Γ X XW G K _ h1) (gb S Γ X XW G K _ h2) hp)
  · cases h
theorem opR_of {o : O2} {o' : Operator} {X : Cx} (h : opE o o' = true) : OpR X (binaryOp o') (rO o) := by
  cases o <;> cases o' <;> first | cases h | skip
  · exact o_add
  · exact o_sub
  · exact o_mul
  · exact o_fdiv
  · exact o_mod
  · exact o_pow
  · exact o_shl
  · exact o_shr
  · exact o_band
  · exact o_bor
  · exact o_bxor
theorem cmR_of {o : O2} {o' : CmpOp} {X : Cx} (hu : X.A.units + 100 < cLine) (h : opC o o' = true) : OpR X (compareOp o') (rO o) := by
  cases o <;> cases o' <;> first | cases h | skip
  · exact o_lt
  · exact o_le
  · exact o_gt
  · exact o_ge
  · exact o_eq (by omega)
  · exact o_ne (by omega)
  · exact o_in (by omega)
  · exact o_notIn (by omega)
  · exact o_is
  · exact o_isNot
theorem cmp_bl {o : O2} {o' : CmpOp} {x y z : PB.D} (h : opC o o' = true) (q : op2 o x y = some z) : ∃ b, z = .bl b := by
  cases o <;> cases o' <;> first | cases h | skip
  all_goals (cases x <;> cases y <;> simp only [op2] at q <;> first | cases q | skip)
  all_goals first | exact ⟨_, rfl⟩ | (split at q <;> first | (cases q; exact ⟨_, rfl⟩) | cases q)
end
section
variable {X : Cx} {Γ : Gm} {fq : Nat → Bool} {XW : WX} {G : Gx} {a b : C} {ex : Expr}
theorem T_cmp {o : O2} (hb : ∀ x y z, op2 o x y = some z → ∃ k, z = .bl k) (la : lcOk Γ.ks a = true) (lb : lcOk Γ.ks b = true) (h : PT X ex (tTest (tOp (rO o) (rdE Γ fq XW G a) (rdE Γ fq XW G b)))) : PT X ex (rdT Γ XW G (.op o a b)) := PTimp h fun σ H Q q => by
  obtain ⟨F, e, E, w⟩ := q
  simp only [ev] at w
  refine rd_step E (Wt_bnd w) fun d1 e1 v H1 w1 k1 E1 r1 => ?_
  refine rd_step E1 ((Wt_bnd w1).imp (fun _ _ q => q) fun x e' q => XF.mono q k1) fun d2 e2 v2 H2 w2 k2 E2 r2 => ?_
  obtain ⟨x, f1, w2⟩ := Wt_bind w2
  obtain ⟨y, f2, w2⟩ := Wt_bind w2
  cases q : op2 o x y with
  | none => rw [q] at w2; exact w2.elim
  | some z =>
    rw [q] at w2
    obtain ⟨k, rfl⟩ := hb x y z q
    refine ⟨zt Γ F σ, x, y, .bl k, true, E2.ztH, (r1.1.mono k2).fin E2 la f1, r2.1.fin E2 lb f2, q, res_of E2 fun v H' kk E' r fr => ?_⟩
    obtain ⟨t, ht, w3⟩ := w2
    cases ht
    exact ⟨k, r, w3 H' ((k1.trans k2).trans kk) E'⟩
end
section
variable {Δ : Ctx} {n : Nat}
theorem good_op {o : O2} {a b : C} (ga : Good Δ n a) (gb : Good Δ n b) : Good Δ n (.op o a b) := by
  intro S Γ X XW G K m h
  simp only [chk] at h
  split at h
  · obtain ⟨h, h5⟩ := ba2 h
    obtain ⟨h, h4⟩ := ba2 h
    obtain ⟨h, h3⟩ := ba2 h
    obtain ⟨h1, h2⟩ := ba2 h
    exact E_op (f := fun _ _ => pure .none) (by rw [K.Γks]; exact h4) (by rw [K.Γks]; exact h5) (pe_op (opR_of h1) (ga S Γ X XW G K _ h2) (gb S Γ X XW G K _ h3))
  · obtain ⟨h, h6⟩ := ba2 h
    obtain ⟨h, h5⟩ := ba2 h
    obtain ⟨h, h4⟩ := ba2 h
    obtain ⟨h, h3⟩ := ba2 h
    obtain ⟨h1, h2⟩ := ba2 h
    exact E_op (f := fun _ _ => pure .none) (by rw [K.Γks]; exact h4) (by rw [K.Γks]; exact h5) (pe_cmpR (cmR_of K.hu h1) (ga S Γ X XW G K _ h2) (gb S Γ X XW G K _ h3) (by simpa using h6))
  · obtain ⟨h, h6⟩ := ba2 h
    obtain ⟨h, h5⟩ := ba2 h
    obtain ⟨h, h4⟩ := ba2 h
    obtain ⟨h, h3⟩ := ba2 h
    obtain ⟨h1, h2⟩ := ba2 h
    exact T_cmp (fq := Δ.fq) (fun x y z q => cmp_bl h1 q) (by rw [K.Γks]; exact h4) (by rw [K.Γks]; exact h5) (pt_cmpR (cmR_of K.hu h1) (ga S Γ X XW G K _ h2) (gb S Γ X XW G K _ h3) (by simpa using h6))
  · cases h
theorem good_slc {a lo hi : C} (ga : Good Δ n a) (gl : Good Δ n lo) (gh : Good Δ n hi) : Good Δ n (.slc a lo hi) := by
  intro S Γ X XW G K m h
  have part : ∀ {c : C} (gc : Good Δ n c) {o : Option Expr}, (match o with | none => isNoPart c | some e => chk c S (.E e) && !isLoc c) = true → PO X o (rdP Γ XW G c) := fun {c} gc {o} h => by
    cases o with
    | none =>
      cases c <;> first | exact PO_none | cases h
    | some e =>
      obtain ⟨h1, h2⟩ := ba2 h
      exact PO_some (fq := Δ.fq) (fun z => by subst z; simp [chk] at h1) (by simpa using h2) (gc S Γ X XW G K _ h1)
  simp only [chk] at h
  split at h
  · obtain ⟨h, h4⟩ := ba2 h
    obtain ⟨h, h3⟩ := ba2 h
    obtain ⟨h1, h2⟩ := ba2 h
    exact E_slc (by rw [K.Γks]; exact h2) (pe_slice sl_plain (ga S Γ X XW G K _ h1) (part gl h3) (part gh h4))
  · cases h
theorem good_nil : Good Δ n .nil := by
  intro S Γ X XW G K m h
  simp only [chk] at h
  split at h
  · exact A_nil pa_nil
  · exact Gs_nil pgs_nil
  · exact fun pos => pps_nil
  · cases h
theorem good_cons {a b : C} (ga : Good Δ n a) (gb : Good Δ n b) : Good Δ n (.cons a b) := by
  intro S Γ X XW G K m h
  simp only [chk] at h
  split at h
  · obtain ⟨h, h3⟩ := ba2 h
    obtain ⟨h1, h2⟩ := ba2 h
    exact A_cons (fq := Δ.fq) (pa_cons (ga S Γ X XW G K _ h1) (gb S Γ X XW G K _ h2) (star1 h3))
  · obtain ⟨h, h3⟩ := ba2 h
    obtain ⟨h1, h2⟩ := ba2 h
    exact Gs_cons (pgs_cons (ga S Γ X XW G K _ h1) (gb S Γ X XW G K _ h2) (by rw [asg1 h3] <;> rfl))
  · obtain ⟨h, h3⟩ := ba2 h
    obtain ⟨h1, h2⟩ := ba2 h
    refine fun pos => ?_
    unfold keyE at h1
    split at h1
    · cases of_decide_eq_true h1
      exact pps_cons pe_str (ga S Γ X XW G K _ h2) (gb S Γ X XW G K _ h3 pos)
    · cases h1
  · cases h
theorem good_call {f : Nat} {a : C} (ga : Good Δ n a) : Good Δ n (.call f a) := by
  intro S Γ X XW G K m h
  simp only [chk] at h
  split at h
  · rename_i x p es pos
    obtain ⟨h, h8⟩ := ba2 h
    obtain ⟨h, h7⟩ := ba2 h
    obtain ⟨h, h6⟩ := ba2 h
    obtain ⟨h, h5⟩ := ba2 h
    obtain ⟨h, h4⟩ := ba2 h
    obtain ⟨h, h3⟩ := ba2 h
    obtain ⟨h1, h2⟩ := ba2 h
    obtain ⟨ad, fd, ps, k1, k2, k3, k4⟩ := K.fns x f (of_decide_eq_true h1)
    have pa := ga S Γ X XW G K _ h6
    have gd : S.gdf f = true → X.A.guards = some [] := fun z => by
      rw [z] at h4
      exact K.gd (by simpa using h4)
    refine E_call K.ΓT K.ΓK K.ΓC (K.gks.trans K.Γks.symm) K.gcf (by rw [K.ginf]) (by rw [K.Δkk]; exact h5) ?_
    cases es with
    | nil =>
      have e0 : PE X (.Call (.Name x p) [] [] pos) (tCallG (spI Δ n f) XW tNil) := pe_callG0 k4 gd ((K.room h3).mono (by omega)) (K.gl h2) k1 k2 k3 K.tk (by simpa using h8)
      exact PEimp e0 fun σ H Q q => by
        have at' : isTgs a = true := chk_tgs h6
        cases a with
        | nil =>
          obtain ⟨F, e, E, w⟩ := q
          simp only [ev] at w
          obtain ⟨l, h1, h2⟩ := w
          cases h1
          exact h2 [] H Sp.refl E rfl
        | cons a b => simp [chk] at h6
        | _ => cases at'
    | cons e es =>
      simp only [List.all_cons, Bool.and_eq_true] at h7
      exact pe_callG k4 gd ((K.room h3).mono (by omega)) (K.gl h2) k1 k2 k3 K.tk pa (by simpa using h8) (star1 h7.1) (starN h7.2)
  · cases h
open RZ (ItzT iZipA pi_zipA) in
theorem good_bltI {f : Bi} {a : C} {S : Sx} {Γ : Gm} {X : Cx} {XW : WX} {G : Gx} (K : Cok Δ n S Γ X XW G) {tg : Expr} {x : Str} {p pos : Pos} {es : List Expr} (pa : PA X es (rdA Γ XW G a)) (hb : bltB S x = true) (h3 : es.all notStar = true) (h4 : lcsOk S.ks a = true) (h5 : lenG a = es.length)
    (h : (match f with
        | .range => decide (x = "range") && (decide (es.length = 1) || decide (es.length = 2) || decide (es.length = 3))
        | .enum => decide (x = "enumerate") && isTupT tg && noLocs a && decide (es.length = 1)
        | .zip => decide (x = "zip") && isTupT tg && noLocs a && decide (es.length = 2)
        | _ => false) = true) : PI X tg (.Call (.Name x p) es [] pos) (rdI Γ XW G (.blt f a)) := by
  obtain ⟨g1, g2⟩ := K.blt hb
  have hl : lcsOk Γ.ks a = true := by rw [K.Γks]; exact h4
  cases f <;> first | (cases h; done) | skip
  · obtain ⟨h1, h2⟩ := ba2 h
    cases of_decide_eq_true h1
    rcases (Bool.or_eq_true _ _).mp h2 with h2 | h2
    case inr =>
      obtain ⟨e, e2, e3, rfl⟩ := len3 (of_decide_eq_true h2)
      simp only [List.all_cons, Bool.and_eq_true] at h3
      exact I_range3 hl h5 (pi_range3 g1 g2 pa (star1 h3.1) (starN (es := [e2, e3]) (by simp [h3.2.1, h3.2.2.1])))
    rcases (Bool.or_eq_true _ _).mp h2 with h2 | h2
    · obtain ⟨e, rfl⟩ := len1 (of_decide_eq_true h2)
      simp only [List.all_cons, Bool.and_eq_true] at h3
      exact I_range1 hl h5 (pi_range1 g1 g2 pa (by rw [star1 h3.1] <;> rfl))
    · obtain ⟨e, e2, rfl⟩ := len2 (of_decide_eq_true h2)
      simp only [List.all_cons, Bool.and_eq_true] at h3
      exact I_range2 hl h5 (pi_range2 g1 g2 pa (by rw [star1 h3.1, star1 h3.2.1] <;> rfl) (by rw [star1 h3.2.1] <;> rfl))
  · obtain ⟨h, h4⟩ := ba2 h
    obtain ⟨h, h3'⟩ := ba2 h
    obtain ⟨h1, h2⟩ := ba2 h
    cases of_decide_eq_true h1
    obtain ⟨e, rfl⟩ := len1 (of_decide_eq_true h4)
    simp only [List.all_cons, Bool.and_eq_true] at h3
    cases tg <;> first | (cases h2; done) | skip
    exact I_enum h3' h5 (pi_enumS g1 g2 pa (star1 h3.1))
  · obtain ⟨h, h4⟩ := ba2 h
    obtain ⟨h, h3'⟩ := ba2 h
    obtain ⟨h1, h2⟩ := ba2 h
    cases of_decide_eq_true h1
    obtain ⟨e, e2, rfl⟩ := len2 (of_decide_eq_true h4)
    simp only [List.all_cons, Bool.and_eq_true] at h3
    cases tg <;> first | (cases h2; done) | skip
    exact I_zip h3' h5 (pi_zipA g1 g2 pa (star1 h3.1) (by rw [star1 h3.2.1] <;> rfl))
theorem good_blt {f : Bi} {a : C} (ga : Good Δ n a) : Good Δ n (.blt f a) := by
  intro S Γ X XW G K m h
  simp only [chk] at h
  split at h
  · rename_i x p e es pos
    obtain ⟨h, h7⟩ := ba2 h
    obtain ⟨h, h6⟩ := ba2 h
    obtain ⟨h, h5⟩ := ba2 h
    obtain ⟨h, h4⟩ := ba2 h
    obtain ⟨h, h3⟩ := ba2 h
    obtain ⟨h1, h2⟩ := ba2 h
    have pa := ga S Γ X XW G K _ h5
    obtain ⟨g1, g2⟩ := K.blt h2
    simp only [List.all_cons, Bool.and_eq_true] at h7
    have h1 := of_decide_eq_true h1
    have hc := K.calm h3
    refine E_blt (by rw [K.Γks]; exact h6) ?_
    cases f <;> simp only [bltName] at h1 <;> first | (cases h1; done) | skip
    all_goals (cases h1)
    · exact pe_callB b_len g1 g2 boot_len pa (by decide) (by decide) (star1 h7.1) (starN h7.2)
    · exact pe_callB (b_sum hc) g1 g2 boot_sum pa (by decide) (by decide) (star1 h7.1) (starN h7.2)
    · exact pe_callB (b_any hc) g1 g2 boot_any pa (by decide) (by decide) (star1 h7.1) (starN h7.2)
    · exact pe_callB (b_all hc) g1 g2 boot_all pa (by decide) (by decide) (star1 h7.1) (starN h7.2)
    · have := K.hu
      exact pe_callB (b_sorted (by omega)) g1 g2 boot_sorted pa (by decide) (by decide) (star1 h7.1) (starN h7.2)
    · exact pe_callTy b_tuple g1 g2 boot_tuple pa (by decide) (by decide) (star1 h7.1) (starN h7.2)
    · exact pe_callTy b_list g1 g2 boot_list pa (by decide) (by decide) (star1 h7.1) (starN h7.2)
    · exact pe_callTy b_int g1 g2 boot_int pa (by decide) (by decide) (star1 h7.1) (starN h7.2)
    · have := K.hu
      exact pe_callB (b_max hc (by omega)) g1 g2 boot_max pa (by decide) (by decide) (star1 h7.1) (starN h7.2)
    · have := K.hu
      exact pe_callB (b_min hc (by omega)) g1 g2 boot_min pa (by decide) (by decide) (star1 h7.1) (starN h7.2)
    · have hg := K.gd (by simpa using h4)
      have := K.hu
      exact pe_callB (b_repr hg (by omega)) g1 g2 boot_repr pa (by decide) (by decide) (star1 h7.1) (starN h7.2)
    · have := K.hu
      exact pe_callTy (b_dict hc (by omega)) g1 g2 boot_dict pa (by decide) (by decide) (star1 h7.1) (starN h7.2)
    · exact pe_callB b_abs g1 g2 boot_abs pa (by decide) (by decide) (star1 h7.1) (starN h7.2)
  · obtain ⟨h, h6⟩ := ba2 h
    obtain ⟨h, h5⟩ := ba2 h
    obtain ⟨h, h4⟩ := ba2 h
    obtain ⟨h, h3⟩ := ba2 h
    obtain ⟨h1, h2⟩ := ba2 h
    exact good_bltI K (ga S Γ X XW G K _ h2) h1 h3 h4 (of_decide_eq_true h5) h6
  · cases h
theorem good_raise {cls : Nat} {a : C} (ga : Good Δ n a) : Good Δ n (.raise cls a) := by
  intro S Γ X XW G K m h
  simp only [chk] at h
  split at h
  · rename_i x p e es pos pos2
    obtain ⟨h, h7⟩ := ba2 h
    obtain ⟨h, h6⟩ := ba2 h
    obtain ⟨h, h5⟩ := ba2 h
    obtain ⟨h, h4⟩ := ba2 h
    obtain ⟨h, htop⟩ := ba2 h
    obtain ⟨h, h3⟩ := ba2 h
    obtain ⟨h1, h2⟩ := ba2 h
    obtain ⟨cA, fI, fd, ps, k1, k2, k3, k4, k5, k6, k7⟩ := K.cls x cls (of_decide_eq_true h1)
    have pa := ga S Γ X XW G K _ h4
    simp only [List.all_cons, Bool.and_eq_true] at h5
    have tg := chk_tgs h4
    refine fun _ => S_raise (congrFun K.gxin cls) (by rw [K.ΓC]; exact k1) (fun l e e' q => by rw [ev_cons_len q tg]; have := of_decide_eq_true h7; omega) (ps_raise (K.calm h3) K.tk (pmk_oex k3 k4 k5 k6 ((K.roomT htop h3).mono (by omega)) k7 .nil (fun _ _ _ _ _ _ _ z => z.elim) (K.gl h2) k2 pa (by simpa using h6) (star1 h5.1) (starN h5.2)))
  · cases h
theorem good_isi {f : Bi} {a : C} (ga : Good Δ n a) : Good Δ n (.isi f a) := by
  intro S Γ X XW G K m h
  simp only [chk] at h
  split at h
  · rename_i x p e t pt pos
    obtain ⟨h, h7⟩ := ba2 h
    obtain ⟨h, h6⟩ := ba2 h
    obtain ⟨h, h5⟩ := ba2 h
    obtain ⟨h, h4⟩ := ba2 h
    obtain ⟨h, h3⟩ := ba2 h
    obtain ⟨h1, h2⟩ := ba2 h
    cases of_decide_eq_true h1
    obtain ⟨g1, g2⟩ := K.blt h3
    obtain ⟨g3, g4⟩ := K.blt h4
    obtain ⟨T, hT, rfl⟩ := Option.map_eq_some_iff.mp (of_decide_eq_true h2)
    have hb : bootBuiltins (Str.ofString T) = some (.type T) ∧ (Str.ofString T : Str) ≠ "__name__" ∧ ((Str.ofString T) == ("__debug__" : Str)) = false := by
      cases f <;> simp only [isiTy] at hT <;> first | (cases hT; done) | skip
      all_goals (cases hT; refine ⟨by decide +kernel, by decide +kernel, by decide +kernel⟩)
    have tT : PE X (.Name (Str.ofString T) pt) (tC (.ty T)) := pe_bltn g3 g4 hb.1 rfl hb.2.1 hb.2.2
    exact E_isi hT (by rw [K.Γks]; exact h5) (pe_callB call_isi g1 g2 boot_isinstance (pa_cons (ga S Γ X XW G K _ h6) (pa_cons tT pa_nil rfl) (star1 h7)) (by decide) (by decide) (star1 h7) rfl)
  · cases h
theorem good_lrng {t : Bool} {a : C} (ga : Good Δ n a) : Good Δ n (.lrng t a) := by
  intro S Γ X XW G K m h
  simp only [chk] at h
  split at h
  · rename_i f pf x px es p1 p2
    obtain ⟨h, h8⟩ := ba2 h
    obtain ⟨h, h7⟩ := ba2 h
    obtain ⟨h, h6⟩ := ba2 h
    obtain ⟨h, h5⟩ := ba2 h
    obtain ⟨h, h4⟩ := ba2 h
    obtain ⟨h, h3⟩ := ba2 h
    obtain ⟨h1, h2⟩ := ba2 h
    obtain ⟨g1, g2⟩ := K.blt h2
    obtain ⟨g3, g4⟩ := K.blt h4
    have pa := ga S Γ X XW G K _ h6
    have h1 := of_decide_eq_true h1
    cases of_decide_eq_true h3
    cases es with
    | nil =>
      cases h8
    | cons e es =>
      simp only [List.all_cons, Bool.and_eq_true] at h7
      have R := R_A (prg_A (p := px) (pos := p1) g3 g4 pa (star1 h7.1) (starN h7.2))
      cases t with
      | false => cases h1; exact E_lrngL (pe_listRg (K.calm h5) g1 g2 R rfl)
      | true => cases h1; exact E_lrngT (pe_tupRg (K.calm h5) g1 g2 R rfl)
  · cases h
end
end PB
set_option maxHeartbeats 4000000
/-! It: what the check says: comprehensions, walks, statements. -/
namespace PB
open PySem PySem.Spec PyProof.Rows L2
open RZ (ItzT iZipA pi_zipA)
theorem takes_noX {X : Cx} : Takes X noX := fun _ _ ⟨_, _, _, _, _, _, _, _, _, _, _, _, _, _, _, _, w⟩ => w.elim
section
variable {Δ : Ctx} {n : Nat} {S : Sx} {Γ : Gm} {X : Cx} {XW : WX} {G : Gx}
theorem Cok.blk (K : Cok Δ n S Γ X XW G) (s : Shared) (H : Hp) (scope : Scope) (cl : List (Str × Addr)) (ad : Addr) (fp : List Addr) : Cok Δ n (blkS S scope) Γ (X.blk s H scope (compEnvC scope cl ad X.env) fp) noX G where
  hN := K.hN
  nd := K.nd
  sc := by
    show relS scope X.env.scope = relS scope S.sc
    rw [K.sc]
  fn := fun x z => z
  calm := K.calm
  gd := K.gd
  hu := K.hu
  room := K.room
  roomT := fun z => by cases z
  cls := K.cls
  gxin := K.gxin
  clsK := K.clsK
  csub := K.csub
  mets := fun x f z => by cases z
  lamT := fun z => by cases z
  fns := K.fns
  glb := K.glb
  gks := K.gks
  Γks := K.Γks
  Γnp := K.Γnp
  ΓT := K.ΓT
  ΓK := K.ΓK
  ΔK := K.ΔK
  ΓC := K.ΓC
  gcf := K.gcf
  ginf := K.ginf
  Δkk := K.Δkk
  Δfq := K.Δfq
  xo := K.xo
  lam := K.lam
  tk := takes_noX
theorem ownOf_snd (S : Sx) (vs : List Nat) : (ownOf S vs).map (·.2) = vs := by
  unfold ownOf
  rw [List.map_map]
  exact List.map_id' vs
structure LcH (Γ : Gm) (X : Cx) (S : Sx) (vs : List Nat) (tg : C) (scope : Scope) (it : Expr) : Prop where
  calm : X.calm = true
  ok : BlkOk X.N X.env.scope scope (ownOf S vs)
  hv : vsOk Γ vs
  ht : ∀ i ∈ slotsG tg, i ∈ vs
  fold : ∀ x, foldedSetIterable it X.env x = pure x
theorem notSet_ok {it : Expr} {env : Env} (h : notSet it = true) : ∀ x, foldedSetIterable it env x = pure x := fun x => by
  cases it <;> first | rfl | cases h
theorem Cok.head (K : Cok Δ n S Γ X XW G) {vs : List Nat} {tg : C} {scope : Scope} {it : Expr} (h : lcHead S vs tg scope it = true) : LcH Γ X S vs tg scope it := by
  unfold lcHead at h
  obtain ⟨h, h5⟩ := ba2 h
  obtain ⟨h, h4⟩ := ba2 h
  obtain ⟨h, h3⟩ := ba2 h
  obtain ⟨h1, h2⟩ := ba2 h
  refine ⟨K.calm h1, by rw [K.hN, K.sc]; exact blkOk_by h2, fun i hi => ?_, fun i hi => ?_, notSet_ok h5⟩
  · obtain ⟨q1, q2⟩ := ba2 (List.all_eq_true.mp h3 i hi)
    exact ⟨by rw [K.Γks]; exact of_decide_eq_true q1, K.fre q2⟩
  · exact List.contains_iff_mem.mp (List.all_eq_true.mp h4 i hi)
theorem Good.iter {c : C} (g : Good Δ n c) (K : Cok Δ n S Γ X XW G) {tg e : Expr} (h : (chk c S (.I tg e) || (chk c S (.E e) && seqOk S c)) = true) : PI X tg e (rdI Γ XW G c) := by
  rcases (Bool.or_eq_true _ _).mp h with h | h
  · exact g S Γ X XW G K _ h
  · obtain ⟨h1, h2⟩ := ba2 h
    refine I_seq (fq := Δ.fq) (K.ΓK.trans K.ΔK) ?_ (g S Γ X XW G K _ h1)
    unfold seqOk at h2
    rcases (Bool.or_eq_true _ _).mp h2 with h2 | h2
    · exact .inl (by rw [K.Γks]; exact h2)
    · cases c <;> first | exact .inr ⟨_, rfl⟩ | cases h2
theorem rdT_yes {σ : L2.St} {H : Hp} {Q : Bool → Hp → Prop} (q : rdT Γ XW G (.cst (.bl true)) σ H Q) : Q true H := by
  obtain ⟨F, e, E, w⟩ := q
  simp only [ev] at w
  obtain ⟨t, h1, h2⟩ := w
  cases h1
  exact h2 H Sp.refl E
theorem PTsimp {ifs : List Expr} {t t' : TT} (h : PTs X ifs t) (i : ∀ σ H Q, t' σ H Q → t σ H Q) : PTs X ifs t' := ⟨fun pins s σ H Q I q => h.run pins s σ H Q I (i σ H Q q)⟩
theorem isYes_eq : ∀ {c : C}, isYes c = true → c = .cst (.bl true)
  | .cst (.bl true), _ => rfl
theorem Good.ifs {c : C} (g : Good Δ n c) (K : Cok Δ n S Γ X XW G) {ifs : List Expr} (h : (match ifs with | [] => isYes c | [ce] => chk c S (.T ce) || (chk c S (.E ce) && notTest ce && lcOk S.ks c) | _ => false) = true) : PTs X ifs (rdT Γ XW G c) := by
  match ifs, h with
  | [], h =>
    have := isYes_eq h
    subst this
    exact PTsimp pts_nil fun σ H Q q => rdT_yes q
  | [ce], h => exact pts_one (g.test K h)
end
section
variable {Δ : Ctx} {n : Nat}
theorem good_lc {vs : List Nat} {tg it cond elt : C} (gt : Good Δ n tg) (gi : Good Δ n it) (gc : Good Δ n cond) (ge : Good Δ n elt) : Good Δ n (.lc vs tg it cond elt) := by
  intro S Γ X XW G K m h
  simp only [chk] at h
  split at h
  · rename_i ee te ie ifs ia scope pos
    obtain ⟨h, h6⟩ := ba2 h
    obtain ⟨h, h5⟩ := ba2 h
    obtain ⟨h, h4⟩ := ba2 h
    obtain ⟨h, h3⟩ := ba2 h
    obtain ⟨h1, h2⟩ := ba2 h
    cases of_decide_eq_true h2
    have L := K.head h1
    have P := pe_lc (pos := pos) L.calm K.nd (gi.iter K h3) L.ok (fun s H ad cl fp => gt _ Γ _ noX G (K.blk s H scope cl ad fp) _ h4) (fun s H ad cl fp => gc.ifs (K.blk s H scope cl ad fp) h5)
      (fun s H ad cl fp => ge _ Γ _ noX G (K.blk s H scope cl ad fp) _ h6) L.fold
    rw [ownOf_snd] at P
    exact E_lc (K.gks.trans K.Γks.symm) L.hv L.ht P
  · rename_i x px ee te ie ifs ia scope p
    obtain ⟨h, h6⟩ := ba2 h
    obtain ⟨h, h5⟩ := ba2 h
    obtain ⟨h, h4⟩ := ba2 h
    obtain ⟨h, h3⟩ := ba2 h
    obtain ⟨h, h2⟩ := ba2 h
    obtain ⟨h0, h1⟩ := ba2 h
    cases of_decide_eq_true h2
    have L := K.head h1
    intro i pos hN hl hf
    rcases (Bool.or_eq_true _ _).mp h0 with h0 | h0
    · unfold swapB at h0
      obtain ⟨h0, q3⟩ := ba2 h0
      obtain ⟨q1, q2⟩ := ba2 h0
      have q1' : X.env.scope.names.lookup x = some .local := by rw [K.sc]; exact of_decide_eq_true q1
      refine ⟨fun pins s σ H D I hw => ?_⟩
      have P := ps_setLc (spos := pos) (py := px) L.calm K.nd hN q1' (sw_true I.ok.kind q1' q2 (by simpa using q3)) (gi.iter K h3) L.ok (fun s H ad cl fp => gt _ Γ _ noX G (K.blk s H scope cl ad fp) _ h4) (fun s H ad cl fp => gc.ifs (K.blk s H scope cl ad fp) h5)
        (fun s H ad cl fp => ge _ Γ _ noX G (K.blk s H scope cl ad fp) _ h6) L.fold
      rw [ownOf_snd] at P
      exact P.run pins s σ H D I (lc_read (K.gks.trans K.Γks.symm) L.hv L.ht hw)
    · have q1' : X.env.scope.names.lookup x = some .cell := by rw [K.sc]; exact of_decide_eq_true h0
      have P := pe_lc (pos := p) L.calm K.nd (gi.iter K h3) L.ok (fun s H ad cl fp => gt _ Γ _ noX G (K.blk s H scope cl ad fp) _ h4) (fun s H ad cl fp => gc.ifs (K.blk s H scope cl ad fp) h5)
        (fun s H ad cl fp => ge _ Γ _ noX G (K.blk s H scope cl ad fp) _ h6) L.fold
      rw [ownOf_snd] at P
      refine ps_set K.nd hN hl (E_lc (K.gks.trans K.Γks.symm) L.hv L.ht P) ?_ hf
      have kx : X.env.kindOf x = some .cell := q1'
      unfold swapsWith
      simp only [kx]
      cases (X.env.blockKind == ScopeKind.function) <;> rfl
  · cases h
structure Lc2H (vs vs1 : List Nat) (tg1 : C) (it1 : Expr) : Prop where
  hv1 : ∀ i ∈ vs1, i ∈ vs
  ht1 : ∀ i ∈ slotsG tg1, i ∈ vs1
  fold : ∀ env x, foldedSetIterable it1 env x = pure x
theorem lc2H {vs vs1 : List Nat} {tg1 : C} {it1 : Expr} (h : (vs1.all (fun i => vs.contains i) && (slotsG tg1).all (fun i => vs1.contains i) && notSet it1) = true) : Lc2H vs vs1 tg1 it1 := by
  obtain ⟨h, h3⟩ := ba2 h
  obtain ⟨h1, h2⟩ := ba2 h
  exact ⟨fun i hi => List.contains_iff_mem.mp (List.all_eq_true.mp h1 i hi), fun i hi => List.contains_iff_mem.mp (List.all_eq_true.mp h2 i hi), fun env => notSet_ok h3⟩
theorem Good.ifo {Δ : Ctx} {n : Nat} {S : Sx} {Γ : Gm} {X : Cx} {XW : WX} {G : Gx} {c : C} (g : Good Δ n c) (K : Cok Δ n S Γ X XW G) {o : Option Expr} (h : (match o with | none => isYes c | some ce => chk c S (.T ce) || (chk c S (.E ce) && notTest ce && lcOk S.ks c)) = true) : PTs X o.toList (rdT Γ XW G c) := by
  cases o with
  | none => exact g.ifs K (ifs := []) h
  | some ce => exact g.ifs K (ifs := [ce]) h
theorem good_lc2 {vs vs1 : List Nat} {tg it cond tg1 it1 cond1 elt : C} (gt : Good Δ n tg) (gi : Good Δ n it) (gc : Good Δ n cond) (gt1 : Good Δ n tg1) (gi1 : Good Δ n it1) (gc1 : Good Δ n cond1) (ge : Good Δ n elt) : Good Δ n (.lc2 vs vs1 tg it cond tg1 it1 cond1 elt) := by
  intro S Γ X XW G K m h
  simp only [chk] at h
  split at h
  · rename_i w r hm
    obtain ⟨h, r5⟩ := ba2 h
    obtain ⟨h, r4⟩ := ba2 h
    obtain ⟨h, r3⟩ := ba2 h
    obtain ⟨h, r1⟩ := ba2 h
    obtain ⟨h, h6⟩ := ba2 h
    obtain ⟨h, h5⟩ := ba2 h
    obtain ⟨h, h4⟩ := ba2 h
    obtain ⟨h, h3⟩ := ba2 h
    obtain ⟨h0, h1⟩ := ba2 h
    have L := K.head h1
    have L1 := lc2H r1
    have P := fun pos => pe_lc2 (vs1 := vs1) (pos := pos) L.calm K.nd (gi.iter K h3) L.ok (by rw [ownOf_snd]; exact L1.hv1) (fun s H ad cl fp => gt _ Γ _ noX G (K.blk s H r.scope cl ad fp) _ h4) (fun s H ad cl fp => gc.ifo (K.blk s H r.scope cl ad fp) h5)
      (fun s H ad cl fp => gi1.iter (K.blk s H r.scope cl ad fp) r3) (fun s H ad cl fp => gt1 _ Γ _ noX G (K.blk s H r.scope cl ad fp) _ r4) (fun s H ad cl fp => gc1.ifo (K.blk s H r.scope cl ad fp) r5)
      (fun s H ad cl fp => ge _ Γ _ noX G (K.blk s H r.scope cl ad fp) _ h6) L.fold L1.fold
    rw [ownOf_snd] at P
    cases m with
    | E e =>
      obtain ⟨r', q1, q2⟩ := Option.map_eq_some_iff.mp hm
      cases q2
      rw [lc2E_eq q1]
      exact E_lc2 (K.gks.trans K.Γks.symm) L.hv L.ht L1.hv1 L1.ht1 (P _)
    | N x px e =>
      obtain ⟨r', q1, q2⟩ := Option.map_eq_some_iff.mp hm
      cases q2
      rw [lc2E_eq q1]
      intro i pos hN hl hf
      rcases (Bool.or_eq_true _ _).mp h0 with h0 | h0
      · unfold swapB at h0
        obtain ⟨h0, q3⟩ := ba2 h0
        obtain ⟨q1, q2⟩ := ba2 h0
        have q1' : X.env.scope.names.lookup x = some .local := by rw [K.sc]; exact of_decide_eq_true q1
        refine ⟨fun pins s σ H D I hw => ?_⟩
        have P := ps_setLc2 (vs1 := vs1) (spos := pos) (py := px) L.calm K.nd hN q1' (sw_true I.ok.kind q1' q2 (by simpa using q3)) (gi.iter K h3) L.ok (by rw [ownOf_snd]; exact L1.hv1) (fun s H ad cl fp => gt _ Γ _ noX G (K.blk s H r.scope cl ad fp) _ h4) (fun s H ad cl fp => gc.ifo (K.blk s H r.scope cl ad fp) h5)
          (fun s H ad cl fp => gi1.iter (K.blk s H r.scope cl ad fp) r3) (fun s H ad cl fp => gt1 _ Γ _ noX G (K.blk s H r.scope cl ad fp) _ r4) (fun s H ad cl fp => gc1.ifo (K.blk s H r.scope cl ad fp) r5)
          (fun s H ad cl fp => ge _ Γ _ noX G (K.blk s H r.scope cl ad fp) _ h6) L.fold L1.fold
        rw [ownOf_snd] at P
        exact P.run pins s σ H D I (lc2_read (K.gks.trans K.Γks.symm) L.hv L.ht L1.hv1 L1.ht1 hw)
      · have q1' : X.env.scope.names.lookup x = some .cell := by rw [K.sc]; exact of_decide_eq_true h0
        refine ps_set K.nd hN hl (E_lc2 (K.gks.trans K.Γks.symm) L.hv L.ht L1.hv1 L1.ht1 (P _)) ?_ hf
        have kx : X.env.kindOf x = some .cell := q1'
        unfold swapsWith
        simp only [kx]
        cases (X.env.blockKind == ScopeKind.function) <;> rfl
    | _ => cases hm
  · cases h
theorem good_popAt {i : Nat} {a : C} (ga : Good Δ n a) : Good Δ n (.popAt i a) := by
  intro S Γ X XW G K m h
  simp only [chk] at h
  split at h
  · obtain ⟨h, h6⟩ := ba2 h
    obtain ⟨h, h5⟩ := ba2 h
    obtain ⟨h, h4⟩ := ba2 h
    obtain ⟨h, h3⟩ := ba2 h
    obtain ⟨h1, h2⟩ := ba2 h
    cases of_decide_eq_true h1
    refine E_popAt (K.gks.trans K.Γks.symm) (by rw [K.Γks]; exact of_decide_eq_true h3) ?_
    exact pe_bm PySem.F.plainAttrs_list PySem.F.slot_list_pop PySem.F.type_list_pop mt_popAt (K.name h2) (pa_cons (ga S Γ X XW G K _ h5) pa_nil (star1 h6)) rfl (by rw [star1 h6] <;> rfl) h4 (star1 h6) rfl
  · cases h
theorem good_popLast {i : Nat} : Good Δ n (.popLast i) := by
  intro S Γ X XW G K m h
  simp only [chk] at h
  split at h
  · obtain ⟨h, h4⟩ := ba2 h
    obtain ⟨h, h3⟩ := ba2 h
    obtain ⟨h1, h2⟩ := ba2 h
    cases of_decide_eq_true h1
    exact E_popLast (K.gks.trans K.Γks.symm) (by rw [K.Γks]; exact of_decide_eq_true h3) (pe_bm0 PySem.F.plainAttrs_list PySem.F.slot_list_pop PySem.F.type_list_pop mt_pop (K.name h2) rfl h4)
  · cases h
theorem good_scrLen {i : Nat} : Good Δ n (.scrLen i) := by
  intro S Γ X XW G K m h
  simp only [chk] at h
  split at h
  · obtain ⟨h, h3⟩ := ba2 h
    obtain ⟨h1, h2⟩ := ba2 h
    cases of_decide_eq_true h1
    obtain ⟨g1, g2⟩ := K.blt h2
    refine E_scrLen (K.ΓK.trans K.ΔK) (K.gks.trans K.Γks.symm) ?_
    refine PEimp (pe_callB call_len_seq g1 g2 boot_len (pa_cons (K.name h3) pa_nil) (by decide) (by decide) rfl rfl) fun σ H Q q => ?_
    obtain ⟨p, ys, e, sq, q⟩ := q
    exact ⟨_, e, p, ys, rfl, .inl sq, q⟩
  · cases h
theorem good_scrList {i : Nat} : Good Δ n (.scrList i) := by
  intro S Γ X XW G K m h
  simp only [chk] at h
  split at h
  · obtain ⟨h, h4⟩ := ba2 h
    obtain ⟨h, h3⟩ := ba2 h
    obtain ⟨h1, h2⟩ := ba2 h
    cases of_decide_eq_true h1
    obtain ⟨g1, g2⟩ := K.blt h2
    refine E_scrList (K.ΓK.trans K.ΔK) (K.gks.trans K.Γks.symm) ?_
    refine PEimp (pe_callTy call_list_of g1 g2 boot_list (pa_cons (K.name h3) pa_nil) (by decide) (by decide) rfl rfl) fun σ H Q q => ?_
    obtain ⟨p, ys, e, sq, q⟩ := q
    exact ⟨_, e, p, ys, rfl, .inl sq, q⟩
  · cases h
/-- the context of a lambda's body -/
theorem Cok.lmd (K : Cok Δ n S Γ X XW G) {scope : Scope} {A : Around} {outer : List Env} {s : Shared} {H : Hp} {E : XK} {f c' : Addr} (hr : Room (3 * n) (A.deeper (LamX.lamEnv X scope s.heap.objs.size f c'))) :
    Cok Δ n (lamS S scope) (lamG Γ) (LamX.lamCx X A outer s H E scope f c') (fun cls d _ H => E cls d H) { G with ks := brwd G.ks } where
  hN := K.hN
  nd := K.nd
  sc := rfl
  fn := fun x z => by cases z
  calm := fun _ => rfl
  gd := fun z => by cases z
  hu := by
    have := hr.un
    show (A.deeper (LamX.lamEnv X scope s.heap.objs.size f c')).units + 100 < cLine
    omega
  room := fun _ => hr
  roomT := fun z => by cases z
  cls := fun x c z => by cases z
  gxin := K.gxin
  clsK := fun x c z => by cases z
  csub := fun x c z => by cases z
  mets := fun x f z => by cases z
  lamT := fun z => by cases z
  fns := K.fns
  glb := K.glb
  gks := by
    show brwd G.ks = brwd S.ks
    rw [K.gks]
  Γks := by
    show brwd Γ.ks = brwd S.ks
    rw [K.Γks]
  Γnp := K.Γnp
  ΓT := K.ΓT
  ΓK := K.ΓK
  ΔK := K.ΔK
  ΓC := K.ΓC
  gcf := K.gcf
  ginf := K.ginf
  Δkk := K.Δkk
  Δfq := K.Δfq
  xo := fun i a dx ds z => by cases z
  lam := fun _ => rfl
  tk := takes_of rfl rfl rfl rfl
theorem good_lamcall {f : Nat} {b : C} (gb : Good Δ n b) : Good Δ n (.lamcall f b) := by
  intro S Γ X XW G K m h
  simp only [chk] at h
  split at h
  · rename_i x body scope hm
    obtain ⟨p, q, r, rfl⟩ := lamM_eq hm
    obtain ⟨h, h8⟩ := ba2 h
    obtain ⟨h, h7⟩ := ba2 h
    obtain ⟨h, h6⟩ := ba2 h
    obtain ⟨h, h5⟩ := ba2 h
    obtain ⟨h, h4⟩ := ba2 h
    obtain ⟨h, h3⟩ := ba2 h
    obtain ⟨h1, h2⟩ := ba2 h
    obtain ⟨hm, hk, lk, hcg, hb, Sg, hNg, hNd, hva, had, hac, hd, hc, hB, hone⟩ := K.mets x f (of_decide_eq_true h1)
    obtain ⟨c, P, TB, hcode, hmT, hu⟩ := K.lamT h3
    have L := LamX.lamS_by h6
    rw [← K.sc] at L
    refine PEimp (pe_lam (k := 3 * n) (T := Γ.T) (t := fun E => rdE (lamG Γ) Δ.fq (fun cls d _ H => E cls d H) { G with ks := brwd G.ks } b) (K.gl h2) hm hk lk hcg hb Sg hNg hva (met_gives hNd (fun f => rfl) fun s H => by refine hdA_of (cls := S.cls) (xin := S.xin) (cA := cAd Γ) ?_ ?_; exact K.clsK; exact hB) TB hcode hmT hu (K.roomT h4 h5) L rfl (fun _ _ _ _ _ => rfl)
      (fun A outer s H E f c' hr => gb _ _ _ _ _ (K.lmd hr) _ h7) (by simpa using h8) had hac) fun σ H Q q => lam_read K.gcf hd hc hB K.csub hone q
  · cases h
/-! statements -/
theorem good_body {c : C} (g : Good Δ n c) {S : Sx} {Γ : Gm} {X : Cx} {XW : WX} {G : Gx} (K : Cok Δ n S Γ X XW G) (hp : S.top = true → PassesOwn (model X.prog X.w) X.A X.env X.xe) {sts : List Stmt}
    (h : (match sts with | [s] => chk c S (.S s) | _ => chk c S (.Ss sts)) = true) : PSs X sts (rdSt Γ S.fr XW G c) := by
  match sts, h with
  | [s], h => exact pss_one (g S Γ X XW G K _ h hp)
  | [], h => exact g S Γ X XW G K (.Ss []) h hp
  | s :: s2 :: r, h => exact g S Γ X XW G K (.Ss (s :: s2 :: r)) h hp
theorem good_seq {a b : C} (ga : Good Δ n a) (gb : Good Δ n b) : Good Δ n (.seq a b) := by
  intro S Γ X XW G K m h
  simp only [chk] at h
  split at h
  · rename_i s s2 r
    obtain ⟨h1, h2⟩ := ba2 h
    intro hp
    refine S_seq (rest := []) (pss_cons (ga S Γ X XW G K _ h1 hp) ?_)
    cases r with
    | nil => exact pss_one (gb S Γ X XW G K _ h2 hp)
    | cons s3 r3 => exact gb S Γ X XW G K _ h2 hp
  · cases h
theorem good_pass : Good Δ n .pass := by
  intro S Γ X XW G K m h
  simp only [chk] at h
  split at h
  · exact fun _ => S_pass ps_pass
  · cases h
theorem good_brk : Good Δ n .brk := by
  intro S Γ X XW G K m h
  simp only [chk] at h
  split at h
  · exact fun _ => S_brk ps_break
  · cases h
theorem good_cnt : Good Δ n .cnt := by
  intro S Γ X XW G K m h
  simp only [chk] at h
  split at h
  · exact fun _ => S_cnt ps_continue
  · cases h
theorem sw_none {e : Expr} {l : Nat} {env : Env} {t : Option Expr} (h : isLcE e = false) : swapsWith e t l env = pure false := by
  cases e <;> first | rfl | cases h
theorem sw_sole {t e : Expr} {l : Nat} {env : Env} : swapsWithSole [t] e l env = swapsWith e (some t) l env := by
  simp only [swapsWithSole]
theorem good_drop {c : C} (gc : Good Δ n c) : Good Δ n (.drop c) := by
  intro S Γ X XW G K m h
  simp only [chk] at h
  split at h
  · obtain ⟨h1, h2⟩ := ba2 h
    exact fun _ => S_drop (fq := Δ.fq) (ps_expr (gc S Γ X XW G K _ h1) (sw_none (by simpa using h2)))
  · cases h
theorem good_ret {c : C} (gc : Good Δ n c) : Good Δ n (.ret c) := by
  intro S Γ X XW G K m h
  simp only [chk] at h
  split at h
  · obtain ⟨h1, h2⟩ := ba2 h
    exact fun _ => S_ret (fq := Δ.fq) (fun z => by rw [K.Δfq]; rw [z] at h2; simpa using h2) (ps_ret (gc S Γ X XW G K _ h1))
  · cases h
theorem good_retN : Good Δ n .retN := by
  intro S Γ X XW G K m h
  simp only [chk] at h
  split at h
  · exact fun _ => S_retN ps_retN
  · cases h
theorem good_retO {i : Nat} : Good Δ n (.retO i) := by
  intro S Γ X XW G K m h
  simp only [chk] at h
  split at h
  · obtain ⟨h1, h2⟩ := ba2 h
    exact fun _ => S_retO (K.gks.trans K.Γks.symm) (by rw [K.Γnp]; exact of_decide_eq_true h2) (ps_ret (K.name h1))
  · cases h
theorem good_ife {c a b : C} (gc : Good Δ n c) (ga : Good Δ n a) (gb : Good Δ n b) : Good Δ n (.ife c a b) := by
  intro S Γ X XW G K m h
  simp only [chk] at h
  split at h
  · rename_i ce sa sb pos
    obtain ⟨h, h3⟩ := ba2 h
    obtain ⟨h1, h2⟩ := ba2 h
    intro hp
    refine S_ife (ps_if (gc.test K h1) (good_body ga K hp h2) ?_)
    match sb, h3 with
    | [], h3 =>
      have : b = .pass := by
        cases b <;> first | rfl | cases h3
      subst this
      exact PSsimp pss_nil fun D σ H q => by
        obtain ⟨F, e, E, w⟩ := q
        exact w σ H Stp.refl E
    | [s], h3 => exact pss_one (gb S Γ X XW G K _ h3 hp)
    | s :: s2 :: r, h3 => exact gb S Γ X XW G K _ h3 hp
  · cases h
theorem good_whl {c b : C} (gc : Good Δ n c) (gb : Good Δ n b) : Good Δ n (.whl c b) := by
  intro S Γ X XW G K m h
  simp only [chk] at h
  split at h
  · obtain ⟨h, h3⟩ := ba2 h
    obtain ⟨h1, h2⟩ := ba2 h
    exact fun hp => S_whl (ps_while (hp h1) (gc.test K h2) (good_body gb K hp h3))
  · cases h
theorem good_fr {tg it b : C} (gt : Good Δ n tg) (gi : Good Δ n it) (gb : Good Δ n b) : Good Δ n (.fr tg it b) := by
  intro S Γ X XW G K m h
  simp only [chk] at h
  split at h
  · obtain ⟨h, h6⟩ := ba2 h
    obtain ⟨h, h5⟩ := ba2 h
    obtain ⟨h, h4⟩ := ba2 h
    obtain ⟨h, h3⟩ := ba2 h
    obtain ⟨h1, h2⟩ := ba2 h
    exact fun hp => S_for (K.gks.trans K.Γks.symm) (ps_for (hp h1) (K.calm h2) (gi.iter K h3) (gt S Γ X XW G K _ h4) (good_body gb K hp h6) (notSet_ok h5))
  · cases h
theorem sw_no {S : Sx} {Γ : Gm} {X : Cx} {XW : WX} {G : Gx} (K : Cok Δ n S Γ X XW G) {es : List Expr} {k : Nat} {p : Pos} {e : Expr} (h : swNo S es e = true) : swappedStores [.Tuple es k p] e X.env = pure none := by
  cases e <;> first | rfl | (cases h; done) | skip
  rename_i vs k2 p2
  refine sw_none2 ?_
  have ek : ∀ id, X.env.kindOf id = S.sc.names.lookup id := fun id => by rw [← K.sc]; rfl
  rcases (Bool.or_eq_true _ _).mp h with h | h
  · left
    simp only [ek]
    exact h
  · exact .inr h
theorem good_asg {t c : C} (gt : Good Δ n t) (gc : Good Δ n c) : Good Δ n (.asg t c) := by
  intro S Γ X XW G K m h
  simp only [chk] at h
  split at h
  · rename_i x px e pos
    obtain ⟨h1, h2⟩ := ba2 h
    have hks := K.gks.trans K.Γks.symm
    have st : ∀ {i : Nat}, stOk S i x = true → PS X (.Assign [.Name x px] e pos) (tAsg (rdE Γ Δ.fq XW G c) (gName i)) := fun {i} q => by
      obtain ⟨_, _, hN, hl, hf⟩ := K.store (pos := px) q
      rcases (Bool.or_eq_true _ _).mp h2 with h2 | h2
      · exact gc S Γ X XW G K _ h2 i pos hN hl hf
      · obtain ⟨h3, h4⟩ := ba2 h2
        exact ps_set K.nd hN hl (gc S Γ X XW G K _ h3) (sw_none (by simpa using h4)) hf
    intro hp
    split at h1
    · rename_i i
      obtain ⟨q1, q2⟩ := ba2 h1
      obtain ⟨_, fr, _⟩ := K.store (pos := px) q1
      exact PSimp (st q1) fun D σ H q => rdE_imp (asg_read hks (fun i z => by cases z) q) fun v H1 q => var_read fr q
    · rename_i i
      obtain ⟨q, q4⟩ := ba2 h1
      obtain ⟨q, q3⟩ := ba2 q
      obtain ⟨q1, q2⟩ := ba2 q
      exact PSimp (st q1) fun D σ H q => asgO_read hks (by rw [K.Γnp]; exact of_decide_eq_true q3) (by rw [K.Δfq]; exact q4) q
    · cases h1
  · rename_i es k p e pos
    obtain ⟨h, h5⟩ := ba2 h
    obtain ⟨h, h4⟩ := ba2 h
    obtain ⟨h, h3⟩ := ba2 h
    obtain ⟨h1, h2⟩ := ba2 h
    intro hp
    refine S_asg (fq := Δ.fq) (K.gks.trans K.Γks.symm) (fun i z => by subst z; cases h1) (ps_asg (gc S Γ X XW G K _ h3) (gt S Γ X XW G K _ h2) ?_ ?_ rfl)
    · rw [sw_sole]
      exact sw_none (by simpa using h5)
    · exact sw_no K h4
  · cases h
theorem TAimp {Δ : Ctx} {Γ : Gm} {XW : WX} {G : Gx} {a b : C} {σ : L2.St} {H : Hp} {Q Q' : List V → Hp → Prop} (h : tCons (rdE Γ Δ.fq XW G a) (tCons (rdE Γ Δ.fq XW G b) tNil) σ H Q) (i : ∀ vs H1, Q vs H1 → Q' vs H1) : tCons (rdE Γ Δ.fq XW G a) (tCons (rdE Γ Δ.fq XW G b) tNil) σ H Q' :=
  rdE_imp h fun v H1 q => rdE_imp q fun w H2 q2 => i _ _ q2
theorem nb13 {b : Bool} (h : (!b) = true) : b = false := by
  cases b <;> first | rfl | cases h
theorem good_par {i j : Nat} {a b : C} (ga : Good Δ n a) (gb : Good Δ n b) : Good Δ n (.par i j a b) := by
  intro S Γ X XW G K m h
  simp only [chk] at h
  split at h
  · rename_i x px y py k p ea eb k2 p2 pos
    obtain ⟨h, h12⟩ := ba2 h
    obtain ⟨h, h11⟩ := ba2 h
    obtain ⟨h, h10⟩ := ba2 h
    obtain ⟨h, h9⟩ := ba2 h
    obtain ⟨h, h8⟩ := ba2 h
    obtain ⟨h, h7⟩ := ba2 h
    obtain ⟨h, h6⟩ := ba2 h
    obtain ⟨h, h5⟩ := ba2 h
    obtain ⟨h, h4⟩ := ba2 h
    obtain ⟨h, h3⟩ := ba2 h
    obtain ⟨h1, h2⟩ := ba2 h
    obtain ⟨gi, fi, hNi, li, ni⟩ := K.store (pos := px) h1
    obtain ⟨gj, fj, hNj, lj, nj⟩ := K.store (pos := py) h2
    have tk : ∀ {i : Nat} {c : C}, Fre Γ i → tkB S i c = true → tkOk Γ Δ.fq i c := fun {i c} fi q => by
      unfold tkB at q
      rcases (Bool.or_eq_true _ _).mp q with q | q
      · exact .inl ⟨by rw [K.Γks]; exact of_decide_eq_true q, fi⟩
      · obtain ⟨q, q3⟩ := ba2 q
        obtain ⟨q1, q2⟩ := ba2 q
        exact .inr ⟨by rw [K.Γks]; exact of_decide_eq_true q1, by rw [K.Γnp]; exact of_decide_eq_true q2, by rw [K.Δfq]; exact q3⟩
    have st : ∀ e : Expr, notStar e = true → isStar e = false := fun e q => by cases e <;> first | rfl | cases q
    have pa : PA X [ea, eb] (tCons (rdE Γ Δ.fq XW G a) (tCons (rdE Γ Δ.fq XW G b) tNil)) := pa_cons (ga S Γ X XW G K _ h7) (pa_cons (gb S Γ X XW G K _ h8) pa_nil (star1 h10)) (star1 h9)
    have rd : ∀ {D : Ends} {σ : L2.St} {H : Hp}, rdSt Γ S.fr XW G (.par i j a b) D σ H → tPar i j (tCons (rdE Γ Δ.fq XW G a) (tCons (rdE Γ Δ.fq XW G b) tNil)) D σ H := fun q => par_read (K.gks.trans K.Γks.symm) (of_decide_eq_true h3) (tk fi h5) (tk fj h6) q
    intro hp
    rcases (Bool.or_eq_true _ _).mp h12 with h12 | h12
    · obtain ⟨h12, h14⟩ := ba2 h12
      obtain ⟨h12, h13⟩ := ba2 h12
      obtain ⟨h, h12⟩ := ba2 h12
      obtain ⟨q1, q2⟩ := ba2 h
      obtain ⟨q3, q4⟩ := ba2 h12
      have lx : X.env.scope.names.lookup x = some .local := by rw [K.sc]; exact of_decide_eq_true q1
      have ly : X.env.scope.names.lookup y = some .local := by rw [K.sc]; exact of_decide_eq_true q3
      refine ⟨fun pins s σ H D I hw => ?_⟩
      have P := ps_par (pos := pos) (pt := p) (kt := k) (k2 := k2) (pt2 := p2) (K.calm h11) K.nd hNi hNj (of_decide_eq_true h3) lx ly pa (sw_two I.ok.kind lx ly q4 (of_decide_eq_true h4) (st _ h9) (st _ h10) (nb13 h13) (nb13 h14)) (by rw [sw_sole] <;> rfl)
      exact P.run pins s σ H D I (rd hw)
    · have P : PS X (.Assign [.Tuple [.Name x px, .Name y py] k p] (.Tuple [ea, eb] k2 p2) pos) (tAsg (tTup (tCons (rdE Γ Δ.fq XW G a) (tCons (rdE Γ Δ.fq XW G b) tNil))) (gTup X.K 2 (gCons (gName i) (gCons (gName j) gNil)))) :=
        ps_asg (pe_tup pa) (pg_tup (K.calm h11) (pgs_cons gi (pgs_cons gj pgs_nil rfl) rfl) rfl rfl) (by rw [sw_sole] <;> rfl) (sw_no K h12) rfl
      refine PSimp P fun D σ H q => ?_
      have q2 := rd (rdSt_ex q)
      show tCons (rdE Γ Δ.fq XW G a) (tCons (rdE Γ Δ.fq XW G b) tNil) σ H (fun xs H1 => xs.length ≤ sizeLine ∧ ∀ p, H1 p = none → gTup X.K 2 (gCons (gName i) (gCons (gName j) gNil)) (.ref p) σ (upd H1 p (.tup xs)) D.nx)
      refine TAimp q2 fun vs H1 ⟨v, w, hv, hn⟩ => ?_
      subst hv
      refine ⟨(show 2 ≤ sizeLine by decide), fun q hq => ⟨q, [v, w], rfl, .of upd_same, rfl, v, [w], rfl, w, [], rfl, rfl, hn q _ hq⟩⟩
  · cases h
theorem good_par3 {i j l : Nat} {a b c : C} (ga : Good Δ n a) (gb : Good Δ n b) (gc : Good Δ n c) : Good Δ n (.par3 i j l a b c) := by
  intro S Γ X XW G K m h
  simp only [chk] at h
  split at h
  · rename_i x px y py z pz k p ea eb ec k2 p2 pos
    simp only [Bool.and_eq_true, decide_eq_true_eq] at h
    obtain ⟨⟨⟨⟨⟨⟨⟨⟨⟨⟨⟨⟨⟨s1, s2⟩, s3⟩, d1⟩, d2⟩, d3⟩, ⟨n1, n2⟩, n3⟩, ⟨k1, k2'⟩, k3⟩, ⟨c1, c2⟩, c3⟩, ⟨t1, t2⟩, t3⟩, hc⟩, ⟨p1, p2'⟩, p3⟩, f1⟩, f2⟩ := h
    obtain ⟨_, fi, hNi, _, _⟩ := K.store (pos := px) s1
    obtain ⟨_, fj, hNj, _, _⟩ := K.store (pos := py) s2
    obtain ⟨_, fl, hNl, _, _⟩ := K.store (pos := pz) s3
    obtain ⟨q1, q2⟩ := ba2 p1
    obtain ⟨q3, q4⟩ := ba2 p2'
    obtain ⟨q5, q6⟩ := ba2 p3
    have lx : X.env.scope.names.lookup x = some .local := by rw [K.sc]; exact of_decide_eq_true q1
    have ly : X.env.scope.names.lookup y = some .local := by rw [K.sc]; exact of_decide_eq_true q3
    have lz : X.env.scope.names.lookup z = some .local := by rw [K.sc]; exact of_decide_eq_true q5
    have st : ∀ e : Expr, notStar e = true → isStar e = false := fun e q => by cases e <;> first | rfl | cases q
    have pa : PA X [ea, eb, ec] (tCons (rdE Γ Δ.fq XW G a) (tCons (rdE Γ Δ.fq XW G b) (tCons (rdE Γ Δ.fq XW G c) tNil))) := pa_cons (ga S Γ X XW G K _ c1) (pa_cons (gb S Γ X XW G K _ c2) (pa_cons (gc S Γ X XW G K _ c3) pa_nil (star1 t3)) (star1 t2)) (star1 t1)
    intro hp
    refine ⟨fun pins s σ H D I hw => ?_⟩
    have P := ps_par3 (pos := pos) (pt := p) (kt := k) (k2 := k2) (pt2 := p2) (K.calm hc) K.nd hNi hNj hNl d1 d2 d3 lx ly lz pa (sw_three I.ok.kind lx ly lz q4 q6 n1 n2 n3 (st _ t1) (st _ t2) (st _ t3) (nb13 f1) (nb13 f2)) (by rw [sw_sole] <;> rfl)
    exact P.run pins s σ H D I (par3_read (K.gks.trans K.Γks.symm) (by rw [K.Γks]; exact k1) (by rw [K.Γks]; exact k2') (by rw [K.Γks]; exact k3) fi fj fl hw)
  · cases h
theorem good_app {i : Nat} {c : C} (gc : Good Δ n c) : Good Δ n (.app i c) := by
  intro S Γ X XW G K m h
  simp only [chk] at h
  split at h
  · obtain ⟨h, h6⟩ := ba2 h
    obtain ⟨h, h5⟩ := ba2 h
    obtain ⟨h, h4⟩ := ba2 h
    obtain ⟨h, h3⟩ := ba2 h
    obtain ⟨h1, h2⟩ := ba2 h
    cases of_decide_eq_true h1
    intro hp
    refine S_app (fq := Δ.fq) (K.gks.trans K.Γks.symm) (by rw [K.Γks]; exact of_decide_eq_true h3) ?_
    exact ps_expr (pe_bm PySem.F.plainAttrs_list PySem.F.slot_list_append PySem.F.type_list_append mt_append (K.name h2) (pa_cons (gc S Γ X XW G K _ h5) pa_nil (star1 h6)) rfl (by rw [star1 h6] <;> rfl) h4 (star1 h6) rfl) rfl
  · cases h
theorem good_stIx {i : Nat} {k c : C} (gk : Good Δ n k) (gc : Good Δ n c) : Good Δ n (.stIx i k c) := by
  intro S Γ X XW G K m h
  simp only [chk] at h
  split at h
  · rename_i x px ke ps e pos
    obtain ⟨h, h6⟩ := ba2 h
    obtain ⟨h, h5⟩ := ba2 h
    obtain ⟨h, h4⟩ := ba2 h
    obtain ⟨h, h3⟩ := ba2 h
    obtain ⟨h1, h2⟩ := ba2 h
    have hu : X.A.units + 1 < cLine := by have := K.hu; omega
    intro hp
    refine S_stIx (fq := Δ.fq) (K.gks.trans K.Γks.symm) (by rw [K.Γks]; exact of_decide_eq_true h2) ?_
    refine ps_asg (gc S Γ X XW G K _ h4) (pg_sub (K.name h1) (gk S Γ X XW G K _ h3) (set_any hu) ?_) ?_ rfl rfl
    · intro v
      cases ke <;> first | rfl | cases h5
    · rw [sw_sole]
      exact sw_none (by simpa using h6)
  · cases h
theorem opI_of {o : O2} {o' : Operator} {X : Cx} (h : opI o o' = true) : OpR X (inplaceOp o') (rOi o) := by
  cases o <;> cases o' <;> first | cases h | skip
  · exact i_add
  · exact i_sub
  · exact i_mul
  · exact i_fdiv
  · exact i_mod
  · exact i_shl
  · exact i_shr
  · exact i_and
  · exact i_or
  · exact i_xor
theorem good_aug {i : Nat} {o : O2} {c : C} (gc : Good Δ n c) : Good Δ n (.aug i o c) := by
  intro S Γ X XW G K m h
  simp only [chk] at h
  split at h
  · rename_i x px o' e pos
    obtain ⟨h, h3⟩ := ba2 h
    obtain ⟨h1, h2⟩ := ba2 h
    obtain ⟨_, fr, hN, hl, hf⟩ := K.store (pos := px) h2
    intro hp
    exact S_aug (fq := Δ.fq) (K.gks.trans K.Γks.symm) fr (ps_aug K.nd hN hl (gc S Γ X XW G K _ h3) (opI_of h1) hf)
  · cases h
theorem good_mmd {mx : Bool} {a : C} {i : Int} (ga : Good Δ n a) : Good Δ n (.mmd mx a i) := by
  intro S Γ X XW G K m h
  simp only [chk] at h
  split at h
  · rename_i x e k j hm
    obtain ⟨h, h8⟩ := ba2 h
    obtain ⟨h, h7⟩ := ba2 h
    obtain ⟨h, h6⟩ := ba2 h
    obtain ⟨h, h5⟩ := ba2 h
    obtain ⟨h, h4⟩ := ba2 h
    obtain ⟨h, h3⟩ := ba2 h
    obtain ⟨h1, h2⟩ := ba2 h
    obtain ⟨p, q, r, s, t, rfl⟩ := mmdM_eq hm
    have h1 := of_decide_eq_true h1
    cases of_decide_eq_true h4
    cases of_decide_eq_true h5
    obtain ⟨g1, g2⟩ := K.blt h2
    have hc := K.calm h3
    have := K.hu
    have pe := ga S Γ X XW G K _ h7
    refine E_mmd (by rw [K.Γks]; exact h6) ?_
    cases mx with
    | true =>
      subst h1
      exact pe_callBK (b_mmd (mx := true) hc (by omega)) g1 g2 boot_max (pa_cons pe pa_nil (star1 h8)) (pk_cons pe_int pk_nil) (by decide) (by decide) (by rw [star1 h8] <;> rfl) (by rw [star1 h8] <;> rfl) rfl rfl rfl
    | false =>
      subst h1
      exact pe_callBK (b_mmd (mx := false) hc (by omega)) g1 g2 boot_min (pa_cons pe pa_nil (star1 h8)) (pk_cons pe_int pk_nil) (by decide) (by decide) (by rw [star1 h8] <;> rfl) (by rw [star1 h8] <;> rfl) rfl rfl rfl
  · cases h
theorem good_scrCut {i k : Nat} : Good Δ n (.scrCut i k) := by
  intro S Γ X XW G K m h
  simp only [chk] at h
  split at h
  · rename_i x j hm
    obtain ⟨h1, h2⟩ := ba2 h
    obtain ⟨p, q, r, s, t, rfl⟩ := cutM_eq hm
    cases of_decide_eq_true h2
    refine E_scrCut (K.ΓK.trans K.ΔK) (K.gks.trans K.Γks.symm) ?_
    refine PEimp (pe_slice sl_list (K.name h1) po_none (po_some pe_int)) fun σ H Q q => ?_
    obtain ⟨a, xs, e, sq, q⟩ := q
    exact ⟨_, e, _, rfl, a, xs, rfl, sq, q⟩
  · cases h
theorem good_blt2 {f : Bi} {a : C} (ga : Good Δ n a) : Good Δ n (.blt f a) := good_blt ga
/-- every piece of code that the check passes is what the text says -/
theorem good : ∀ c : C, Good Δ n c := by
  intro c
  induction c with
  | var i => exact good_var i
  | loc i => exact good_loc i
  | cst d => exact good_cst d
  | scr i => exact good_scr i
  | scrLen i => exact good_scrLen
  | scrList i => exact good_scrList
  | scrCut i k => exact good_scrCut
  | mmd mx a i ha => exact good_mmd ha
  | nil => exact good_nil
  | cons a b ha hb => exact good_cons ha hb
  | tup a ha => exact good_tup ha
  | lst a ha => exact good_lst ha
  | dnew t => exact good_dnew t
  | disp ks a ha => exact good_disp ha
  | op o a b ha hb => exact good_op ha hb
  | neg a ha => exact good_neg ha
  | not a ha => exact good_not ha
  | and a b ha hb => exact good_and ha hb
  | or a b ha hb => exact good_or ha hb
  | ite c a b hc ha hb => exact good_ite hc ha hb
  | idx a b ha hb => exact good_idx ha hb
  | slc a b c ha hb hc => exact good_slc ha hb hc
  | call f a ha => exact good_call ha
  | blt f a ha => exact good_blt2 ha
  | isi f a ha => exact good_isi ha
  | lrng t a ha => exact good_lrng ha
  | par i j a b ha hb => exact good_par ha hb
  | par3 i j l a b c ha hb hc => exact good_par3 ha hb hc
  | popAt i a ha => exact good_popAt ha
  | popLast i => exact good_popLast
  | lc vs tg it cond elt h1 h2 h3 h4 => exact good_lc h1 h2 h3 h4
  | lc2 vs vs1 tg it cond tg1 it1 cond1 elt h1 h2 h3 h4 h5 h6 h7 => exact good_lc2 h1 h2 h3 h4 h5 h6 h7
  | seq a b ha hb => exact good_seq ha hb
  | pass => exact good_pass
  | asg t c ht hc => exact good_asg ht hc
  | drop c hc => exact good_drop hc
  | ret c hc => exact good_ret hc
  | retN => exact good_retN
  | retO i => exact good_retO
  | ife c a b hc ha hb => exact good_ife hc ha hb
  | whl c b hc hb => exact good_whl hc hb
  | fr t i b ht hi hb => exact good_fr ht hi hb
  | brk => exact good_brk
  | cnt => exact good_cnt
  | raise cls a ha => exact good_raise ha
  | lamcall f b hb => exact good_lamcall hb
  | app i c hc => exact good_app hc
  | stIx i k c hk hc => exact good_stIx hk hc
  | aug i o c hc => exact good_aug hc
  | _ => intro S Γ X XW G K m h; simp [chk] at h
end
end PB
set_option maxHeartbeats 4000000
/-! Iu: a program's defs by their places; the check of all of them. -/
namespace PB
open PySem
def defNm : Stmt → Str
  | .FunctionDef n _ _ _ _ _ _ _ _ _ => n
  | _ => ""
def defBd : Stmt → List Stmt
  | .FunctionDef _ _ b _ _ _ _ _ _ _ => b
  | _ => []
def defSc : Stmt → Scope
  | .FunctionDef _ _ _ _ _ _ s _ _ _ => s
  | _ => ⟨.module, [], false, false, []⟩
def defAr : Stmt → Arguments
  | .FunctionDef _ a _ _ _ _ _ _ _ _ => a
  | _ => ⟨[], [], none, [], [], none, []⟩
def isDef : Stmt → Bool
  | .FunctionDef .. => true
  | _ => false
def clsNm : Stmt → Option Str
  | .ClassDef n .. => some n
  | _ => none
/-- the names that a program's top binds -/
def topNm : Stmt → List Str
  | .FunctionDef n _ _ _ _ _ _ _ _ _ => [n]
  | .ClassDef n .. => [n]
  | .Assign [.Name n _] _ _ => [n]
  | _ => []
structure Pr where
  T : Tb
  nms : List (List Str)
  top : List Stmt
  fq : List Bool
  gdf : List Bool
  lms : List Bool := []
def Pr.dfs (p : Pr) : List Stmt := p.top.filter isDef
def Pr.code (p : Pr) (f : Nat) : C := (p.T.defs[f]?).elim .pass (·.code)
def isTry : C → Bool
  | .tryx _ _ => true
  | _ => false
def Pr.fns0 (p : Pr) : List (Str × Nat) := (p.dfs.map defNm).zip (List.range p.dfs.length)
def Pr.fns (p : Pr) : List (Str × Nat) := p.fns0.filter fun q => !isTry (p.code q.2)
/-- the defs that call what they are given -/
def Pr.mets (p : Pr) : List (Str × Nat) := p.fns0.filter fun q => isTry (p.code q.2)
def Pr.kk (p : Pr) (f : Nat) : List Kd := match p.T.defs[f]? with
  | some d => d.ks.take d.np
  | none => []
/-- a class's own __init__ -/
def iniOf : Stmt → Option Stmt
  | .ClassDef _ _ _ b _ _ _ _ _ _ _ => b.find? fun s => isDef s && decide (defNm s = "__init__")
  | _ => none
/-- the classes, in their order -/
def Pr.clsAll (p : Pr) : List Stmt := p.top.filter fun s => (clsNm s).isSome
def Pr.clsN (p : Pr) : List Str := p.clsAll.map fun s => (clsNm s).getD ""
/-- those that have an __init__ -/
def Pr.inis (p : Pr) : List (Str × Nat × Stmt) := (p.clsAll.zip (List.range p.clsAll.length)).filterMap fun q => (iniOf q.1).map fun s => ((clsNm q.1).getD "", q.2, s)
def Pr.cls (p : Pr) : List (Str × Nat) := p.inis.map fun q => (q.1, q.2.1)
/-- built-in names that the program's top does not bind -/
def Pr.free (p : Pr) : List Str := (["len", "sum", "any", "all", "tuple", "list", "int", "abs", "max", "min", "sorted", "dict", "repr", "range", "enumerate", "zip", "isinstance", "bool", "str"] : List Str).filter fun x => !(p.top.flatMap topNm).contains x
def Pr.sx (p : Pr) (f : Nat) : Sx :=
  { N := (p.nms[f]?).getD [], ks := (p.T.defs[f]?).elim [] (·.ks), np := (p.T.defs[f]?).elim 0 (·.np), sc := (p.dfs[f]?).elim ⟨.module, [], false, false, []⟩ defSc, fns := p.fns, cls := p.cls, xin := p.T.xin, mets := p.mets, lms := (p.lms[f]?).getD false, cel := fun _ => true, glb := p.free, calm := true,
    gd := (p.gdf[f]?).getD true, fq := fun g => (p.fq[g]?).getD false, kk := p.kk, gdf := fun g => (p.gdf[g]?).getD true, fr := (p.fq[f]?).getD false, xo := none, lam := false, top := true }
def Pr.body (p : Pr) (f : Nat) : List Stmt := (p.dfs[f]?).elim [] defBd
def Pr.ckB (p : Pr) (f : Nat) : Bool := match p.body f with
  | [s] => chk (p.code f) (p.sx f) (.S s)
  | ss => chk (p.code f) (p.sx f) (.Ss ss)
end PB
set_option maxHeartbeats 4000000
/-! Hd: the law's call from the head's state, for a def that knows of the guards. -/
namespace PB
open PySem PySem.Spec PyProof.Rows L2 LamX
/-- what the head's heap tells -/
structure Grnd (K : PySem.W.Frag) (mg : Str → Option Value) (cs : List (Addr × Addr)) (s : Shared) : Prop where
  kin : K.In s.heap
  ns : s.heap.Ns mainGlobals mg
  bi : ∃ mb : Str → Option Value, s.heap.Ns builtinsNs mb ∧ ∀ x : Str, x ≠ "__name__" → mb x = bootBuiltins x
  lim : s.heap.NoLimit
  gens : s.gens = #[]
  tab : ∀ p ∈ cs, s.heap.get? p.2 = some { cls := .none, data := .fields #[] }
  out : ∀ p ∈ cs, K.lookup p.2 = none
  code : ∀ p ∈ cs, PySem.W.CodeHd s.heap p.1 p.2
  bm : ∃ (bm : Addr) (ob : Obj), mg "__builtins__" = some (.ref bm) ∧ bm ≠ builtinsNs ∧ s.heap.get? bm = some ob ∧ ob.cls = .type "module" ∧ ob.dict = some builtinsNs ∧ ob.data = .plain
/-- an abstract heap of tables and at most the script -/
structure Trk (cs : List (Addr × Addr)) (a : Addr) (s : Shared) (H : Hp) : Prop where
  tab : ∀ p ∈ cs, H p.2 = some (.tbl #[])
  all : ∀ b u, H b = some u → (b ∈ cs.map (·.2) ∧ u = .tbl #[]) ∨ (b = a ∧ b ∉ cs.map (·.2) ∧ ∃ o xs, u = .frz o (.lst xs))
section
variable {P : Program} {w : World} {K : PySem.W.Frag} {mg : Str → Option Value} {cs : List (Addr × Addr)} {a : Addr} {s : Shared} {H : Hp} {vs : List Value}
theorem Grnd.isTab (g : Grnd K mg cs s) {b : Addr} (h : b ∈ cs.map (·.2)) : s.heap.get? b = some { cls := .none, data := .fields #[] } := by
  obtain ⟨p, hp, rfl⟩ := List.mem_map.mp h
  exact g.tab p hp
/-- an object that is neither a list nor an empty record is not tracked -/
theorem Trk.non (t : Trk cs a s H) (g : Grnd K mg cs s) (ha : s.heap.get? a = some { cls := .type "list", data := .seq vs.toArray }) {b : Addr} {o : Obj} (e : s.heap.get? b = some o) (n1 : o.data ≠ .seq vs.toArray) (n2 : o.data ≠ .fields #[]) : H b = none := by
  cases q : H b with
  | none => rfl
  | some u =>
    rcases t.all b u q with ⟨h, _⟩ | ⟨h, _, _⟩
    · rw [g.isTab h] at e
      exact absurd (by rw [← Option.some.inj e]) n2
    · rw [h, ha] at e
      exact absurd (by rw [← Option.some.inj e]) n1
theorem Trk.nsp (t : Trk cs a s H) (g : Grnd K mg cs s) (ha : s.heap.get? a = some { cls := .type "list", data := .seq vs.toArray }) {b : Addr} {m : Str → Option Value} (h : s.heap.Ns b m) : (hidT s.heap H).Ns b m := by
  obtain ⟨o, es, ep, e, d, r⟩ := h
  refine ⟨o, es, ep, hidT_get e (t.non g ha e ?_ ?_), d, r⟩ <;> (rw [d]; intro z; cases z)
theorem Trk.mod (t : Trk cs a s H) (g : Grnd K mg cs s) (ha : s.heap.get? a = some { cls := .type "list", data := .seq vs.toArray }) (hk : H a ≠ none → K.lookup a = none) : L2.Mod K mg (hidT s.heap H) := by
  obtain ⟨mb, b1, b2⟩ := g.bi
  obtain ⟨mc, l1, l2⟩ := g.lim
  refine ⟨fun b o e => hidT_get (g.kin b o e) ?_, t.nsp g ha g.ns, ⟨mb, t.nsp g ha b1, b2⟩, mc, t.nsp g ha l1, l2⟩
  cases q : H b with
  | none => rfl
  | some u =>
    rcases t.all b u q with ⟨h, _⟩ | ⟨h, _, _⟩
    · obtain ⟨p, hp, rfl⟩ := List.mem_map.mp h
      rw [g.out p hp] at e
      cases e
    · subst h
      rw [hk (by rw [q]; exact fun z => nomatch z)] at e
      cases e
theorem Trk.tabB (t : Trk cs a s H) (g : Grnd K mg cs s) (ha : s.heap.get? a = some { cls := .type "list", data := .seq vs.toArray }) {p : Addr × Addr} (hp : p ∈ cs) : TabB (hidT s.heap H) mg p.1 p.2 := by
  obtain ⟨og, eg, epg, gg, gd, _⟩ := g.ns
  refine ⟨?_, ?_, fun z => ?_⟩
  · obtain ⟨o, us, file, tf, flags, tg, inF, text, tt, e1, r1, r2, r3, r4, r5, r6, r7, r8, hne⟩ := g.code p hp
    refine ⟨o, us, file, tf, flags, tg, inF, text, tt, hidT_get e1 (t.non g ha e1 ?_ ?_), r1, r2, r3, r4, r5, r6, r7, r8, hne⟩
    · rw [r2]; intro z; cases z
    · rw [r2]
      intro z
      cases z
      simp at r3
  · obtain ⟨bm, ob, b1, b2, b3, b4, b5, b6⟩ := g.bm
    refine ⟨bm, ob, b1, b2, fun q => ?_, fun q => ?_, hidT_get b3 (t.non g ha b3 ?_ ?_), b4, b5, b6⟩
    · rw [q, gg] at b3
      cases b3
      rw [gd] at b6
      cases b6
    · rw [q, g.tab p hp] at b3
      cases b3
      cases b6
    · rw [b6]; intro z; cases z
    · rw [b6]; intro z; cases z
  · rw [z, g.tab p hp] at gg
    cases gg
    cases gd
/-- the law, called with the script -/
theorem law_at {ns : List Int} {fa : Addr} {fd : FuncData} {x : Str} {gd : Bool} {k : Nat} {sp : L2.Sp} (g : Grnd K mg cs s) (ha : s.heap.get? a = some { cls := .type "list", data := .seq vs.toArray }) (hi : IntsAre vs ns) (hl : ns.length ≤ sizeLine) (hr : Room k callerA) (t : Trk cs a s H) (hk : H a ≠ none → K.lookup a = none)
    (hok : HOk P w H s.heap) (hS : SqL K H a (ns.map V.int)) (F : ∀ base : Heap, K.In base → base.Ns mainGlobals mg → L2.Mod K mg base → (∀ p ∈ cs, TabB base mg p.1 p.2) → FnG P w K mg base gd k fa fd [x] sp) (hbind : ∀ (s : Shared) (u : Value), BindsTo s fd ⟨[u], []⟩ [(x, u)])
    (hsp : ∀ H : Hp, (∀ p ∈ cs, H p.2 = some (.tbl #[])) → (∀ xs, H a ≠ some (.lst xs)) → SqL K H a (ns.map V.int) → sp [.ref a] H (fun v _ => v = .bl true) fun _ _ _ => False) :
    codeAny (model P w) callerA (.call (.ref fa) ⟨[.ref a], []⟩) (fun r s' => r = .ok (.ret (.bool true)) ∧ OldK s.heap s'.heap ∧ s'.os = s.os ∧ AllBare s'.gens) s := by
  have M := t.mod g ha hk
  have e0 : Env0 P w K mg (hidT s.heap H) callerA [] s H := ⟨rfl, M, fun b o e => of_hidT e, Nat.le_of_eq (hidT_size _ _), trivial, fun b hb => absurd (show b ∈ ([] : List Addr) from hb) (by simp), hok, .of_eq g.gens⟩
  have call := (F _ M.kin (t.nsp g ha g.ns) M fun p hp => t.tabB g ha hp).run callerA [] s H ⟨[.ref a], []⟩ [.ref a] [.ref a] _ _ (fun _ => rfl) hr e0 (hbind s (.ref a)) (.cons rfl .nil) (hsp H t.tab (fun xs q => (t.all a _ q).elim (fun z => by cases z.2) fun z => by obtain ⟨_, _, o, xs', z⟩ := z; cases z) hS)
  refine codeAny_mono call fun r s' z => ?_
  cases r with
  | error e =>
    obtain ⟨_, _, _, _, _, _, _, _, _, _, _, _, z⟩ := (show L2.CX P w [] H s (fun _ _ _ => False) e s' from z)
    exact z.elim
  | ok u =>
    cases u with
    | ret u =>
      obtain ⟨v, H', os, bare, un, hok', rv, rfl⟩ := z
      have eu : u = Value.bool true := rv
      subst eu
      have old : ∀ b o, b ∉ cs.map (·.2) → s.heap.get? b = some o → s'.heap.get? b = some o := fun b o nb e => by
        cases q : H b with
        | none => exact un.keep b o e q (fun z => absurd (show b ∈ ([] : List Addr) from z) (by simp)) (by simp)
        | some u =>
          rcases t.all b u q with ⟨h, _⟩ | ⟨_, _, ob, xs, rfl⟩
          · exact absurd h nb
          · obtain ⟨q1, _⟩ := hok b _ q
            obtain ⟨q2, _⟩ := hok' b _ (un.frzs b ob _ q)
            exact q2.trans (q1.symm.trans e)
      have more : ∀ p ∈ cs, ∃ ps : Array Value, s'.heap.get? p.2 = some { cls := .none, data := .fields (#[] ++ ps) } := fun p hp => by
        obtain ⟨ps, q⟩ := un.tbls p.2 #[] (t.tab p hp)
        exact ⟨ps, hok' p.2 _ q⟩
      refine ⟨rfl, ⟨fun b o e => ?_, fun b o e => ?_⟩, os, bare⟩
      · by_cases hb : b ∈ cs.map (·.2)
        · obtain ⟨p, hp, rfl⟩ := List.mem_map.mp hb
          obtain ⟨ps, q⟩ := more p hp
          rw [g.tab p hp] at e
          cases e
          exact .inr (.inl ⟨((g.code p hp).tab (g.tab p hp)).isCodeTable, rfl, #[], ps, rfl, q⟩)
        · exact .inl (old b o hb e)
      · by_cases hb : b ∈ cs.map (·.2)
        · obtain ⟨p, hp, rfl⟩ := List.mem_map.mp hb
          obtain ⟨ps, q⟩ := more p hp
          exact ⟨_, q⟩
        · exact ⟨o, old b o hb e⟩
    | _ => exact z.elim
/-- .. from the head's state -/
theorem law_callG {ns : List Int} {fa : Addr} {fd : FuncData} {x : Str} {gd : Bool} {k : Nat} {sp : L2.Sp} (g : Grnd K mg cs s) (ha : s.heap.get? a = some { cls := .type "list", data := .seq vs.toArray }) (hi : IntsAre vs ns) (hl : ns.length ≤ sizeLine) (hr : Room k callerA)
    (F : ∀ base : Heap, K.In base → base.Ns mainGlobals mg → L2.Mod K mg base → (∀ p ∈ cs, TabB base mg p.1 p.2) → FnG P w K mg base gd k fa fd [x] sp) (hbind : ∀ (s : Shared) (u : Value), BindsTo s fd ⟨[u], []⟩ [(x, u)])
    (hsp : ∀ H : Hp, (∀ p ∈ cs, H p.2 = some (.tbl #[])) → (∀ xs, H a ≠ some (.lst xs)) → SqL K H a (ns.map V.int) → sp [.ref a] H (fun v _ => v = .bl true) fun _ _ _ => False) :
    codeAny (model P w) callerA (.call (.ref fa) ⟨[.ref a], []⟩) (fun r s' => r = .ok (.ret (.bool true)) ∧ OldK s.heap s'.heap ∧ s'.os = s.os ∧ AllBare s'.gens) s := by
  have rv := vals_ints hi
  have aT : a ∉ cs.map (·.2) := fun z => by
    have q := g.isTab z
    rw [ha] at q
    have q := congrArg Obj.data (Option.some.inj q)
    cases q
  have tb : ∀ p ∈ cs, p.2 ∈ cs.map (·.2) := fun p hp => List.mem_map.mpr ⟨p, hp, rfl⟩
  by_cases hk : (K.lookup a).isSome = true
  · obtain ⟨o, ho⟩ := Option.isSome_iff_exists.mp hk
    have e := g.kin a o ho
    rw [ha] at e
    cases e
    have t : Trk cs a s (fun b => if b ∈ cs.map (·.2) then some (.tbl #[]) else none) := ⟨fun p hp => if_pos (tb p hp), fun b u z => by
      by_cases hb : b ∈ cs.map (·.2)
      · rw [if_pos hb] at z; cases z; exact .inl ⟨hb, rfl⟩
      · rw [if_neg hb] at z; cases z⟩
    refine law_at g ha hi hl hr t (fun z => absurd (if_neg aT) z) (fun b u z => ?_) (.inr ⟨_, vs.toArray, _, ho, rfl, rfl, rfl, by rw [List.size_toArray, hi.length]; exact hl, by simpa using rv⟩) F hbind hsp
    by_cases hb : b ∈ cs.map (·.2)
    · have z : some (HO.tbl #[]) = some u := (if_pos hb).symm.trans z
      cases z
      exact g.isTab hb
    · have z : none = some u := (if_neg hb).symm.trans z
      cases z
  · have hk' : K.lookup a = none := by
      cases q : K.lookup a with
      | none => rfl
      | some o => rw [q] at hk; exact absurd rfl hk
    have t : Trk cs a s (fun b => if b ∈ cs.map (·.2) then some (.tbl #[]) else if b = a then some (.frz { cls := .type "list", data := .seq vs.toArray } (.lst (ns.map V.int))) else none) := ⟨fun p hp => if_pos (tb p hp), fun b u z => by
      by_cases hb : b ∈ cs.map (·.2)
      · rw [if_pos hb] at z; cases z; exact .inl ⟨hb, rfl⟩
      · rw [if_neg hb] at z
        by_cases hba : b = a
        · rw [if_pos hba] at z; cases z; exact .inr ⟨hba, hb, _, _, rfl⟩
        · rw [if_neg hba] at z; cases z⟩
    refine law_at g ha hi hl hr t (fun _ => hk') (fun b u z => ?_) (.inl (.inr ⟨{ cls := .type "list", data := .seq vs.toArray }, (if_neg aT).trans (if_pos rfl)⟩)) F hbind hsp
    by_cases hb : b ∈ cs.map (·.2)
    · have z : some (HO.tbl #[]) = some u := (if_pos hb).symm.trans z
      cases z
      exact g.isTab hb
    · have z := (if_neg hb).symm.trans z
      by_cases hba : b = a
      · have z := (if_pos hba).symm.trans z
        cases z
        subst hba
        exact ⟨ha, by rw [List.length_map]; exact hl, vs, _, rv, ha⟩
      · have z : none = some u := (if_neg hba).symm.trans z
        cases z
end
end PB
set_option maxHeartbeats 4000000
/-! Hf: from what the head tells to the promises of all defs. -/
namespace PB
open PySem PySem.Spec PyProof.Rows L2 LamX
theorem lookup_zip {α : Type} : ∀ {ps : List Str} {us : List α}, us.length = ps.length → ∀ n ∈ ps, ((ps.zip us).lookup n).isNone = false
  | p :: ps, u :: us, h, n, hm => by
    rw [List.zip_cons_cons, List.lookup_cons]
    split
    · rfl
    · rename_i q
      have hm : n ∈ ps := (List.mem_cons.mp hm).resolve_left fun z => by rw [z] at q; simp at q
      exact lookup_zip (by simpa using h) n hm
  | [], _, _, n, hm => by cases hm
  | _ :: _, [], h, _, _ => by simp at h
theorem fm_congr {α β : Type} {f g : α → Option β} : ∀ {l : List α}, (∀ x ∈ l, f x = g x) → l.filterMap f = l.filterMap g
  | [], _ => rfl
  | a :: l, h => by rw [List.filterMap_cons, List.filterMap_cons, h a List.mem_cons_self, fm_congr fun x hx => h x (List.mem_cons_of_mem _ hx)]
theorem filterMap_zip {α : Type} : ∀ {ps : List Str} {us : List α}, us.length = ps.length → ps.Nodup → ps.filterMap (fun n => ((ps.zip us).lookup n).map fun v => (n, v)) = ps.zip us
  | [], [], _, _ => rfl
  | p :: ps, u :: us, h, nd => by
    obtain ⟨h1, h2⟩ := List.nodup_cons.mp nd
    rw [List.zip_cons_cons, List.filterMap_cons, List.lookup_cons_self]
    have e : ps.filterMap (fun n => (((p, u) :: ps.zip us).lookup n).map fun v => (n, v)) = ps.zip us := by
      rw [← filterMap_zip (us := us) (by simpa using h) h2]
      refine fm_congr fun n hn => ?_
      have : (n == p) = false := by
        cases q : n == p with
        | false => rfl
        | true => exact absurd (beq_iff_eq.mp q ▸ hn) h1
      rw [List.lookup_cons, this]
      rw [filterMap_zip (us := us) (by simpa using h) h2]
    show (p, u) :: _ = _
    rw [e]
  | [], _ :: _, h, _ => by simp at h
  | _ :: _, [], h, _ => by simp at h
theorem bind_plain {fd : FuncData} {args : List Arg} (hp : fd.params = ⟨[], args, none, [], [], none, []⟩) (hd : fd.defaults = .none) {us : List Value} (hl : us.length = (args.map (·.arg)).length) (nd : (args.map (·.arg)).Nodup) : bindArgs fd ⟨us, []⟩ = pure ((args.map (·.arg)).zip us) := by
  have hf : ((args.map (·.arg)).filter fun n => (((args.map (·.arg)).zip us).lookup n).isNone) = [] := by
    rw [List.filter_eq_nil_iff]
    intro n hn
    rw [lookup_zip hl n hn]
    exact Bool.false_ne_true
  unfold bindArgs
  simp only [hp, hd, List.map_nil, List.nil_append]
  have e1 : (seqItems? Value.none) = (pure none : Sem (Option (Array Value))) := rfl
  rw [e1]
  have e2 : ¬ (us.length > (args.map (·.arg)).length) := by omega
  simp only [pure_bind, Option.getD_none, List.forIn_nil, List.drop_nil, List.length_nil, Nat.sub_zero, List.take_length, hf, List.isEmpty_nil, Bool.not_true, Bool.false_eq_true, if_false, List.zip_nil_right, e2, decide_false, Bool.false_and, List.append_nil, List.drop_length]
  rw [filterMap_zip hl nd]
def argN (st : Stmt) : List Str := (defAr st).args.map (·.arg)
def plainA (a : Arguments) : Bool := a.posonlyargs.isEmpty && a.vararg.isNone && a.kwonlyargs.isEmpty && a.kw_defaults.isEmpty && a.kwarg.isNone && a.defaults.isEmpty
theorem plainA_eq {a : Arguments} (h : plainA a = true) : a = ⟨[], a.args, none, [], [], none, []⟩ := by
  obtain ⟨po, ar, va, ko, kd, kw, df⟩ := a
  simp only [plainA, Bool.and_eq_true, List.isEmpty_iff, Option.isNone_iff_eq_none] at h
  obtain ⟨⟨⟨⟨⟨rfl, rfl⟩, rfl⟩, rfl⟩, rfl⟩, rfl⟩ := h
  rfl
def fsB (N ps : List Str) (sc : Scope) : Bool :=
  decide (sc.kind = .function) && !sc.isCoroutine && !sc.isGenerator && decide N.Nodup && decide (N.take ps.length = ps) && ps.all (fun x => decide (sc.names.lookup x = some .local) || decide (sc.names.lookup x = some .cell)) && sc.names.all fun y => !decide (y.2 = .free)
theorem fsB_ok {N ps : List Str} {sc : Scope} (h : fsB N ps sc = true) : FnScope N ps sc := by
  unfold fsB at h
  simp only [Bool.and_eq_true, decide_eq_true_eq, Bool.not_eq_true', List.all_eq_true, Bool.or_eq_true, decide_eq_false_iff_not] at h
  obtain ⟨⟨⟨⟨⟨⟨h1, h2⟩, h3⟩, h4⟩, h5⟩, h6⟩, h7⟩ := h
  exact ⟨h1, h2, h3, h4, h5, h6, h7⟩
theorem bindsD {K : PySem.W.Frag} {x q : Str} {a : Arguments} {body : List Stmt} {scope : Scope} {f : Addr} {fd : FuncData} (F : FunD K x q a body scope [] [] f fd) (hp : plainA a = true) (nd : (a.args.map (·.arg)).Nodup) : Binds K fd (a.args.map (·.arg)) [] :=
  F.bindsN fun kV doc pm an cdv ct us hl => bind_plain (plainA_eq hp) rfl hl nd
/-- what is held of a def's text and code together -/
structure DefOk (p : Pr) (f : Nat) (st : Stmt) (d : DefI) (N : List Str) : Prop where
  hst : p.dfs[f]? = some st
  hdf : p.T.defs[f]? = some d
  hnm : p.nms[f]? = some N
  pl : plainA (defAr st) = true
  fs : FnScope N (argN st) (defSc st)
  ln : N.length = d.ks.length
  np : d.np ≤ d.ks.length
  an : (argN st).length = d.np
  nd : (argN st).Nodup
  ck : p.ckB f = true
def defB (p : Pr) (f : Nat) : Bool := match p.dfs[f]?, p.T.defs[f]?, p.nms[f]? with
  | some st, some d, some N => plainA (defAr st) && fsB N (argN st) (defSc st) && decide (N.length = d.ks.length) && decide (d.np ≤ d.ks.length) && decide ((argN st).length = d.np) && decide (argN st).Nodup && p.ckB f
  | _, _, _ => false
theorem defB_ok {p : Pr} {f : Nat} (h : defB p f = true) : ∃ st d N, DefOk p f st d N := by
  unfold defB at h
  split at h
  · rename_i st d N h1 h2 h3
    simp only [Bool.and_eq_true, decide_eq_true_eq] at h
    obtain ⟨⟨⟨⟨⟨⟨a1, a2⟩, a3⟩, a4⟩, a5⟩, a6⟩, a7⟩ := h
    exact ⟨st, d, N, h1, h2, h3, a1, fsB_ok a2, a3, a4, a5, a6, a7⟩
  · cases h
/-- a def that calls what it is given -/
structure MetD (p : Pr) (f : Nat) (st : Stmt) (d : DefI) (N : List Str) (a : Str) (p1 p2 p3 p8 : Pos) (h0 : ExceptHandler) (hds : List ExceptHandler) (l : List HC) : Prop where
  hst : p.dfs[f]? = some st
  hdf : p.T.defs[f]? = some d
  pl : plainA (defAr st) = true
  an : argN st = [a]
  fs : FnScope N [a] (defSc st)
  n0 : N[0]? = some a
  va : Vis (defSc st) a
  da : (a == ("__debug__" : Str)) = false
  ca : (a == ("__classdict__" : Str)) = false
  body : defBd st = [.Try [.Return (some (.Call (.Name a p1) [] [] p2)) p3] (h0 :: hds) [] [] p8]
  code : d.code = .tryx (.ret (.callv 0)) (mkH l)
  hb : hdB p.cls p.T.xin N (defSc st) l (h0 :: hds) = true
  one : ∀ q ∈ l, ∀ a, p.T.sub a q.1 = true → a = q.1
def tryT : List Stmt → Option (Str × Pos × Pos × Pos × Pos × ExceptHandler × List ExceptHandler)
  | [.Try [.Return (some (.Call (.Name a p1) [] [] p2)) p3] (h0 :: hds) [] [] p8] => some (a, p1, p2, p3, p8, h0, hds)
  | _ => none
theorem tryT_eq {b : List Stmt} {a : Str} {p1 p2 p3 p8 : Pos} {h0 : ExceptHandler} {hds : List ExceptHandler} (h : tryT b = some (a, p1, p2, p3, p8, h0, hds)) : b = [.Try [.Return (some (.Call (.Name a p1) [] [] p2)) p3] (h0 :: hds) [] [] p8] := by
  unfold tryT at h
  split at h <;> cases h
  rfl
def tryC : PB.C → Option (List HC)
  | .tryx (.ret (.callv 0)) h => hC h
  | _ => none
theorem tryC_eq {c : PB.C} {l : List HC} (h : tryC c = some l) : c = .tryx (.ret (.callv 0)) (mkH l) := by
  unfold tryC at h
  split at h
  · rw [hC_eq h]
  · cases h
def metB (p : Pr) (f : Nat) : Bool := match p.dfs[f]?, p.T.defs[f]?, p.nms[f]? with
  | some st, some d, some N => (match tryT (defBd st), tryC d.code with
    | some (a, _, _, _, _, h0, hds), some l => plainA (defAr st) && decide (argN st = [a]) && fsB N [a] (defSc st) && decide (N[0]? = some a) && decide ((defSc st).names.lookup a = some .local) && !(a == ("__debug__" : Str)) && !(a == ("__classdict__" : Str)) && hdB p.cls p.T.xin N (defSc st) l (h0 :: hds)
    | _, _ => false)
  | _, _, _ => false
theorem metB_ok {p : Pr} {f : Nat} (h : metB p f = true) (hone : ∀ d l, p.T.defs[f]? = some d → tryC d.code = some l → ∀ q ∈ l, ∀ a, p.T.sub a q.1 = true → a = q.1) : ∃ st d N a p1 p2 p3 p8 h0 hds l, MetD p f st d N a p1 p2 p3 p8 h0 hds l := by
  unfold metB at h
  split at h
  · rename_i st d N h1 h2 h3
    split at h
    · rename_i a p1 p2 p3 p8 h0 hds l g1 g2
      simp only [Bool.and_eq_true, decide_eq_true_eq, Bool.not_eq_true'] at h
      obtain ⟨⟨⟨⟨⟨⟨⟨a1, a2⟩, a3⟩, a4⟩, a5⟩, a6⟩, a7⟩, a8⟩ := h
      exact ⟨st, d, N, a, p1, p2, p3, p8, h0, hds, l, h1, h2, a1, a2, fsB_ok a3, a4, .inl a5, a6, a7, tryT_eq g1, tryC_eq g2, a8, hone d l h2 g2⟩
    · cases h
  · cases h
/-- an __init__ -/
structure IniD (p : Pr) (x : Str) (c : Nat) (st : Stmt) : Prop where
  pl : plainA (defAr st) = true
  an : argN st = ("self" : Str) :: p.T.xin c
  fs : FnScope (("self" : Str) :: p.T.xin c) (("self" : Str) :: p.T.xin c) (defSc st)
  ib : iniB (p.T.xin c) (defBd st) = true
  ne : p.T.xin c ≠ []
  nm : ∀ g ∈ p.T.xin c, nmB (defSc st) g = true
  s0 : nmB (defSc st) "self" = true
  nd : (p.T.xin c).Nodup
  ln : (p.T.xin c).length ≤ 900
  dn : defNm st = "__init__"
def inisB (p : Pr) : Bool := p.inis.all fun q => plainA (defAr q.2.2) && decide (argN q.2.2 = ("self" : Str) :: p.T.xin q.2.1) && fsB (("self" : Str) :: p.T.xin q.2.1) (("self" : Str) :: p.T.xin q.2.1) (defSc q.2.2) && iniB (p.T.xin q.2.1) (defBd q.2.2) && !(p.T.xin q.2.1).isEmpty && (p.T.xin q.2.1).all (nmB (defSc q.2.2)) && nmB (defSc q.2.2) "self" && decide (p.T.xin q.2.1).Nodup && decide ((p.T.xin q.2.1).length ≤ 900) && decide (defNm q.2.2 = "__init__")
theorem inisB_ok {p : Pr} (h : inisB p = true) {x : Str} {c : Nat} {st : Stmt} (hm : (x, c, st) ∈ p.inis) : IniD p x c st := by
  have h := List.all_eq_true.mp h _ hm
  simp only [Bool.and_eq_true, decide_eq_true_eq, Bool.not_eq_true', List.all_eq_true] at h
  obtain ⟨⟨⟨⟨⟨⟨⟨⟨⟨a1, a2⟩, a3⟩, a4⟩, a5⟩, a6⟩, a7⟩, a8⟩, a9⟩, a10⟩ := h
  exact ⟨a1, a2, fsB_ok a3, a4, (fun z => by rw [z] at a5; cases a5), a6, a7, a8, a9, a10⟩
/-- a program's checks, all of them -/
structure PrOk (p : Pr) : Prop where
  defs : ∀ f x, p.fns0[f]? = some (x, f) → isTry (p.code f) = false → defB p f = true
  mets : ∀ x f, p.mets.lookup x = some f → ∃ st d N a p1 p2 p3 p8 h0 hds l, MetD p f st d N a p1 p2 p3 p8 h0 hds l ∧ defNm st = x
  inis : inisB p = true
end PB
set_option maxHeartbeats 4000000
/-! Hg: every def keeps its promise. -/
namespace PB
open PySem PySem.Spec PyProof.Rows L2 LamX
def lamNm (x : Str) : Str := x ++ ".<locals>." ++ "<lambda>"
/-- what is known of the program's objects -/
structure Fx (p : Pr) (K : PySem.W.Frag) (mg : Str → Option Value) (base : Heap) (tb : List (Addr × Str)) : Prop where
  gl : ∀ st ∈ p.dfs, mg (defNm st) = some (.ref (He.ga K (defNm st)))
  fd : ∀ st ∈ p.dfs, ∃ fd, FunD K (defNm st) (defNm st) (defAr st) (defBd st) (defSc st) [] [] (He.ga K (defNm st)) fd
  free : ∀ x ∈ p.free, mg x = none
  cls : ∀ q ∈ p.inis, mg q.1 = some (.ref (He.ga K q.1)) ∧ OexC K (He.ga K q.1) ∧ XfC K (He.ga K q.1) ∧ (∀ g ∈ p.T.xin q.2.1, PySem.W.findIn K (.ref (He.ga K q.1)) g = some none) ∧ ∃ fI fd, PySem.W.findIn K (.ref (He.ga K q.1)) "__init__" = some (some (.ref fI)) ∧ PySem.W.typeIn K (.ref fI) = some (.type "function") ∧ FunD K "__init__" (q.1 ++ ".__init__") (defAr q.2.2) (defBd q.2.2) (defSc q.2.2) [] [] fI fd
  pos : ∀ q ∈ p.inis, p.clsN[q.2.1]? = some q.1
  sub : ∀ q ∈ p.inis, ∀ (a : Nat) (y : Str), p.clsN[a]? = some y → PySem.W.exmOne K (.ref (He.ga K y)) (.ref (He.ga K q.1)) = some (p.T.sub a q.2.1)
  lam : ∀ (f : Nat) (st : Stmt), p.dfs[f]? = some st → (p.lms[f]?).getD false = true → ∀ fd, FunD K (defNm st) (defNm st) (defAr st) (defBd st) (defSc st) [] [] (He.ga K (defNm st)) fd → ∃ c P, fd.code = .ref c ∧ TabB base mg c P ∧ (P, lamNm (defNm st)) ∈ tb ∧ ∀ q ∈ tb, q.1 = P → q.2 = lamNm (defNm st)
def cAof (p : Pr) (K : PySem.W.Frag) (c : Nat) : Option Addr := (p.clsN[c]?).map (He.ga K)
def dlt (p : Pr) (K : PySem.W.Frag) (tb : List (Addr × Str)) : Ctx := ⟨p.T, K, tb, cAof p K, fun g => (p.fq[g]?).getD false⟩
theorem lookup_in {l : List (Str × Nat)} {x : Str} {y : Nat} (h : l.lookup x = some y) : (x, y) ∈ l := PySem.mem_of_lookup h
section
variable {p : Pr} {K : PySem.W.Frag} {mg : Str → Option Value} {base : Heap} {tb : List (Addr × Str)} {P : Program} {w : World}
theorem fns0_get {x : Str} {f : Nat} (h : (x, f) ∈ p.fns0) : ∃ st, p.dfs[f]? = some st ∧ defNm st = x ∧ st ∈ p.dfs := by
  unfold Pr.fns0 at h
  obtain ⟨i, hi, e⟩ := List.mem_iff_getElem.mp h
  rw [List.getElem_zip, List.getElem_map, List.getElem_range] at e
  have e1 := congrArg Prod.fst e
  have e2 := congrArg Prod.snd e
  have e2 : i = f := e2
  subst e2
  have hl : i < p.dfs.length := by
    rw [List.length_zip, List.length_map, List.length_range, Nat.min_self] at hi
    exact hi
  exact ⟨p.dfs[i], List.getElem?_eq_getElem hl, e1, List.getElem_mem hl⟩
theorem Fx.clsK (F : Fx p K mg base tb) : ClsK K mg p.cls p.T.xin (fun c => (cAof p K c).getD 0) := by
  intro x c h
  have hm := lookup_in h
  unfold Pr.cls at hm
  obtain ⟨q, hq, e⟩ := List.mem_map.mp hm
  cases e
  obtain ⟨h1, h2, h3, h4, _⟩ := F.cls q hq
  have e : (cAof p K q.2.1).getD 0 = He.ga K q.1 := by
    unfold cAof
    rw [F.pos q hq]
    rfl
  show mg q.1 = some (.ref ((cAof p K q.2.1).getD 0)) ∧ XfC K ((cAof p K q.2.1).getD 0) ∧ ∀ g ∈ p.T.xin q.2.1, PySem.W.findIn K (.ref ((cAof p K q.2.1).getD 0)) g = some none
  rw [e]
  exact ⟨h1, h3, h4⟩
/-- the context of a def's body -/
theorem cok_of (F : Fx p K mg base tb) (O : PrOk p) {n f : Nat} {st : Stmt} {d : DefI} {N : List Str} (D : DefOk p f st d N) {fd : FuncData} (hfd : FunD K (defNm st) (defNm st) (defAr st) (defBd st) (defSc st) [] [] (He.ga K (defNm st)) fd) {A : Around} {outer : List Env} {s : Shared} {H : Hp} {E : XK} {fa : Addr}
    (gd : (p.gdf[f]?).getD true = true → A.guards = some []) (hr : Room (3 * n + 3) A)
    (ih : ∀ x g, p.fns.lookup x = some g → ∃ ad fd ps, mg x = some (.ref ad) ∧ PySem.W.keepIn K (.ref ad) = true ∧ Binds K fd ps [] ∧ FnG P w K mg base ((p.gdf[g]?).getD true) (3 * n) ad fd ps (spI (dlt p K tb) n g)) :
    Cok (dlt p K tb) n (p.sx f) (gmOf (dlt p K tb) d) (cxOf (L2.CX P w) P w K mg base N (defNm st) (defSc st) fa fd.code A outer s H E) (fun cls od _ H' => E cls od H') (gOf (dlt p K tb) n d none) where
  hN := by
    show N = (p.nms[f]?).getD []
    rw [D.hnm]
    rfl
  nd := D.fs.nd
  sc := by
    show defSc st = (p.dfs[f]?).elim _ defSc
    rw [D.hst]
    rfl
  fn := fun _ _ => rfl
  calm := fun _ => rfl
  gd := fun h => gd h
  hu := by
    have := hr.un
    show A.units + 3 + 100 < cLine
    omega
  room := fun _ => (hr.deeper _).mono (by omega)
  roomT := fun _ _ => hr.deeper _
  fns := ih
  cls := fun x c h => by
    have hm := lookup_in h
    unfold Pr.sx Pr.cls at hm
    obtain ⟨q, hq, e⟩ := List.mem_map.mp hm
    cases e
    obtain ⟨h1, h2, h3, h4, fI, fdI, h5, h6, h7⟩ := F.cls q hq
    have I := inisB_ok O.inis hq
    obtain ⟨oc, od, dV, kV, doc, pm, an, cdv, ct, osl, e1, lk, hcd, _, _⟩ := id h7.ex
    refine ⟨He.ga K q.1, fI, fdI, ("self" : Str) :: p.T.xin q.2.1, ?_, h1, h2, h5, h6, ?_, ?_⟩
    · show cAof p K q.2.1 = _
      unfold cAof
      rw [F.pos q hq]
      rfl
    · subst e1
      exact ini_ok lk hcd I.fs h2 I.ib I.ne (fun g hg => ⟨I.nm g hg, h4 g hg⟩) I.s0 I.nd I.ln 0
    · have := bindsD h7 I.pl (show ((defAr q.2.2).args.map (·.arg)).Nodup by
        have : argN q.2.2 = ("self" : Str) :: p.T.xin q.2.1 := I.an
        unfold argN at this
        rw [this]
        have := I.fs.nd
        exact this)
      have e : (defAr q.2.2).args.map (·.arg) = ("self" : Str) :: p.T.xin q.2.1 := I.an
      rw [e] at this
      exact this
  gxin := rfl
  clsK := F.clsK
  csub := fun y c h a Ca hC => by
    have hm := lookup_in h
    unfold Pr.sx Pr.cls at hm
    obtain ⟨q, hq, e⟩ := List.mem_map.mp hm
    cases e
    have hC : (p.clsN[a]?).map (He.ga K) = some Ca := hC
    obtain ⟨z, h1, h2⟩ := Option.map_eq_some_iff.mp hC
    subst h2
    have e : cAd (gmOf (dlt p K tb) d) q.2.1 = He.ga K q.1 := by
      show (cAof p K q.2.1).getD 0 = _
      unfold cAof
      rw [F.pos q hq]
      rfl
    rw [e]
    exact F.sub q hq a z h1
  mets := fun x g h => by
    obtain ⟨st', d', N', a, p1, p2, p3, p8, h0, hds, l, M, hx⟩ := O.mets x g h
    have hm : st' ∈ p.dfs := List.mem_of_getElem? M.hst
    obtain ⟨fd', hfd'⟩ := F.fd st' hm
    have hb := bindsD hfd' M.pl (show ((defAr st').args.map (·.arg)).Nodup by
      have : (defAr st').args.map (·.arg) = [a] := M.an
      rw [this]
      simp)
    have e : (defAr st').args.map (·.arg) = [a] := M.an
    rw [e] at hb
    have hg := F.gl st' hm
    have hk := hfd'.kp
    obtain ⟨oc, od, dV, kV, doc, pm, an, cdv, ct, osl, e1, lk, hcd, _, _⟩ := id hfd'.ex
    subst e1
    rw [M.body] at lk hb
    subst hx
    exact .mk hg hk lk hcd hb M.fs M.n0 M.fs.nd M.va M.da M.ca M.hdf M.code M.hb M.one
  lamT := fun h => by
    obtain ⟨c, Pt, h1, h2, h3, h4⟩ := F.lam f st D.hst h fd hfd
    exact ⟨c, Pt, h2, h1, h3, h4⟩
  glb := fun x h => F.free x (List.contains_iff_mem.mp h)
  gks := by
    show d.ks = (p.T.defs[f]?).elim [] (·.ks)
    rw [D.hdf]
    rfl
  Γks := by
    show d.ks = (p.T.defs[f]?).elim [] (·.ks)
    rw [D.hdf]
    rfl
  Γnp := by
    show d.np = (p.T.defs[f]?).elim 0 (·.np)
    rw [D.hdf]
    rfl
  ΓT := rfl
  ΓK := rfl
  ΔK := rfl
  ΓC := rfl
  gcf := rfl
  ginf := rfl
  Δkk := rfl
  Δfq := rfl
  xo := fun i a dx ds z => by cases z
  lam := fun _ => rfl
  tk := takes_of rfl rfl rfl rfl
theorem funD_uniq {x q : Str} {a : Arguments} {b : List Stmt} {sc : Scope} {f : Addr} {fd fd' : FuncData} (h : FunD K x q a b sc [] [] f fd) (h' : FunD K x q a b sc [] [] f fd') : fd' = fd := by
  obtain ⟨_, _, _, _, _, _, _, _, _, _, _, r, _⟩ := h.ex
  obtain ⟨_, _, _, _, _, _, _, _, _, _, _, r', _⟩ := h'.ex
  rw [r] at r'
  cases r'
  rfl
theorem fns_in {x : Str} {g : Nat} (h : p.fns.lookup x = some g) : (x, g) ∈ p.fns0 ∧ isTry (p.code g) = false := by
  have hm := lookup_in h
  unfold Pr.fns at hm
  obtain ⟨h1, h2⟩ := List.mem_filter.mp hm
  exact ⟨h1, by simpa using h2⟩
/-- all of them -/
theorem all_fnG (F : Fx p K mg base tb) (O : PrOk p) (hdef : ∀ x f, (x, f) ∈ p.fns0 → isTry (p.code f) = false → defB p f = true) : ∀ n x g, (x, g) ∈ p.fns0 → isTry (p.code g) = false → ∃ fd ps st, FunD K (defNm st) (defNm st) (defAr st) (defBd st) (defSc st) [] [] (He.ga K x) fd ∧ p.dfs[g]? = some st ∧ ps = argN st ∧ mg x = some (.ref (He.ga K x)) ∧ PySem.W.keepIn K (.ref (He.ga K x)) = true ∧ Binds K fd ps [] ∧ FnG P w K mg base ((p.gdf[g]?).getD true) (3 * n) (He.ga K x) fd ps (spI (dlt p K tb) n g)
  | 0, x, g, h1, h2 => by
    obtain ⟨st, d, N, D⟩ := defB_ok (hdef x g h1 h2)
    obtain ⟨st', e1, e2, e3⟩ := fns0_get h1
    rw [D.hst] at e1
    cases e1
    obtain ⟨fd, hfd⟩ := F.fd st e3
    subst e2
    refine ⟨fd, _, st, hfd, D.hst, rfl, F.gl st e3, hfd.kp, bindsD hfd D.pl D.nd, fun vs H Q E z => ?_, fun A outer s H args us vs Q E _ _ _ _ _ z => ?_⟩ <;> (obtain ⟨Z, ds, _, z⟩ := z; exact z.elim)
  | n + 1, x, g, h1, h2 => by
    obtain ⟨st, d, N, D⟩ := defB_ok (hdef x g h1 h2)
    obtain ⟨st', e1, e2, e3⟩ := fns0_get h1
    rw [D.hst] at e1
    cases e1
    obtain ⟨fd, hfd⟩ := F.fd st e3
    subst e2
    have ih : ∀ x g, p.fns.lookup x = some g → ∃ ad fd ps, mg x = some (.ref ad) ∧ PySem.W.keepIn K (.ref ad) = true ∧ Binds K fd ps [] ∧ FnG P w K mg base ((p.gdf[g]?).getD true) (3 * n) ad fd ps (spI (dlt p K tb) n g) := fun x g h => by
      obtain ⟨k1, k2⟩ := fns_in h
      obtain ⟨fd, ps, st, _, _, _, a1, a2, a3, a4⟩ := all_fnG F O hdef n x g k1 k2
      exact ⟨_, fd, ps, a1, a2, a3, a4⟩
    refine ⟨fd, _, st, hfd, D.hst, rfl, F.gl st e3, hfd.kp, bindsD hfd D.pl D.nd, ?_⟩
    obtain ⟨oc, od, dV, kV, doc, pm, an, cdv, ct, osl, e1, lk, hcd, _, _⟩ := id hfd.ex
    have hfd' := hfd
    subst e1
    refine fnG_of (k := 3 * n + 2) lk hcd D.fs (fun vs H Q E z => ?_) fun A outer s H vs Q E hg hr z => ?_
    · obtain ⟨Z, ds, a, _⟩ := z
      rw [a.lv]
      unfold Ctx.kk
      rw [show (dlt p K tb).T.defs[g]? = some d from D.hdf]
      show (d.ks.take d.np).length = _
      rw [List.length_take, D.an]
      have := D.np
      omega
    · have CK := cok_of (P := P) (w := w) F O D hfd' (A := A) (outer := outer) (s := s) (H := H) (E := E) (fa := He.ga K (defNm st)) hg hr ih
      refine ⟨_, ?_, body_spec D.hdf D.np D.ln z⟩
      have hc := D.ck
      unfold Pr.ckB at hc
      have eb : p.body g = defBd st := by unfold Pr.body; rw [D.hst]; rfl
      have ec : p.code g = d.code := by unfold Pr.code; rw [D.hdf]; rfl
      rw [eb, ec] at hc
      have hc' : (match defBd st with | [s] => chk d.code (p.sx g) (.S s) | _ => chk d.code (p.sx g) (.Ss (defBd st))) = true := by
        revert hc
        generalize defBd st = b
        intro hc
        match b, hc with
        | [], hc => exact hc
        | [_], hc => exact hc
        | _ :: _ :: _, hc => exact hc
      exact good_body (good d.code) CK (fun _ => passes_of rfl) hc'
end
end PB
set_option maxHeartbeats 4000000
/-! Hh: what the head tells, and the law's end. -/
namespace PB
open PySem PySem.Spec PyProof.Rows L2 LamX
/-- an exception class's object -/
def oexO (C : Addr) : Option Obj → Bool
  | some ⟨.type t, _, .cls cd, ⟨[_, _, _, _, some (.builtin n), _]⟩⟩ => (t == "type") && (n == "ValueError.__new__") && cd.hasDict && !cd.hasDel && (match cd.mro with
    | .ref C' :: bm => decide (C' = C) && PySem.HandSPX.refsVE bm
    | _ => false)
  | _ => false
theorem oexO_ok {C : Addr} {o : Option Obj} (h : oexO C o = true) : ∃ nm q N bs bm sn sub ab col dd k0 k1 k2 k3 k5, o = some (excClassObj nm q C N bs bm true sn sub ab col dd k0 k1 k2 k3 k5 "ValueError.__new__") ∧ PySem.HandSPX.refsVE bm = true := by
  unfold oexO at h
  split at h
  · rename_i t dd cd k0 k1 k2 k3 n k5
    simp only [Bool.and_eq_true, beq_iff_eq, Bool.not_eq_true'] at h
    obtain ⟨⟨⟨⟨rfl, rfl⟩, h3⟩, h4⟩, h5⟩ := h
    obtain ⟨nm, bs, mro, ns, qn, hd, sn, sub, ab, col, del⟩ := cd
    dsimp only at h3 h4 h5
    subst h3 h4
    split at h5
    · rename_i C' bm
      simp only [Bool.and_eq_true, decide_eq_true_eq] at h5
      obtain ⟨rfl, h6⟩ := h5
      exact ⟨nm, qn, ns, bs, bm, sn, sub, ab, col, dd, k0, k1, k2, k3, k5, rfl, h6⟩
    · cases h5
  · cases h
def oexB (K : PySem.W.Frag) (C : Addr) : Bool := oexO C (K.lookup C) && decide (PySem.W.findIn K (.ref C) "__setattr__" = some (some (.builtin "object.__setattr__"))) && decide (PySem.W.subIn K (.ref C) (.type "BaseException") = some true) && decide (PySem.W.typeIn K (.ref C) = some (.type "type")) && PySem.W.keepIn K (.ref C)
theorem oexB_ok {K : PySem.W.Frag} {C : Addr} (h : oexB K C = true) : OexC K C := by
  unfold oexB at h
  simp only [Bool.and_eq_true, decide_eq_true_eq] at h
  obtain ⟨⟨⟨⟨h1, h2⟩, h3⟩, h4⟩, h5⟩ := h
  exact ⟨oexO_ok h1, h2, h3, h4, h5⟩
/-! what the head is asked -/
def dOf (st : Stmt) : He.DefD := ⟨(defNm st, none), defNm st, defNm st, defAr st, defBd st, defSc st, [], []⟩
def iOf (q : Str × Nat × Stmt) : He.DefD := ⟨(q.1, some "__init__"), "__init__", q.1 ++ ".__init__", defAr q.2.2, defBd q.2.2, defSc q.2.2, [], []⟩
def Pr.fa (p : Pr) : List He.Fa := p.dfs.map (fun st => .glo (defNm st)) ++ (p.inis.map (fun q => .glo q.1) ++ p.free.map .free)
def Pr.fn (p : Pr) : List He.DefD := p.dfs.map dOf ++ p.inis.map iOf
def Pr.tf (p : Pr) : List He.Defn := (p.fns0.filter fun q => (p.lms[q.2]?).getD false).map fun q => (q.1, none)
def clsB (p : Pr) (K : PySem.W.Frag) (q : Str × Nat × Stmt) : Bool :=
  oexB K (He.ga K q.1) && xfB K (He.ga K q.1) && (p.T.xin q.2.1).all (fun g => decide (PySem.W.findIn K (.ref (He.ga K q.1)) g = some none)) && decide (PySem.W.findIn K (.ref (He.ga K q.1)) "__init__" = some (some (.ref (He.ma K (He.ga K q.1) "__init__")))) && decide (PySem.W.typeIn K (.ref (He.ma K (He.ga K q.1) "__init__")) = some (.type "function")) &&
    (p.clsN.zip (List.range p.clsN.length)).all fun z => decide (PySem.W.exmOne K (.ref (He.ga K z.1)) (.ref (He.ga K q.1)) = some (p.T.sub z.2 q.2.1))
def Pr.ex (p : Pr) (K : PySem.W.Frag) : Bool := p.inis.all (clsB p K)
def posB (p : Pr) : Bool := p.inis.all (fun q => decide (p.clsN[q.2.1]? = some q.1)) && decide (p.tf.length ≤ 1)
def tbOf (p : Pr) (K : PySem.W.Frag) : List (Addr × Str) := p.tf.map fun q => ((He.cT K q).2, lamNm q.1)
section
variable {p : Pr} {K : PySem.W.Frag} {mg : Str → Option Value} {base h : Heap} {w : World}
theorem zip_range {α : Type} {l : List α} {i : Nat} {x : α} (h : l[i]? = some x) : (x, i) ∈ l.zip (List.range l.length) := by
  obtain ⟨hi, e⟩ := List.getElem?_eq_some_iff.mp h
  refine List.mem_iff_getElem.mpr ⟨i, by simp [hi], ?_⟩
  rw [List.getElem_zip, List.getElem_range, e]
theorem fx_of (X : K.In h) (G : h.Ns mainGlobals mg) (c : He.SaysX p.fa p.fn [] p.tf p.ex w h K) (hp : posB p = true) (TB : ∀ q ∈ p.tf.map (He.cT K), TabB base mg q.1 q.2) : Fx p K mg base (tbOf p K) := by
  have cd : He.SaysD p.fa p.fn K := congrArg Prod.fst c.t
  obtain ⟨hp1, hp2⟩ := (Bool.and_eq_true _ _).mp hp
  have hpos : ∀ q ∈ p.inis, p.clsN[q.2.1]? = some q.1 := fun q hq => of_decide_eq_true (List.all_eq_true.mp hp1 q hq)
  have hc : ∀ q ∈ p.inis, clsB p K q = true := fun q hq => List.all_eq_true.mp c.more q hq
  refine ⟨fun st hst => ?_, fun st hst => ?_, fun x hx => ?_, fun q hq => ?_, hpos, fun q hq a y hy => ?_, fun f st hst hl fd hfd => ?_⟩
  · exact He.glo_ok X G (cd.facts (List.mem_append_left _ (List.mem_map.mpr ⟨st, hst, rfl⟩)))
  · exact cd.defs (d := dOf st) (List.mem_append_left _ (List.mem_map.mpr ⟨st, hst, rfl⟩))
  · exact He.free_ok X G (cd.facts (List.mem_append_right _ (List.mem_append_right _ (List.mem_map.mpr ⟨x, hx, rfl⟩))))
  · have z := hc q hq
    unfold clsB at z
    simp only [Bool.and_eq_true, List.all_eq_true, decide_eq_true_eq] at z
    obtain ⟨⟨⟨⟨⟨z1, z2⟩, z3⟩, z4⟩, z5⟩, _⟩ := z
    obtain ⟨fd, hfd⟩ := cd.defs (d := iOf q) (List.mem_append_right _ (List.mem_map.mpr ⟨q, hq, rfl⟩))
    exact ⟨He.glo_ok X G (cd.facts (List.mem_append_right _ (List.mem_append_left _ (List.mem_map.mpr ⟨q, hq, rfl⟩)))), oexB_ok z1, xfB_ok z2, z3, _, fd, z4, z5, hfd⟩
  · have z := hc q hq
    unfold clsB at z
    simp only [Bool.and_eq_true, List.all_eq_true, decide_eq_true_eq] at z
    exact z.2 (y, a) (zip_range hy)
  · have hm : (defNm st, none) ∈ p.tf := by
      unfold Pr.tf
      refine List.mem_map.mpr ⟨(defNm st, f), List.mem_filter.mpr ⟨?_, hl⟩, rfl⟩
      unfold Pr.fns0
      obtain ⟨hi, e⟩ := List.getElem?_eq_some_iff.mp hst
      refine List.mem_iff_getElem.mpr ⟨f, by simp [hi], ?_⟩
      rw [List.getElem_zip, List.getElem_map, List.getElem_range, e]
    obtain ⟨oc, od, dV, kV, doc, pm, an, cdv, ct, osl, e1, lk, hcd, _, _⟩ := id hfd.ex
    obtain ⟨cc, ec⟩ := He.codeIn_ref hcd
    have e2 : fd.code = .ref cc := by rw [e1]; exact ec
    have e3 : He.codeOf K (defNm st, none) = cc := He.codeOf_eq (p := (defNm st, none)) lk e2
    have e4 : (He.cT K (defNm st, none)).1 = cc := e3
    refine ⟨cc, (He.cT K (defNm st, none)).2, e2, ?_, List.mem_map.mpr ⟨_, hm, rfl⟩, fun q hq _ => ?_⟩
    · rw [← e4]
      exact TB _ (List.mem_map.mpr ⟨_, hm, rfl⟩)
    · unfold tbOf at hq
      obtain ⟨z, hz, rfl⟩ := List.mem_map.mp hq
      have : z = (defNm st, none) := by
        have hl : p.tf.length ≤ 1 := of_decide_eq_true hp2
        revert hm hz hl
        generalize p.tf = tf
        intro hm hz hl
        match tf, hl, hm, hz with
        | [t], _, hm, hz => rw [List.mem_singleton.mp hm, List.mem_singleton.mp hz]
        | [], _, hm, _ => cases hm
        | _ :: _ :: _, hl, _, _ => simp at hl
      rw [this]
end
/-- the script handed to the law -/
theorem law_sp {p : Pr} {K : PySem.W.Frag} {n g : Nat} {d : DefI} (hd : p.T.defs[g]? = some d) (hk : d.ks.take d.np = [Kd.frz]) {H : Hp} {a : Addr} {ns : List Int} (hT : ∀ q ∈ p.tf.map (He.cT K), H q.2 = some (.tbl #[])) (nl : ∀ xs, H a ≠ some (.lst xs)) (hS : SqL K H a (ns.map V.int)) {o : List (Option PB.D)} (hc : callN p.T n g none [.lst (ns.map PB.D.int)] = some (.ok (.bl true) o)) :
    spI (dlt p K (tbOf p K)) n g [.ref a] H (fun v _ => v = .bl true) fun _ _ _ => False := by
  have kk : (dlt p K (tbOf p K)).kk g = [Kd.frz] := by
    unfold Ctx.kk
    rw [show (dlt p K (tbOf p K)).T.defs[g]? = some d from hd]
    exact hk
  refine ⟨fun _ => False, [.lst (ns.map PB.D.int)], ?_, ?_⟩
  · rw [kk]
    have one : ∀ {i : Nat} {k : Kd}, ([Kd.frz] : List Kd)[i]? = some k → i = 0 ∧ k = .frz := fun {i k} h => by
      cases i with
      | zero => cases h; exact ⟨rfl, rfl⟩
      | succ i => cases h
    refine ⟨rfl, rfl, fun i d v h => ?_, fun i d v h => ?_, fun i d v h => ?_, fun i d v h e1 e2 => ?_, fun i j a h => ?_, fun a h => h.elim, fun q hq => ?_⟩
    · cases (one h).2
    · cases (one h).2
    · cases (one h).2
    · obtain ⟨rfl, _⟩ := one h
      cases e1
      cases e2
      refine ⟨a, ns, rfl, rfl, ?_⟩
      rcases hS with (h | ⟨o, h⟩) | h
      · exact absurd h (nl _)
      · exact .inl ⟨o, h⟩
      · exact .inr (.inr h)
    · cases (one h).2
    · obtain ⟨z, hz, rfl⟩ := List.mem_map.mp hq
      exact TabS.nil (hT _ (List.mem_map.mpr ⟨z, hz, rfl⟩))
  · show outC _ _ _ _ _ _ _ (callN p.T n g none [.lst (ns.map PB.D.int)])
    rw [hc]
    exact fun v H' A => A.2.1
/-- the end -/
theorem walk_pr {l : PySem.W.OpenLaw} {p : Pr} {q : Program} {loose : List Str} {XP : (Str → Option Value) → Heap → Prop} {d : DefRec} {N g n : Nat} {st : Stmt} {di : DefI} {x : Str} {M : Nat}
    (hn : l.most = some N) (hn2 : N ≤ sizeLine) (hdf : d.params.defaults = []) (hr : Room (3 * n) callerA) (O : PrOk p) (hdef : ∀ x f, (x, f) ∈ p.fns0 → isTry (p.code f) = false → defB p f = true) (hp : posB p = true)
    (hg : (d.name, g) ∈ p.fns0) (ht : isTry (p.code g) = false) (hst : p.dfs[g]? = some st) (hx : argN st = [x]) (hpl : plainA (defAr st) = true) (hd : p.T.defs[g]? = some di) (hk : di.ks.take di.np = [Kd.frz])
    (hc : ∀ ns : List Int, ns.length ≤ N → (∀ k ∈ ns, Builtin.Int.intBits k ≤ 1048576) → ∃ o, callN p.T n g none [.lst (ns.map PB.D.int)] = some (.ok (.bl true) o)) :
    PySem.W.WalkO q loose XP (He.hookX M p.fa p.fn [] p.tf p.ex).says l.row.toRowW d [] (fun f vs => PySem.call f vs) := by
  refine Att.attach_callB hn hdf fun w s₀ s₁ mg mb fa o pm cd doc a vs ns G Y ho hd' hcd hmg hobj hints hlen hbits hgn => ?_
  obtain ⟨K, KX, c⟩ := Y
  have gr : Grnd K mg (p.tf.map (He.cT K)) s₁ := ⟨KX, G.T.g, ⟨mb, G.T.b, G.T.builtins⟩, G.T.nolimit, hgn, fun q hq => by obtain ⟨z, hz, rfl⟩ := List.mem_map.mp hq; exact c.empty z hz, fun q hq => by obtain ⟨z, hz, rfl⟩ := List.mem_map.mp hq; exact c.out z hz, fun q hq => by obtain ⟨z, hz, rfl⟩ := List.mem_map.mp hq; exact PySem.W.codeHd_of_K KX (c.hd z hz), G.T.bmain⟩
  obtain ⟨st', e1, e2, e3⟩ := fns0_get hg
  rw [hst] at e1
  cases e1
  have cd' : He.SaysD p.fa p.fn K := congrArg Prod.fst c.t
  obtain ⟨fd, hfd⟩ := cd'.defs (d := dOf st) (List.mem_append_left _ (List.mem_map.mpr ⟨st, e3, rfl⟩))
  have hga := He.glo_ok KX G.T.g (cd'.facts (List.mem_append_left _ (List.mem_map.mpr ⟨st, e3, rfl⟩)))
  have efa : fa = He.ga K d.name := by
    rw [← e2] at hmg ⊢
    have := hmg.symm.trans hga
    cases this
    rfl
  subst efa
  have F : ∀ base : Heap, K.In base → base.Ns mainGlobals mg → L2.Mod K mg base → (∀ q ∈ p.tf.map (He.cT K), TabB base mg q.1 q.2) → FnG l.prog w K mg base ((p.gdf[g]?).getD true) (3 * n) (He.ga K d.name) fd [x] (spI (dlt p K (tbOf p K)) n g) := fun base B N' M TB => by
    have FX : Fx p K mg base (tbOf p K) := fx_of KX G.T.g c hp TB
    obtain ⟨fd', ps, st'', q0, q1, q2, q3, q4, q5, q6⟩ := all_fnG (P := l.prog) (w := w) FX O hdef n d.name g hg ht
    rw [hst] at q1
    cases q1
    rw [q2, hx] at q6
    have hfd2 : FunD K (defNm st) (defNm st) (defAr st) (defBd st) (defSc st) [] [] (He.ga K d.name) fd := by
      rw [← e2]
      exact hfd
    have := funD_uniq hfd2 q0
    subst this
    exact q6
  have hb : ∀ (s : Shared) (u : Value), BindsTo s fd ⟨[u], []⟩ [(x, u)] := fun s u => by
    have e : (defAr st).args.map (·.arg) = [x] := hx
    have := FunD.bindsA (ps := [x]) hfd (fun kV doc pm an cdv ct us hl => by
      have := bind_plain (fd := PySem.W.fnOf (dOf st).name (dOf st).qual (dOf st).params (dOf st).body (dOf st).scope .none kV doc pm an cdv ct) (plainA_eq hpl) rfl (us := us) (by show us.length = ((defAr st).args.map (·.arg)).length; rw [e]; exact hl) (by show ((defAr st).args.map (·.arg)).Nodup; rw [e]; simp)
      have this : bindArgs _ ⟨us, []⟩ = pure (((defAr st).args.map (·.arg)).zip us) := this
      rw [e] at this
      exact this) s [u] rfl
    exact this
  obtain ⟨o', hc'⟩ := hc ns hlen hbits
  exact law_callG gr hobj hints (Nat.le_trans hlen hn2) hr F hb fun H hT nl hS => law_sp hd hk hT nl hS hc'
end PB
namespace K76
open PySem PB

/-- is_whole(value): value -/
def c_is_whole : C := .ret (.and (.isi .isinstInt (.var 0)) (.not (.isi .isinstBool (.var 0))))
def d_is_whole : DefI := ⟨[.shr], 1, c_is_whole⟩
def n_is_whole : List Str := ["value"]
/-- is_count(value): value -/
def c_is_count : C := .ret (.and (.call 0 (.cons (.var 0) (.nil))) (.op .ge (.var 0) (.cst (.int 0))))
def d_is_count : DefI := ⟨[.shr], 1, c_is_count⟩
def n_is_count : List Str := ["value"]
/-- need_count(what, value): what value -/
def c_need_count : C := .ife (.not (.call 1 (.cons (.var 1) (.nil)))) (.raise 1 (.cons (.var 0) (.cons (.var 1) (.nil)))) (.pass)
def d_need_count : DefI := ⟨[.shr, .shr], 2, c_need_count⟩
def n_need_count : List Str := ["what", "value"]
/-- is_bit(value): value -/
def c_is_bit : C := .ret (.and (.call 1 (.cons (.var 0) (.nil))) (.op .lt (.var 0) (.cst (.int 2))))
def d_is_bit : DefI := ⟨[.shr], 1, c_is_bit⟩
def n_is_bit : List Str := ["value"]
/-- is_function(value): value many bit -/
def c_is_function : C := .seq (.ife (.or (.not (.isi .isinstTuple (.var 0))) (.not (.blt .all (.cons (.lc [2] (.var 2) (.var 0) (.cst (.bl true)) (.call 3 (.cons (.var 2) (.nil)))) (.nil))))) (.ret (.cst (.bl false))) (.pass)) (.seq (.asg (.var 1) (.blt .len (.cons (.var 0) (.nil)))) (.seq (.whl (.and (.op .gt (.var 1) (.cst (.int 1))) (.op .eq (.op .mod (.var 1) (.cst (.int 2))) (.cst (.int 0)))) (.aug 1 .fdiv (.cst (.int 2)))) (.ret (.op .eq (.var 1) (.cst (.int 1))))))
def d_is_function : DefI := ⟨[.shr, .shr, .shr], 1, c_is_function⟩
def n_is_function : List Str := ["value", "many", "bit"]
/-- need_function(value): value -/
def c_need_function : C := .ife (.not (.call 4 (.cons (.var 0) (.nil)))) (.raise 2 (.cons (.var 0) (.nil))) (.pass)
def d_need_function : DefI := ⟨[.shr], 1, c_need_function⟩
def n_need_function : List Str := ["value"]
/-- letters_in(function): function many found -/
def c_letters_in : C := .seq (.par 1 2 (.blt .len (.cons (.var 0) (.nil))) (.cst (.int 0))) (.seq (.whl (.op .gt (.var 1) (.cst (.int 1))) (.par 1 2 (.op .fdiv (.var 1) (.cst (.int 2))) (.op .add (.var 2) (.cst (.int 1))))) (.ret (.var 2)))
def d_letters_in : DefI := ⟨[.shr, .shr, .shr], 1, c_letters_in⟩
def n_letters_in : List Str := ["function", "many", "found"]
/-- number_in(row): row i bit -/
def c_number_in : C := .ret (.blt .sum (.cons (.lc [1, 2] (.tup (.cons (.var 1) (.cons (.var 2) (.nil)))) (.blt .enum (.cons (.var 0) (.nil))) (.cst (.bl true)) (.op .shl (.var 2) (.var 1))) (.nil)))
def d_number_in : DefI := ⟨[.shr, .shr, .shr], 1, c_number_in⟩
def n_number_in : List Str := ["row", "i", "bit"]
/-- row_in(n, number): n number i -/
def c_row_in : C := .ret (.blt .tuple (.cons (.lc [2] (.var 2) (.blt .range (.cons (.var 0) (.nil))) (.cst (.bl true)) (.op .band (.op .shr (.var 1) (.var 2)) (.cst (.int 1)))) (.nil)))
def d_row_in : DefI := ⟨[.shr, .shr, .shr], 2, c_row_in⟩
def n_row_in : List Str := ["n", "number", "i"]
/-- is_bits(value): value bit -/
def c_is_bits : C := .ret (.and (.isi .isinstTuple (.var 0)) (.blt .all (.cons (.lc [1] (.var 1) (.var 0) (.cst (.bl true)) (.call 3 (.cons (.var 1) (.nil)))) (.nil))))
def d_is_bits : DefI := ⟨[.shr, .shr], 1, c_is_bits⟩
def n_is_bits : List Str := ["value", "bit"]
/-- need_row(n, row): n row -/
def c_need_row : C := .ife (.or (.not (.call 9 (.cons (.var 1) (.nil)))) (.op .ne (.blt .len (.cons (.var 1) (.nil))) (.var 0))) (.raise 3 (.cons (.var 1) (.nil))) (.pass)
def d_need_row : DefI := ⟨[.shr, .shr], 2, c_need_row⟩
def n_need_row : List Str := ["n", "row"]
/-- is_letter(n, value): n value -/
def c_is_letter : C := .ret (.and (.call 1 (.cons (.var 1) (.nil))) (.op .lt (.var 1) (.var 0)))
def d_is_letter : DefI := ⟨[.shr, .shr], 2, c_is_letter⟩
def n_is_letter : List Str := ["n", "value"]
/-- need_letter(n, value): n value -/
def c_need_letter : C := .ife (.not (.call 11 (.cons (.var 0) (.cons (.var 1) (.nil))))) (.raise 1 (.cons (.cst (.str "letter")) (.cons (.var 1) (.nil)))) (.pass)
def d_need_letter : DefI := ⟨[.shr, .shr], 2, c_need_letter⟩
def n_need_letter : List Str := ["n", "value"]
/-- flipped(function): function value -/
def c_flipped : C := .ret (.blt .tuple (.cons (.lc [1] (.var 1) (.var 0) (.cst (.bl true)) (.op .sub (.cst (.int 1)) (.var 1))) (.nil)))
def d_flipped : DefI := ⟨[.shr, .shr], 1, c_flipped⟩
def n_flipped : List Str := ["function", "value"]
/-- turned_value(function): function -/
def c_turned_value : C := .seq (.drop (.call 5 (.cons (.var 0) (.nil)))) (.ret (.call 13 (.cons (.var 0) (.nil))))
def d_turned_value : DefI := ⟨[.shr], 1, c_turned_value⟩
def n_turned_value : List Str := ["function"]
/-- need_alike(first, second): first second -/
def c_need_alike : C := .seq (.drop (.call 5 (.cons (.var 0) (.nil)))) (.seq (.drop (.call 5 (.cons (.var 1) (.nil)))) (.ife (.op .ne (.blt .len (.cons (.var 0) (.nil))) (.blt .len (.cons (.var 1) (.nil)))) (.raise 4 (.cons (.cst (.str "letters")) (.cons (.tup (.cons (.call 6 (.cons (.var 0) (.nil))) (.cons (.call 6 (.cons (.var 1) (.nil))) (.nil)))) (.nil)))) (.pass)))
def d_need_alike : DefI := ⟨[.shr, .shr], 2, c_need_alike⟩
def n_need_alike : List Str := ["first", "second"]
/-- unlike(first, second): first second a b -/
def c_unlike : C := .seq (.drop (.call 15 (.cons (.var 0) (.cons (.var 1) (.nil))))) (.ret (.blt .tuple (.cons (.lc [2, 3] (.tup (.cons (.var 2) (.cons (.var 3) (.nil)))) (.blt .zip (.cons (.var 0) (.cons (.var 1) (.nil)))) (.cst (.bl true)) (.op .bxor (.var 2) (.var 3))) (.nil))))
def d_unlike : DefI := ⟨[.shr, .shr, .shr, .shr], 2, c_unlike⟩
def n_unlike : List Str := ["first", "second", "a", "b"]
/-- ones_in(number): number found -/
def c_ones_in : C := .seq (.asg (.var 1) (.cst (.int 0))) (.seq (.whl (.var 0) (.par 0 1 (.op .fdiv (.var 0) (.cst (.int 2))) (.op .add (.var 1) (.op .mod (.var 0) (.cst (.int 2)))))) (.ret (.var 1)))
def d_ones_in : DefI := ⟨[.shr, .shr], 1, c_ones_in⟩
def n_ones_in : List Str := ["number", "found"]
/-- by_values(bits): bits number -/
def c_by_values : C := .ret (.blt .tuple (.cons (.lc [1] (.var 1) (.blt .range (.cons (.op .shl (.cst (.int 1)) (.op .sub (.blt .len (.cons (.var 0) (.nil))) (.cst (.int 1)))) (.nil))) (.cst (.bl true)) (.idx (.var 0) (.call 17 (.cons (.var 1) (.nil))))) (.nil)))
def d_by_values : DefI := ⟨[.shr, .shr], 1, c_by_values⟩
def n_by_values : List Str := ["bits", "number"]
/-- parity_of(n): n k -/
def c_parity_of : C := .seq (.drop (.call 2 (.cons (.cst (.str "letters")) (.cons (.var 0) (.nil))))) (.ret (.call 18 (.cons (.lc [1] (.var 1) (.blt .range (.cons (.op .add (.var 0) (.cst (.int 1))) (.nil))) (.cst (.bl true)) (.op .mod (.var 1) (.cst (.int 2)))) (.nil))))
def d_parity_of : DefI := ⟨[.shr, .shr], 1, c_parity_of⟩
def n_parity_of : List Str := ["n", "k"]
/-- falling_in(function): function n found number value i -/
def c_falling_in : C := .seq (.par 1 2 (.call 6 (.cons (.var 0) (.nil))) (.lst (.nil))) (.seq (.fr (.tup (.cons (.var 3) (.cons (.var 4) (.nil)))) (.blt .enum (.cons (.var 0) (.nil))) (.fr (.var 5) (.blt .range (.cons (.var 1) (.nil))) (.ife (.and (.op .eq (.var 4) (.cst (.int 1))) (.and (.not (.op .band (.op .shr (.var 3) (.var 5)) (.cst (.int 1)))) (.op .eq (.idx (.var 0) (.op .bor (.var 3) (.op .shl (.cst (.int 1)) (.var 5)))) (.cst (.int 0))))) (.app 2 (.tup (.cons (.call 8 (.cons (.var 1) (.cons (.var 3) (.nil)))) (.cons (.var 5) (.nil))))) (.pass)))) (.ret (.ite (.loc 2) (.blt .min (.cons (.loc 2) (.nil))) (.cst .non))))
def d_falling_in : DefI := ⟨[.shr, .shr, .own, .shr, .shr, .shr], 1, c_falling_in⟩
def n_falling_in : List Str := ["function", "n", "found", "number", "value", "i"]
/-- is_rising(function): function -/
def c_is_rising : C := .seq (.drop (.call 5 (.cons (.var 0) (.nil)))) (.ret (.op .is (.call 20 (.cons (.var 0) (.nil))) (.cst .non)))
def d_is_rising : DefI := ⟨[.shr], 1, c_is_rising⟩
def n_is_rising : List Str := ["function"]
/-- influence_in(function, letter): function letter number value -/
def c_influence_in : C := .ret (.blt .sum (.cons (.lc [2, 3] (.tup (.cons (.var 2) (.cons (.var 3) (.nil)))) (.blt .enum (.cons (.var 0) (.nil))) (.cst (.bl true)) (.op .ne (.var 3) (.idx (.var 0) (.op .bxor (.var 2) (.op .shl (.cst (.int 1)) (.var 1)))))) (.nil)))
def d_influence_in : DefI := ⟨[.shr, .shr, .shr, .shr], 2, c_influence_in⟩
def n_influence_in : List Str := ["function", "letter", "number", "value"]
/-- all_in(function): function letter -/
def c_all_in : C := .ret (.lc [1] (.var 1) (.blt .range (.cons (.call 6 (.cons (.var 0) (.nil))) (.nil))) (.cst (.bl true)) (.call 22 (.cons (.var 0) (.cons (.var 1) (.nil)))))
def d_all_in : DefI := ⟨[.shr, .shr], 1, c_all_in⟩
def n_all_in : List Str := ["function", "letter"]
/-- influence(function, letter): function letter -/
def c_influence : C := .seq (.drop (.call 5 (.cons (.var 0) (.nil)))) (.seq (.drop (.call 12 (.cons (.call 6 (.cons (.var 0) (.nil))) (.cons (.var 1) (.nil))))) (.ret (.call 22 (.cons (.var 0) (.cons (.var 1) (.nil))))))
def d_influence : DefI := ⟨[.shr, .shr], 2, c_influence⟩
def n_influence : List Str := ["function", "letter"]
/-- influences(function): function -/
def c_influences : C := .seq (.drop (.call 5 (.cons (.var 0) (.nil)))) (.ret (.blt .tuple (.cons (.call 23 (.cons (.var 0) (.nil))) (.nil))))
def d_influences : DefI := ⟨[.shr], 1, c_influences⟩
def n_influences : List Str := ["function"]
/-- all_influence(function): function -/
def c_all_influence : C := .seq (.drop (.call 5 (.cons (.var 0) (.nil)))) (.ret (.blt .sum (.cons (.call 23 (.cons (.var 0) (.nil))) (.nil))))
def d_all_influence : DefI := ⟨[.shr], 1, c_all_influence⟩
def n_all_influence : List Str := ["function"]
/-- spread_in(function): function -/
def c_spread_in : C := .ret (.op .mul (.blt .sum (.cons (.var 0) (.nil))) (.op .sub (.blt .len (.cons (.var 0) (.nil))) (.blt .sum (.cons (.var 0) (.nil)))))
def d_spread_in : DefI := ⟨[.shr], 1, c_spread_in⟩
def n_spread_in : List Str := ["function"]
/-- spread_of(function): function -/
def c_spread_of : C := .seq (.drop (.call 5 (.cons (.var 0) (.nil)))) (.ret (.call 27 (.cons (.var 0) (.nil))))
def d_spread_of : DefI := ⟨[.shr], 1, c_spread_of⟩
def n_spread_of : List Str := ["function"]
/-- spread_gap(function): function -/
def c_spread_gap : C := .seq (.drop (.call 5 (.cons (.var 0) (.nil)))) (.ret (.op .sub (.op .mul (.blt .len (.cons (.var 0) (.nil))) (.blt .sum (.cons (.call 23 (.cons (.var 0) (.nil))) (.nil)))) (.op .mul (.cst (.int 4)) (.call 27 (.cons (.var 0) (.nil))))))
def d_spread_gap : DefI := ⟨[.shr], 1, c_spread_gap⟩
def n_spread_gap : List Str := ["function"]
/-- spread(values, sign): values sign found step k item -/
def c_spread : C := .seq (.par 2 3 (.blt .list (.cons (.var 0) (.nil))) (.cst (.int 1))) (.seq (.whl (.op .lt (.var 3) (.blt .len (.cons (.var 2) (.nil)))) (.seq (.asg (.var 2) (.lc [4, 5] (.tup (.cons (.var 4) (.cons (.var 5) (.nil)))) (.blt .enum (.cons (.var 2) (.nil))) (.cst (.bl true)) (.ite (.op .band (.var 4) (.var 3)) (.op .add (.var 5) (.op .mul (.var 1) (.idx (.var 2) (.op .bxor (.var 4) (.var 3))))) (.var 5)))) (.asg (.var 3) (.op .mul (.cst (.int 2)) (.var 3))))) (.ret (.var 2)))
def d_spread : DefI := ⟨[.shr, .shr, .shr, .shr, .shr, .shr], 2, c_spread⟩
def n_spread : List Str := ["values", "sign", "found", "step", "k", "item"]
/-- factors_in(function): function -/
def c_factors_in : C := .ret (.call 30 (.cons (.var 0) (.cons (.neg (.cst (.int 1))) (.nil))))
def d_factors_in : DefI := ⟨[.shr], 1, c_factors_in⟩
def n_factors_in : List Str := ["function"]
/-- most_ones(numbers): numbers place number -/
def c_most_ones : C := .ret (.mmd true (.lc [1, 2] (.tup (.cons (.var 1) (.cons (.var 2) (.nil)))) (.blt .enum (.cons (.var 0) (.nil))) (.op .ne (.var 2) (.cst (.int 0))) (.call 17 (.cons (.var 1) (.nil)))) 0)
def d_most_ones : DefI := ⟨[.shr, .shr, .shr], 1, c_most_ones⟩
def n_most_ones : List Str := ["numbers", "place", "number"]
/-- degree_in(function): function -/
def c_degree_in : C := .ret (.call 32 (.cons (.call 31 (.cons (.var 0) (.nil))) (.nil)))
def d_degree_in : DefI := ⟨[.shr], 1, c_degree_in⟩
def n_degree_in : List Str := ["function"]
/-- degree(function): function -/
def c_degree : C := .seq (.drop (.call 5 (.cons (.var 0) (.nil)))) (.ret (.call 33 (.cons (.var 0) (.nil))))
def d_degree : DefI := ⟨[.shr], 1, c_degree⟩
def n_degree : List Str := ["function"]
/-- signed_in(values): values found step k item -/
def c_signed_in : C := .seq (.par 1 2 (.blt .list (.cons (.var 0) (.nil))) (.cst (.int 1))) (.seq (.whl (.op .lt (.var 2) (.blt .len (.cons (.var 1) (.nil)))) (.seq (.asg (.var 1) (.lc [3, 4] (.tup (.cons (.var 3) (.cons (.var 4) (.nil)))) (.blt .enum (.cons (.var 1) (.nil))) (.cst (.bl true)) (.ite (.op .band (.var 3) (.var 2)) (.op .sub (.idx (.var 1) (.op .bxor (.var 3) (.var 2))) (.var 4)) (.op .add (.var 4) (.idx (.var 1) (.op .bxor (.var 3) (.var 2))))))) (.asg (.var 2) (.op .mul (.cst (.int 2)) (.var 2))))) (.ret (.var 1)))
def d_signed_in : DefI := ⟨[.shr, .shr, .shr, .shr, .shr], 1, c_signed_in⟩
def n_signed_in : List Str := ["values", "found", "step", "k", "item"]
/-- signed_sums(function): function value -/
def c_signed_sums : C := .seq (.drop (.call 5 (.cons (.var 0) (.nil)))) (.ret (.blt .tuple (.cons (.call 35 (.cons (.lc [1] (.var 1) (.var 0) (.cst (.bl true)) (.op .sub (.cst (.int 1)) (.op .mul (.cst (.int 2)) (.var 1)))) (.nil))) (.nil))))
def d_signed_sums : DefI := ⟨[.shr, .shr], 1, c_signed_sums⟩
def n_signed_sums : List Str := ["function", "value"]
/-- need_place(function, row): function row -/
def c_need_place : C := .seq (.drop (.call 5 (.cons (.var 0) (.nil)))) (.drop (.call 10 (.cons (.call 6 (.cons (.var 0) (.nil))) (.cons (.var 1) (.nil)))))
def d_need_place : DefI := ⟨[.shr, .shr], 2, c_need_place⟩
def n_need_place : List Str := ["function", "row"]
/-- turn_masks(function, place): function place i -/
def c_turn_masks : C := .ret (.lc [2] (.var 2) (.blt .range (.cons (.call 6 (.cons (.var 0) (.nil))) (.nil))) (.op .ne (.idx (.var 0) (.var 1)) (.idx (.var 0) (.op .bxor (.var 1) (.op .shl (.cst (.int 1)) (.var 2))))) (.op .shl (.cst (.int 1)) (.var 2)))
def d_turn_masks : DefI := ⟨[.shr, .shr, .shr], 2, c_turn_masks⟩
def n_turn_masks : List Str := ["function", "place", "i"]
/-- turn_count(function, row): function row -/
def c_turn_count : C := .seq (.drop (.call 37 (.cons (.var 0) (.cons (.var 1) (.nil))))) (.ret (.blt .len (.cons (.call 38 (.cons (.var 0) (.cons (.call 7 (.cons (.var 1) (.nil))) (.nil)))) (.nil))))
def d_turn_count : DefI := ⟨[.shr, .shr], 2, c_turn_count⟩
def n_turn_count : List Str := ["function", "row"]
/-- most_turns_in(function): function place -/
def c_most_turns_in : C := .ret (.blt .max (.cons (.lc [1] (.var 1) (.blt .range (.cons (.blt .len (.cons (.var 0) (.nil))) (.nil))) (.cst (.bl true)) (.blt .len (.cons (.call 38 (.cons (.var 0) (.cons (.var 1) (.nil)))) (.nil)))) (.nil)))
def d_most_turns_in : DefI := ⟨[.shr, .shr], 1, c_most_turns_in⟩
def n_most_turns_in : List Str := ["function", "place"]
/-- most_turns(function): function -/
def c_most_turns : C := .seq (.drop (.call 5 (.cons (.var 0) (.nil)))) (.ret (.call 40 (.cons (.var 0) (.nil))))
def d_most_turns : DefI := ⟨[.shr], 1, c_most_turns⟩
def n_most_turns : List Str := ["function"]
/-- turned_lot(function, letter): function letter place value -/
def c_turned_lot : C := .seq (.drop (.call 5 (.cons (.var 0) (.nil)))) (.seq (.drop (.call 12 (.cons (.call 6 (.cons (.var 0) (.nil))) (.cons (.var 1) (.nil))))) (.ret (.blt .tuple (.cons (.lc [2, 3] (.tup (.cons (.var 2) (.cons (.var 3) (.nil)))) (.blt .enum (.cons (.var 0) (.nil))) (.cst (.bl true)) (.blt .int (.cons (.op .ne (.var 3) (.idx (.var 0) (.op .bxor (.var 2) (.op .shl (.cst (.int 1)) (.var 1))))) (.nil)))) (.nil)))))
def d_turned_lot : DefI := ⟨[.shr, .shr, .shr, .shr], 2, c_turned_lot⟩
def n_turned_lot : List Str := ["function", "letter", "place", "value"]
/-- close_at(function, place): function place i -/
def c_close_at : C := .ret (.blt .sum (.cons (.lc [2] (.var 2) (.blt .range (.cons (.call 6 (.cons (.var 0) (.nil))) (.nil))) (.cst (.bl true)) (.idx (.var 0) (.op .bxor (.var 1) (.op .shl (.cst (.int 1)) (.var 2))))) (.nil)))
def d_close_at : DefI := ⟨[.shr, .shr, .shr], 2, c_close_at⟩
def n_close_at : List Str := ["function", "place", "i"]
/-- close_count(function, row): function row -/
def c_close_count : C := .seq (.drop (.call 37 (.cons (.var 0) (.cons (.var 1) (.nil))))) (.ret (.call 43 (.cons (.var 0) (.cons (.call 7 (.cons (.var 1) (.nil))) (.nil)))))
def d_close_count : DefI := ⟨[.shr, .shr], 2, c_close_count⟩
def n_close_count : List Str := ["function", "row"]
/-- counts_of(function): function place value -/
def c_counts_of : C := .ret (.lc [1, 2] (.tup (.cons (.var 1) (.cons (.var 2) (.nil)))) (.blt .enum (.cons (.var 0) (.nil))) (.op .eq (.var 2) (.cst (.int 1))) (.call 43 (.cons (.var 0) (.cons (.var 1) (.nil)))))
def d_counts_of : DefI := ⟨[.shr, .shr, .shr], 1, c_counts_of⟩
def n_counts_of : List Str := ["function", "place", "value"]
/-- most_close(function): function -/
def c_most_close : C := .seq (.drop (.call 5 (.cons (.var 0) (.nil)))) (.ret (.mmd true (.call 45 (.cons (.var 0) (.nil))) 0))
def d_most_close : DefI := ⟨[.shr], 1, c_most_close⟩
def n_most_close : List Str := ["function"]
/-- least_close(function): function -/
def c_least_close : C := .seq (.drop (.call 5 (.cons (.var 0) (.nil)))) (.ret (.mmd false (.call 45 (.cons (.var 0) (.nil))) 0))
def d_least_close : DefI := ⟨[.shr], 1, c_least_close⟩
def n_least_close : List Str := ["function"]
/-- _law_pen(script): script -/
def c__law_pen : C := .ret (.disp ["cells", "at", "rest"] (.cons (.blt .list (.cons (.scrCut 0 63) (.nil))) (.cons (.cst (.int 0)) (.cons (.cst (.int 0)) (.nil)))))
def d__law_pen : DefI := ⟨[.frz], 1, c__law_pen⟩
def n__law_pen : List Str := ["script"]
/-- _law_draw(pen, many): pen many at cell mixed digit -/
def c__law_draw : C := .seq (.ife (.op .gt (.idx (.loc 0) (.cst (.str "rest"))) (.cst (.int 0))) (.seq (.asg (.var 5) (.op .mod (.blt .int (.cons (.idx (.loc 0) (.cst (.str "rest"))) (.nil))) (.var 1))) (.seq (.stIx 0 (.cst (.str "rest")) (.op .fdiv (.idx (.loc 0) (.cst (.str "rest"))) (.var 1))) (.ret (.var 5)))) (.pass)) (.seq (.asg (.var 2) (.idx (.loc 0) (.cst (.str "at")))) (.seq (.stIx 0 (.cst (.str "at")) (.op .add (.var 2) (.cst (.int 1)))) (.seq (.asg (.var 3) (.op .add (.op .mul (.cst (.int 73)) (.var 2)) (.cst (.int 31)))) (.seq (.ife (.op .ne (.idx (.loc 0) (.cst (.str "cells"))) (.lst (.nil))) (.asg (.var 3) (.idx (.idx (.loc 0) (.cst (.str "cells"))) (.op .mod (.blt .int (.cons (.var 2) (.nil))) (.blt .len (.cons (.idx (.loc 0) (.cst (.str "cells"))) (.nil)))))) (.pass)) (.seq (.ife (.and (.op .lt (.var 2) (.blt .len (.cons (.idx (.loc 0) (.cst (.str "cells"))) (.nil)))) (.op .ge (.blt .abs (.cons (.var 3) (.nil))) (.op .pow (.cst (.int 10)) (.cst (.int 18))))) (.seq (.stIx 0 (.cst (.str "rest")) (.op .fdiv (.op .sub (.blt .abs (.cons (.var 3) (.nil))) (.op .pow (.cst (.int 10)) (.cst (.int 18)))) (.var 1))) (.ret (.op .mod (.blt .int (.cons (.op .sub (.blt .abs (.cons (.var 3) (.nil))) (.op .pow (.cst (.int 10)) (.cst (.int 18)))) (.nil))) (.var 1)))) (.pass)) (.seq (.asg (.var 4) (.op .add (.op .mul (.op .mod (.blt .int (.cons (.var 3) (.nil))) (.cst (.int 4294967197))) (.cst (.int 49043))) (.op .mul (.op .mul (.cst (.int 16061)) (.var 2)) (.var 2)))) (.seq (.asg (.var 4) (.op .mod (.blt .int (.cons (.op .add (.op .add (.var 4) (.op .mul (.cst (.int 1543)) (.var 2))) (.cst (.int 17))) (.nil))) (.cst (.int 4294967189)))) (.seq (.asg (.var 4) (.op .mod (.blt .int (.cons (.op .add (.op .add (.op .add (.op .mul (.var 4) (.var 4)) (.op .mul (.cst (.int 68891)) (.var 4))) (.op .mul (.cst (.int 29)) (.var 2))) (.cst (.int 7))) (.nil))) (.cst (.int 4294967161)))) (.ret (.op .mod (.blt .int (.cons (.op .fdiv (.op .mod (.blt .int (.cons (.op .mul (.var 4) (.op .add (.var 4) (.cst (.int 57041)))) (.nil))) (.cst (.int 4294967143))) (.cst (.int 64))) (.nil))) (.var 1)))))))))))
def d__law_draw : DefI := ⟨[.own, .shr, .shr, .shr, .shr, .shr], 2, c__law_draw⟩
def n__law_draw : List Str := ["pen", "many", "at", "cell", "mixed", "digit"]
/-- _law_row(n, number): n number i -/
def c__law_row : C := .ret (.blt .tuple (.cons (.lc [2] (.var 2) (.blt .range (.cons (.var 0) (.nil))) (.cst (.bl true)) (.op .band (.op .shr (.var 1) (.var 2)) (.cst (.int 1)))) (.nil)))
def d__law_row : DefI := ⟨[.shr, .shr, .shr], 2, c__law_row⟩
def n__law_row : List Str := ["n", "number", "i"]
/-- _law_ones(number): number found -/
def c__law_ones : C := .seq (.asg (.var 1) (.cst (.int 0))) (.seq (.whl (.op .gt (.var 0) (.cst (.int 0))) (.par 1 0 (.op .add (.var 1) (.op .band (.var 0) (.cst (.int 1)))) (.op .shr (.var 0) (.cst (.int 1))))) (.ret (.var 1)))
def d__law_ones : DefI := ⟨[.shr, .shr], 1, c__law_ones⟩
def n__law_ones : List Str := ["number", "found"]
/-- _law_function(pen, n): pen n share way many bits masks mask bit other k lap number -/
def c__law_function : C := .seq (.par 3 4 (.call 49 (.cons (.loc 0) (.cons (.cst (.int 8)) (.nil)))) (.op .shl (.cst (.int 1)) (.var 1))) (.seq (.ife (.op .eq (.var 3) (.cst (.int 0))) (.seq (.asg (.var 5) (.lc [10] (.var 10) (.blt .range (.cons (.op .add (.var 1) (.cst (.int 1))) (.nil))) (.cst (.bl true)) (.call 49 (.cons (.loc 0) (.cons (.cst (.int 2)) (.nil)))))) (.ret (.blt .tuple (.cons (.lc [12] (.var 12) (.blt .range (.cons (.var 4) (.nil))) (.cst (.bl true)) (.idx (.var 5) (.call 51 (.cons (.var 12) (.nil))))) (.nil))))) (.pass)) (.seq (.ife (.op .eq (.var 3) (.cst (.int 1))) (.seq (.asg (.var 6) (.lc [11] (.var 11) (.blt .range (.cons (.op .add (.cst (.int 1)) (.call 49 (.cons (.loc 0) (.cons (.cst (.int 3)) (.nil))))) (.nil))) (.cst (.bl true)) (.call 49 (.cons (.loc 0) (.cons (.var 4) (.nil)))))) (.ret (.blt .tuple (.cons (.lc [12] (.var 12) (.blt .range (.cons (.var 4) (.nil))) (.cst (.bl true)) (.blt .int (.cons (.op .ne (.lc [7] (.var 7) (.var 6) (.op .eq (.op .band (.var 12) (.var 7)) (.var 7)) (.var 7)) (.lst (.nil))) (.nil)))) (.nil))))) (.pass)) (.seq (.ife (.op .eq (.var 3) (.cst (.int 2))) (.seq (.par 7 8 (.call 49 (.cons (.loc 0) (.cons (.var 4) (.nil)))) (.call 49 (.cons (.loc 0) (.cons (.cst (.int 2)) (.nil))))) (.ret (.blt .tuple (.cons (.lc [12] (.var 12) (.blt .range (.cons (.var 4) (.nil))) (.cst (.bl true)) (.op .band (.op .add (.call 51 (.cons (.op .band (.var 12) (.var 7)) (.nil))) (.var 8)) (.cst (.int 1)))) (.nil))))) (.pass)) (.seq (.ife (.op .eq (.var 3) (.cst (.int 3))) (.seq (.asg (.var 7) (.call 49 (.cons (.loc 0) (.cons (.var 4) (.nil))))) (.seq (.asg (.var 5) (.lc [12] (.var 12) (.blt .range (.cons (.var 4) (.nil))) (.cst (.bl true)) (.call 49 (.cons (.loc 0) (.cons (.cst (.int 2)) (.nil)))))) (.ret (.blt .tuple (.cons (.lc [12] (.var 12) (.blt .range (.cons (.var 4) (.nil))) (.cst (.bl true)) (.idx (.var 5) (.op .band (.var 12) (.var 7)))) (.nil)))))) (.pass)) (.seq (.ife (.op .eq (.var 3) (.cst (.int 4))) (.seq (.par 7 9 (.call 49 (.cons (.loc 0) (.cons (.var 4) (.nil)))) (.call 49 (.cons (.loc 0) (.cons (.var 4) (.nil))))) (.ret (.blt .tuple (.cons (.lc [12] (.var 12) (.blt .range (.cons (.var 4) (.nil))) (.cst (.bl true)) (.blt .int (.cons (.op .eq (.op .band (.op .bxor (.var 12) (.var 9)) (.var 7)) (.var 7)) (.nil)))) (.nil))))) (.pass)) (.seq (.asg (.var 2) (.op .add (.cst (.int 1)) (.call 49 (.cons (.loc 0) (.cons (.cst (.int 4)) (.nil)))))) (.ret (.blt .tuple (.cons (.lc [12] (.var 12) (.blt .range (.cons (.var 4) (.nil))) (.cst (.bl true)) (.blt .int (.cons (.op .lt (.call 49 (.cons (.loc 0) (.cons (.cst (.int 5)) (.nil)))) (.var 2)) (.nil)))) (.nil))))))))))
def d__law_function : DefI := ⟨[.own, .shr, .shr, .shr, .shr, .shr, .shr, .shr, .shr, .shr, .shr, .shr, .shr], 2, c__law_function⟩
def n__law_function : List Str := ["pen", "n", "share", "way", "many", "bits", "masks", "mask", "bit", "other", "k", "lap", "number"]
/-- law(script): script pen turn n function rows close outside i mixed many first lot signed other some number row k one two bit -/
def c_law : C := .seq (.asg (.loc 1) (.call 48 (.cons (.scr 0) (.nil)))) (.seq (.fr (.var 2) (.blt .range (.cons (.op .add (.cst (.int 3)) (.blt .min (.cons (.cst (.int 3)) (.cons (.scrLen 0) (.nil))))) (.nil))) (.seq (.asg (.var 3) (.call 49 (.cons (.loc 1) (.cons (.cst (.int 6)) (.nil))))) (.seq (.asg (.var 4) (.call 52 (.cons (.loc 1) (.cons (.var 3) (.nil))))) (.seq (.asg (.var 5) (.lc [16] (.var 16) (.blt .range (.cons (.op .shl (.cst (.int 1)) (.var 3)) (.nil))) (.op .eq (.idx (.var 4) (.var 16)) (.cst (.int 1))) (.call 50 (.cons (.var 3) (.cons (.var 16) (.nil)))))) (.seq (.asg (.var 6) (.lc [17] (.var 17) (.var 5) (.cst (.bl true)) (.call 44 (.cons (.var 4) (.cons (.var 17) (.nil)))))) (.seq (.ife (.op .ne (.call 26 (.cons (.var 4) (.nil))) (.op .mul (.cst (.int 2)) (.blt .sum (.cons (.lc [10] (.var 10) (.var 6) (.cst (.bl true)) (.op .sub (.var 3) (.var 10))) (.nil))))) (.ret (.cst (.bl false))) (.pass)) (.seq (.ife (.or (.op .ne (.call 46 (.cons (.var 4) (.nil))) (.blt .max (.cons (.op .add (.var 6) (.lst (.cons (.cst (.int 0)) (.nil)))) (.nil)))) (.op .ne (.call 47 (.cons (.var 4) (.nil))) (.ite (.op .ne (.var 6) (.lst (.nil))) (.blt .min (.cons (.var 6) (.nil))) (.cst (.int 0))))) (.ret (.cst (.bl false))) (.pass)) (.seq (.asg (.var 7) (.lc [17] (.var 17) (.var 5) (.cst (.bl true)) (.call 39 (.cons (.var 4) (.cons (.var 17) (.nil)))))) (.seq (.ife (.or (.op .ne (.lc [10] (.var 10) (.var 6) (.cst (.bl true)) (.op .sub (.var 3) (.var 10))) (.var 7)) (.op .gt (.blt .max (.cons (.op .add (.lst (.cons (.cst (.int 0)) (.nil))) (.var 7)) (.nil))) (.call 41 (.cons (.var 4) (.nil))))) (.ret (.cst (.bl false))) (.pass)) (.seq (.fr (.var 8) (.blt .range (.cons (.var 3) (.nil))) (.seq (.asg (.var 12) (.call 42 (.cons (.var 4) (.cons (.var 8) (.nil))))) (.seq (.ife (.op .ne (.blt .sum (.cons (.var 12) (.nil))) (.call 24 (.cons (.var 4) (.cons (.var 8) (.nil))))) (.ret (.cst (.bl false))) (.pass)) (.ife (.op .ne (.var 12) (.blt .tuple (.cons (.lc [18] (.var 18) (.blt .range (.cons (.op .shl (.cst (.int 1)) (.var 3)) (.nil))) (.cst (.bl true)) (.op .bxor (.idx (.var 4) (.var 18)) (.idx (.var 4) (.op .bxor (.var 18) (.op .shl (.cst (.int 1)) (.var 8)))))) (.nil)))) (.ret (.cst (.bl false))) (.pass))))) (.seq (.asg (.var 9) (.call 16 (.cons (.var 4) (.cons (.call 19 (.cons (.var 3) (.nil))) (.nil))))) (.seq (.ife (.op .ne (.lc [19, 20] (.tup (.cons (.var 19) (.cons (.var 20) (.nil)))) (.blt .zip (.cons (.call 25 (.cons (.var 9) (.nil))) (.cons (.call 25 (.cons (.var 4) (.nil))) (.nil)))) (.cst (.bl true)) (.op .add (.var 19) (.var 20))) (.op .mul (.lst (.cons (.op .shl (.cst (.int 1)) (.var 3)) (.nil))) (.var 3))) (.ret (.cst (.bl false))) (.pass)) (.seq (.par 13 14 (.call 36 (.cons (.var 4) (.nil))) (.call 36 (.cons (.var 9) (.nil)))) (.seq (.ife (.op .ne (.blt .list (.cons (.var 14) (.nil))) (.lc [18] (.var 18) (.blt .range (.cons (.op .shl (.cst (.int 1)) (.var 3)) (.nil))) (.cst (.bl true)) (.idx (.var 13) (.op .sub (.op .sub (.op .shl (.cst (.int 1)) (.var 3)) (.cst (.int 1))) (.var 18))))) (.ret (.cst (.bl false))) (.pass)) (.seq (.ife (.and (.op .ne (.op .mul (.cst (.int 2)) (.blt .sum (.cons (.var 4) (.nil)))) (.op .shl (.cst (.int 1)) (.var 3))) (.op .gt (.var 3) (.cst (.int 0)))) (.seq (.asg (.var 15) (.ite (.op .gt (.op .mul (.cst (.int 2)) (.blt .sum (.cons (.var 4) (.nil)))) (.op .shl (.cst (.int 1)) (.var 3))) (.var 4) (.call 14 (.cons (.var 4) (.nil))))) (.ife (.op .lt (.op .mul (.call 46 (.cons (.var 15) (.nil))) (.call 46 (.cons (.var 15) (.nil)))) (.var 3)) (.ret (.cst (.bl false))) (.pass))) (.pass)) (.seq (.asg (.var 10) (.blt .sum (.cons (.var 4) (.nil)))) (.seq (.asg (.var 11) (.blt .tuple (.cons (.lc [16] (.var 16) (.blt .range (.cons (.op .shl (.cst (.int 1)) (.var 3)) (.nil))) (.cst (.bl true)) (.blt .int (.cons (.op .lt (.var 16) (.var 10)) (.nil)))) (.nil)))) (.seq (.ife (.or (.op .gt (.call 26 (.cons (.var 11) (.nil))) (.call 26 (.cons (.var 4) (.nil)))) (.op .ne (.call 28 (.cons (.var 11) (.nil))) (.call 28 (.cons (.var 4) (.nil))))) (.ret (.cst (.bl false))) (.pass)) (.seq (.ife (.or (.op .lt (.call 29 (.cons (.var 11) (.nil))) (.cst (.int 0))) (.op .isNot (.call 21 (.cons (.blt .tuple (.cons (.lc [21] (.var 21) (.var 11) (.cst (.bl true)) (.op .sub (.cst (.int 1)) (.var 21))) (.nil))) (.nil))) (.cst (.bl true)))) (.ret (.cst (.bl false))) (.pass)) (.seq (.ife (.and (.op .gt (.var 10) (.cst (.int 0))) (.and (.op .gt (.call 47 (.cons (.var 4) (.nil))) (.cst (.int 0))) (.op .lt (.var 10) (.op .shl (.cst (.int 1)) (.call 47 (.cons (.var 4) (.nil))))))) (.ret (.cst (.bl false))) (.pass)) (.ife (.op .gt (.call 34 (.cons (.var 4) (.nil))) (.op .mul (.call 41 (.cons (.var 4) (.nil))) (.call 41 (.cons (.var 4) (.nil))))) (.ret (.cst (.bl false))) (.pass)))))))))))))))))))))) (.ret (.cst (.bl true))))
def d_law : DefI := ⟨[.frz, .own, .shr, .shr, .shr, .shr, .shr, .shr, .shr, .shr, .shr, .shr, .shr, .shr, .shr, .shr, .shr, .shr, .shr, .shr, .shr, .shr], 1, c_law⟩
def n_law : List Str := ["script", "pen", "turn", "n", "function", "rows", "close", "outside", "i", "mixed", "many", "first", "lot", "signed", "other", "some", "number", "row", "k", "one", "two", "bit"]
def defs : List DefI := [d_is_whole, d_is_count, d_need_count, d_is_bit, d_is_function, d_need_function, d_letters_in, d_number_in, d_row_in, d_is_bits, d_need_row, d_is_letter, d_need_letter, d_flipped, d_turned_value, d_need_alike, d_unlike, d_ones_in, d_by_values, d_parity_of, d_falling_in, d_is_rising, d_influence_in, d_all_in, d_influence, d_influences, d_all_influence, d_spread_in, d_spread_of, d_spread_gap, d_spread, d_factors_in, d_most_ones, d_degree_in, d_degree, d_signed_in, d_signed_sums, d_need_place, d_turn_masks, d_turn_count, d_most_turns_in, d_most_turns, d_turned_lot, d_close_at, d_close_count, d_counts_of, d_most_close, d_least_close, d__law_pen, d__law_draw, d__law_row, d__law_ones, d__law_function, d_law]
def subs : List (List Nat) := [[0], [1, 0], [2, 0], [3, 0], [4, 0]]
def xins : List (List Str) := [[], ["what", "number"], ["function"], ["row"], ["promise", "witness"]]
def T : Tb := ⟨defs, fun a b => ((subs[a]?).getD []).contains b, fun a => (xins[a]?).getD [], 100000⟩
def names : List (List Str) := [n_is_whole, n_is_count, n_need_count, n_is_bit, n_is_function, n_need_function, n_letters_in, n_number_in, n_row_in, n_is_bits, n_need_row, n_is_letter, n_need_letter, n_flipped, n_turned_value, n_need_alike, n_unlike, n_ones_in, n_by_values, n_parity_of, n_falling_in, n_is_rising, n_influence_in, n_all_in, n_influence, n_influences, n_all_influence, n_spread_in, n_spread_of, n_spread_gap, n_spread, n_factors_in, n_most_ones, n_degree_in, n_degree, n_signed_in, n_signed_sums, n_need_place, n_turn_masks, n_turn_count, n_most_turns_in, n_most_turns, n_turned_lot, n_close_at, n_close_count, n_counts_of, n_most_close, n_least_close, n__law_pen, n__law_draw, n__law_row, n__law_ones, n__law_function, n_law]
def fresh : List Bool := [false, false, true, false, true, true, false, true, true, false, true, false, true, true, true, true, true, false, true, true, true, true, true, true, true, true, true, true, true, true, false, false, true, true, true, false, true, true, true, true, true, true, true, true, true, true, true, true, true, false, true, false, true, true]
def gdf : List Bool := [false, false, false, false, false, false, false, false, false, false, false, false, false, false, false, false, false, false, false, false, false, false, false, false, false, false, false, false, false, false, false, false, false, false, false, false, false, false, false, false, false, false, false, false, false, false, false, false, false, false, false, false, false, false]
def idLaw : Nat := 53
end K76
set_option maxHeartbeats 0
/-! H76: k76's checks. -/
namespace PB
open PySem PySem.Spec PyProof.Rows L2 LamX
def pr76 : Pr := { T := K76.T, nms := K76.names, top := PySem.Challenge.pw_askedsofew_k76_whole_lots_of_rows_and_in.main.body, fq := K76.fresh, gdf := K76.gdf, lms := (List.range 54).map fun _ => false }
theorem hdef76 : (pr76.fns0.all fun q => isTry (pr76.code q.2) || defB pr76 q.2) = true := by decide +kernel
theorem met76 : (pr76.mets.all fun q => metB pr76 q.2 && decide ((pr76.dfs[q.2]?).map defNm = some q.1)) = true := by decide +kernel
theorem ini76 : inisB pr76 = true := by decide +kernel
theorem pos76 : posB pr76 = true := by decide +kernel
theorem hone76 : ∀ f d l, pr76.T.defs[f]? = some d → (f, ()) ∈ pr76.mets.map (fun q => (q.2, ())) → tryC d.code = some l → ∀ q ∈ l, ∀ a, pr76.T.sub a q.1 = true → a = q.1 := by
  have h : (pr76.mets.all fun m => match pr76.T.defs[m.2]? with
    | some d => (match tryC d.code with
      | some l => l.all fun q => (List.range 5).all fun a => !pr76.T.sub a q.1 || decide (a = q.1)
      | none => true)
    | none => true) = true := by decide +kernel
  intro f d l hd hm hl q hq a ha
  obtain ⟨m, hm', e⟩ := List.mem_map.mp hm
  cases e
  have z := List.all_eq_true.mp h m hm'
  rw [hd] at z
  have z : (match tryC d.code with
      | some l => l.all fun q => (List.range 5).all fun a => !pr76.T.sub a q.1 || decide (a = q.1)
      | none => true) = true := z
  rw [hl] at z
  have z := List.all_eq_true.mp z q hq
  by_cases h4 : a < 5
  · have z := List.all_eq_true.mp z a (List.mem_range.mpr h4)
    rw [ha] at z
    simpa using z
  · have : pr76.T.sub a q.1 = false := by
      show ((K76.subs[a]?).getD []).contains q.1 = false
      rw [List.getElem?_eq_none (by show 5 ≤ a; omega)]
      rfl
    rw [this] at ha
    cases ha
theorem ok76 : PrOk pr76 := by
  refine ⟨fun f x h ht => ?_, fun x f h => ?_, ini76⟩
  · have := List.all_eq_true.mp hdef76 _ (List.mem_of_getElem? h)
    rw [ht] at this
    simpa using this
  · have hm := lookup_in h
    have z := List.all_eq_true.mp met76 _ hm
    simp only [Bool.and_eq_true, decide_eq_true_eq] at z
    obtain ⟨st, d, N, a, p1, p2, p3, p8, h0, hds, l, M⟩ := metB_ok z.1 fun d l hd hl => hone76 f d l hd (List.mem_map.mpr ⟨_, hm, rfl⟩) hl
    refine ⟨st, d, N, a, p1, p2, p3, p8, h0, hds, l, M, ?_⟩
    have z2 := z.2
    rw [M.hst] at z2
    exact Option.some.inj z2
end PB
set_option maxHeartbeats 0
/-! R76: the head's run. -/
namespace PB
open PySem PySem.Spec PyProof.Rows L2 LamX
abbrev R76 : PySem.W.OpenRow := PySem.W.OpenLaw.row PySem.Challenge.rw_askedsofew_k76_whole_lots_of_rows_and_in
abbrev hk76 : PySem.W.Hook := He.hookX 5 pr76.fa pr76.fn [] pr76.tf pr76.ex
def ob76 (s : PySem.W.SharedT) : He.AlX := He.obsX 5 pr76.fa pr76.fn [] pr76.tf pr76.ex (HandSHeadRun.getT s)
theorem ob_eq76 (s : PySem.W.SharedT) : ob76 s = hk76.obs s.abs := He.obsX_eq (HandSHeadRun.getT_eq s)
def loose76 : List Str := (pr76.top.flatMap topNm).filter fun x => !(x == ("__name__" : Str)) && !(x == ("law" : Str))
def nTop : Nat := pr76.top.length
theorem nTop_eq : nTop = 68 := by decide +kernel
theorem run76 (w : World) : HandSHeadRun.RunEq R76 (PySem.W.view R76.prog [67]) hk76 ob76 4000 loose76 w := by
  intro os
  kernel_rfl
theorem walk76 {n : Nat} (hr : Room (3 * n) callerA) (hc : ∀ ns : List Int, ns.length ≤ 63 → (∀ k ∈ ns, Builtin.Int.intBits k ≤ 1048576) → ∃ o, callN K76.T n 53 none [.lst (ns.map PB.D.int)] = some (.ok (.bl true) o)) :
    PySem.W.WalkO (PySem.W.view R76.prog [67]) loose76 (PySem.W.XL (PySem.W.view R76.prog [67]) []) hk76.says R76.toRowW (HandSHeadRun.topDef R76.prog 67) [] (fun f vs => PySem.call f vs) :=
  walk_pr (l := PySem.Challenge.rw_askedsofew_k76_whole_lots_of_rows_and_in) (p := pr76) (N := 63) (g := 53) (n := n) (x := "script") (st := (pr76.dfs[53]?).getD (.Pass ⟨0, 0, 0, 0⟩)) (di := K76.d_law) rfl (by decide) (by kernel_rfl) hr ok76
    (fun x f h ht => by
      have := List.all_eq_true.mp hdef76 _ h
      rw [ht] at this
      simpa using this) pos76 (by decide +kernel) (by decide +kernel) (by kernel_rfl) (by decide +kernel) (by decide +kernel) (by kernel_rfl) (by decide +kernel) hc
end PB
open PySem PySem.W PySem.Calls PyProof.Rows
theorem holds76 {n : Nat} (hr : L2.Room (3 * n) callerA) (hc : ∀ ns : List Int, ns.length ≤ 63 → (∀ k ∈ ns, Builtin.Int.intBits k ≤ 1048576) → ∃ o, PB.callN K76.T n 53 none [.lst (ns.map PB.D.int)] = some (.ok (.bl true) o)) : PySem.Challenge.rw_askedsofew_k76_whole_lots_of_rows_and_in.Holds := by
  w_on; o_law
  refine HandSHeadRun.head_any (r := OpenLaw.row PySem.Challenge.rw_askedsofew_k76_whole_lots_of_rows_and_in) (q := view (OpenLaw.row PySem.Challenge.rw_askedsofew_k76_whole_lots_of_rows_and_in).prog [67]) (H := PB.hk76) (ob := PB.ob76) (M := 4000) (loose := PB.loose76) (d := HandSHeadRun.topDef (OpenLaw.row PySem.Challenge.rw_askedsofew_k76_whole_lots_of_rows_and_in).prog 67) (kwd := []) PB.ob_eq76
    (by kernel_rfl) (fun s => by kernel_rfl) PB.run76 (by kernel_rfl) (by kernel_rfl) (by kernel_rfl) (by rfl) (by first | assumption | decide +kernel) (by decide +kernel) ⟨rfl, rfl, rfl, rfl, rfl, by decide +kernel⟩ ?hw ?hc
  case hw => w_witness2
  case hc => exact PB.walk76 hr hc
set_option maxHeartbeats 4000000
/-! E1: rules of evaluation for code whose values are open. -/
namespace PB.M
open PySem PB
abbrev gX (T : Tb) (n : Nat) (d : DefI) : Gx := { ks := d.ks, cf := callN T n, info := fun g => match T.defs[g]? with | some d => d.ks.take d.np | none => [], sub := T.sub, xin := T.xin, wf := T.wf, act := none, ex := none }
/-- c gives v, and all slots stay as they are -/
def Ev (G : Gx) (e : En) (c : C) (v : D) : Prop := ev c G e = some (.ok v e)
theorem fin_val {c : C} {d : D} {e : En} (h : isLoc c = false) : fin c d e = some d := by cases c <;> first | rfl | cases h
theorem finT_val {c : C} {d : D} {e : En} (h : isLoc c = false) : finT c d e = truthO d := by unfold finT; rw [fin_val h]; rfl
section
variable {G : Gx} {e : En} {a b c : C} {x y z v : D} {l : List D} {f : Bi} {t : Bool} {i : Nat}
theorem Ev.var (hk : G.ks[i]? = some Kd.shr) (h : rdS e i = some v) : Ev G e (.var i) v := by
  unfold Ev
  rw [ev, if_pos hk, h]
  rfl
theorem Ev.cst (h : isCst v = true) : Ev G e (.cst v) v := by
  unfold Ev
  rw [ev, if_pos h]
theorem Ev.op {o : O2} (ha : Ev G e a x) (hb : Ev G e b y) (h : op2 o x y = some z) (la : isLoc a = false := by rfl) (lb : isLoc b = false := by rfl) : Ev G e (.op o a b) z := by
  unfold Ev at *
  rw [ev, ha]
  show bnd (ev b G e) _ = _
  rw [hb]
  show (fin a x e).bind _ = _
  rw [fin_val la]
  show (fin b y e).bind _ = _
  rw [fin_val lb]
  show (op2 o x y).map _ = _
  rw [h]
  rfl
theorem Ev.idx (ha : Ev G e a x) (hb : Ev G e b y) (h : idxD x y = some z) (la : isLoc a = false := by rfl) (lb : isLoc b = false := by rfl) : Ev G e (.idx a b) z := by
  unfold Ev at *
  rw [ev, ha]
  show bnd (ev b G e) _ = _
  rw [hb]
  show (fin a x e).bind _ = _
  rw [fin_val la]
  show (if isLoc b = true then none else (idxD x y).map (R.ok · e)) = _
  rw [lb, h]
  rfl
theorem Ev.neg {k : Int} (ha : Ev G e a (.int k)) : Ev G e (.neg a) (.int (-k)) := by
  unfold Ev at *
  rw [ev, ha]
  rfl
theorem Ev.nil : Ev G e .nil (.lst []) := by
  unfold Ev
  rw [ev]
theorem Ev.cons (ha : Ev G e a x) (hb : Ev G e b (.lst l)) : Ev G e (.cons a b) (.lst (x :: l)) := by
  unfold Ev at *
  rw [ev, ha]
  show bnd (ev b G e) _ = _
  rw [hb]
  rfl
theorem Ev.lst (ha : Ev G e a (.lst l)) (hn : noLocs a = true := by rfl) : Ev G e (.lst a) (.lst l) := by
  unfold Ev at *
  rw [ev, ha]
  show (if noLocs a = true then some (R.ok (D.lst l) e) else none) = _
  rw [hn]
  rfl
theorem Ev.tup (ha : Ev G e a (.lst l)) (hn : noLocs a = true := by rfl) : Ev G e (.tup a) (.tup l) := by
  unfold Ev at *
  rw [ev, ha]
  show (if noLocs a = true then some (R.ok (D.tup l) e) else none) = _
  rw [hn]
  rfl
theorem Ev.blt1 (ha : Ev G e a x) (h : bi f [x] = some z) (la : isLoc a = false := by rfl) : Ev G e (.blt f (.cons a .nil)) z := by
  have h1 := Ev.cons ha (Ev.nil (G := G) (e := e))
  unfold Ev at *
  rw [ev, h1]
  show (finL (.cons a .nil) [x] e).bind _ = _
  have : finL (.cons a .nil) [x] e = some [x] := by
    simp only [finL, fin_val la]
    rfl
  rw [this]
  show (bi f [x]).map _ = _
  rw [h]
  rfl
theorem Ev.blt2 (ha : Ev G e a x) (hb : Ev G e b y) (h : bi f [x, y] = some z) (la : isLoc a = false := by rfl) (lb : isLoc b = false := by rfl) : Ev G e (.blt f (.cons a (.cons b .nil))) z := by
  have h1 := Ev.cons ha (Ev.cons hb (Ev.nil (G := G) (e := e)))
  unfold Ev at *
  rw [ev, h1]
  show (finL (.cons a (.cons b .nil)) [x, y] e).bind _ = _
  have : finL (.cons a (.cons b .nil)) [x, y] e = some [x, y] := by
    simp only [finL, fin_val la, fin_val lb]
    rfl
  rw [this]
  show (bi f [x, y]).map _ = _
  rw [h]
  rfl
theorem Ev.isi (ha : Ev G e a x) (h : bi f [x] = some z) (la : isLoc a = false := by rfl) : Ev G e (.isi f a) z := by
  unfold Ev at *
  rw [ev, ha]
  show (fin a x e).bind _ = _
  rw [fin_val la]
  show (bi f [x]).map _ = _
  rw [h]
  rfl
theorem Ev.not (ha : Ev G e a x) (h : truthO x = some t) (la : isLoc a = false := by rfl) : Ev G e (.not a) (.bl (!t)) := by
  unfold Ev at *
  rw [ev, ha]
  show (finT a x e).map _ = _
  rw [finT_val la, h]
  rfl
theorem Ev.andT (ha : Ev G e a x) (h : truthO x = some true) (hb : Ev G e b y) (la : isLoc a = false := by rfl) (lb : isLoc b = false := by rfl) : Ev G e (.and a b) y := by
  unfold Ev at *
  rw [ev, ha]
  show (truthO x).bind _ = _
  rw [h]
  show (if (isLoc a || isLoc b) = true then none else ev b G e) = _
  rw [la, lb]
  exact hb
theorem Ev.andF (ha : Ev G e a x) (h : truthO x = some false) (la : isLoc a = false := by rfl) (lb : isLoc b = false := by rfl) : Ev G e (.and a b) x := by
  unfold Ev at *
  rw [ev, ha]
  show (truthO x).bind _ = _
  rw [h]
  show (if (isLoc a || isLoc b) = true then none else some (R.ok x e)) = _
  rw [la, lb]
  rfl
theorem Ev.orT (ha : Ev G e a x) (h : truthO x = some true) (la : isLoc a = false := by rfl) (lb : isLoc b = false := by rfl) : Ev G e (.or a b) x := by
  unfold Ev at *
  rw [ev, ha]
  show (truthO x).bind _ = _
  rw [h]
  show (if (isLoc a || isLoc b) = true then none else some (R.ok x e)) = _
  rw [la, lb]
  rfl
theorem Ev.orF (ha : Ev G e a x) (h : truthO x = some false) (hb : Ev G e b y) (la : isLoc a = false := by rfl) (lb : isLoc b = false := by rfl) : Ev G e (.or a b) y := by
  unfold Ev at *
  rw [ev, ha]
  show (truthO x).bind _ = _
  rw [h]
  show (if (isLoc a || isLoc b) = true then none else ev b G e) = _
  rw [la, lb]
  exact hb
theorem Ev.ite (hc : Ev G e c x) (h : truthO x = some t) (ha : t = true → Ev G e a v) (hb : t = false → Ev G e b v) (lc : isLoc c = false := by rfl) (la : isLoc a = false := by rfl) (lb : isLoc b = false := by rfl) : Ev G e (.ite c a b) v := by
  unfold Ev at *
  rw [ev, hc]
  show (finT c x e).bind _ = _
  rw [finT_val lc, h]
  show (if (isLoc a || isLoc b) = true then none else if t = true then ev a G e else ev b G e) = _
  rw [la, lb]
  cases t with
  | true => exact ha rfl
  | false => exact hb rfl
theorem Ev.mmd {mx : Bool} {k : Int} (ha : Ev G e a (.lst l)) (h : mmD mx l k = some z) (la : isLoc a = false := by rfl) : Ev G e (.mmd mx a k) z := by
  unfold Ev at *
  rw [ev, ha]
  show (if isLoc a = true then none else (mmD mx l k).map (R.ok · e)) = _
  rw [la, h]
  rfl
/-- a comprehension -/
theorem lcLoop_pure {α : Type} {h : α → D} {P : α → En} {cc : α → Bool} {g : α → D} {vs : List Nat} {tg cond elt : C} (l1 : isLoc cond = false) (l2 : isLoc elt = false)
    (h1 : ∀ a b, asgT G.ks tg (h a) (wipeE (P b) vs) = some (P a)) :
    ∀ (L : List α) (e0 : En), (∀ a ∈ L, asgT G.ks tg (h a) (wipeE e0 vs) = some (P a)) → (∀ a ∈ L, ∃ t, Ev G (P a) cond t ∧ truthO t = some (cc a)) → (∀ a ∈ L, cc a = true → Ev G (P a) elt (g a)) →
    ∃ e1, (e1 = e0 ∨ ∃ a, e1 = P a) ∧ lcLoop (fun x e2 => (asgT G.ks tg x (wipeE e2 vs)).bind fun e3 => bnd0 (ev cond G e3) fun t e4 => (finT cond t e4).bind fun t => if t then bnd0 (ev elt G e4) fun y e5 => if isLoc elt then none else some (R.ok (some y) e5) else some (.ok none e4)) (L.map h) e0 = some (.ok ((L.filter cc).map g) e1)
  | [], e0, _, _, _ => ⟨e0, .inl rfl, rfl⟩
  | a :: L, e0, h0, hc, he => by
    obtain ⟨e1, q1, q2⟩ := lcLoop_pure l1 l2 h1 L (P a) (fun b _ => h1 b a) (fun b hb => hc b (List.mem_cons_of_mem _ hb)) (fun b hb => he b (List.mem_cons_of_mem _ hb))
    obtain ⟨t, t1, t2⟩ := hc a List.mem_cons_self
    unfold Ev at t1
    refine ⟨e1, q1.elim (fun z => .inr ⟨a, z⟩) .inr, ?_⟩
    rw [List.map_cons, lcLoop, h0 a List.mem_cons_self]
    cases hq : cc a with
    | true =>
      have w := he a List.mem_cons_self hq
      unfold Ev at w
      rw [Option.bind_some, t1]
      show bnd0 ((finT cond t (P a)).bind _) _ = _
      rw [finT_val l1, t2, hq, Option.bind_some, if_pos rfl, w]
      show bnd0 (if isLoc elt = true then none else some (R.ok (some (g a)) (P a))) _ = _
      have z : (if isLoc elt = true then none else some (R.ok (some (g a)) (P a))) = some (R.ok (some (g a)) (P a)) := by rw [l2]; rfl
      rw [z]
      show bnd0 (lcLoop _ (L.map h) (P a)) _ = _
      rw [q2, List.filter_cons_of_pos hq]
      rfl
    | false =>
      rw [Option.bind_some, t1]
      show bnd0 ((finT cond t (P a)).bind _) _ = _
      rw [finT_val l1, t2, hq, Option.bind_some, if_neg (by decide)]
      show bnd0 (lcLoop _ (L.map h) (P a)) _ = _
      rw [q2, List.filter_cons_of_neg (by simp [hq])]
      rfl
theorem items_val {ks : List Kd} {c : C} {d : D} {e : En} (h : isLoc c = false) : itemsOf ks c d e = seqOf d := by cases c <;> first | rfl | cases h
theorem Ev.lc {α : Type} {L : List α} {h : α → D} {P : α → En} {cc : α → Bool} {g : α → D} {vs : List Nat} {tg it cond elt : C} {s : D} (hit : Ev G e it s) (hs : seqOf s = some (L.map h))
    (h0 : ∀ a ∈ L, asgT G.ks tg (h a) (wipeE e vs) = some (P a)) (h1 : ∀ a b, asgT G.ks tg (h a) (wipeE (P b) vs) = some (P a)) (h2 : ∀ a, restE e (P a) vs = e) (h3 : restE e e vs = e)
    (hc : ∀ a ∈ L, ∃ t, Ev G (P a) cond t ∧ truthO t = some (cc a)) (he : ∀ a ∈ L, cc a = true → Ev G (P a) elt (g a)) (hl : L.length ≤ lim) (li : isLoc it = false := by rfl) (l1 : isLoc cond = false := by rfl) (l2 : isLoc elt = false := by rfl) :
    Ev G e (.lc vs tg it cond elt) (.lst ((L.filter cc).map g)) := by
  obtain ⟨e1, q1, q2⟩ := lcLoop_pure (h := h) (P := P) (cc := cc) (g := g) l1 l2 h1 L e h0 hc he
  unfold Ev at *
  rw [ev, hit]
  show (itemsOf G.ks it s e).bind _ = _
  rw [items_val li, hs]
  show bnd0 (lcLoop _ (L.map h) e) _ = _
  rw [q2]
  show (if ((L.filter cc).map g).length ≤ lim then some (R.ok (D.lst ((L.filter cc).map g)) (restE e e1 vs)) else none) = _
  rw [if_pos (by rw [List.length_map]; exact Nat.le_trans (List.length_filter_le _ _) hl)]
  rcases q1 with rfl | ⟨a, rfl⟩
  · rw [h3]
  · rw [h2]
theorem Ev.lcT {α : Type} {L : List α} {h : α → D} {P : α → En} {g : α → D} {vs : List Nat} {tg it elt : C} {s : D} (hit : Ev G e it s) (hs : seqOf s = some (L.map h))
    (h0 : ∀ a ∈ L, asgT G.ks tg (h a) (wipeE e vs) = some (P a)) (h1 : ∀ a b, asgT G.ks tg (h a) (wipeE (P b) vs) = some (P a)) (h2 : ∀ a, restE e (P a) vs = e) (h3 : restE e e vs = e)
    (he : ∀ a ∈ L, Ev G (P a) elt (g a)) (hl : L.length ≤ lim) (li : isLoc it = false := by rfl) (l2 : isLoc elt = false := by rfl) :
    Ev G e (.lc vs tg it (.cst (.bl true)) elt) (.lst (L.map g)) := by
  have := Ev.lc (cc := fun _ => true) (g := g) hit hs h0 h1 h2 h3 (fun a _ => ⟨.bl true, Ev.cst rfl, rfl⟩) (fun a ha _ => he a ha) hl li rfl l2
  rwa [show L.filter (fun _ => true) = L from List.filter_eq_self.mpr fun _ _ => rfl] at this
/-! statements -/
theorem x_drop (h : Ev G e c v) : exec (.drop c) G e = some (.nx e) := by
  unfold Ev at h
  rw [exec, h]
  rfl
theorem x_ret (h : Ev G e c v) (hl : isLoc c = false := by rfl) : exec (.ret c) G e = some (.rt v e) := by
  unfold Ev at h
  rw [exec, h]
  show (if isLoc c = true then none else some (Out.rt v e)) = _
  rw [hl]
  rfl
theorem x_asg {i : Nat} {e2 : En} (h : Ev G e c v) (h2 : asgT G.ks (.var i) v e = some e2) (hl : isLoc c = false := by rfl) : exec (.asg (.var i) c) G e = some (.nx e2) := by
  unfold Ev at h
  rw [exec, h]
  show (if isLoc c = true then none else (asgT G.ks (.var i) v e).map Out.nx) = _
  rw [hl, h2]
  rfl
theorem x_seq {o : Option Out} {e1 : En} (h : exec a G e = some (.nx e1)) (h2 : exec b G e1 = o) : exec (.seq a b) G e = o := by
  rw [exec, h]
  exact h2
theorem x_seqR {w : D} {e1 : En} (h : exec a G e = some (.rt w e1)) : exec (.seq a b) G e = some (.rt w e1) := by
  rw [exec, h]
theorem x_ifT {o : Option Out} (hc : Ev G e c x) (h : truthO x = some true) (h2 : exec a G e = o) (lc : isLoc c = false := by rfl) : exec (.ife c a b) G e = o := by
  unfold Ev at hc
  rw [exec, hc]
  show (finT c x e).bind _ = _
  rw [finT_val lc, h]
  exact h2
theorem x_ifF {o : Option Out} (hc : Ev G e c x) (h : truthO x = some false) (h2 : exec b G e = o) (lc : isLoc c = false := by rfl) : exec (.ife c a b) G e = o := by
  unfold Ev at hc
  rw [exec, hc]
  show (finT c x e).bind _ = _
  rw [finT_val lc, h]
  exact h2
theorem x_pass : exec .pass G e = some (.nx e) := by rw [exec]
theorem x_par {i j : Nat} {e3 e4 : En} (ha : Ev G e a x) (hb : Ev G e b y) (h3 : setK G.ks i x e = some e3) (h4 : setK G.ks j y e3 = some e4) (la : isLoc a = false := by rfl) (lb : isLoc b = false := by rfl) : exec (.par i j a b) G e = some (.nx e4) := by
  unfold Ev at *
  simp only [exec, ha, hb, outB, la, lb, Bool.or_self, Bool.false_eq_true, if_false, h3, h4, Option.bind_some, Option.map_some]
end
/-! calls -/
section
variable {T : Tb}
theorem outs_shr {ks : List Kd} {np : Nat} {e : En} (h : ∀ i, i < np → ks[i]? ≠ some Kd.own) : outsOf ks np e = List.replicate np none := by
  unfold outsOf
  apply List.ext_getElem
  · simp
  · intro i h1 h2
    rw [List.getElem_map, List.getElem_range, List.getElem_replicate, if_neg (h i (by simpa using h1))]
theorem callT {n f : Nat} {d : DefI} {ds : List D} (hd : T.defs[f]? = some d) (hl : ds.length = d.np) : callN T (n + 1) f none ds = match exec d.code (gX T n d) (ds.map some ++ List.replicate (d.ks.length - ds.length) none) with
      | some (.nx e) => some (.ok .non (outsOf d.ks d.np e))
      | some (.rt v e) => some (.ok v (outsOf d.ks d.np e))
      | some (.xc x e) => some (.xc x (outsOf d.ks d.np e))
      | _ => none := by
  rw [callN]
  simp only [hd, Option.isNone_none, Bool.true_and, hl, ne_eq, not_true_eq_false, decide_false, Bool.false_eq_true, if_false] <;> rfl
theorem callT_rt {n f : Nat} {d : DefI} {ds : List D} {v : D} {e : En} {os : List (Option D)} (hd : T.defs[f]? = some d) (hl : ds.length = d.np) (h : exec d.code (gX T n d) (ds.map some ++ List.replicate (d.ks.length - ds.length) none) = some (.rt v e)) (ho : outsOf d.ks d.np e = os) : callN T (n + 1) f none ds = some (.ok v os) := by
  rw [callT hd hl, h, ← ho]
theorem callT_nx {n f : Nat} {d : DefI} {ds : List D} {e : En} {os : List (Option D)} (hd : T.defs[f]? = some d) (hl : ds.length = d.np) (h : exec d.code (gX T n d) (ds.map some ++ List.replicate (d.ks.length - ds.length) none) = some (.nx e)) (ho : outsOf d.ks d.np e = os) : callN T (n + 1) f none ds = some (.ok .non os) := by
  rw [callT hd hl, h, ← ho]
theorem callN_outs {n f : Nat} {d : DefI} {ds : List D} {v : D} {o : List (Option D)} (hd : T.defs[f]? = some d) (hl : ds.length = d.np) (h : ∀ i, i < d.np → d.ks[i]? ≠ some Kd.own) (hc : callN T n f none ds = some (.ok v o)) : o = List.replicate d.np none := by
  cases n with
  | zero => cases hc
  | succ n =>
    rw [callT hd hl] at hc
    cases hx : exec d.code (gX T n d) (ds.map some ++ List.replicate (d.ks.length - ds.length) none) with
    | none => rw [hx] at hc; cases hc
    | some u =>
      rw [hx] at hc
      cases u with
      | nx e => cases hc; exact outs_shr h
      | rt w e => cases hc; exact outs_shr h
      | bk e => cases hc
      | ct e => cases hc
      | xc x e => cases hc
/-- all parameters shared -/
def shrB (d : DefI) : Bool := (List.range d.np).all fun i => decide (d.ks[i]? = some Kd.shr)
theorem info_shr {f : Nat} {d : DefI} (h : shrB d = true) : d.ks.take d.np = List.replicate d.np Kd.shr ∧ ∀ i, i < d.np → d.ks[i]? ≠ some Kd.own := by
  have h : ∀ i, i < d.np → d.ks[i]? = some Kd.shr := fun i hi => of_decide_eq_true (List.all_eq_true.mp h i (List.mem_range.mpr hi))
  refine ⟨?_, fun i hi z => by rw [h i hi] at z; cases z⟩
  have hl : d.np ≤ d.ks.length := by
    cases hn : d.np with
    | zero => omega
    | succ k =>
      have := (List.getElem?_eq_some_iff.mp (h k (by omega))).1
      omega
  apply List.ext_getElem
  · simp [hl]
  · intro i h1 h2
    have hi : i < d.np := by simpa using h2
    rw [List.getElem_take, List.getElem_replicate]
    exact (List.getElem?_eq_some_iff.mp (h i hi)).2
theorem argL_shr {ks : List Kd} {e : En} : ∀ {a : C} {xs : List D} {m : Nat}, noLocs a = true → lenG a = m → isTgs a = true → xs.length = m → argL ks (List.replicate m Kd.shr) a xs e = some xs := by
  intro a
  induction a with
  | nil => intro xs m _ h1 _ h2; cases h1; have := List.length_eq_zero_iff.mp h2; subst this; rfl
  | cons c b _ ih =>
    intro xs m hn h1 ht h2
    simp only [noLocs, Bool.and_eq_true, Bool.not_eq_true'] at hn
    cases m with
    | zero => simp only [lenG] at h1; omega
    | succ m =>
      cases xs with
      | nil => simp at h2
      | cons x xs =>
        have ih' := ih (xs := xs) (m := m) hn.2 (by simp only [lenG] at h1; omega) ht (by simpa using h2)
        rw [List.replicate_succ]
        have : isLoc c = false := hn.1
        cases c <;> first | (cases this; done) | (simp only [argL, Option.bind_some, ih', Option.map_some])
  | _ => intro xs m hn h1 ht; cases ht
theorem backL_shr {e : En} : ∀ {a : C} {m : Nat}, lenG a = m → isTgs a = true → backL (List.replicate m Kd.shr) a (List.replicate m none) e = some e := by
  intro a
  induction a with
  | nil => intro m h1 _; cases h1; rfl
  | cons c b _ ih =>
    intro m h1 ht
    cases m with
    | zero => simp only [lenG] at h1; omega
    | succ m =>
      rw [List.replicate_succ, List.replicate_succ]
      have := ih (m := m) (by simp only [lenG] at h1; omega) ht
      cases c <;> simp only [backL, Option.bind_some, this]
  | _ => intro m h1 ht; cases ht
/-- a call, by what it gives -/
theorem Ev.call {n f : Nat} {dd d : DefI} {a : C} {xs : List D} {e : En} {v : D} {o : List (Option D)} (hd : T.defs[f]? = some d) (hs : shrB d = true)
    (ha : Ev (gX T n dd) e a (.lst xs)) (hc : callN T n f none xs = some (.ok v o)) (hx : xs.length = d.np := by rfl) (hn : noLocs a = true := by rfl) (ht : isTgs a = true := by rfl) (hl : lenG a = d.np := by rfl) : Ev (gX T n dd) e (.call f a) v := by
  obtain ⟨i1, i2⟩ := info_shr (f := f) hs
  have ho := callN_outs hd hx i2 hc
  subst ho
  have hi : (gX T n dd).info f = List.replicate d.np Kd.shr := by
    show (match T.defs[f]? with | some d => d.ks.take d.np | none => []) = _
    rw [hd]
    exact i1
  unfold Ev at *
  rw [ev, ha]
  show (argL dd.ks ((gX T n dd).info f) a xs e).bind _ = _
  rw [hi, argL_shr hn hl ht hx]
  show (match callN T n f none xs with
    | none => none
    | some (.ok d' o) => (backL (List.replicate d.np Kd.shr) a o e).map (R.ok d' ·)
    | some (.xc x o) => (backL (List.replicate d.np Kd.shr) a o e).map (R.xc x ·)) = _
  rw [hc]
  show (backL (List.replicate d.np Kd.shr) a (List.replicate d.np none) e).map _ = _
  rw [backL_shr hl ht]
  rfl
end
end PB.M
set_option maxHeartbeats 4000000
/-! P1: a lot of more than half of the rows of five letters is crowded: by signed neighbours whose square is a number. -/
namespace PB.Q
def sm (n : Nat) (g : Nat → Int) : Int := ((List.range n).map g).sum
theorem sm_zero {g : Nat → Int} : sm 0 g = 0 := rfl
theorem sm_succ {n : Nat} {g : Nat → Int} : sm (n + 1) g = sm n g + g n := by
  unfold sm
  rw [List.range_succ, List.map_append, List.sum_append]
  simp
theorem sm_congr : ∀ {n : Nat} {g h : Nat → Int}, (∀ x, x < n → g x = h x) → sm n g = sm n h
  | 0, _, _, _ => rfl
  | n + 1, g, h, e => by rw [sm_succ, sm_succ, sm_congr fun x hx => e x (by omega), e n (by omega)]
theorem sm_add : ∀ {n : Nat} {g h : Nat → Int}, sm n (fun x => g x + h x) = sm n g + sm n h
  | 0, _, _ => rfl
  | n + 1, g, h => by rw [sm_succ, sm_succ, sm_succ, sm_add]; omega
theorem sm_mul {c : Int} : ∀ {n : Nat} {g : Nat → Int}, sm n (fun x => c * g x) = c * sm n g
  | 0, _ => by simp [sm_zero]
  | n + 1, g => by rw [sm_succ, sm_succ, sm_mul, Int.mul_add]
theorem sm_const0 : ∀ {n : Nat}, sm n (fun _ => 0) = 0
  | 0 => rfl
  | n + 1 => by rw [sm_succ, sm_const0]; rfl
theorem sm_swap : ∀ {n m : Nat} {g : Nat → Nat → Int}, sm n (fun i => sm m (g i)) = sm m (fun j => sm n fun i => g i j)
  | 0, m, g => by rw [sm_zero]; exact sm_const0.symm
  | n + 1, m, g => by
    rw [sm_succ, sm_swap, ← sm_add]
    exact sm_congr fun j _ => sm_succ.symm
theorem sm_delta {k : Nat} {g : Nat → Int} : ∀ {n : Nat}, k < n → sm n (fun j => if j = k then g j else 0) = g k
  | 0, h => by omega
  | n + 1, h => by
    rw [sm_succ]
    by_cases e : n = k
    · subst e
      rw [if_pos rfl, sm_congr (h := fun _ => 0) fun x hx => if_neg (by omega), sm_const0]
      omega
    · rw [if_neg e, sm_delta (by omega)]
      omega
/-- fewer equations than unknown numbers -/
theorem lin : ∀ (m n : Nat), m < n → ∀ a : Nat → Nat → Int, ∃ y : Nat → Int, (∃ j, j < n ∧ y j ≠ 0) ∧ ∀ i, i < m → sm n (fun j => a i j * y j) = 0
  | 0, n, h, a => ⟨fun _ => 1, ⟨0, h, by decide⟩, fun i hi => by omega⟩
  | m + 1, 0, h, a => by omega
  | m + 1, n + 1, h, a => by
    by_cases hz : ∀ i, i < m + 1 → a i n = 0
    · refine ⟨fun j => if j = n then 1 else 0, ⟨n, by omega, by simp⟩, fun i hi => ?_⟩
      have z : ∀ x, x < n → a i x * (fun j => if j = n then (1 : Int) else 0) x = (fun _ => (0 : Int)) x := fun x hx => by
        show a i x * (if x = n then (1 : Int) else 0) = 0
        rw [if_neg (by omega), Int.mul_zero]
      rw [sm_succ, sm_congr z, sm_const0, hz i hi]
      simp
    · have ⟨i0, hi0⟩ := Classical.not_forall.mp hz
      have ⟨h0, hp⟩ : i0 < m + 1 ∧ a i0 n ≠ 0 := by
        by_cases q : i0 < m + 1
        · exact ⟨q, fun z => hi0 fun _ => z⟩
        · exact absurd (fun z => absurd z q) hi0
      obtain ⟨y, ⟨j, hj, hy⟩, hs⟩ := lin m n (by omega) (fun i j => a i0 n * a (if i = i0 then m else i) j - a (if i = i0 then m else i) n * a i0 j)
      have key : ∀ k : Nat, sm n (fun j => a k j * (a i0 n * y j)) + a k n * -(sm n fun j => a i0 j * y j) = sm n fun j => (a i0 n * a k j - a k n * a i0 j) * y j := fun k => by
        have e1 : ∀ x, x < n → (a i0 n * a k x - a k n * a i0 x) * y x = a k x * (a i0 n * y x) + (-a k n) * (a i0 x * y x) := fun x _ => by
          rw [Int.sub_mul, Int.neg_mul, ← Int.mul_assoc (a k x), Int.mul_comm (a k x), ← Int.mul_assoc (a k n)]
          omega
        rw [sm_congr e1, sm_add, sm_mul, Int.neg_mul, Int.mul_neg]
      refine ⟨fun j => if j < n then a i0 n * y j else -(sm n fun j => a i0 j * y j), ⟨j, by omega, by show (if j < n then a i0 n * y j else _) ≠ 0; rw [if_pos hj]; exact Int.mul_ne_zero hp hy⟩, fun i hi => ?_⟩
      have z : ∀ x, x < n → a i x * (fun j => if j < n then a i0 n * y j else -(sm n fun j => a i0 j * y j)) x = (fun j => a i j * (a i0 n * y j)) x := fun x hx => by
        show a i x * (if x < n then a i0 n * y x else _) = _
        rw [if_pos hx]
      have z2 : (fun j => if j < n then a i0 n * y j else -(sm n fun j => a i0 j * y j)) n = -(sm n fun j => a i0 j * y j) := by
        show (if n < n then a i0 n * y n else _) = _
        rw [if_neg (by omega)]
      rw [sm_succ, sm_congr z, z2, key]
      by_cases e : i = i0
      · subst e
        rw [sm_congr (h := fun _ => 0) fun x _ => by rw [Int.sub_self, Int.zero_mul], sm_const0]
      · by_cases e2 : i = m
        · subst e2
          have := hs i0 (by omega)
          simpa using this
        · have := hs i (by omega)
          rw [if_neg e] at this
          exact this
/-- the number of ones is odd -/
def par (x : Nat) : Bool := x.testBit 0 ^^ x.testBit 1 ^^ x.testBit 2 ^^ x.testBit 3 ^^ x.testBit 4
def sg (x i : Nat) : Int := if par (x % 2 ^ i) then -1 else 1
theorem sg_sq : ∀ x, x < 32 → ∀ i, i < 5 → sg x i * sg (x ^^^ 2 ^ i) i = 1 := by decide +kernel
theorem sg_anti : ∀ x, x < 32 → ∀ i, i < 5 → ∀ j, j < 5 → i ≠ j → sg x i * sg (x ^^^ 2 ^ i) j + sg x j * sg (x ^^^ 2 ^ j) i = 0 := by decide +kernel
theorem sg_abs (x i : Nat) : (sg x i).natAbs = 1 := by unfold sg; split <;> rfl
theorem xor_lt5 : ∀ x, x < 32 → ∀ i, i < 5 → x ^^^ 2 ^ i < 32 := by decide +kernel
theorem sm5 {g : Nat → Int} : sm 5 g = g 0 + g 1 + g 2 + g 3 + g 4 := by
  rw [sm_succ, sm_succ, sm_succ, sm_succ, sm_succ, sm_zero]
  omega
section
variable (d : Nat → Bool)
/-- signed neighbours -/
def nb (y : Nat → Int) (x : Nat) : Int := sm 5 fun i => if d i then sg x i * y (x ^^^ 2 ^ i) else 0
def many (d : Nat → Bool) : Nat := (List.range 5).countP d
theorem many_sm : ((many d : Nat) : Int) = sm 5 fun i => if d i then 1 else 0 := by
  rw [sm5]
  unfold many
  rw [show List.range 5 = [0, 1, 2, 3, 4] from rfl]
  simp only [List.countP_cons, List.countP_nil]
  cases d 0 <;> cases d 1 <;> cases d 2 <;> cases d 3 <;> cases d 4 <;> rfl
theorem nb_nb {y : Nat → Int} {x : Nat} (hx : x < 32) : nb d (nb d y) x = (many d : Nat) * y x := by
  have t : ∀ i, i < 5 → ∀ j, j < 5 → i ≠ j → (if d i then sg x i * (if d j then sg (x ^^^ 2 ^ i) j * y (x ^^^ 2 ^ i ^^^ 2 ^ j) else 0) else 0) + (if d j then sg x j * (if d i then sg (x ^^^ 2 ^ j) i * y (x ^^^ 2 ^ j ^^^ 2 ^ i) else 0) else 0) = 0 := fun i hi j hj hij => by
    cases d i <;> cases d j <;> simp only [Bool.false_eq_true, if_false, if_true, Int.mul_zero, Int.add_zero]
    rw [show x ^^^ 2 ^ j ^^^ 2 ^ i = x ^^^ 2 ^ i ^^^ 2 ^ j by rw [Nat.xor_assoc, Nat.xor_comm (2 ^ j), ← Nat.xor_assoc], ← Int.mul_assoc, ← Int.mul_assoc, ← Int.add_mul, sg_anti x hx i hi j hj hij, Int.zero_mul]
  have u : ∀ i, i < 5 → (if d i then sg x i * (if d i then sg (x ^^^ 2 ^ i) i * y (x ^^^ 2 ^ i ^^^ 2 ^ i) else 0) else 0) = if d i then y x else 0 := fun i hi => by
    cases d i <;> simp only [Bool.false_eq_true, if_false, if_true]
    rw [Nat.xor_assoc, Nat.xor_self, Nat.xor_zero, ← Int.mul_assoc, sg_sq x hx i hi, Int.one_mul]
  have ex : nb d (nb d y) x = sm 5 fun i => sm 5 fun j => if d i then sg x i * (if d j then sg (x ^^^ 2 ^ i) j * y (x ^^^ 2 ^ i ^^^ 2 ^ j) else 0) else 0 := by
    unfold nb
    refine sm_congr fun i _ => ?_
    cases d i
    · simp only [Bool.false_eq_true, if_false]
      exact sm_const0.symm
    · simp only [if_true]
      exact sm_mul.symm
  rw [ex, many_sm, Int.mul_comm, ← sm_mul]
  simp only [sm5]
  have := u 0 (by omega); have := u 1 (by omega); have := u 2 (by omega); have := u 3 (by omega); have := u 4 (by omega)
  have := t 0 (by omega) 1 (by omega) (by omega); have := t 0 (by omega) 2 (by omega) (by omega); have := t 0 (by omega) 3 (by omega) (by omega); have := t 0 (by omega) 4 (by omega) (by omega)
  have := t 1 (by omega) 2 (by omega) (by omega); have := t 1 (by omega) 3 (by omega) (by omega); have := t 1 (by omega) 4 (by omega) (by omega)
  have := t 2 (by omega) 3 (by omega) (by omega); have := t 2 (by omega) 4 (by omega) (by omega); have := t 3 (by omega) 4 (by omega) (by omega)
  have v : ∀ i, y x * (if d i then 1 else 0) = if d i then y x else 0 := fun i => by cases d i <;> simp
  rw [v, v, v, v, v]
  omega
theorem abs_add (a b : Int) : (a + b).natAbs ≤ a.natAbs + b.natAbs := by omega
/-- a sum of five, of which few are not 0 -/
theorem abs5 {g : Nat → Int} {p : Nat → Bool} {K : Nat} (h : ∀ i, i < 5 → (g i).natAbs ≤ if p i then K else 0) : (sm 5 g).natAbs ≤ many p * K := by
  rw [sm5]
  have e : many p * K = (if p 0 then K else 0) + (if p 1 then K else 0) + (if p 2 then K else 0) + (if p 3 then K else 0) + (if p 4 then K else 0) := by
    unfold many
    rw [show List.range 5 = [0, 1, 2, 3, 4] from rfl]
    simp only [List.countP_cons, List.countP_nil]
    cases p 0 <;> cases p 1 <;> cases p 2 <;> cases p 3 <;> cases p 4 <;> simp <;> omega
  rw [e]
  have := h 0 (by omega); have := h 1 (by omega); have := h 2 (by omega); have := h 3 (by omega); have := h 4 (by omega)
  omega
theorem nb_abs {S : Nat → Bool} {y : Nat → Int} {M : Nat} (h0 : ∀ z, z < 32 → S z = false → y z = 0) (hM : ∀ z, z < 32 → (y z).natAbs ≤ M) {x : Nat} (hx : x < 32) : (nb d y x).natAbs ≤ many (fun i => d i && S (x ^^^ 2 ^ i)) * M := by
  unfold nb
  refine abs5 fun i hi => ?_
  cases hd : d i
  · simp
  · simp only [if_true, Bool.true_and]
    rw [Int.natAbs_mul, sg_abs, Nat.one_mul]
    cases hs : S (x ^^^ 2 ^ i)
    · rw [h0 _ (xor_lt5 x hx i hi) hs]
      simp
    · simp only [if_true]
      exact hM _ (xor_lt5 x hx i hi)
theorem max_at (y : Nat → Int) : ∀ n, 0 < n → ∃ x, x < n ∧ ∀ z, z < n → (y z).natAbs ≤ (y x).natAbs
  | 1, _ => ⟨0, by omega, fun z hz => by have : z = 0 := by omega
                                         rw [this]; exact Nat.le_refl _⟩
  | n + 2, _ => by
    obtain ⟨x, h1, h2⟩ := max_at y (n + 1) (by omega)
    by_cases q : (y (n + 1)).natAbs ≤ (y x).natAbs
    · refine ⟨x, by omega, fun z hz => ?_⟩
      by_cases e : z = n + 1
      · rw [e]; exact q
      · exact h2 z (by omega)
    · refine ⟨n + 1, by omega, fun z hz => ?_⟩
      by_cases e : z = n + 1
      · rw [e]; exact Nat.le_refl _
      · have := h2 z (by omega)
        omega
theorem huang {S : Nat → Bool} (hS : 16 < (List.range 32).countP S) {Δ : Nat} (hΔ : ∀ x, x < 32 → S x = true → many (fun i => d i && S (x ^^^ 2 ^ i)) ≤ Δ) : many d ≤ Δ * Δ := by
  let L := (List.range 32).filter fun x => !S x
  have hL : L.length < 16 := by
    have a : (List.range 32).length = (List.range 32).countP S + (List.range 32).countP (fun x => !S x) := by
      rw [List.length_eq_countP_add_countP S]
      congr 1
      congr 1
      funext x
      cases S x <;> rfl
    rw [List.length_range] at a
    have b : L.length = (List.range 32).countP (fun x => !S x) := (List.countP_eq_length_filter).symm
    omega
  obtain ⟨y, ⟨j0, hj0, hy0⟩, hs⟩ := lin (2 * L.length) 32 (by omega) (fun i j => if i < L.length then (if j = L.getD i 0 then 1 else 0) else sm 5 fun k => if d k then (if j = L.getD (i - L.length) 0 ^^^ 2 ^ k then sg (L.getD (i - L.length) 0) k else 0) else 0)
  have mem : ∀ z, z < 32 → S z = false → ∃ i, i < L.length ∧ L.getD i 0 = z := fun z hz h => by
    have : z ∈ L := List.mem_filter.mpr ⟨List.mem_range.mpr hz, by rw [h]; rfl⟩
    obtain ⟨i, hi, e⟩ := List.mem_iff_getElem.mp this
    exact ⟨i, hi, by rw [List.getD_eq_getElem?_getD, List.getElem?_eq_getElem hi]; exact e⟩
  have y0 : ∀ z, z < 32 → S z = false → y z = 0 := fun z hz h => by
    obtain ⟨i, hi, e⟩ := mem z hz h
    have q := hs i (by omega)
    rw [sm_congr (h := fun j => if j = z then y j else 0) fun j _ => by rw [if_pos hi, e]; by_cases hj : j = z <;> simp [hj], sm_delta hz] at q
    exact q
  have n0 : ∀ z, z < 32 → S z = false → nb d y z = 0 := fun z hz h => by
    obtain ⟨i, hi, e⟩ := mem z hz h
    have q := hs (i + L.length) (by omega)
    have : ∀ j, j < 32 → (if i + L.length < L.length then (if j = L.getD (i + L.length) 0 then 1 else 0) else sm 5 fun k => if d k then (if j = L.getD (i + L.length - L.length) 0 ^^^ 2 ^ k then sg (L.getD (i + L.length - L.length) 0) k else 0) else 0) * y j = sm 5 fun k => if j = z ^^^ 2 ^ k then (if d k then sg z k * y j else 0) else 0 := fun j _ => by
      rw [if_neg (by omega), Nat.add_sub_cancel, e, Int.mul_comm, ← sm_mul]
      refine sm_congr fun k _ => ?_
      cases d k <;> by_cases hj : j = z ^^^ 2 ^ k <;> simp [hj, Int.mul_comm]
    rw [sm_congr this, sm_swap] at q
    unfold nb
    refine Eq.trans ?_ q
    exact sm_congr fun k hk => (sm_delta (g := fun j => if d k then sg z k * y j else 0) (xor_lt5 z hz k hk)).symm
  obtain ⟨x, hx, hm⟩ := max_at y 32 (by omega)
  have hyx : (y x).natAbs ≠ 0 := fun z => by
    have := hm j0 hj0
    omega
  have hSx : S x = true := by
    cases q : S x with
    | true => rfl
    | false => exact absurd (by rw [y0 x hx q]; rfl) hyx
  have A1 : ∀ z, z < 32 → (nb d y z).natAbs ≤ Δ * (y x).natAbs := fun z hz => by
    cases q : S z with
    | false => rw [n0 z hz q]; exact Nat.zero_le _
    | true => exact Nat.le_trans (nb_abs d y0 hm hz) (Nat.mul_le_mul_right _ (hΔ z hz q))
  have A2 := nb_abs d (S := S) n0 A1 hx
  rw [nb_nb d hx, Int.natAbs_mul, Int.natAbs_natCast] at A2
  have A3 : many d * (y x).natAbs ≤ (Δ * Δ) * (y x).natAbs := by
    refine Nat.le_trans A2 ?_
    rw [Nat.mul_assoc]
    exact Nat.mul_le_mul_right _ (hΔ x hx hSx)
  exact Nat.le_of_mul_le_mul_right A3 (by omega)
end
end PB.Q
set_option maxHeartbeats 4000000
/-! P2: lots of rows and their neighbours. -/
namespace PB.Q
def b1 (t : Bool) : Int := if t then 1 else 0
theorem b1_nn (t : Bool) : 0 ≤ b1 t ∧ b1 t ≤ 1 := by cases t <;> decide
theorem sm_le : ∀ {n : Nat} {g h : Nat → Int}, (∀ x, x < n → g x ≤ h x) → sm n g ≤ sm n h
  | 0, _, _, _ => Int.le_refl _
  | n + 1, g, h, e => by
    rw [sm_succ, sm_succ]
    have := sm_le (n := n) fun x hx => e x (by omega)
    have := e n (by omega)
    omega
theorem sm_split {n : Nat} {g : Nat → Int} : ∀ {m : Nat}, sm (n + m) g = sm n g + sm m fun x => g (n + x)
  | 0 => by rw [sm_zero]; simp
  | m + 1 => by rw [← Nat.add_assoc, sm_succ, sm_succ, sm_split]; omega
theorem sm_sub {n : Nat} {g h : Nat → Int} : sm n (fun x => g x - h x) = sm n g - sm n h := by
  have : sm n (fun x => g x - h x) = sm n fun x => g x + (-1) * h x := sm_congr fun x _ => by omega
  rw [this, sm_add, sm_mul]
  omega
theorem sm_const {c : Int} : ∀ {n : Nat}, sm n (fun _ => c) = n * c
  | 0 => by simp [sm_zero]
  | n + 1 => by rw [sm_succ, sm_const, Int.natCast_succ, Int.add_mul, Int.one_mul]
/-- how many neighbours are in the lot -/
def clo (n : Nat) (f : Nat → Bool) (p : Nat) : Int := sm n fun i => b1 (f (p ^^^ 2 ^ i))
def tot (n : Nat) (f : Nat → Bool) : Int := sm (2 ^ n) fun p => b1 (f p)
def eI (n : Nat) (f : Nat → Bool) : Int := sm (2 ^ n) fun p => b1 (f p) * clo n f p
def inf (n : Nat) (f : Nat → Bool) (i : Nat) : Int := sm (2 ^ n) fun p => b1 (f p != f (p ^^^ 2 ^ i))
/-- ones of a number below 32 -/
def pc (k : Nat) : Nat := many k.testBit
def hh (m : Nat) : Nat := ((List.range m).map fun k => 2 * pc k).sum
theorem xr1 : ∀ n, n < 5 → ∀ x, x < 2 ^ n → x ^^^ 2 ^ n = 2 ^ n + x ∧ (2 ^ n + x) ^^^ 2 ^ n = x ∧ ∀ i, i < n → (2 ^ n + x) ^^^ 2 ^ i = 2 ^ n + (x ^^^ 2 ^ i) := by decide +kernel
theorem hh_add : ∀ a, a < 17 → ∀ b, b < 17 → hh a + hh b + 2 * min a b ≤ hh (a + b) := by decide +kernel
theorem eI_step {n : Nat} (hn : n < 5) (f : Nat → Bool) : eI (n + 1) f = eI n f + eI n (fun x => f (2 ^ n + x)) + 2 * sm (2 ^ n) (fun x => b1 (f x) * b1 (f (2 ^ n + x))) := by
  have a : ∀ x, x < 2 ^ n → b1 (f x) * clo (n + 1) f x = b1 (f x) * clo n f x + b1 (f x) * b1 (f (2 ^ n + x)) := fun x hx => by
    unfold clo
    rw [sm_succ, (xr1 n hn x hx).1, Int.mul_add]
  have b : ∀ x, x < 2 ^ n → b1 (f (2 ^ n + x)) * clo (n + 1) f (2 ^ n + x) = b1 (f (2 ^ n + x)) * clo n (fun x => f (2 ^ n + x)) x + b1 (f x) * b1 (f (2 ^ n + x)) := fun x hx => by
    have : clo (n + 1) f (2 ^ n + x) = clo n (fun x => f (2 ^ n + x)) x + b1 (f x) := by
      unfold clo
      rw [sm_succ, (xr1 n hn x hx).2.1]
      congr 1
      exact sm_congr fun i hi => by rw [(xr1 n hn x hx).2.2 i hi]
    rw [this, Int.mul_add, Int.mul_comm (b1 (f x))]
  have E1 : eI n (fun x => f (2 ^ n + x)) = sm (2 ^ n) (fun x => b1 (f (2 ^ n + x)) * clo n (fun x => f (2 ^ n + x)) x) := rfl
  have E0 : eI n f = sm (2 ^ n) (fun x => b1 (f x) * clo n f x) := rfl
  have E2 : eI (n + 1) f = sm (2 ^ (n + 1)) (fun x => b1 (f x) * clo (n + 1) f x) := rfl
  rw [E2, show 2 ^ (n + 1) = 2 ^ n + 2 ^ n by rw [Nat.pow_succ]; omega, sm_split, sm_congr a, sm_congr b, sm_add, sm_add, E0, E1]
  omega
theorem tot_step {n : Nat} (f : Nat → Bool) : tot (n + 1) f = tot n f + tot n (fun x => f (2 ^ n + x)) := by
  unfold tot
  rw [show 2 ^ (n + 1) = 2 ^ n + 2 ^ n by rw [Nat.pow_succ]; omega, sm_split]
theorem pow_le {n : Nat} (h : n < 5) : 2 ^ n ≤ 16 := by
  have : ∀ n, n < 5 → 2 ^ n ≤ 16 := by decide
  exact this n h
/-- few neighbours within a lot -/
theorem iso : ∀ (n : Nat), n ≤ 5 → ∀ f, ∃ m : Nat, tot n f = m ∧ m ≤ 2 ^ n ∧ eI n f ≤ hh m
  | 0, _, f => by
    have e : eI 0 f = 0 := by
      unfold eI clo
      rw [show 2 ^ 0 = 1 from rfl, sm_succ, sm_zero, sm_zero]
      simp
    have t : tot 0 f = b1 (f 0) := by
      unfold tot
      rw [show 2 ^ 0 = 1 from rfl, sm_succ, sm_zero]
      omega
    cases h : f 0
    · exact ⟨0, by rw [t, h]; rfl, by decide, by rw [e]; decide +kernel⟩
    · exact ⟨1, by rw [t, h]; rfl, by decide, by rw [e]; decide +kernel⟩
  | n + 1, hn, f => by
    obtain ⟨a, a1, a2, a3⟩ := iso n (by omega) f
    obtain ⟨b, b1', b2, b3⟩ := iso n (by omega) (fun x => f (2 ^ n + x))
    have hp := pow_le (show n < 5 by omega)
    refine ⟨a + b, by rw [tot_step, a1, b1']; omega, by rw [Nat.pow_succ]; omega, ?_⟩
    have c1 : sm (2 ^ n) (fun x => b1 (f x) * b1 (f (2 ^ n + x))) ≤ a := by
      rw [← a1]
      exact sm_le fun x _ => by cases f x <;> cases f (2 ^ n + x) <;> decide
    have c2 : sm (2 ^ n) (fun x => b1 (f x) * b1 (f (2 ^ n + x))) ≤ b := by
      rw [← b1']
      exact sm_le fun x _ => by
        show b1 (f x) * b1 (f (2 ^ n + x)) ≤ b1 (f (2 ^ n + x))
        cases f x <;> cases f (2 ^ n + x) <;> decide
    have := hh_add a (by omega) b (by omega)
    rw [eI_step (by omega)]
    omega
theorem perm_xor : ∀ n, n < 6 → ∀ i, i < n → ((List.range (2 ^ n)).map (· ^^^ 2 ^ i)).isPerm (List.range (2 ^ n)) = true := by decide +kernel
theorem sum_perm {l m : List Int} (h : l.Perm m) : l.sum = m.sum := by
  induction h with
  | nil => rfl
  | cons x _ ih => simp [ih]
  | swap x y l => simp only [List.sum_cons]; omega
  | trans _ _ a b => rw [a, b]
theorem sm_xor {n i : Nat} (hn : n ≤ 5) (hi : i < n) (g : Nat → Int) : sm (2 ^ n) (fun p => g (p ^^^ 2 ^ i)) = sm (2 ^ n) g := by
  unfold sm
  have := ((List.isPerm_iff.mp (perm_xor n (by omega) i hi)).map g)
  rw [List.map_map] at this
  exact sum_perm this
theorem b1_ne (a b : Bool) : b1 (a != b) = b1 a + b1 b - 2 * (b1 a * b1 b) := by cases a <;> cases b <;> decide
theorem inf_eq {n i : Nat} (hn : n ≤ 5) (hi : i < n) (f : Nat → Bool) : inf n f i = 2 * tot n f - 2 * sm (2 ^ n) fun p => b1 (f p) * b1 (f (p ^^^ 2 ^ i)) := by
  unfold inf
  rw [sm_congr fun p _ => b1_ne (f p) (f (p ^^^ 2 ^ i)), sm_sub, sm_add, sm_mul, sm_xor hn hi (fun p => b1 (f p))]
  unfold tot
  omega
/-- all influences -/
theorem all_inf {n : Nat} (hn : n ≤ 5) (f : Nat → Bool) : sm n (inf n f) = 2 * (n * tot n f - eI n f) := by
  rw [sm_congr fun i hi => inf_eq hn hi f, sm_sub, sm_const, sm_mul, sm_swap]
  unfold eI clo
  have : ∀ p, p < 2 ^ n → b1 (f p) * sm n (fun i => b1 (f (p ^^^ 2 ^ i))) = sm n fun j => b1 (f p) * b1 (f (p ^^^ 2 ^ j)) := fun p _ => sm_mul.symm
  rw [sm_congr this]
  rw [Int.mul_sub, Int.mul_left_comm]
/-- .. as told by the rows of the lot -/
theorem all_inf2 {n : Nat} (f : Nat → Bool) : sm (2 ^ n) (fun p => b1 (f p) * (n - clo n f p)) = n * tot n f - eI n f := by
  unfold tot eI
  rw [← sm_mul, ← sm_sub]
  exact sm_congr fun p _ => by rw [Int.mul_sub, Int.mul_comm (b1 (f p))]
theorem clo_nn {n p : Nat} {f : Nat → Bool} : 0 ≤ clo n f p ∧ clo n f p ≤ n := by
  unfold clo
  constructor
  · have := sm_le (n := n) (g := fun _ => 0) (h := fun i => b1 (f (p ^^^ 2 ^ i))) fun x _ => (b1_nn _).1
    rw [sm_const0] at this
    exact this
  · have := sm_le (n := n) (g := fun i => b1 (f (p ^^^ 2 ^ i))) (h := fun _ => 1) fun x _ => (b1_nn _).2
    rw [sm_const] at this
    omega
theorem least_fin : ∀ m, m < 33 → ∀ d, d < 6 → 0 < m → d * m ≤ hh m → 2 ^ d ≤ m := by decide +kernel
/-- each row of a lot has d neighbours in it: the lot has 2 ^ d rows -/
theorem least_rows {n d : Nat} (hn : n ≤ 5) (hd : d ≤ 5) {f : Nat → Bool} (h : ∀ p, p < 2 ^ n → f p = true → (d : Int) ≤ clo n f p) (h0 : 0 < tot n f) : ((2 ^ d : Nat) : Int) ≤ tot n f := by
  obtain ⟨m, m1, m2, m3⟩ := iso n hn f
  have hp : 2 ^ n ≤ 32 := by
    have : ∀ n, n < 6 → 2 ^ n ≤ 32 := by decide
    exact this n (by omega)
  have k : (d : Int) * tot n f ≤ eI n f := by
    unfold tot eI
    rw [← sm_mul]
    refine sm_le fun p hp => ?_
    cases q : f p
    · simp [b1]
    · have := h p hp q
      show (d : Int) * 1 ≤ 1 * clo n f p
      omega
  rw [m1] at k h0 ⊢
  have k2 : ((d * m : Nat) : Int) ≤ hh m := by
    rw [Int.natCast_mul]
    omega
  have := least_fin m (by omega) d (by omega) (by omega) (by omega)
  exact Int.ofNat_le.mpr this
end PB.Q
set_option maxHeartbeats 4000000
/-! P3: signed sums, factors, degrees. -/
namespace PB.Q
def sp (x : Nat) : Int := if par x then -1 else 1
/-- a lap of the signed sums -/
def stW (j : Nat) (A : Nat → Int) (k : Nat) : Int := if k.testBit j then A (k ^^^ 2 ^ j) - A k else A k + A (k ^^^ 2 ^ j)
def Wh : Nat → (Nat → Int) → Nat → Int
  | 0, A => A
  | j + 1, A => stW j (Wh j A)
theorem fW : ∀ k, k < 32 → ∀ j, j < 5 → k ^^^ 2 ^ j < 32 ∧ k ^^^ (2 ^ (j + 1) - 1) = (k ^^^ 2 ^ j) ^^^ (2 ^ j - 1) ∧ k ^^^ (2 ^ (j + 1) - 1) ^^^ 2 ^ j = k ^^^ (2 ^ j - 1) ∧ (k ^^^ (2 ^ (j + 1) - 1)).testBit j = !k.testBit j ∧
    sp (k >>> j) = (if k.testBit j then -1 else 1) * sp (k >>> (j + 1)) ∧ sp ((k ^^^ 2 ^ j) >>> j) = (if k.testBit j then 1 else -1) * sp (k >>> (j + 1)) := by decide +kernel
theorem Wh_turn {A B : Nat → Int} (h : ∀ x, x < 32 → B x = sp x * A x) : ∀ j, j ≤ 5 → ∀ k, k < 32 → Wh j B k = sp (k >>> j) * Wh j A (k ^^^ (2 ^ j - 1))
  | 0, _, k, hk => by
    show B k = sp (k >>> 0) * A (k ^^^ (2 ^ 0 - 1))
    rw [h k hk, Nat.pow_zero, Nat.sub_self, Nat.xor_zero, Nat.shiftRight_zero]
  | j + 1, hj, k, hk => by
    obtain ⟨f1, f2, f3, f4, f5, f6⟩ := fW k hk j (by omega)
    have i1 := Wh_turn h j (by omega) k hk
    have i2 := Wh_turn h j (by omega) (k ^^^ 2 ^ j) f1
    show stW j (Wh j B) k = sp (k >>> (j + 1)) * stW j (Wh j A) (k ^^^ (2 ^ (j + 1) - 1))
    unfold stW
    rw [f3, f4, i1, i2, f5, f6, ← f2]
    cases k.testBit j
    · simp only [Bool.false_eq_true, if_false, Bool.not_false, if_true]
      rw [Int.mul_sub, Int.one_mul, Int.neg_mul, Int.one_mul, Int.neg_mul]
      omega
    · simp only [if_true, Bool.not_true, Bool.false_eq_true, if_false]
      rw [Int.mul_add, Int.one_mul, Int.neg_mul, Int.one_mul, Int.neg_mul]
      omega
/-- a lap of the factors -/
def stM (j : Nat) (A : Nat → Int) (k : Nat) : Int := if k.testBit j then A k + (-1) * A (k ^^^ 2 ^ j) else A k
def Mo : Nat → (Nat → Int) → Nat → Int
  | 0, A => A
  | j + 1, A => stM j (Mo j A)
def cM : Nat → Nat → Int
  | 0, _ => 1
  | j + 1, k => (if k.testBit j then -1 else 2) * cM j k
theorem cM_fin : ∀ k, k < 32 → ∀ j, j < 5 → cM j (k ^^^ 2 ^ j) = cM j k := by decide +kernel
/-- the low letters below k -/
def vM (A : Nat → Int) (j k : Nat) : Int := sm (2 ^ j) fun y => sp (y &&& k) * A (k - k % 2 ^ j + (y &&& k))
theorem fM : ∀ k, k < 32 → ∀ j, j < 5 → ∀ y, y < 2 ^ j → if k.testBit j then
      (k - k % 2 ^ (j + 1) + (y &&& k) = (k ^^^ 2 ^ j) - (k ^^^ 2 ^ j) % 2 ^ j + (y &&& (k ^^^ 2 ^ j)) ∧ (y &&& k) = (y &&& (k ^^^ 2 ^ j)) ∧ sp ((2 ^ j + y) &&& k) = - sp (y &&& k) ∧ k - k % 2 ^ (j + 1) + ((2 ^ j + y) &&& k) = k - k % 2 ^ j + (y &&& k))
    else (k - k % 2 ^ (j + 1) = k - k % 2 ^ j ∧ (2 ^ j + y) &&& k = y &&& k) := by decide +kernel
theorem vM_step {A : Nat → Int} {j k : Nat} (hj : j < 5) (hk : k < 32) : vM A (j + 1) k = if k.testBit j then vM A j (k ^^^ 2 ^ j) - vM A j k else 2 * vM A j k := by
  unfold vM
  rw [show 2 ^ (j + 1) = 2 ^ j + 2 ^ j by rw [Nat.pow_succ]; omega, sm_split, show 2 ^ j + 2 ^ j = 2 ^ (j + 1) by rw [Nat.pow_succ]; omega]
  cases q : k.testBit j
  · have F := fun y hy => fM k hk j hj y hy
    simp only [q, Bool.false_eq_true, if_false] at F ⊢
    have a : ∀ y, y < 2 ^ j → sp (y &&& k) * A (k - k % 2 ^ (j + 1) + (y &&& k)) = sp (y &&& k) * A (k - k % 2 ^ j + (y &&& k)) := fun y hy => by rw [(F y hy).1]
    have b : ∀ y, y < 2 ^ j → sp ((2 ^ j + y) &&& k) * A (k - k % 2 ^ (j + 1) + ((2 ^ j + y) &&& k)) = sp (y &&& k) * A (k - k % 2 ^ j + (y &&& k)) := fun y hy => by rw [(F y hy).1, (F y hy).2]
    rw [sm_congr a, sm_congr b]
    omega
  · have F := fun y hy => fM k hk j hj y hy
    simp only [q, if_true] at F ⊢
    have a : ∀ y, y < 2 ^ j → sp (y &&& k) * A (k - k % 2 ^ (j + 1) + (y &&& k)) = sp (y &&& (k ^^^ 2 ^ j)) * A ((k ^^^ 2 ^ j) - (k ^^^ 2 ^ j) % 2 ^ j + (y &&& (k ^^^ 2 ^ j))) := fun y hy => by rw [(F y hy).1, ← (F y hy).2.1]
    have b : ∀ y, y < 2 ^ j → sp ((2 ^ j + y) &&& k) * A (k - k % 2 ^ (j + 1) + ((2 ^ j + y) &&& k)) = (-1) * (sp (y &&& k) * A (k - k % 2 ^ j + (y &&& k))) := fun y hy => by rw [(F y hy).2.2.1, (F y hy).2.2.2, Int.neg_mul]; omega
    rw [sm_congr a, sm_congr b, sm_mul]
    omega
theorem vM_eq {A : Nat → Int} : ∀ j, j ≤ 5 → ∀ k, k < 32 → vM A j k = cM j k * Mo j A k
  | 0, _, k, _ => by
    show vM A 0 k = 1 * A k
    unfold vM
    rw [show 2 ^ 0 = 1 from rfl, sm_succ, sm_zero, Nat.mod_one, Nat.zero_and]
    show 0 + sp 0 * A (k - 0 + 0) = _
    rw [show sp 0 = 1 from rfl]
    simp
  | j + 1, hj, k, hk => by
    rw [vM_step (by omega) hk, vM_eq j (by omega) k hk, vM_eq j (by omega) _ (xor_lt5 k hk j (by omega)), cM_fin k hk j (by omega)]
    show _ = (if k.testBit j then -1 else 2) * cM j k * stM j (Mo j A) k
    unfold stM
    cases k.testBit j
    · simp only [Bool.false_eq_true, if_false]
      rw [Int.mul_assoc]
    · simp only [if_true]
      rw [Int.mul_assoc, Int.mul_add, Int.neg_mul, Int.one_mul, Int.neg_mul, Int.one_mul, Int.mul_neg]
      omega
theorem sp_sum : ∀ k, k < 32 → 0 < k → sm 32 (fun x => sp (x &&& k)) = 0 := by decide +kernel
theorem cnt_sm (S : Nat → Bool) : ∀ n, (((List.range n).countP S : Nat) : Int) = sm n fun x => b1 (S x)
  | 0 => rfl
  | n + 1 => by
    rw [List.range_succ, List.countP_append, sm_succ, ← cnt_sm S n]
    cases h : S n <;> simp [h, b1]
theorem par_ne : ∀ x, x < 32 → ∀ i, i < 5 → par (x ^^^ 2 ^ i) = !par x := by decide +kernel
theorem and_xor : ∀ k, k < 32 → ∀ x, x < 32 → ∀ i, i < 5 → k.testBit i = true → (x ^^^ 2 ^ i) &&& k = (x &&& k) ^^^ 2 ^ i := by decide +kernel
theorem and_lt : ∀ k, k < 32 → ∀ x, x < 32 → x &&& k < 32 := by decide +kernel
/-- how many letters turn a row -/
def tur (n : Nat) (f : Nat → Bool) (p : Nat) : Nat := (List.range n).countP fun i => f p != f (p ^^^ 2 ^ i)
theorem countP_le {p q : Nat → Bool} : ∀ {l : List Nat}, (∀ x ∈ l, p x = true → q x = true) → l.countP p ≤ l.countP q := fun h => List.countP_mono_left h
theorem many_tur {n : Nat} (hn : n ≤ 5) {k : Nat} {g : Nat → Bool} (hk : ∀ i, i < 5 → k.testBit i = true → i < n) : many (fun i => k.testBit i && g i) ≤ (List.range n).countP g := by
  unfold many
  rw [show (5 : Nat) = n + (5 - n) by omega, List.range_add, List.countP_append]
  have a : ((List.range (5 - n)).map (n + ·)).countP (fun i => k.testBit i && g i) = 0 := by
    rw [List.countP_eq_zero]
    intro i hi
    obtain ⟨j, hj, rfl⟩ := List.mem_map.mp hi
    have := List.mem_range.mp hj
    cases q : k.testBit (n + j)
    · simp
    · have := hk (n + j) (by omega) q
      omega
  have b := countP_le (p := fun i => k.testBit i && g i) (q := g) (l := List.range n) fun x _ h => ((Bool.and_eq_true _ _).mp h).2
  omega
/-- the degree and the letters that turn -/
theorem deg {n : Nat} (hn : n ≤ 5) {f : Nat → Bool} {s k : Nat} (hs : ∀ p, p < 2 ^ n → tur n f p ≤ s) (hk : k < 2 ^ n) (h : Mo 5 (fun p => b1 (f p)) k ≠ 0) : pc k ≤ s * s := by
  have h32 : 2 ^ n ≤ 32 := by
    have : ∀ n, n < 6 → 2 ^ n ≤ 32 := by decide
    exact this n (by omega)
  by_cases k0 : k = 0
  · subst k0
    exact Nat.le_trans (by decide +kernel : pc 0 ≤ 0) (Nat.zero_le _)
  have kb : ∀ i, i < 5 → k.testBit i = true → i < n := fun i hi q => by
    apply Classical.byContradiction
    intro z
    have : k < 2 ^ i := Nat.lt_of_lt_of_le hk (Nat.pow_le_pow_right (by omega) (by omega))
    rw [Nat.testBit_lt_two_pow this] at q
    cases q
  have bound : ∀ x, x < 32 → x &&& k < 2 ^ n := fun x _ => Nat.lt_of_le_of_lt Nat.and_le_right hk
  -- each side of the two
  have side : ∀ c : Bool, 16 < (List.range 32).countP (fun x => (f (x &&& k) != par (x &&& k)) == c) → pc k ≤ s * s := fun c hc => by
    refine huang k.testBit hc fun x hx hS => ?_
    refine Nat.le_trans ?_ (hs (x &&& k) (bound x hx))
    have : ∀ i, i < 5 → (k.testBit i && ((f ((x ^^^ 2 ^ i) &&& k) != par ((x ^^^ 2 ^ i) &&& k)) == c)) = (k.testBit i && (f (x &&& k) != f ((x &&& k) ^^^ 2 ^ i))) := fun i hi => by
      cases q : k.testBit i
      · rfl
      · rw [and_xor k (by omega) x hx i hi q, par_ne _ (and_lt k (by omega) x hx) i hi]
        revert hS
        cases f (x &&& k) <;> cases f ((x &&& k) ^^^ 2 ^ i) <;> cases par (x &&& k) <;> cases c <;> decide
    have e : many (fun i => k.testBit i && ((f ((x ^^^ 2 ^ i) &&& k) != par ((x ^^^ 2 ^ i) &&& k)) == c)) = many fun i => k.testBit i && (f (x &&& k) != f ((x &&& k) ^^^ 2 ^ i)) := by
      unfold many
      exact List.countP_congr fun i hi => by rw [this i (List.mem_range.mp hi)]
    rw [e]
    exact many_tur hn kb
  have v := vM_eq (A := fun p => b1 (f p)) 5 (by omega) k (by omega)
  have c0 : ∀ k, k < 32 → cM 5 k ≠ 0 := by decide +kernel
  have v0 : vM (fun p => b1 (f p)) 5 k ≠ 0 := by
    rw [v]
    exact Int.mul_ne_zero (c0 k (by omega)) h
  have e5 : vM (fun p => b1 (f p)) 5 k = sm 32 fun y => sp (y &&& k) * b1 (f (y &&& k)) := by
    unfold vM
    rw [Nat.mod_eq_of_lt (by omega : k < 2 ^ 5)]
    simp only [Nat.sub_self, Nat.zero_add] <;> rfl
  have t : sm 32 (fun x => 1 - 2 * b1 (f (x &&& k) != par (x &&& k))) = - 2 * vM (fun p => b1 (f p)) 5 k := by
    have : ∀ x, x < 32 → 1 - 2 * b1 (f (x &&& k) != par (x &&& k)) = sp (x &&& k) - 2 * (sp (x &&& k) * b1 (f (x &&& k))) := fun x _ => by
      unfold sp
      cases f (x &&& k) <;> cases par (x &&& k) <;> decide
    rw [sm_congr this, sm_sub, sm_mul, sp_sum k (by omega) (by omega), ← e5]
    omega
  rw [sm_sub, sm_const, sm_mul, ← cnt_sm] at t
  by_cases q : 16 < (List.range 32).countP (fun x => (f (x &&& k) != par (x &&& k)) == true)
  · exact side true q
  · refine side false ?_
    have a : (List.range 32).countP (fun x => (f (x &&& k) != par (x &&& k)) == true) = (List.range 32).countP fun x => f (x &&& k) != par (x &&& k) := List.countP_congr fun x _ => by cases f (x &&& k) != par (x &&& k) <;> simp
    have b : (List.range 32).length = (List.range 32).countP (fun x => f (x &&& k) != par (x &&& k)) + (List.range 32).countP (fun x => (f (x &&& k) != par (x &&& k)) == false) := by
      rw [List.length_eq_countP_add_countP fun x => f (x &&& k) != par (x &&& k)]
      congr 1
      exact List.countP_congr fun x _ => by cases f (x &&& k) != par (x &&& k) <;> simp
    rw [List.length_range] at b
    omega
/-- more than half of the rows: a crowded one -/
theorem mod_pow : ∀ n, n < 6 → ∀ j, j < 5 → n ≤ j → ∀ x, x < 2 ^ j → (2 ^ j + x) % 2 ^ n = x % 2 ^ n := by decide +kernel
theorem mod_xor : ∀ n, n < 6 → ∀ x, x < 32 → ∀ i, i < n → (x ^^^ 2 ^ i) % 2 ^ n = (x % 2 ^ n) ^^^ 2 ^ i := by decide +kernel
theorem sm_per {n : Nat} (g : Nat → Int) : ∀ j, n + j ≤ 5 → sm (2 ^ (n + j)) (fun x => g (x % 2 ^ n)) = 2 ^ j * sm (2 ^ n) g
  | 0, _ => by
    rw [Nat.add_zero, sm_congr (h := g) fun x hx => by rw [Nat.mod_eq_of_lt hx]]
    omega
  | j + 1, h => by
    have e : ∀ x, x < 2 ^ (n + j) → g ((2 ^ (n + j) + x) % 2 ^ n) = g (x % 2 ^ n) := fun x hx => by rw [mod_pow n (by omega) (n + j) (by omega) (by omega) x hx]
    rw [← Nat.add_assoc, show 2 ^ (n + j + 1) = 2 ^ (n + j) + 2 ^ (n + j) by rw [Nat.pow_succ]; omega, sm_split, sm_congr e, sm_per g j (by omega), Int.pow_succ, Int.mul_assoc, Int.mul_left_comm]
    omega
theorem crowd {n : Nat} (hn : n ≤ 5) {f : Nat → Bool} (h : ((2 ^ n : Nat) : Int) < 2 * tot n f) {Δ : Nat} (hΔ : ∀ p, p < 2 ^ n → f p = true → clo n f p ≤ Δ) : n ≤ Δ * Δ := by
  have hd : many (fun i => decide (i < n)) = n := by
    have : ∀ n, n < 6 → many (fun i => decide (i < n)) = n := by decide +kernel
    exact this n (by omega)
  have hc : 16 < (List.range 32).countP fun x => f (x % 2 ^ n) := by
    have a := cnt_sm (fun x => f (x % 2 ^ n)) 32
    have b := sm_per (n := n) (fun p => b1 (f p)) (5 - n) (by omega)
    rw [show n + (5 - n) = 5 by omega] at b
    have c : sm 32 (fun x => b1 (f (x % 2 ^ n))) = 2 ^ (5 - n) * tot n f := b
    rw [c] at a
    have z : ∀ n, n < 6 → 2 ^ (5 - n) * ((2 ^ n : Nat) : Int) = 32 := by decide +kernel
    have z := z n (by omega)
    have pos : (0 : Int) < 2 ^ (5 - n) := Int.pow_pos (by omega)
    have := Int.mul_lt_mul_of_pos_left h pos
    rw [z, Int.mul_left_comm] at this
    omega
  have := huang (fun i => decide (i < n)) hc (Δ := Δ) fun x hx hS => by
    have k := hΔ (x % 2 ^ n) (Nat.mod_lt _ (Nat.pow_pos (by omega))) hS
    have e : clo n f (x % 2 ^ n) = ((List.range n).countP fun i => f ((x % 2 ^ n) ^^^ 2 ^ i) : Nat) := (cnt_sm _ n).symm
    have m : many (fun i => decide (i < n) && f ((x ^^^ 2 ^ i) % 2 ^ n)) ≤ (List.range n).countP fun i => f ((x % 2 ^ n) ^^^ 2 ^ i) := by
      unfold many
      rw [show (5 : Nat) = n + (5 - n) by omega, List.range_add, List.countP_append]
      have a : ((List.range (5 - n)).map (n + ·)).countP (fun i => decide (i < n) && f ((x ^^^ 2 ^ i) % 2 ^ n)) = 0 := by
        rw [List.countP_eq_zero]
        intro i hi
        obtain ⟨j, hj, rfl⟩ := List.mem_map.mp hi
        rw [decide_eq_false (by omega), Bool.false_and]
        decide
      have b := countP_le (p := fun i => decide (i < n) && f ((x ^^^ 2 ^ i) % 2 ^ n)) (q := fun i => f ((x % 2 ^ n) ^^^ 2 ^ i)) (l := List.range n) fun i hi h => by
        have := ((Bool.and_eq_true _ _).mp h).2
        rw [mod_xor n (by omega) x hx i (List.mem_range.mp hi)] at this
        exact this
      omega
    omega
  rw [hd] at this
  exact this
end PB.Q
set_option maxHeartbeats 4000000
/-! M1: k76: a function as data; the first defs. -/
namespace PB.M
open PySem PB K76 PB.Q
abbrev gG (n : Nat) (d : DefI) : Gx := gX T n d
def FL (n : Nat) (f : Nat → Bool) : List D := (List.range (2 ^ n)).map fun p => D.int (b1 (f p))
def FD (n : Nat) (f : Nat → Bool) : D := .tup (FL n f)
theorem len_map {α : Type} {n : Nat} {g : Nat → α} : ((List.range n).map g).length = n := by rw [List.length_map, List.length_range]
theorem FL_len {n : Nat} {f : Nat → Bool} : (FL n f).length = 2 ^ n := len_map
theorem p32 {n : Nat} (h : n ≤ 5) : 2 ^ n ≤ 32 := by
  have : ∀ n, n < 6 → 2 ^ n ≤ 32 := by decide
  exact this n (by omega)
theorem at_map {n p : Nat} {g : Nat → D} (h : p < n) : atD ((List.range n).map g) (p : Int) = some (g p) := by
  unfold atD ixOf
  rw [len_map, if_pos (by omega), if_pos (by omega)]
  show ((List.range n).map g)[p]? = _
  rw [List.getElem?_map, List.getElem?_range h]
  rfl
theorem idxF {n p : Nat} {f : Nat → Bool} (h : p < 2 ^ n) : idxD (FD n f) (.int (p : Int)) = some (.int (b1 (f p))) := at_map h
theorem small {n : Nat} (h : n ≤ 5) {α : Type} {g : Nat → α} : (List.range (2 ^ n)).length ≤ lim := by
  rw [List.length_range]
  have := p32 h
  show _ ≤ 100000
  omega
theorem cases6 {P : Nat → Prop} {n : Nat} (hn : n ≤ 5) (h0 : P 0) (h1 : P 1) (h2 : P 2) (h3 : P 3) (h4 : P 4) (h5 : P 5) : P n := by
  rcases (by omega : n = 0 ∨ n = 1 ∨ n = 2 ∨ n = 3 ∨ n = 4 ∨ n = 5) with rfl | rfl | rfl | rfl | rfl | rfl <;> assumption
theorem allBl_map {α : Type} {g : α → Bool} : ∀ L : List α, allBl (L.map fun a => D.bl (g a)) = some (L.map g)
  | [] => rfl
  | a :: L => by
    show (allBl (L.map fun a => D.bl (g a))).map (g a :: ·) = _
    rw [allBl_map L]
    rfl
theorem all_map {α : Type} {L : List α} : bi .all [.lst (L.map fun _ => D.bl true)] = some (.bl true) := by
  show (allBl (L.map fun _ => D.bl true)).map (fun l => D.bl (l.all id)) = _
  rw [allBl_map L]
  show some (D.bl ((L.map fun _ => true).all id)) = _
  rw [List.all_map]
  have : (L.all (id ∘ fun _ => true)) = true := List.all_eq_true.mpr fun _ _ => rfl
  rw [this]
variable {m n : Nat} {f : Nat → Bool}
theorem bit_ok (m : Nat) (b : Bool) : callN T (m + 3) 3 none [.int (b1 b)] = some (.ok (.bl true) [none]) := by cases b <;> kernel_rfl
abbrev sqA : C → C | .seq a _ => a | c => c
abbrev sqB : C → C | .seq _ b => b | c => c
theorem whl4 (hn : n ≤ 5) (x y : Option D) : exec (sqA (sqB (sqB c_is_function))) (gG m d_is_function) [x, some (.int ((2 ^ n : Nat) : Int)), y] = some (.nx [x, some (.int 1), y]) :=
  cases6 (P := fun n => exec (sqA (sqB (sqB c_is_function))) (gG m d_is_function) [x, some (.int ((2 ^ n : Nat) : Int)), y] = some (.nx [x, some (.int 1), y])) hn (by kernel_rfl) (by kernel_rfl) (by kernel_rfl) (by kernel_rfl) (by kernel_rfl) (by kernel_rfl)
theorem len_tup {l : List D} : bi .len [.tup l] = some (.int (l.length : Int)) := rfl
theorem lenF : bi .len [FD n f] = some (.int ((2 ^ n : Nat) : Int)) := by
  show some (D.int ((FL n f).length : Int)) = _
  rw [FL_len]
theorem fun_ok (hn : n ≤ 5) : callN T (m + 4) 4 none [FD n f] = some (.ok (.bl true) [none]) := by
  have a : Ev (gG (m + 3) d_is_function) [some (FD n f), none, none] (.lc [2] (.var 2) (.var 0) (.cst (.bl true)) (.call 3 (.cons (.var 2) .nil))) (.lst ((List.range (2 ^ n)).map fun _ => D.bl true)) :=
    Ev.lcT (h := fun p => D.int (b1 (f p))) (P := fun p => [some (FD n f), none, some (.int (b1 (f p)))]) (Ev.var rfl rfl) rfl (fun _ _ => rfl) (fun _ _ => rfl) (fun _ => rfl) rfl (fun p _ => Ev.call (d := d_is_bit) rfl rfl (Ev.cons (Ev.var rfl rfl) Ev.nil) (bit_ok m (f p))) (small hn (g := fun p => D.int (b1 (f p))))
  have s1 : exec (sqA c_is_function) (gG (m + 3) d_is_function) [some (FD n f), none, none] = some (.nx [some (FD n f), none, none]) :=
    x_ifF (Ev.orF (x := .bl false) (Ev.not (x := .bl true) (t := true) (Ev.isi (Ev.var rfl rfl) rfl) rfl) rfl (Ev.not (Ev.blt1 a all_map) rfl)) rfl x_pass
  have s2 : exec (sqA (sqB c_is_function)) (gG (m + 3) d_is_function) [some (FD n f), none, none] = some (.nx [some (FD n f), some (.int ((2 ^ n : Nat) : Int)), none]) :=
    x_asg (Ev.blt1 (Ev.var rfl rfl) lenF) rfl
  exact callT_rt (d := d_is_function) rfl rfl (x_seq (a := sqA c_is_function) (b := sqB c_is_function) s1 (x_seq (a := sqA (sqB c_is_function)) (b := sqB (sqB c_is_function)) s2 (x_seq (a := sqA (sqB (sqB c_is_function))) (b := sqB (sqB (sqB c_is_function))) (whl4 hn _ _) (x_ret (Ev.op (Ev.var rfl rfl) (Ev.cst rfl) rfl))))) rfl
theorem need_ok (hn : n ≤ 5) : callN T (m + 5) 5 none [FD n f] = some (.ok .non [none]) :=
  callT_nx (d := d_need_function) rfl rfl (x_ifF (Ev.not (Ev.call (d := d_is_function) rfl rfl (Ev.cons (Ev.var rfl rfl) Ev.nil) (fun_ok hn)) rfl) rfl x_pass) rfl
theorem whl6 (hn : n ≤ 5) (x : Option D) : exec (sqA (sqB c_letters_in)) (gG m d_letters_in) [x, some (.int ((2 ^ n : Nat) : Int)), some (.int 0)] = some (.nx [x, some (.int 1), some (.int (n : Int))]) :=
  cases6 (P := fun n => exec (sqA (sqB c_letters_in)) (gG m d_letters_in) [x, some (.int ((2 ^ n : Nat) : Int)), some (.int 0)] = some (.nx [x, some (.int 1), some (.int (n : Int))])) hn (by kernel_rfl) (by kernel_rfl) (by kernel_rfl) (by kernel_rfl) (by kernel_rfl) (by kernel_rfl)
theorem let_ok (hn : n ≤ 5) : callN T (m + 1) 6 none [FD n f] = some (.ok (.int (n : Int)) [none]) := by
  have s1 : exec (sqA c_letters_in) (gG m d_letters_in) [some (FD n f), none, none] = some (.nx [some (FD n f), some (.int ((2 ^ n : Nat) : Int)), some (.int 0)]) := x_par (Ev.blt1 (Ev.var rfl rfl) lenF) (Ev.cst rfl) rfl rfl
  exact callT_rt (d := d_letters_in) rfl rfl (x_seq (a := sqA c_letters_in) (b := sqB c_letters_in) s1 (x_seq (a := sqA (sqB c_letters_in)) (b := sqB (sqB c_letters_in)) (whl6 hn _) (x_ret (Ev.var rfl rfl)))) rfl
end PB.M
set_option maxHeartbeats 4000000
/-! Jr: the text of small data is there. -/
namespace PB
open PySem PySem.Spec PyProof.Rows L2
def knownS : List Str := ["BadFunction", "BadNumber", "BadRow", "letters", "1"]
mutual
def smD : Nat → D → Bool
  | _, .non => true
  | _, .bl _ => true
  | _, .int i => decide (i.natAbs < 1000000000000)
  | _, .str x => knownS.contains x
  | n, .tup xs => match n with | 0 => false | n + 1 => smL n xs
  | n, .lst xs => match n with | 0 => false | n + 1 => smL n xs
  | _, .dic _ _ => false
def smL : Nat → List D → Bool
  | _, [] => true
  | n, x :: xs => smD n x && smL n xs
end
def smallD (d : D) : Bool := smD 30 d && decide ((toPy d).weight ≤ 6000)
theorem kn_ok {x : Str} (h : knownS.contains x = true) : PyData.strOk x = true ∧ (∀ k, 0x110000 ≤ k → k ∉ (reprText x).cps.toList) := by
  have a : (knownS.all fun x => PyData.strOk x && PyData.strOk (reprText x)) = true := by decide +kernel
  have := List.all_eq_true.mp a x (List.contains_iff_mem.mp h)
  simp only [Bool.and_eq_true] at this
  refine ⟨this.1, fun k hk hm => ?_⟩
  have h2 := this.2
  unfold PyData.strOk at h2
  rw [← Array.all_toList] at h2
  have := of_decide_eq_true (List.all_eq_true.mp h2 k hm)
  omega
mutual
theorem sm_plain : ∀ (n : Nat) (d : D), smD n d = true → plainD n d = true
  | _, .non, _ => by simp [plainD]
  | _, .bl _, _ => by simp [plainD]
  | _, .int _, _ => by simp [plainD]
  | _, .str x, h => by simp only [plainD]; exact (kn_ok (by simpa [smD] using h)).1
  | 0, .tup xs, h => by simp [smD] at h
  | n + 1, .tup xs, h => by simp only [smD] at h; simp only [plainD]; exact sm_plainL n xs h
  | 0, .lst xs, h => by simp [smD] at h
  | n + 1, .lst xs, h => by simp only [smD] at h; simp only [plainD]; exact sm_plainL n xs h
  | _, .dic _ _, h => by simp [smD] at h
theorem sm_plainL : ∀ (n : Nat) (l : List D), smL n l = true → plainL n l = true
  | _, [], _ => by simp [plainL]
  | n, x :: xs, h => by
    simp only [smL, Bool.and_eq_true] at h
    simp only [plainL, sm_plain n x h.1, sm_plainL n xs h.2, Bool.and_self]
end
theorem nat_show {i : Int} (h : i.natAbs < 1000000000000) : i.natAbs.log2 < 1920 := by
  by_cases h0 : i.natAbs = 0
  · rw [h0]; decide
  · exact (Nat.log2_lt h0).mpr (Nat.lt_trans h (by decide +kernel))
mutual
theorem sm_show : ∀ (n : Nat) (d : D), smD n d = true → showI d = true
  | _, .non, _ => by simp [showI]
  | _, .bl _, _ => by simp [showI]
  | _, .int i, h => by simp only [showI]; exact decide_eq_true (nat_show (by simpa [smD] using h))
  | _, .str x, h => by simp [showI]
  | 0, .tup xs, h => by simp [smD] at h
  | n + 1, .tup xs, h => by simp only [smD] at h; simp only [showI]; exact sm_showL n xs h
  | 0, .lst xs, h => by simp [smD] at h
  | n + 1, .lst xs, h => by simp only [smD] at h; simp only [showI]; exact sm_showL n xs h
  | _, .dic _ _, h => by simp [smD] at h
theorem sm_showL : ∀ (n : Nat) (l : List D), smL n l = true → showIL l = true
  | _, [], _ => by simp [showIL]
  | n, x :: xs, h => by
    simp only [smL, Bool.and_eq_true] at h
    simp only [showIL, sm_show n x h.1, sm_showL n xs h.2, Bool.and_self]
end
mutual
theorem sm_short : ∀ (n : Nat) (d : D), smD n d = true → (toPy d).leavesShort 13 = true
  | _, .non, _ => by simp [toPy, PyData.leavesShort]
  | _, .bl _, _ => by simp [toPy, PyData.leavesShort]
  | _, .int i, h => by
    simp only [toPy, PyData.leavesShort]
    exact decide_eq_true (PyData.shown_int_le (by have : i.natAbs < 1000000000000 := by simpa [smD] using h
                                                  omega))
  | _, .str x, h => by
    simp only [toPy, PyData.leavesShort]
    have h2 := (kn_ok (by simpa [smD] using h : knownS.contains x = true)).1
    unfold PyData.strOk at h2
    rw [← Array.all_toList] at h2
    exact List.all_eq_true.mpr fun c hc => decide_eq_true (by have := of_decide_eq_true (List.all_eq_true.mp h2 c hc); omega)
  | 0, .tup xs, h => by simp [smD] at h
  | n + 1, .tup xs, h => by simp only [smD] at h; simp only [toPy, PyData.leavesShort]; exact sm_shortL n xs h
  | 0, .lst xs, h => by simp [smD] at h
  | n + 1, .lst xs, h => by simp only [smD] at h; simp only [toPy, PyData.leavesShort]; exact sm_shortL n xs h
  | _, .dic _ _, h => by simp [smD] at h
theorem sm_shortL : ∀ (n : Nat) (l : List D), smL n l = true → PyData.leavesShortAll 13 (toPyL l) = true
  | _, [], _ => by simp [toPyL, PyData.leavesShortAll]
  | n, x :: xs, h => by
    simp only [smL, Bool.and_eq_true] at h
    simp only [toPyL, PyData.leavesShortAll, sm_short n x h.1, sm_shortL n xs h.2, Bool.and_self]
end
theorem free_part {k : Nat} (hk : 0x110000 ≤ k) {x : Str} (h : (x.cps.toList.all fun c => decide (c < 128)) = true) : k ∉ x.cps.toList := fun hm => by
  have := of_decide_eq_true (List.all_eq_true.mp h k hm)
  omega
mutual
theorem sm_free {k : Nat} (hk : 0x110000 ≤ k) : ∀ (n : Nat) (d : D), smD n d = true → k ∉ (toPy d).shown.cps.toList
  | _, .non, _ => by
    simp only [toPy]
    rw [PyData.shown_none]
    exact free_part hk (by decide +kernel)
  | _, .bl b, _ => by
    simp only [toPy]
    rw [PyData.shown_bool]
    exact free_part hk (by cases b <;> decide +kernel)
  | _, .int i, h => by
    simp only [toPy]
    exact shown_int_free' ⟨by omega, by omega⟩ i
  | _, .str x, h => by
    simp only [toPy]
    rw [PyData.shown_str]
    exact (kn_ok (by simpa [smD] using h)).2 k hk
  | 0, .tup xs, h => by simp [smD] at h
  | n + 1, .tup xs, h => by
    simp only [smD] at h
    have ih := sm_freeL hk n xs h
    simp only [toPy]
    rw [PyData.shown_tuple, mem_cps_append, mem_cps_append, mem_join]
    rintro ((hm | (⟨t, ht, hc⟩ | ⟨_, hm⟩)) | hm)
    · exact free_part hk (by decide +kernel) hm
    · exact ih t ht hc
    · exact free_part hk (by decide +kernel) hm
    · exact free_part hk (by split <;> decide +kernel) hm
  | 0, .lst xs, h => by simp [smD] at h
  | n + 1, .lst xs, h => by
    simp only [smD] at h
    have ih := sm_freeL hk n xs h
    simp only [toPy]
    rw [PyData.shown_list, mem_cps_append, mem_cps_append, mem_join]
    rintro ((hm | (⟨t, ht, hc⟩ | ⟨_, hm⟩)) | hm)
    · exact free_part hk (by decide +kernel) hm
    · exact ih t ht hc
    · exact free_part hk (by decide +kernel) hm
    · exact free_part hk (by decide +kernel) hm
  | _, .dic _ _, h => by simp [smD] at h
theorem sm_freeL {k : Nat} (hk : 0x110000 ≤ k) : ∀ (n : Nat) (l : List D), smL n l = true → ∀ t ∈ PyData.shownAll (toPyL l), k ∉ t.cps.toList
  | _, [], _, t, ht => by simp [toPyL, PyData.shownAll] at ht
  | n, x :: xs, h, t, ht => by
    simp only [smL, Bool.and_eq_true] at h
    simp only [toPyL] at ht
    rw [PyData.shownAll_cons, List.mem_cons] at ht
    rcases ht with e | ht
    · rw [e]; exact sm_free hk n x h.1
    · exact sm_freeL hk n xs h.2 t ht
end
theorem repr_small {d : D} (h : smallD d = true) : bi .repr [d] = some (.str (toPy d).shown) ∧ PyData.strOk (toPy d).shown = true := by
  unfold smallD at h
  obtain ⟨h1, h2⟩ := (Bool.and_eq_true _ _).mp h
  have h2 := of_decide_eq_true h2
  refine ⟨?_, ?_⟩
  · simp only [bi]
    rw [if_pos]
    rw [sm_plain 30 d h1, sm_show 30 d h1]
    have := PyData.shown_le 13 (by omega) _ (sm_short 30 d h1)
    exact decide_eq_true (show _ ≤ 100000 by omega)
  · unfold PyData.strOk
    rw [← Array.all_toList]
    exact List.all_eq_true.mpr fun c hc => decide_eq_true (by
      apply Classical.byContradiction
      intro z
      exact sm_free (by omega) 30 d h1 hc)
mutual
def sameD : D → D → Bool
  | .non, .non => true
  | .bl a, .bl b => a == b
  | .int i, .int j => decide (i = j)
  | .str x, .str y => x == y
  | .tup xs, .tup ys => sameL xs ys
  | .lst xs, .lst ys => sameL xs ys
  | _, _ => false
def sameL : List D → List D → Bool
  | [], [] => true
  | x :: xs, y :: ys => sameD x y && sameL xs ys
  | _, _ => false
end
mutual
theorem same_eq : ∀ (x y : D), sameD x y = true → x = y
  | .non, y, h => by cases y <;> simp [sameD] at h; rfl
  | .bl a, y, h => by cases y <;> simp [sameD] at h; rw [h]
  | .int a, y, h => by cases y <;> simp [sameD] at h; rw [h]
  | .str a, y, h => by cases y <;> simp [sameD] at h; rw [h]
  | .tup xs, y, h => by
    cases y <;> simp only [sameD] at h <;> first | (cases h; done) | rw [same_eqL xs _ h]
  | .lst xs, y, h => by
    cases y <;> simp only [sameD] at h <;> first | (cases h; done) | rw [same_eqL xs _ h]
  | .dic _ _, y, h => by cases y <;> simp [sameD] at h
theorem same_eqL : ∀ (xs ys : List D), sameL xs ys = true → xs = ys
  | [], ys, h => by cases ys <;> simp [sameL] at h; rfl
  | x :: xs, ys, h => by
    cases ys with
    | nil => simp [sameL] at h
    | cons y ys =>
      simp only [sameL, Bool.and_eq_true] at h
      rw [same_eq x y h.1, same_eqL xs ys h.2]
end
end PB
set_option maxHeartbeats 4000000
/-! M2: k76: rows, neighbours, letters that turn. -/
namespace PB.M
open PySem PB K76 PB.Q
variable {m n p i : Nat} {f : Nat → Bool}
def rowD (n p : Nat) : D := .tup ((List.range n).map fun i => D.int ((p >>> i &&& 1 : Nat) : Int))
def okD (o : Option CO) (d : D) : Bool := match o with
  | some (.ok v _) => sameD v d
  | _ => false
theorem okD_ok {o : Option CO} {d : D} (h : okD o d = true) : ∃ e, o = some (.ok d e) := by
  unfold okD at h
  split at h
  · rw [same_eq _ _ h]; exact ⟨_, rfl⟩
  · cases h
/-- for all n up to 5, all places -/
def allP (t : Nat → Nat → Bool) : Bool := (List.range 6).all fun n => (List.range (2 ^ n)).all fun p => t n p
theorem allP_ok {t : Nat → Nat → Bool} (h : allP t = true) (hn : n ≤ 5) (hp : p < 2 ^ n) : t n p = true :=
  List.all_eq_true.mp (List.all_eq_true.mp h n (List.mem_range.mpr (by omega))) p (List.mem_range.mpr hp)
theorem row_fin (m : Nat) : allP (fun n p => okD (callN T (m + 1) 8 none [.int (n : Int), .int (p : Int)]) (rowD n p) && okD (callN T (m + 1) 50 none [.int (n : Int), .int (p : Int)]) (rowD n p) && okD (callN T (m + 1) 7 none [rowD n p]) (.int (p : Int)) && okD (callN T (m + 5) 10 none [.int (n : Int), rowD n p]) .non) = true := by kernel_rfl
theorem row_ok (m : Nat) (hn : n ≤ 5) (hp : p < 2 ^ n) : (∃ o, callN T (m + 1) 50 none [.int (n : Int), .int (p : Int)] = some (.ok (rowD n p) o)) ∧ (∃ o, callN T (m + 1) 7 none [rowD n p] = some (.ok (.int (p : Int)) o)) ∧ ∃ o, callN T (m + 5) 10 none [.int (n : Int), rowD n p] = some (.ok .non o) := by
  have := allP_ok (row_fin m) hn hp
  simp only [Bool.and_eq_true] at this
  exact ⟨okD_ok this.1.1.2, okD_ok this.1.2, okD_ok this.2⟩
def allL (t : Nat → Nat → Bool) : Bool := (List.range 6).all fun n => (List.range n).all fun p => t n p
theorem allL_ok {t : Nat → Nat → Bool} (h : allL t = true) (hn : n ≤ 5) (hp : p < n) : t n p = true :=
  List.all_eq_true.mp (List.all_eq_true.mp h n (List.mem_range.mpr (by omega))) p (List.mem_range.mpr hp)
theorem let_fin (m : Nat) : allL (fun n i => okD (callN T (m + 4) 12 none [.int (n : Int), .int (i : Int)]) .non) = true := by kernel_rfl
theorem nlet_ok (m : Nat) (hn : n ≤ 5) (hi : i < n) : ∃ o, callN T (m + 4) 12 none [.int (n : Int), .int (i : Int)] = some (.ok .non o) := okD_ok (allL_ok (let_fin m) hn hi)
/-! operators -/
theorem o_shl (h : i ≤ 5) : op2 .shl (.int 1) (.int (i : Int)) = some (.int ((2 ^ i : Nat) : Int)) :=
  cases6 (P := fun i => op2 .shl (.int 1) (.int (i : Int)) = some (.int ((2 ^ i : Nat) : Int))) h (by kernel_rfl) (by kernel_rfl) (by kernel_rfl) (by kernel_rfl) (by kernel_rfl) (by kernel_rfl)
theorem o_xor (a b : Nat) : op2 .bxor (.int (a : Int)) (.int (b : Int)) = some (.int ((a ^^^ b : Nat) : Int)) := by
  show (if (decide (0 ≤ (a : Int)) && decide (0 ≤ (b : Int))) = true then some (D.int ((a : Int).toNat ^^^ (b : Int).toNat : Nat)) else none) = _
  rw [decide_eq_true (by omega), decide_eq_true (by omega)]
  rfl
theorem o_ne (a b : Bool) : op2 .ne (.int (b1 a)) (.int (b1 b)) = some (.bl (a != b)) := by cases a <;> cases b <;> rfl
theorem o_eq1 (a : Bool) : op2 .eq (.int (b1 a)) (.int 1) = some (.bl a) := by cases a <;> rfl
theorem b_range (h : n ≤ 5) : bi .range [.int (n : Int)] = some (.lst ((List.range n).map fun i : Nat => D.int (i : Int))) :=
  cases6 (P := fun n => bi .range [.int (n : Int)] = some (.lst ((List.range n).map fun i : Nat => D.int (i : Int)))) h (by kernel_rfl) (by kernel_rfl) (by kernel_rfl) (by kernel_rfl) (by kernel_rfl) (by kernel_rfl)
theorem b_rangeP (h : n ≤ 5) : bi .range [.int ((2 ^ n : Nat) : Int)] = some (.lst ((List.range (2 ^ n)).map fun i : Nat => D.int (i : Int))) :=
  cases6 (P := fun n => bi .range [.int ((2 ^ n : Nat) : Int)] = some (.lst ((List.range (2 ^ n)).map fun i : Nat => D.int (i : Int)))) h (by kernel_rfl) (by kernel_rfl) (by kernel_rfl) (by kernel_rfl) (by kernel_rfl) (by kernel_rfl)
theorem small5 (h : n ≤ 5) : (List.range n).length ≤ lim := by
  rw [List.length_range]
  show _ ≤ 100000
  omega
theorem xlt (hn : n ≤ 5) (hp : p < 2 ^ n) (hi : i < n) : p ^^^ 2 ^ i < 2 ^ n := Nat.xor_lt_two_pow hp (Nat.pow_lt_pow_right (by omega) hi)
theorem b_len {l : List D} : bi .len [.lst l] = some (.int (l.length : Int)) := rfl
/-! sums and greatest items -/
theorem allNum_int {α : Type} {g : α → Int} : ∀ L : List α, allNum (L.map fun a => D.int (g a)) = some (L.map g)
  | [] => rfl
  | a :: L => by
    show (allNum (L.map fun a => D.int (g a))).map (g a :: ·) = _
    rw [allNum_int L]
    rfl
theorem allNum_bl {α : Type} {g : α → Bool} : ∀ L : List α, allNum (L.map fun a => D.bl (g a)) = some (L.map fun a => b1 (g a))
  | [] => rfl
  | a :: L => by
    show (allNum (L.map fun a => D.bl (g a))).map (i01 (g a) :: ·) = _
    rw [allNum_bl L]
    rfl
theorem sum_int {α : Type} {g : α → Int} {L : List α} : bi .sum [.lst (L.map fun a => D.int (g a))] = some (.int (L.map g).sum) := by
  show ((allNum (L.map fun a => D.int (g a))).map fun l => D.int l.sum) = _
  rw [allNum_int]
  rfl
theorem sum_bl {α : Type} {g : α → Bool} {L : List α} : bi .sum [.lst (L.map fun a => D.bl (g a))] = some (.int (L.map fun a => b1 (g a)).sum) := by
  show ((allNum (L.map fun a => D.bl (g a))).map fun l => D.int l.sum) = _
  rw [allNum_bl]
  rfl
theorem sumF : bi .sum [FD n f] = some (.int (tot n f)) := by
  show ((allNum (FL n f)).map fun l => D.int l.sum) = _
  unfold FL
  rw [allNum_int]
  rfl
def mxI : Int → List Int → Int
  | m, [] => m
  | m, x :: r => mxI (if m < x then x else m) r
def mnI : Int → List Int → Int
  | m, [] => m
  | m, x :: r => mnI (if x < m then x else m) r
theorem maxT_int : ∀ (l : List Int) (a : Int), maxT (.int a) (l.map .int) = .int (mxI a l)
  | [], a => rfl
  | x :: l, a => by
    show maxT (if ltT (.int a) (.int x) = true then .int x else .int a) (l.map .int) = _
    have : (if ltT (.int a) (.int x) = true then D.int x else .int a) = .int (if a < x then x else a) := by
      show (if decide (a < x) = true then D.int x else .int a) = _
      by_cases h : a < x <;> simp [h]
    rw [this, maxT_int l]
    rfl
theorem minT_int : ∀ (l : List Int) (a : Int), minT (.int a) (l.map .int) = .int (mnI a l)
  | [], a => rfl
  | x :: l, a => by
    show minT (if ltT (.int x) (.int a) = true then .int x else .int a) (l.map .int) = _
    have : (if ltT (.int x) (.int a) = true then D.int x else .int a) = .int (if x < a then x else a) := by
      show (if decide (x < a) = true then D.int x else .int a) = _
      by_cases h : x < a <;> simp [h]
    rw [this, minT_int l]
    rfl
theorem mxI_spec : ∀ (l : List Int) (a : Int), (mxI a l = a ∨ mxI a l ∈ l) ∧ a ≤ mxI a l ∧ ∀ y ∈ l, y ≤ mxI a l
  | [], a => ⟨.inl rfl, Int.le_refl _, fun y h => by cases h⟩
  | x :: l, a => by
    obtain ⟨h1, h2, h3⟩ := mxI_spec l (if a < x then x else a)
    show (mxI (if a < x then x else a) l = a ∨ mxI (if a < x then x else a) l ∈ x :: l) ∧ a ≤ mxI (if a < x then x else a) l ∧ ∀ y ∈ x :: l, y ≤ mxI (if a < x then x else a) l
    by_cases q : a < x
    · rw [if_pos q] at h1 h2 h3 ⊢
      refine ⟨.inr (List.mem_cons.mpr (h1.elim .inl .inr)), by omega, fun y hy => ?_⟩
      rcases List.mem_cons.mp hy with rfl | hy
      · exact h2
      · exact h3 y hy
    · rw [if_neg q] at h1 h2 h3 ⊢
      refine ⟨h1.elim .inl fun z => .inr (List.mem_cons_of_mem _ z), h2, fun y hy => ?_⟩
      rcases List.mem_cons.mp hy with rfl | hy
      · omega
      · exact h3 y hy
theorem mnI_spec : ∀ (l : List Int) (a : Int), (mnI a l = a ∨ mnI a l ∈ l) ∧ mnI a l ≤ a ∧ ∀ y ∈ l, mnI a l ≤ y
  | [], a => ⟨.inl rfl, Int.le_refl _, fun y h => by cases h⟩
  | x :: l, a => by
    obtain ⟨h1, h2, h3⟩ := mnI_spec l (if x < a then x else a)
    show (mnI (if x < a then x else a) l = a ∨ mnI (if x < a then x else a) l ∈ x :: l) ∧ mnI (if x < a then x else a) l ≤ a ∧ ∀ y ∈ x :: l, mnI (if x < a then x else a) l ≤ y
    by_cases q : x < a
    · rw [if_pos q] at h1 h2 h3 ⊢
      refine ⟨.inr (List.mem_cons.mpr (h1.elim .inl .inr)), by omega, fun y hy => ?_⟩
      rcases List.mem_cons.mp hy with rfl | hy
      · exact h2
      · exact h3 y hy
    · rw [if_neg q] at h1 h2 h3 ⊢
      refine ⟨h1.elim .inl fun z => .inr (List.mem_cons_of_mem _ z), h2, fun y hy => ?_⟩
      rcases List.mem_cons.mp hy with rfl | hy
      · omega
      · exact h3 y hy
theorem plainI : ∀ (k : Nat) (l : List Int), plainL k (l.map .int) = true
  | _, [] => by simp [plainL]
  | k, x :: l => by
    rw [List.map_cons, plainL, plainI k l]
    simp [plainD]
theorem mmOk_int (l : List Int) : mmOk (l.map .int) = true := by
  have a : (l.map D.int).all isIntD = true := List.all_eq_true.mpr fun d hd => by obtain ⟨x, _, rfl⟩ := List.mem_map.mp hd; rfl
  have b : ((l.map D.int).all fun d => !isNonD d && !isObD d) = true := List.all_eq_true.mpr fun d hd => by obtain ⟨x, _, rfl⟩ := List.mem_map.mp hd; rfl
  unfold mmOk allAlike
  rw [plainI, a, b]
  rfl
/-- max of a list of ints -/
theorem max_int (x : Int) (l : List Int) : bi .max [.lst ((x :: l).map .int)] = some (.int (mxI x l)) := by
  show (if mmOk ((x :: l).map D.int) = true then some (maxT (.int x) (l.map .int)) else none) = _
  rw [if_pos (mmOk_int (x :: l)), maxT_int]
theorem min_int (x : Int) (l : List Int) : bi .min [.lst ((x :: l).map .int)] = some (.int (mnI x l)) := by
  show (if mmOk ((x :: l).map D.int) = true then some (minT (.int x) (l.map .int)) else none) = _
  rw [if_pos (mmOk_int (x :: l)), minT_int]
def mx0 : List Int → Int
  | [] => 0
  | x :: l => mxI x l
def mn0 : List Int → Int
  | [] => 0
  | x :: l => mnI x l
theorem mmd_max (l : List Int) : mmD true (l.map .int) 0 = some (.int (mx0 l)) := by
  cases l with
  | nil => rfl
  | cons x l =>
    show (if mmOk ((x :: l).map D.int) = true then some (if true = true then maxT (.int x) (l.map .int) else minT (.int x) (l.map .int)) else none) = _
    rw [if_pos (mmOk_int (x :: l)), if_pos rfl, maxT_int]
    rfl
theorem mmd_min (l : List Int) : mmD false (l.map .int) 0 = some (.int (mn0 l)) := by
  cases l with
  | nil => rfl
  | cons x l =>
    show (if mmOk ((x :: l).map D.int) = true then some (if false = true then maxT (.int x) (l.map .int) else minT (.int x) (l.map .int)) else none) = _
    rw [if_pos (mmOk_int (x :: l)), if_neg (by decide), minT_int]
    rfl
theorem map_int {α : Type} {g : α → Int} {L : List α} : (L.map fun a => D.int (g a)) = (L.map g).map .int := by rw [List.map_map]; rfl
/-! turned letters -/
theorem turns_cond (hn : n ≤ 5) (hp : p < 2 ^ n) (hi : i < n) {e : En} (h0 : rdS e 0 = some (FD n f)) (h1 : rdS e 1 = some (.int (p : Int))) (h2 : rdS e 2 = some (.int (i : Int))) :
    Ev (gG m d_turn_masks) e (.op .bxor (.var 1) (.op .shl (.cst (.int 1)) (.var 2))) (.int ((p ^^^ 2 ^ i : Nat) : Int)) :=
  Ev.op (Ev.var rfl h1) (Ev.op (Ev.cst rfl) (Ev.var rfl h2) (o_shl (by omega))) (o_xor _ _)
theorem masks_ok (hn : n ≤ 5) (hp : p < 2 ^ n) : callN T (m + 2) 38 none [FD n f, .int (p : Int)] = some (.ok (.lst (((List.range n).filter fun i => f p != f (p ^^^ 2 ^ i)).map fun i => D.int ((2 ^ i : Nat) : Int))) [none, none]) := by
  refine callT_rt (d := d_turn_masks) rfl rfl (x_ret (Ev.lc (e := [some (FD n f), some (.int (p : Int)), none]) (P := fun i : Nat => [some (FD n f), some (.int (p : Int)), some (.int (i : Int))]) (h := fun i : Nat => D.int (i : Int)) (s := .lst ((List.range n).map fun i : Nat => D.int (i : Int)))
    (Ev.blt1 (Ev.call (d := d_letters_in) rfl rfl (Ev.cons (Ev.var rfl rfl) Ev.nil) (let_ok hn)) (b_range hn)) rfl (fun _ _ => rfl) (fun _ _ => rfl) (fun _ => rfl) rfl (fun i hi => ⟨.bl (f p != f (p ^^^ 2 ^ i)), ?_, rfl⟩) (fun i hi _ => ?_) (small5 hn))) rfl
  · have hi := List.mem_range.mp hi
    exact Ev.op (Ev.idx (Ev.var rfl rfl) (Ev.var rfl rfl) (idxF hp)) (Ev.idx (Ev.var rfl rfl) (turns_cond hn hp hi rfl rfl rfl) (idxF (xlt hn hp hi))) (o_ne _ _)
  · have hi := List.mem_range.mp hi
    exact Ev.op (Ev.cst rfl) (Ev.var rfl rfl) (o_shl (by omega))
theorem masks_len : ((((List.range n).filter fun i => f p != f (p ^^^ 2 ^ i)).map fun i => D.int ((2 ^ i : Nat) : Int)).length : Int) = (tur n f p : Int) := by
  rw [List.length_map]
  unfold tur
  rw [List.countP_eq_length_filter]
theorem place_ok (hn : n ≤ 5) (hp : p < 2 ^ n) : callN T (m + 6) 37 none [FD n f, rowD n p] = some (.ok .non [none, none]) := by
  obtain ⟨_, _, o, h⟩ := row_ok m hn hp
  exact callT_nx (d := d_need_place) rfl rfl (x_seq (x_drop (Ev.call (d := d_need_function) rfl rfl (Ev.cons (Ev.var rfl rfl) Ev.nil) (need_ok hn)))
    (x_drop (Ev.call (d := d_need_row) rfl rfl (Ev.cons (Ev.call (d := d_letters_in) rfl rfl (Ev.cons (Ev.var rfl rfl) Ev.nil) (let_ok hn)) (Ev.cons (Ev.var rfl rfl) Ev.nil)) h))) rfl
theorem turn_ok (hn : n ≤ 5) (hp : p < 2 ^ n) : callN T (m + 7) 39 none [FD n f, rowD n p] = some (.ok (.int (tur n f p : Int)) [none, none]) := by
  obtain ⟨_, ⟨o, h⟩, _⟩ := row_ok (m + 5) hn hp
  exact callT_rt (d := d_turn_count) rfl rfl (x_seq (x_drop (Ev.call (d := d_need_place) rfl rfl (Ev.cons (Ev.var rfl rfl) (Ev.cons (Ev.var rfl rfl) Ev.nil)) (place_ok hn hp)))
    (x_ret (Ev.blt1 (Ev.call (d := d_turn_masks) rfl rfl (Ev.cons (Ev.var rfl rfl) (Ev.cons (Ev.call (d := d_number_in) rfl rfl (Ev.cons (Ev.var rfl rfl) Ev.nil) h) Ev.nil)) (masks_ok (m := m + 4) hn hp)) (by rw [PB.M.b_len, masks_len])))) rfl
theorem rangeP_cons (n : Nat) : ∃ l, List.range (2 ^ n) = 0 :: l := by
  have : 0 < 2 ^ n := Nat.pow_pos (by omega)
  obtain ⟨k, hk⟩ := Nat.exists_eq_succ_of_ne_zero (by omega : 2 ^ n ≠ 0)
  rw [hk]
  exact ⟨_, List.range_succ_eq_map⟩
def mtur (n : Nat) (f : Nat → Bool) : Int := mx0 ((List.range (2 ^ n)).map fun p => (tur n f p : Int))
theorem mturs_ok (hn : n ≤ 5) : callN T (m + 3) 40 none [FD n f] = some (.ok (.int (mtur n f)) [none]) := by
  refine callT_rt (d := d_most_turns_in) rfl rfl (x_ret (Ev.blt1 (Ev.lcT (e := [some (FD n f), none]) (P := fun i : Nat => [some (FD n f), some (.int (i : Int))]) (h := fun i : Nat => D.int (i : Int)) (g := fun p => D.int (tur n f p : Int)) (s := .lst ((List.range (2 ^ n)).map fun i : Nat => D.int (i : Int)))
    (Ev.blt1 (Ev.blt1 (Ev.var rfl rfl) lenF) (b_rangeP hn)) rfl (fun _ _ => rfl) (fun _ _ => rfl) (fun _ => rfl) rfl (fun p hp => ?_) (small hn (g := fun p => p))) ?_)) rfl
  · exact Ev.blt1 (Ev.call (d := d_turn_masks) rfl rfl (Ev.cons (Ev.var rfl rfl) (Ev.cons (Ev.var rfl rfl) Ev.nil)) (masks_ok (m := m) hn (List.mem_range.mp hp))) (by rw [PB.M.b_len, masks_len])
  · obtain ⟨l, hl⟩ := rangeP_cons n
    unfold mtur
    rw [map_int, hl]
    exact max_int _ _
theorem mturn_ok (hn : n ≤ 5) : callN T (m + 6) 41 none [FD n f] = some (.ok (.int (mtur n f)) [none]) :=
  callT_rt (d := d_most_turns) rfl rfl (x_seq (x_drop (Ev.call (d := d_need_function) rfl rfl (Ev.cons (Ev.var rfl rfl) Ev.nil) (need_ok hn)))
    (x_ret (Ev.call (d := d_most_turns_in) rfl rfl (Ev.cons (Ev.var rfl rfl) Ev.nil) (mturs_ok (m := m + 2) hn)))) rfl
end PB.M
set_option maxHeartbeats 4000000
/-! M3: k76: close rows, influences, mixed functions. -/
namespace PB.M
open PySem PB K76 PB.Q
variable {m n p i : Nat} {f g : Nat → Bool}
theorem enum_map {α : Type} (g : Nat → D) : ∀ (k j : Nat), enumD j ((List.range' j k).map g) = (List.range' j k).map fun p : Nat => D.tup [.int (p : Int), g p]
  | 0, j => rfl
  | k + 1, j => by
    rw [List.range'_succ, List.map_cons, List.map_cons, enumD]
    congr 1
    exact enum_map (α := α) g k (j + 1)
theorem enumM (g : Nat → D) : enumD 0 ((List.range n).map g) = (List.range n).map fun p : Nat => D.tup [.int (p : Int), g p] := by
  rw [List.range_eq_range']
  exact enum_map (α := Nat) g n 0
theorem enumF : bi .enum [FD n f] = some (.lst ((List.range (2 ^ n)).map fun p : Nat => D.tup [.int (p : Int), .int (b1 (f p))])) := by
  show some (D.lst (enumD 0 (FL n f))) = _
  unfold FL
  rw [enumM]
theorem zip_map {α : Type} {g h : α → D} : ∀ L : List α, zipD (L.map g) (L.map h) = L.map fun p => D.tup [g p, h p]
  | [] => rfl
  | a :: L => by
    show D.tup [g a, h a] :: zipD (L.map g) (L.map h) = _
    rw [zip_map L]
    rfl
theorem zipF : bi .zip [FD n f, FD n g] = some (.lst ((List.range (2 ^ n)).map fun p => D.tup [.int (b1 (f p)), .int (b1 (g p))])) := by
  show some (D.lst (zipD (FL n f) (FL n g))) = _
  unfold FL
  rw [zip_map]
theorem o_xb (a b : Bool) : op2 .bxor (.int (b1 a)) (.int (b1 b)) = some (.int (b1 (a != b))) := by cases a <;> cases b <;> rfl
theorem o_neS (x : Int) : op2 .ne (.int x) (.int x) = some (.bl false) := by
  show some (D.bl (!(x == x))) = _
  rw [beq_self_eq_true]
  rfl
theorem mul_ok {a b : Int} (h1 : -(2 ^ 64) < a) (h2 : a < 2 ^ 64) : op2 .mul (.int a) (.int b) = some (.int (a * b)) := by
  have : mulOk a b = true := by
    unfold mulOk
    rw [decide_eq_true h1, decide_eq_true h2]
    rfl
  show (if mulOk a b = true then some (D.int (a * b)) else none) = _
  rw [this]
  rfl
theorem pI (hn : n ≤ 5) : 0 ≤ ((2 ^ n : Nat) : Int) ∧ ((2 ^ n : Nat) : Int) ≤ 32 := ⟨Int.natCast_nonneg _, Int.ofNat_le.mpr (p32 hn)⟩
theorem tot_b (hn : n ≤ 5) : 0 ≤ tot n f ∧ tot n f ≤ 32 := by
  obtain ⟨k, h1, h2, _⟩ := iso n hn f
  have := p32 hn
  omega
/-! close rows -/
theorem close_ok (hn : n ≤ 5) (hp : p < 2 ^ n) : callN T (m + 2) 43 none [FD n f, .int (p : Int)] = some (.ok (.int (clo n f p)) [none, none]) := by
  refine callT_rt (d := d_close_at) rfl rfl (x_ret (Ev.blt1 (Ev.lcT (e := [some (FD n f), some (.int (p : Int)), none]) (P := fun i : Nat => [some (FD n f), some (.int (p : Int)), some (.int (i : Int))]) (h := fun i : Nat => D.int (i : Int)) (g := fun i => D.int (b1 (f (p ^^^ 2 ^ i)))) (s := .lst ((List.range n).map fun i : Nat => D.int (i : Int)))
    (Ev.blt1 (Ev.call (d := d_letters_in) rfl rfl (Ev.cons (Ev.var rfl rfl) Ev.nil) (let_ok hn)) (b_range hn)) rfl (fun _ _ => rfl) (fun _ _ => rfl) (fun _ => rfl) rfl (fun i hi => ?_) (small5 hn)) sum_int)) rfl
  have hi := List.mem_range.mp hi
  exact Ev.idx (Ev.var rfl rfl) (Ev.op (Ev.var rfl rfl) (Ev.op (Ev.cst rfl) (Ev.var rfl rfl) (o_shl (by omega))) (o_xor _ _)) (idxF (xlt hn hp hi))
theorem closec_ok (hn : n ≤ 5) (hp : p < 2 ^ n) : callN T (m + 7) 44 none [FD n f, rowD n p] = some (.ok (.int (clo n f p)) [none, none]) := by
  obtain ⟨_, ⟨o, h⟩, _⟩ := row_ok (m + 5) hn hp
  exact callT_rt (d := d_close_count) rfl rfl (x_seq (x_drop (Ev.call (d := d_need_place) rfl rfl (Ev.cons (Ev.var rfl rfl) (Ev.cons (Ev.var rfl rfl) Ev.nil)) (place_ok hn hp)))
    (x_ret (Ev.call (d := d_close_at) rfl rfl (Ev.cons (Ev.var rfl rfl) (Ev.cons (Ev.call (d := d_number_in) rfl rfl (Ev.cons (Ev.var rfl rfl) Ev.nil) h) Ev.nil)) (close_ok (m := m + 4) hn hp)))) rfl
/-- how many neighbours each row of the lot has in it -/
def closes (n : Nat) (f : Nat → Bool) : List Int := ((List.range (2 ^ n)).filter f).map (clo n f)
theorem counts_ok (hn : n ≤ 5) : callN T (m + 3) 45 none [FD n f] = some (.ok (.lst ((closes n f).map .int)) [none]) := by
  have : (closes n f).map D.int = ((List.range (2 ^ n)).filter f).map fun p => D.int (clo n f p) := by
    unfold closes
    rw [List.map_map]
    rfl
  rw [this]
  refine callT_rt (d := d_counts_of) rfl rfl (x_ret (Ev.lc (e := [some (FD n f), none, none]) (P := fun p : Nat => [some (FD n f), some (.int (p : Int)), some (.int (b1 (f p)))]) (h := fun p : Nat => D.tup [.int (p : Int), .int (b1 (f p))]) (cc := f) (g := fun p => D.int (clo n f p)) (s := .lst ((List.range (2 ^ n)).map fun p : Nat => D.tup [.int (p : Int), .int (b1 (f p))]))
    (Ev.blt1 (Ev.var rfl rfl) enumF) rfl (fun _ _ => rfl) (fun _ _ => rfl) (fun _ => rfl) rfl (fun p _ => ⟨.bl (f p), Ev.op (Ev.var rfl rfl) (Ev.cst rfl) (o_eq1 _), rfl⟩) (fun p hp _ => ?_) (small hn (g := fun p => p)))) rfl
  exact Ev.call (d := d_close_at) rfl rfl (Ev.cons (Ev.var rfl rfl) (Ev.cons (Ev.var rfl rfl) Ev.nil)) (close_ok hn (List.mem_range.mp hp))
theorem mostc_ok (hn : n ≤ 5) : callN T (m + 6) 46 none [FD n f] = some (.ok (.int (mx0 (closes n f))) [none]) :=
  callT_rt (d := d_most_close) rfl rfl (x_seq (x_drop (Ev.call (d := d_need_function) rfl rfl (Ev.cons (Ev.var rfl rfl) Ev.nil) (need_ok hn)))
    (x_ret (Ev.mmd (Ev.call (d := d_counts_of) rfl rfl (Ev.cons (Ev.var rfl rfl) Ev.nil) (counts_ok (m := m + 2) hn)) (mmd_max _)))) rfl
theorem leastc_ok (hn : n ≤ 5) : callN T (m + 6) 47 none [FD n f] = some (.ok (.int (mn0 (closes n f))) [none]) :=
  callT_rt (d := d_least_close) rfl rfl (x_seq (x_drop (Ev.call (d := d_need_function) rfl rfl (Ev.cons (Ev.var rfl rfl) Ev.nil) (need_ok hn)))
    (x_ret (Ev.mmd (Ev.call (d := d_counts_of) rfl rfl (Ev.cons (Ev.var rfl rfl) Ev.nil) (counts_ok (m := m + 2) hn)) (mmd_min _)))) rfl
/-! influences -/
theorem inf_ok (hn : n ≤ 5) (hi : i < n) : callN T (m + 1) 22 none [FD n f, .int (i : Int)] = some (.ok (.int (inf n f i)) [none, none]) := by
  refine callT_rt (d := d_influence_in) rfl rfl (x_ret (Ev.blt1 (Ev.lcT (e := [some (FD n f), some (.int (i : Int)), none, none]) (P := fun p : Nat => [some (FD n f), some (.int (i : Int)), some (.int (p : Int)), some (.int (b1 (f p)))]) (h := fun p : Nat => D.tup [.int (p : Int), .int (b1 (f p))]) (g := fun p => D.bl (f p != f (p ^^^ 2 ^ i))) (s := .lst ((List.range (2 ^ n)).map fun p : Nat => D.tup [.int (p : Int), .int (b1 (f p))]))
    (Ev.blt1 (Ev.var rfl rfl) enumF) rfl (fun _ _ => rfl) (fun _ _ => rfl) (fun _ => rfl) rfl (fun p hp => ?_) (small hn (g := fun p => p))) sum_bl)) rfl
  exact Ev.op (Ev.var rfl rfl) (Ev.idx (Ev.var rfl rfl) (Ev.op (Ev.var rfl rfl) (Ev.op (Ev.cst rfl) (Ev.var rfl rfl) (o_shl (by omega))) (o_xor _ _)) (idxF (xlt hn (List.mem_range.mp hp) hi))) (o_ne _ _)
theorem alls_ok (hn : n ≤ 5) : callN T (m + 2) 23 none [FD n f] = some (.ok (.lst ((List.range n).map fun i => D.int (inf n f i))) [none]) := by
  refine callT_rt (d := d_all_in) rfl rfl (x_ret (Ev.lcT (e := [some (FD n f), none]) (P := fun i : Nat => [some (FD n f), some (.int (i : Int))]) (h := fun i : Nat => D.int (i : Int)) (s := .lst ((List.range n).map fun i : Nat => D.int (i : Int)))
    (Ev.blt1 (Ev.call (d := d_letters_in) rfl rfl (Ev.cons (Ev.var rfl rfl) Ev.nil) (let_ok hn)) (b_range hn)) rfl (fun _ _ => rfl) (fun _ _ => rfl) (fun _ => rfl) rfl (fun i hi => ?_) (small5 hn))) rfl
  exact Ev.call (d := d_influence_in) rfl rfl (Ev.cons (Ev.var rfl rfl) (Ev.cons (Ev.var rfl rfl) Ev.nil)) (inf_ok hn (List.mem_range.mp hi))
theorem infl_ok (hn : n ≤ 5) (hi : i < n) : callN T (m + 6) 24 none [FD n f, .int (i : Int)] = some (.ok (.int (inf n f i)) [none, none]) := by
  obtain ⟨o, h⟩ := nlet_ok (m + 1) hn hi
  exact callT_rt (d := d_influence) rfl rfl (x_seq (x_drop (Ev.call (d := d_need_function) rfl rfl (Ev.cons (Ev.var rfl rfl) Ev.nil) (need_ok hn)))
    (x_seq (x_drop (Ev.call (d := d_need_letter) rfl rfl (Ev.cons (Ev.call (d := d_letters_in) rfl rfl (Ev.cons (Ev.var rfl rfl) Ev.nil) (let_ok hn)) (Ev.cons (Ev.var rfl rfl) Ev.nil)) h))
    (x_ret (Ev.call (d := d_influence_in) rfl rfl (Ev.cons (Ev.var rfl rfl) (Ev.cons (Ev.var rfl rfl) Ev.nil)) (inf_ok (m := m + 4) hn hi))))) rfl
theorem b_tuple {l : List D} : bi .tuple [.lst l] = some (.tup l) := rfl
theorem infs_ok (hn : n ≤ 5) : callN T (m + 6) 25 none [FD n f] = some (.ok (.tup ((List.range n).map fun i => D.int (inf n f i))) [none]) :=
  callT_rt (d := d_influences) rfl rfl (x_seq (x_drop (Ev.call (d := d_need_function) rfl rfl (Ev.cons (Ev.var rfl rfl) Ev.nil) (need_ok hn)))
    (x_ret (Ev.blt1 (Ev.call (d := d_all_in) rfl rfl (Ev.cons (Ev.var rfl rfl) Ev.nil) (alls_ok (m := m + 3) hn)) PB.M.b_tuple))) rfl
theorem allinf_ok (hn : n ≤ 5) : callN T (m + 6) 26 none [FD n f] = some (.ok (.int (sm n (inf n f))) [none]) :=
  callT_rt (d := d_all_influence) rfl rfl (x_seq (x_drop (Ev.call (d := d_need_function) rfl rfl (Ev.cons (Ev.var rfl rfl) Ev.nil) (need_ok hn)))
    (x_ret (Ev.blt1 (Ev.call (d := d_all_in) rfl rfl (Ev.cons (Ev.var rfl rfl) Ev.nil) (alls_ok (m := m + 3) hn)) sum_int))) rfl
/-! spread -/
theorem spr_ok (hn : n ≤ 5) : callN T (m + 1) 27 none [FD n f] = some (.ok (.int (tot n f * (((2 ^ n : Nat) : Int) - tot n f))) [none]) := by
  have := tot_b (f := f) hn
  exact callT_rt (d := d_spread_in) rfl rfl (x_ret (Ev.op (Ev.blt1 (Ev.var rfl rfl) sumF) (Ev.op (Ev.blt1 (Ev.var rfl rfl) lenF) (Ev.blt1 (Ev.var rfl rfl) sumF) rfl) (mul_ok (by omega) (by omega)))) rfl
theorem spro_ok (hn : n ≤ 5) : callN T (m + 6) 28 none [FD n f] = some (.ok (.int (tot n f * (((2 ^ n : Nat) : Int) - tot n f))) [none]) :=
  callT_rt (d := d_spread_of) rfl rfl (x_seq (x_drop (Ev.call (d := d_need_function) rfl rfl (Ev.cons (Ev.var rfl rfl) Ev.nil) (need_ok hn)))
    (x_ret (Ev.call (d := d_spread_in) rfl rfl (Ev.cons (Ev.var rfl rfl) Ev.nil) (spr_ok (m := m + 4) hn)))) rfl
theorem gap_ok (hn : n ≤ 5) : callN T (m + 6) 29 none [FD n f] = some (.ok (.int (((2 ^ n : Nat) : Int) * sm n (inf n f) - 4 * (tot n f * (((2 ^ n : Nat) : Int) - tot n f)))) [none]) := by
  have := pI hn
  exact callT_rt (d := d_spread_gap) rfl rfl (x_seq (x_drop (Ev.call (d := d_need_function) rfl rfl (Ev.cons (Ev.var rfl rfl) Ev.nil) (need_ok hn)))
    (x_ret (Ev.op (Ev.op (Ev.blt1 (Ev.var rfl rfl) lenF) (Ev.blt1 (Ev.call (d := d_all_in) rfl rfl (Ev.cons (Ev.var rfl rfl) Ev.nil) (alls_ok (m := m + 3) hn)) sum_int) (mul_ok (by omega) (by omega)))
      (Ev.op (Ev.cst rfl) (Ev.call (d := d_spread_in) rfl rfl (Ev.cons (Ev.var rfl rfl) Ev.nil) (spr_ok (m := m + 4) hn)) (mul_ok (by omega) (by omega))) rfl))) rfl
/-! the lot of rows that a letter turns -/
theorem lot_ok (hn : n ≤ 5) (hi : i < n) : callN T (m + 6) 42 none [FD n f, .int (i : Int)] = some (.ok (FD n fun p => f p != f (p ^^^ 2 ^ i)) [none, none]) := by
  obtain ⟨o, h⟩ := nlet_ok (m + 1) hn hi
  refine callT_rt (d := d_turned_lot) rfl rfl (x_seq (x_drop (Ev.call (d := d_need_function) rfl rfl (Ev.cons (Ev.var rfl rfl) Ev.nil) (need_ok hn)))
    (x_seq (x_drop (Ev.call (d := d_need_letter) rfl rfl (Ev.cons (Ev.call (d := d_letters_in) rfl rfl (Ev.cons (Ev.var rfl rfl) Ev.nil) (let_ok hn)) (Ev.cons (Ev.var rfl rfl) Ev.nil)) h))
    (x_ret (Ev.blt1 (Ev.lcT (e := [some (FD n f), some (.int (i : Int)), none, none]) (P := fun p : Nat => [some (FD n f), some (.int (i : Int)), some (.int (p : Int)), some (.int (b1 (f p)))]) (h := fun p : Nat => D.tup [.int (p : Int), .int (b1 (f p))]) (g := fun p => D.int (b1 (f p != f (p ^^^ 2 ^ i)))) (s := .lst ((List.range (2 ^ n)).map fun p : Nat => D.tup [.int (p : Int), .int (b1 (f p))]))
    (Ev.blt1 (Ev.var rfl rfl) enumF) rfl (fun _ _ => rfl) (fun _ _ => rfl) (fun _ => rfl) rfl (fun p hp => ?_) (small hn (g := fun p => p))) PB.M.b_tuple)))) rfl
  exact Ev.blt1 (Ev.op (Ev.var rfl rfl) (Ev.idx (Ev.var rfl rfl) (Ev.op (Ev.var rfl rfl) (Ev.op (Ev.cst rfl) (Ev.var rfl rfl) (o_shl (by omega))) (o_xor _ _)) (idxF (xlt hn (List.mem_range.mp hp) hi))) (o_ne _ _)) rfl
/-! turned values, mixed functions -/
theorem o_sub1 (a : Bool) : op2 .sub (.int 1) (.int (b1 a)) = some (.int (b1 (!a))) := by cases a <;> rfl
theorem flip_ok (hn : n ≤ 5) : callN T (m + 1) 13 none [FD n f] = some (.ok (FD n fun p => !f p) [none]) :=
  callT_rt (d := d_flipped) rfl rfl (x_ret (Ev.blt1 (Ev.lcT (e := [some (FD n f), none]) (P := fun p : Nat => [some (FD n f), some (.int (b1 (f p)))]) (h := fun p : Nat => D.int (b1 (f p))) (g := fun p => D.int (b1 (!f p))) (s := FD n f)
    (Ev.var rfl rfl) rfl (fun _ _ => rfl) (fun _ _ => rfl) (fun _ => rfl) rfl (fun p _ => Ev.op (Ev.cst rfl) (Ev.var rfl rfl) (o_sub1 _)) (small hn (g := fun p => p))) PB.M.b_tuple)) rfl
theorem turnv_ok (hn : n ≤ 5) : callN T (m + 6) 14 none [FD n f] = some (.ok (FD n fun p => !f p) [none]) :=
  callT_rt (d := d_turned_value) rfl rfl (x_seq (x_drop (Ev.call (d := d_need_function) rfl rfl (Ev.cons (Ev.var rfl rfl) Ev.nil) (need_ok hn)))
    (x_ret (Ev.call (d := d_flipped) rfl rfl (Ev.cons (Ev.var rfl rfl) Ev.nil) (flip_ok (m := m + 4) hn)))) rfl
theorem alike_ok (hn : n ≤ 5) : callN T (m + 6) 15 none [FD n f, FD n g] = some (.ok .non [none, none]) :=
  callT_nx (d := d_need_alike) rfl rfl (x_seq (x_drop (Ev.call (d := d_need_function) rfl rfl (Ev.cons (Ev.var rfl rfl) Ev.nil) (need_ok hn)))
    (x_seq (x_drop (Ev.call (d := d_need_function) rfl rfl (Ev.cons (Ev.var rfl rfl) Ev.nil) (need_ok hn))) (x_ifF (Ev.op (Ev.blt1 (Ev.var rfl rfl) lenF) (Ev.blt1 (Ev.var rfl rfl) lenF) (o_neS _)) rfl x_pass))) rfl
theorem unlike_ok (hn : n ≤ 5) : callN T (m + 7) 16 none [FD n f, FD n g] = some (.ok (FD n fun p => f p != g p) [none, none]) :=
  callT_rt (d := d_unlike) rfl rfl (x_seq (x_drop (Ev.call (d := d_need_alike) rfl rfl (Ev.cons (Ev.var rfl rfl) (Ev.cons (Ev.var rfl rfl) Ev.nil)) (alike_ok hn)))
    (x_ret (Ev.blt1 (Ev.lcT (e := [some (FD n f), some (FD n g), none, none]) (P := fun p : Nat => [some (FD n f), some (FD n g), some (.int (b1 (f p))), some (.int (b1 (g p)))]) (h := fun p : Nat => D.tup [.int (b1 (f p)), .int (b1 (g p))]) (g := fun p => D.int (b1 (f p != g p))) (s := .lst ((List.range (2 ^ n)).map fun p => D.tup [.int (b1 (f p)), .int (b1 (g p))]))
    (Ev.blt2 (Ev.var rfl rfl) (Ev.var rfl rfl) zipF) rfl (fun _ _ => rfl) (fun _ _ => rfl) (fun _ => rfl) rfl (fun p _ => Ev.op (Ev.var rfl rfl) (Ev.var rfl rfl) (o_xb _ _)) (small hn (g := fun p => p))) PB.M.b_tuple))) rfl
theorem par_fin (m : Nat) : ((List.range 6).all fun n => okD (callN T (m + 4) 19 none [.int (n : Int)]) (FD n par)) = true := by kernel_rfl
theorem par_ok (m : Nat) (hn : n ≤ 5) : ∃ o, callN T (m + 4) 19 none [.int (n : Int)] = some (.ok (FD n par) o) := okD_ok (List.all_eq_true.mp (par_fin m) n (List.mem_range.mpr (by omega)))
end PB.M
set_option maxHeartbeats 4000000
/-! M4: k76: signed sums, factors, the degree. -/
namespace PB.M
open PySem PB K76 PB.Q
variable {m n p i j k : Nat} {f g : Nat → Bool} {A : Nat → Int}
section
variable {G : Gx} {e : En} {a b c : C}
theorem while_go {x : D} {fuel : Nat} {e2 : En} (hc : Ev G e c x) (h : truthO x = some true) (hb : exec b G e = some (.nx e2)) (lc : isLoc c = false) :
    whileE (fun e => ev c G e) (finT c) (fun e => exec b G e) (fuel + 1) e = whileE (fun e => ev c G e) (finT c) (fun e => exec b G e) fuel e2 := by
  unfold Ev at hc
  rw [whileE, hc]
  show (finT c x e).bind _ = _
  rw [finT_val lc, h]
  show (match exec b G e with
    | some (.nx e2) => whileE (fun e => ev c G e) (finT c) (fun e => exec b G e) fuel e2
    | some (.ct e2) => whileE (fun e => ev c G e) (finT c) (fun e => exec b G e) fuel e2
    | some (.bk e2) => some (.nx e2)
    | o => o) = _
  rw [hb]
theorem while_end {x : D} {fuel : Nat} (hc : Ev G e c x) (h : truthO x = some false) (lc : isLoc c = false) : whileE (fun e => ev c G e) (finT c) (fun e => exec b G e) (fuel + 1) e = some (.nx e) := by
  unfold Ev at hc
  rw [whileE, hc]
  show (finT c x e).bind _ = _
  rw [finT_val lc, h]
  rfl
theorem while_all {I : Nat → En} {n : Nat} (hc : ∀ j, j < n → ∃ x, Ev G (I j) c x ∧ truthO x = some true) (hb : ∀ j, j < n → exec b G (I j) = some (.nx (I (j + 1)))) (he : ∃ x, Ev G (I n) c x ∧ truthO x = some false) (lc : isLoc c = false) :
    ∀ d j fuel, j + d = n → d < fuel → whileE (fun e => ev c G e) (finT c) (fun e => exec b G e) fuel (I j) = some (.nx (I n))
  | 0, j, fuel, h1, h2 => by
    obtain ⟨x, x1, x2⟩ := he
    have : j = n := by omega
    subst this
    cases fuel with
    | zero => omega
    | succ fuel => exact while_end x1 x2 lc
  | d + 1, j, fuel, h1, h2 => by
    obtain ⟨x, x1, x2⟩ := hc j (by omega)
    cases fuel with
    | zero => omega
    | succ fuel =>
      rw [while_go x1 x2 (hb j (by omega)) lc]
      exact while_all hc hb he lc d (j + 1) fuel (by omega) (by omega)
theorem x_whl {I : Nat → En} {n : Nat} (hc : ∀ j, j < n → ∃ x, Ev G (I j) c x ∧ truthO x = some true) (hb : ∀ j, j < n → exec b G (I j) = some (.nx (I (j + 1)))) (he : ∃ x, Ev G (I n) c x ∧ truthO x = some false) (hw : n < G.wf) (lc : isLoc c = false := by rfl) :
    exec (.whl c b) G (I 0) = some (.nx (I n)) := by
  rw [exec]
  exact while_all hc hb he lc n 0 G.wf (by omega) hw
end
def AL (n : Nat) (A : Nat → Int) : List D := (List.range (2 ^ n)).map fun k => D.int (A k)
theorem enumA : bi .enum [.lst (AL n A)] = some (.lst ((List.range (2 ^ n)).map fun k : Nat => D.tup [.int (k : Int), .int (A k)])) := by
  show some (D.lst (enumD 0 (AL n A))) = _
  unfold AL
  rw [enumM]
theorem lenA : bi .len [.lst (AL n A)] = some (.int ((2 ^ n : Nat) : Int)) := by
  show some (D.int ((AL n A).length : Int)) = _
  unfold AL
  rw [len_map]
theorem idxA (h : k < 2 ^ n) : idxD (.lst (AL n A)) (.int (k : Int)) = some (.int (A k)) := at_map h
theorem o_and (a b : Nat) : op2 .band (.int (a : Int)) (.int (b : Int)) = some (.int ((a &&& b : Nat) : Int)) := by
  show (if (decide (0 ≤ (a : Int)) && decide (0 ≤ (b : Int))) = true then some (D.int ((a : Int).toNat &&& (b : Int).toNat : Nat)) else none) = _
  rw [decide_eq_true (by omega), decide_eq_true (by omega)]
  rfl
theorem bit_fin : ∀ k, k < 32 → ∀ j, j < 5 → (((k &&& 2 ^ j : Nat) : Int) != 0) = k.testBit j := by decide +kernel
theorem t_and (hk : k < 32) (hj : j < 5) : truthO (.int ((k &&& 2 ^ j : Nat) : Int)) = some (k.testBit j) := by
  show some (((k &&& 2 ^ j : Nat) : Int) != 0) = _
  rw [bit_fin k hk j hj]
theorem lt_pow (h : j < n) : op2 .lt (.int ((2 ^ j : Nat) : Int)) (.int ((2 ^ n : Nat) : Int)) = some (.bl true) := by
  show some (D.bl (decide (((2 ^ j : Nat) : Int) < ((2 ^ n : Nat) : Int)))) = _
  rw [decide_eq_true (Int.ofNat_lt.mpr (Nat.pow_lt_pow_right (by omega) h))]
theorem lt_powN : op2 .lt (.int ((2 ^ n : Nat) : Int)) (.int ((2 ^ n : Nat) : Int)) = some (.bl false) := by
  show some (D.bl (decide (((2 ^ n : Nat) : Int) < ((2 ^ n : Nat) : Int)))) = _
  rw [decide_eq_false (by omega)]
theorem o_dbl (hj : j ≤ 5) : op2 .mul (.int 2) (.int ((2 ^ j : Nat) : Int)) = some (.int ((2 ^ (j + 1) : Nat) : Int)) := by
  rw [mul_ok (by omega) (by omega)]
  congr 2
  rw [Nat.pow_succ, Int.natCast_mul]
  omega
abbrev whC : C → C | .whl c _ => c | c => c
abbrev whB : C → C | .whl _ b => b | c => c
/-- the signed sums of a list -/
theorem sgn_ok (hn : n ≤ 5) : callN T (m + 1) 35 none [.lst (AL n A)] = some (.ok (.lst (AL n (Wh n A))) [none]) := by
  let I : Nat → En := fun j => [some (.lst (AL n A)), some (.lst (AL n (Wh j A))), some (.int ((2 ^ j : Nat) : Int)), none, none]
  have s1 : exec (sqA c_signed_in) (gG m d_signed_in) [some (.lst (AL n A)), none, none, none, none] = some (.nx (I 0)) := x_par (Ev.blt1 (Ev.var rfl rfl) rfl) (Ev.cst rfl) rfl rfl
  have s2 : exec (sqA (sqB c_signed_in)) (gG m d_signed_in) (I 0) = some (.nx (I n)) := by
    refine x_whl (I := I) (c := whC (sqA (sqB c_signed_in))) (b := whB (sqA (sqB c_signed_in))) (fun j hj => ⟨.bl true, ?_, rfl⟩) (fun j hj => ?_) ⟨.bl false, ?_, rfl⟩ (by show n < 100000; omega)
    · exact Ev.op (Ev.var rfl rfl) (Ev.blt1 (Ev.var rfl rfl) lenA) (lt_pow hj)
    · have w : Ev (gG m d_signed_in) (I j) (.lc [3, 4] (.tup (.cons (.var 3) (.cons (.var 4) (.nil)))) (.blt .enum (.cons (.var 1) (.nil))) (.cst (.bl true)) (.ite (.op .band (.var 3) (.var 2)) (.op .sub (.idx (.var 1) (.op .bxor (.var 3) (.var 2))) (.var 4)) (.op .add (.var 4) (.idx (.var 1) (.op .bxor (.var 3) (.var 2)))))) (.lst (AL n (Wh (j + 1) A))) := by
        refine Ev.lcT (P := fun k : Nat => [some (.lst (AL n A)), some (.lst (AL n (Wh j A))), some (.int ((2 ^ j : Nat) : Int)), some (.int (k : Int)), some (.int (Wh j A k))]) (h := fun k : Nat => D.tup [.int (k : Int), .int (Wh j A k)]) (g := fun k => D.int (Wh (j + 1) A k)) (s := .lst ((List.range (2 ^ n)).map fun k : Nat => D.tup [.int (k : Int), .int (Wh j A k)]))
          (Ev.blt1 (Ev.var rfl rfl) enumA) rfl (fun _ _ => rfl) (fun _ _ => rfl) (fun _ => rfl) rfl (fun k hk => ?_) (small hn (g := fun p => p))
        have hk := List.mem_range.mp hk
        have hk32 : k < 32 := Nat.lt_of_lt_of_le hk (p32 hn)
        have ix := idxA (A := Wh j A) (xlt hn hk hj)
        show Ev _ _ _ (.int (stW j (Wh j A) k))
        refine Ev.ite (t := k.testBit j) (Ev.op (Ev.var rfl rfl) (Ev.var rfl rfl) (o_and _ _)) (t_and hk32 (by omega)) (fun ht => ?_) (fun ht => ?_)
        · have : stW j (Wh j A) k = Wh j A (k ^^^ 2 ^ j) - Wh j A k := by unfold stW; rw [ht]; rfl
          rw [this]
          exact Ev.op (Ev.idx (Ev.var rfl rfl) (Ev.op (Ev.var rfl rfl) (Ev.var rfl rfl) (o_xor _ _)) ix) (Ev.var rfl rfl) rfl
        · have : stW j (Wh j A) k = Wh j A k + Wh j A (k ^^^ 2 ^ j) := by unfold stW; rw [ht]; rfl
          rw [this]
          exact Ev.op (Ev.var rfl rfl) (Ev.idx (Ev.var rfl rfl) (Ev.op (Ev.var rfl rfl) (Ev.var rfl rfl) (o_xor _ _)) ix) rfl
      exact x_seq (x_asg w rfl) (x_asg (Ev.op (Ev.cst rfl) (Ev.var rfl rfl) (o_dbl (by omega))) rfl)
    · exact Ev.op (Ev.var rfl rfl) (Ev.blt1 (Ev.var rfl rfl) lenA) lt_powN
  exact callT_rt (d := d_signed_in) rfl rfl (x_seq (a := sqA c_signed_in) (b := sqB c_signed_in) s1 (x_seq (a := sqA (sqB c_signed_in)) (b := sqB (sqB c_signed_in)) s2 (x_ret (Ev.var rfl rfl)))) rfl
def sgF (f : Nat → Bool) (p : Nat) : Int := 1 - 2 * b1 (f p)
theorem sgns_ok (hn : n ≤ 5) : callN T (m + 6) 36 none [FD n f] = some (.ok (.tup (AL n (Wh n (sgF f)))) [none]) := by
  refine callT_rt (d := d_signed_sums) rfl rfl (x_seq (x_drop (Ev.call (d := d_need_function) rfl rfl (Ev.cons (Ev.var rfl rfl) Ev.nil) (need_ok hn)))
    (x_ret (Ev.blt1 (Ev.call (d := d_signed_in) rfl rfl (Ev.cons (x := .lst (AL n (sgF f))) (Ev.lcT (e := [some (FD n f), none]) (P := fun p : Nat => [some (FD n f), some (.int (b1 (f p)))]) (h := fun p : Nat => D.int (b1 (f p))) (g := fun p => D.int (sgF f p)) (s := FD n f)
    (Ev.var rfl rfl) rfl (fun _ _ => rfl) (fun _ _ => rfl) (fun _ => rfl) rfl (fun p _ => ?_) (small hn (g := fun p => p))) Ev.nil) (sgn_ok (m := m + 4) hn)) PB.M.b_tuple))) rfl
  exact Ev.op (Ev.cst rfl) (Ev.op (Ev.cst rfl) (Ev.var rfl rfl) (mul_ok (by omega) (by omega))) rfl
/-- the factors of a function -/
def bF (f : Nat → Bool) (p : Nat) : Int := b1 (f p)
theorem fac_ok (hn : n ≤ 5) : callN T (m + 1) 30 none [FD n f, .int (-1)] = some (.ok (.lst (AL n (Mo n (bF f)))) [none, none]) := by
  let I : Nat → En := fun j => [some (FD n f), some (.int (-1)), some (.lst (AL n (Mo j (bF f)))), some (.int ((2 ^ j : Nat) : Int)), none, none]
  have s1 : exec (sqA c_spread) (gG m d_spread) [some (FD n f), some (.int (-1)), none, none, none, none] = some (.nx (I 0)) := x_par (Ev.blt1 (Ev.var rfl rfl) rfl) (Ev.cst rfl) rfl rfl
  have s2 : exec (sqA (sqB c_spread)) (gG m d_spread) (I 0) = some (.nx (I n)) := by
    refine x_whl (I := I) (c := whC (sqA (sqB c_spread))) (b := whB (sqA (sqB c_spread))) (fun j hj => ⟨.bl true, ?_, rfl⟩) (fun j hj => ?_) ⟨.bl false, ?_, rfl⟩ (by show n < 100000; omega)
    · exact Ev.op (Ev.var rfl rfl) (Ev.blt1 (Ev.var rfl rfl) lenA) (lt_pow hj)
    · have w : Ev (gG m d_spread) (I j) (.lc [4, 5] (.tup (.cons (.var 4) (.cons (.var 5) (.nil)))) (.blt .enum (.cons (.var 2) (.nil))) (.cst (.bl true)) (.ite (.op .band (.var 4) (.var 3)) (.op .add (.var 5) (.op .mul (.var 1) (.idx (.var 2) (.op .bxor (.var 4) (.var 3))))) (.var 5))) (.lst (AL n (Mo (j + 1) (bF f)))) := by
        refine Ev.lcT (P := fun k : Nat => [some (FD n f), some (.int (-1)), some (.lst (AL n (Mo j (bF f)))), some (.int ((2 ^ j : Nat) : Int)), some (.int (k : Int)), some (.int (Mo j (bF f) k))]) (h := fun k : Nat => D.tup [.int (k : Int), .int (Mo j (bF f) k)]) (g := fun k => D.int (Mo (j + 1) (bF f) k)) (s := .lst ((List.range (2 ^ n)).map fun k : Nat => D.tup [.int (k : Int), .int (Mo j (bF f) k)]))
          (Ev.blt1 (Ev.var rfl rfl) enumA) rfl (fun _ _ => rfl) (fun _ _ => rfl) (fun _ => rfl) rfl (fun k hk => ?_) (small hn (g := fun p => p))
        have hk := List.mem_range.mp hk
        have hk32 : k < 32 := Nat.lt_of_lt_of_le hk (p32 hn)
        have ix := idxA (A := Mo j (bF f)) (xlt hn hk hj)
        show Ev _ _ _ (.int (PB.Q.stM j (Mo j (bF f)) k))
        refine Ev.ite (t := k.testBit j) (Ev.op (Ev.var rfl rfl) (Ev.var rfl rfl) (o_and _ _)) (t_and hk32 (by omega)) (fun ht => ?_) (fun ht => ?_)
        · have : PB.Q.stM j (Mo j (bF f)) k = Mo j (bF f) k + (-1) * Mo j (bF f) (k ^^^ 2 ^ j) := by unfold PB.Q.stM; rw [ht]; rfl
          rw [this]
          exact Ev.op (Ev.var rfl rfl) (Ev.op (Ev.var rfl rfl) (Ev.idx (Ev.var rfl rfl) (Ev.op (Ev.var rfl rfl) (Ev.var rfl rfl) (o_xor _ _)) ix) (mul_ok (by omega) (by omega))) rfl
        · have : PB.Q.stM j (Mo j (bF f)) k = Mo j (bF f) k := by unfold PB.Q.stM; rw [ht]; rfl
          rw [this]
          exact Ev.var rfl rfl
      exact x_seq (x_asg w rfl) (x_asg (Ev.op (Ev.cst rfl) (Ev.var rfl rfl) (o_dbl (by omega))) rfl)
    · exact Ev.op (Ev.var rfl rfl) (Ev.blt1 (Ev.var rfl rfl) lenA) lt_powN
  exact callT_rt (d := d_spread) rfl rfl (x_seq (a := sqA c_spread) (b := sqB c_spread) s1 (x_seq (a := sqA (sqB c_spread)) (b := sqB (sqB c_spread)) s2 (x_ret (Ev.var rfl rfl)))) rfl
theorem facs_ok (hn : n ≤ 5) : callN T (m + 2) 31 none [FD n f] = some (.ok (.lst (AL n (Mo n (bF f)))) [none]) :=
  callT_rt (d := d_factors_in) rfl rfl (x_ret (Ev.call (d := d_spread) rfl rfl (Ev.cons (Ev.var rfl rfl) (Ev.cons (Ev.neg (Ev.cst rfl)) Ev.nil)) (fac_ok hn))) rfl
theorem ones_fin (m : Nat) : ((List.range 32).all fun k => okD (callN T (m + 1) 17 none [.int (k : Int)]) (.int (pc k : Int))) = true := by kernel_rfl
theorem ones_ok (m : Nat) (hk : k < 32) : ∃ o, callN T (m + 1) 17 none [.int (k : Int)] = some (.ok (.int (pc k : Int)) o) := okD_ok (List.all_eq_true.mp (ones_fin m) k (List.mem_range.mpr hk))
theorem o_ne0 (a : Int) : op2 .ne (.int a) (.int 0) = some (.bl (a != 0)) := rfl
def dgl (n : Nat) (f : Nat → Bool) : List Int := ((List.range (2 ^ n)).filter fun k => Mo n (bF f) k != 0).map fun k => (pc k : Int)
theorem mones_ok (hn : n ≤ 5) : callN T (m + 2) 32 none [.lst (AL n (Mo n (bF f)))] = some (.ok (.int (mx0 (dgl n f))) [none]) := by
  refine callT_rt (d := d_most_ones) rfl rfl (x_ret (Ev.mmd (l := (dgl n f).map .int) ?_ (mmd_max _))) rfl
  have : (dgl n f).map D.int = ((List.range (2 ^ n)).filter fun k => Mo n (bF f) k != 0).map fun k => D.int (pc k : Int) := by
    unfold dgl
    rw [List.map_map]
    rfl
  rw [this]
  refine Ev.lc (e := [some (.lst (AL n (Mo n (bF f)))), none, none]) (P := fun k : Nat => [some (.lst (AL n (Mo n (bF f)))), some (.int (k : Int)), some (.int (Mo n (bF f) k))]) (h := fun k : Nat => D.tup [.int (k : Int), .int (Mo n (bF f) k)]) (s := .lst ((List.range (2 ^ n)).map fun k : Nat => D.tup [.int (k : Int), .int (Mo n (bF f) k)]))
    (Ev.blt1 (Ev.var rfl rfl) enumA) rfl (fun _ _ => rfl) (fun _ _ => rfl) (fun _ => rfl) rfl (fun k _ => ⟨.bl (Mo n (bF f) k != 0), Ev.op (Ev.var rfl rfl) (Ev.cst rfl) (o_ne0 _), rfl⟩) (fun k hk _ => ?_) (small hn (g := fun p => p))
  obtain ⟨o, h⟩ := ones_ok m (Nat.lt_of_lt_of_le (List.mem_range.mp hk) (p32 hn))
  exact Ev.call (d := d_ones_in) rfl rfl (Ev.cons (Ev.var rfl rfl) Ev.nil) h
theorem deg_ok (hn : n ≤ 5) : callN T (m + 6) 34 none [FD n f] = some (.ok (.int (mx0 (dgl n f))) [none]) := by
  have h33 : callN T (m + 5) 33 none [FD n f] = some (.ok (.int (mx0 (dgl n f))) [none]) :=
    callT_rt (d := d_degree_in) rfl rfl (x_ret (Ev.call (d := d_most_ones) rfl rfl (Ev.cons (Ev.call (d := d_factors_in) rfl rfl (Ev.cons (Ev.var rfl rfl) Ev.nil) (facs_ok (m := m + 2) hn)) Ev.nil) (mones_ok (m := m + 2) hn))) rfl
  exact callT_rt (d := d_degree) rfl rfl (x_seq (x_drop (Ev.call (d := d_need_function) rfl rfl (Ev.cons (Ev.var rfl rfl) Ev.nil) (need_ok hn)))
    (x_ret (Ev.call (d := d_degree_in) rfl rfl (Ev.cons (Ev.var rfl rfl) Ev.nil) h33))) rfl
end PB.M
set_option maxHeartbeats 4000000
/-! M5: k76: rising functions; loops; the pen. -/
namespace PB.M
open PySem PB K76 PB.Q
variable {m n p i j k : Nat} {f g : Nat → Bool}
section
variable {G : Gx} {e : En} {a b c : C}
/-- a for loop that keeps something -/
theorem forE_inv {Inv : En → Prop} {st : D → En → Option En} {b : En → Option Out} : ∀ (ds : List D) (e : En), Inv e → (∀ d ∈ ds, ∀ e, Inv e → ∃ e1, st d e = some e1 ∧ ∃ e2, b e1 = some (.nx e2) ∧ Inv e2) → ∃ e', forE st b ds e = some (.nx e') ∧ Inv e'
  | [], e, h, _ => ⟨e, rfl, h⟩
  | d :: ds, e, h, hb => by
    obtain ⟨e1, h1, e2, h2, h3⟩ := hb d List.mem_cons_self e h
    obtain ⟨e', q1, q2⟩ := forE_inv ds e2 h3 fun d' hd' => hb d' (List.mem_cons_of_mem _ hd')
    refine ⟨e', ?_, q2⟩
    rw [forE, h1]
    show (match b e1 with
      | some (.nx e2) => forE st b ds e2
      | some (.ct e2) => forE st b ds e2
      | some (.bk e2) => some (.nx e2)
      | o => o) = _
    rw [h2]
    exact q1
theorem x_for {Inv : En → Prop} {tg it : C} {s : D} {ds : List D} (hit : Ev G e it s) (hs : seqOf s = some ds) (h0 : Inv e) (hb : ∀ d ∈ ds, ∀ e, Inv e → ∃ e1, asgT G.ks tg d e = some e1 ∧ ∃ e2, exec b G e1 = some (.nx e2) ∧ Inv e2) (li : isLoc it = false := by rfl) :
    ∃ e', exec (.fr tg it b) G e = some (.nx e') ∧ Inv e' := by
  obtain ⟨e', q1, q2⟩ := forE_inv ds e h0 hb
  refine ⟨e', ?_, q2⟩
  unfold Ev at hit
  rw [exec, hit]
  show (itemsOf G.ks it s e).bind _ = _
  rw [items_val li, hs]
  exact q1
end
theorem o_shr (a b : Nat) : op2 .shr (.int (a : Int)) (.int (b : Int)) = some (.int ((a >>> b : Nat) : Int)) := by
  show (if 0 ≤ (b : Int) then some (D.int ((a : Int) / 2 ^ (b : Int).toNat)) else none) = _
  have e : (a : Int) / 2 ^ (b : Int).toNat = ((a / 2 ^ b : Nat) : Int) := by
    rw [Int.toNat_natCast, Int.natCast_ediv, Int.natCast_pow]
    all_goals rfl
  rw [if_pos (by omega), Nat.shiftRight_eq_div_pow, e]
theorem o_or (a b : Nat) : op2 .bor (.int (a : Int)) (.int (b : Int)) = some (.int ((a ||| b : Nat) : Int)) := by
  show (if (decide (0 ≤ (a : Int)) && decide (0 ≤ (b : Int))) = true then some (D.int ((a : Int).toNat ||| (b : Int).toNat : Nat)) else none) = _
  rw [decide_eq_true (by omega), decide_eq_true (by omega)]
  rfl
theorem o_eq0 (a : Bool) : op2 .eq (.int (b1 a)) (.int 0) = some (.bl (!a)) := by cases a <;> rfl
/-- all values stay where a bit is turned up -/
theorem fall_ok (hn : n ≤ 5) (hf : ∀ p, p < 2 ^ n → ∀ i, i < n → f p = true → f (p ||| 2 ^ i) = true) : callN T (m + 2) 20 none [FD n f] = some (.ok .non [none]) := by
  let Inv : En → Prop := fun e => ∃ x3 x4 x5, e = [some (FD n f), some (.int (n : Int)), some (.lst []), x3, x4, x5]
  have s1 : exec (sqA c_falling_in) (gG (m + 1) d_falling_in) [some (FD n f), none, none, none, none, none] = some (.nx [some (FD n f), some (.int (n : Int)), some (.lst []), none, none, none]) :=
    x_par (Ev.call (d := d_letters_in) rfl rfl (Ev.cons (Ev.var rfl rfl) Ev.nil) (let_ok hn)) (Ev.lst Ev.nil) rfl rfl
  obtain ⟨e', s2, x3, x4, x5, rfl⟩ : ∃ e', exec (sqA (sqB c_falling_in)) (gG (m + 1) d_falling_in) [some (FD n f), some (.int (n : Int)), some (.lst []), none, none, none] = some (.nx e') ∧ Inv e' := by
    refine x_for (Ev.blt1 (Ev.var rfl rfl) enumF) rfl ⟨none, none, none, rfl⟩ fun d hd e he => ?_
    obtain ⟨p, hp, rfl⟩ := List.mem_map.mp hd
    have hp := List.mem_range.mp hp
    obtain ⟨x3, x4, x5, rfl⟩ := he
    refine ⟨[some (FD n f), some (.int (n : Int)), some (.lst []), some (.int (p : Int)), some (.int (b1 (f p))), x5], rfl, ?_⟩
    let Inv2 : En → Prop := fun e => ∃ x5, e = [some (FD n f), some (.int (n : Int)), some (.lst []), some (.int (p : Int)), some (.int (b1 (f p))), x5]
    obtain ⟨e', q1, x5', rfl⟩ : ∃ e', exec (.fr (.var 5) (.blt .range (.cons (.var 1) (.nil))) (.ife (.and (.op .eq (.var 4) (.cst (.int 1))) (.and (.not (.op .band (.op .shr (.var 3) (.var 5)) (.cst (.int 1)))) (.op .eq (.idx (.var 0) (.op .bor (.var 3) (.op .shl (.cst (.int 1)) (.var 5)))) (.cst (.int 0))))) (.app 2 (.tup (.cons (.call 8 (.cons (.var 1) (.cons (.var 3) (.nil)))) (.cons (.var 5) (.nil))))) (.pass))) (gG (m + 1) d_falling_in) [some (FD n f), some (.int (n : Int)), some (.lst []), some (.int (p : Int)), some (.int (b1 (f p))), x5] = some (.nx e') ∧ Inv2 e' := by
      refine x_for (Ev.blt1 (Ev.var rfl rfl) (b_range hn)) rfl ⟨x5, rfl⟩ fun d hd e he => ?_
      obtain ⟨i, hi, rfl⟩ := List.mem_map.mp hd
      have hi := List.mem_range.mp hi
      obtain ⟨x5, rfl⟩ := he
      refine ⟨[some (FD n f), some (.int (n : Int)), some (.lst []), some (.int (p : Int)), some (.int (b1 (f p))), some (.int (i : Int))], rfl, _, ?_, some (.int (i : Int)), rfl⟩
      have c1 : Ev (gG (m + 1) d_falling_in) [some (FD n f), some (.int (n : Int)), some (.lst []), some (.int (p : Int)), some (.int (b1 (f p))), some (.int (i : Int))] (.op .eq (.var 4) (.cst (.int 1))) (.bl (f p)) := Ev.op (Ev.var rfl rfl) (Ev.cst rfl) (o_eq1 _)
      cases hv : f p with
      | false =>
        rw [hv] at c1
        exact x_ifF (Ev.andF c1 rfl) rfl x_pass
      | true =>
        rw [hv] at c1
        have c2 : Ev (gG (m + 1) d_falling_in) [some (FD n f), some (.int (n : Int)), some (.lst []), some (.int (p : Int)), some (.int (b1 true)), some (.int (i : Int))] (.not (.op .band (.op .shr (.var 3) (.var 5)) (.cst (.int 1)))) (.bl (!(((p >>> i &&& 1 : Nat) : Int) != 0))) :=
          Ev.not (Ev.op (Ev.op (Ev.var rfl rfl) (Ev.var rfl rfl) (o_shr _ _)) (Ev.cst rfl) (o_and (p >>> i) 1)) rfl
        cases hb : (!(((p >>> i &&& 1 : Nat) : Int) != 0)) with
        | false =>
          rw [hb] at c2
          exact x_ifF (Ev.andT c1 rfl (Ev.andF c2 rfl)) rfl x_pass
        | true =>
          rw [hb] at c2
          have lt : p ||| 2 ^ i < 2 ^ n := Nat.or_lt_two_pow hp (Nat.pow_lt_pow_right (by omega) hi)
          have c3 : Ev (gG (m + 1) d_falling_in) [some (FD n f), some (.int (n : Int)), some (.lst []), some (.int (p : Int)), some (.int (b1 true)), some (.int (i : Int))] (.op .eq (.idx (.var 0) (.op .bor (.var 3) (.op .shl (.cst (.int 1)) (.var 5)))) (.cst (.int 0))) (.bl (!f (p ||| 2 ^ i))) :=
            Ev.op (Ev.idx (Ev.var rfl rfl) (Ev.op (Ev.var rfl rfl) (Ev.op (Ev.cst rfl) (Ev.var rfl rfl) (o_shl (by omega))) (o_or _ _)) (idxF lt)) (Ev.cst rfl) (o_eq0 _)
          rw [hf p hp i hi hv] at c3
          exact x_ifF (Ev.andT c1 rfl (Ev.andT c2 rfl c3)) rfl x_pass
    exact ⟨_, q1, _, _, _, rfl⟩
  have s3 : exec (sqB (sqB c_falling_in)) (gG (m + 1) d_falling_in) [some (FD n f), some (.int (n : Int)), some (.lst []), x3, x4, x5] = some (.rt .non [some (FD n f), some (.int (n : Int)), some (.lst []), x3, x4, x5]) := by kernel_rfl
  exact callT_rt (d := d_falling_in) rfl rfl (x_seq (a := sqA c_falling_in) (b := sqB c_falling_in) s1 (x_seq (a := sqA (sqB c_falling_in)) (b := sqB (sqB c_falling_in)) s2 s3)) rfl
theorem rise_ok (hn : n ≤ 5) (hf : ∀ p, p < 2 ^ n → ∀ i, i < n → f p = true → f (p ||| 2 ^ i) = true) : callN T (m + 6) 21 none [FD n f] = some (.ok (.bl true) [none]) :=
  callT_rt (d := d_is_rising) rfl rfl (x_seq (x_drop (Ev.call (d := d_need_function) rfl rfl (Ev.cons (Ev.var rfl rfl) Ev.nil) (need_ok hn)))
    (x_ret (Ev.op (Ev.call (d := d_falling_in) rfl rfl (Ev.cons (Ev.var rfl rfl) Ev.nil) (fall_ok (m := m + 3) hn hf)) (Ev.cst rfl) rfl))) rfl
/-! the pen -/
abbrev penE (cs : List D) (a r : Int) : D := .dic false [(.str "cells", .lst cs), (.str "at", .int a), (.str "rest", .int r)]
def PenOk (c : Nat) (d : D) : Prop := ∃ (ns : List Int) (a r : Int), d = penE (ns.map .int) a r ∧ 0 ≤ a ∧ a ≤ c ∧ 0 ≤ r
theorem PenOk.mono {c c' : Nat} {d : D} (h : PenOk c d) (q : c ≤ c') : PenOk c' d := by
  obtain ⟨ns, a, r, h0, h1, h2, h3⟩ := h
  exact ⟨ns, a, r, h0, h1, by omega, h3⟩
section
variable {G : Gx} {e : En} {b c : C} {i : Nat} {x y z d : D}
/-- an item of an own value -/
theorem Ev.idxL (hk : G.ks[i]? = some Kd.own) (h : rdS e i = some x) (hb : Ev G e b y) (hz : idxD x y = some z) (lb : isLoc b = false := by rfl) : Ev G e (.idx (.loc i) b) z := by
  have a0 : ev (.loc i) G e = some (.ok .non e) := by
    rw [ev, if_pos (.inl hk), h]
    rfl
  unfold Ev at *
  rw [ev, a0]
  show bnd (ev b G e) _ = _
  rw [hb]
  show (rdS e i).bind _ = _
  rw [h]
  show (if isLoc b = true then none else (idxD x y).map (R.ok · e)) = _
  rw [lb, hz]
  rfl
theorem outB_ok {f : D → En → Option Out} : outB (some (R.ok d e)) f = f d e := rfl
/-- a store in an own dict with text keys -/
theorem x_stD {s : Str} {kvs kvs' : List (D × D)} (hk : G.ks[i]? = some Kd.own) (h : rdS e i = some (.dic false kvs)) (hc : Ev G e c d) (h2 : dPut kvs (.str s) d = kvs') (hl : kvs.length < lim) (lc : isLoc c = false := by rfl) : exec (.stIx i (.cst (.str s)) c) G e = some (.nx (e.set i (some (.dic false kvs')))) := by
  have hq : Ev G e (.cst (.str s)) (.str s) := Ev.cst rfl
  unfold Ev at *
  rw [exec, h]
  show outB (ev c G e) _ = _
  rw [hc, outB_ok, hq, outB_ok]
  show (if (isLoc c || isLoc (.cst (.str s))) = true then none else match rdS e i, D.str s with
    | some (.lst l), .int z => if G.ks[i]? = some Kd.own then (ixOf l.length z).map fun j => Out.nx (e.set i (some (.lst (l.set j d)))) else none
    | some (.dic t kvs), q => if (G.ks[i]? = some Kd.own && isKey t q && decide (kvs.length < lim)) = true then some (.nx (e.set i (some (.dic t (dPut kvs q d))))) else none
    | _, _ => none) = _
  rw [lc, h]
  show (if (decide (G.ks[i]? = some Kd.own) && isKey false (.str s) && decide (kvs.length < lim)) = true then some (Out.nx (e.set i (some (.dic false (dPut kvs (.str s) d))))) else none) = _
  rw [decide_eq_true hk, decide_eq_true hl, h2]
  rfl
end
end PB.M
set_option maxHeartbeats 4000000
/-! M6: k76: a draw. -/
namespace PB.M
open PySem PB K76 PB.Q
variable {n : Nat}
theorem o_mod {x m : Int} (h : 0 < m) : op2 .mod (.int x) (.int m) = some (.int (x % m)) := by
  show (if 0 < m then some (D.int (x % m)) else none) = _
  rw [if_pos h]
theorem o_fdiv {x m : Int} (h : 0 < m) (h2 : m < 1073741824) : op2 .fdiv (.int x) (.int m) = some (.int (x / m)) := by
  show (if (decide (0 < m) && decide (m < 1073741824)) = true then some (D.int (x / m)) else none) = _
  rw [decide_eq_true h, decide_eq_true h2]
  rfl
theorem o_gt0 {r : Int} : op2 .gt (.int r) (.int 0) = some (.bl (decide (0 < r))) := rfl
theorem o_pow : op2 .pow (.int 10) (.int 18) = some (.int 1000000000000000000) := by kernel_rfl
def absI (i : Int) : Int := if i < 0 then -i else i
theorem b_abs {i : Int} : bi .abs [.int i] = some (.int (absI i)) := rfl
theorem absI_nn (i : Int) : 0 ≤ absI i := by unfold absI; split <;> omega
theorem at_ints {ns : List Int} {i : Int} (h0 : 0 ≤ i) (h : i < ns.length) : ∃ k, atD (ns.map D.int) i = some (.int k) := by
  obtain ⟨j, rfl⟩ := Int.eq_ofNat_of_zero_le h0
  have hj : j < ns.length := by omega
  refine ⟨ns[j], ?_⟩
  unfold atD ixOf
  rw [List.length_map, if_pos (by omega), if_pos (by omega)]
  show (ns.map D.int)[j]? = _
  rw [List.getElem?_map, List.getElem?_eq_getElem hj]
  rfl
abbrev st1 : C := sqA c__law_draw
abbrev tl1 : C := sqB c__law_draw
abbrev tl2 : C := sqB tl1
abbrev tl3 : C := sqB tl2
abbrev tl4 : C := sqB tl3
abbrev tl5 : C := sqB tl4
abbrev tl6 : C := sqB tl5
abbrev tl7 : C := sqB tl6
abbrev tl8 : C := sqB tl7
abbrev tl9 : C := sqB tl8
section
variable {cs : List D} {a r m : Int} {x2 x3 x4 x5 : Option D}
theorem i_rest : idxD (penE cs a r) (.str "rest") = some (.int r) := by kernel_rfl
theorem i_at : idxD (penE cs a r) (.str "at") = some (.int a) := by kernel_rfl
theorem i_cells : idxD (penE cs a r) (.str "cells") = some (.lst cs) := by kernel_rfl
abbrev kv (cs : List D) (a r : Int) : List (D × D) := [(.str "cells", .lst cs), (.str "at", .int a), (.str "rest", .int r)]
theorem p_rest {r' : Int} : dPut (kv cs a r) (.str "rest") (.int r') = kv cs a r' := by kernel_rfl
theorem p_at {a' : Int} : dPut (kv cs a r) (.str "at") (.int a') = kv cs a' r := by kernel_rfl
/-- the last four statements -/
theorem dr7 (hm : 0 < m) (ha : 0 ≤ a) (ha2 : a < 100000) {cell : Int} : ∃ k y4, exec tl6 (gG n d__law_draw) [some (penE cs (a + 1) 0), some (.int m), some (.int a), some (.int cell), none, none] = some (.rt (.int k) [some (penE cs (a + 1) 0), some (.int m), some (.int a), some (.int cell), y4, none]) ∧ 0 ≤ k ∧ k < m := by
  have z : ∀ (b : Int) (c : Int), 0 < c → 0 ≤ b % c ∧ b % c < c := fun b c h => ⟨Int.emod_nonneg b (by omega), Int.emod_lt_of_pos b h⟩
  have e7 : exec (sqA tl6) (gG n d__law_draw) [some (penE cs (a + 1) 0), some (.int m), some (.int a), some (.int cell), none, none] = some (.nx [some (penE cs (a + 1) 0), some (.int m), some (.int a), some (.int cell), some (.int (cell % 4294967197 * 49043 + 16061 * a * a)), none]) := by
    have := z cell 4294967197 (by omega)
    exact x_asg (Ev.op (Ev.op (Ev.op (Ev.blt1 (Ev.var rfl rfl) rfl) (Ev.cst rfl) (o_mod (by omega))) (Ev.cst rfl) (mul_ok (by omega) (by omega)))
      (Ev.op (Ev.op (Ev.cst rfl) (Ev.var rfl rfl) (mul_ok (by omega) (by omega))) (Ev.var rfl rfl) (mul_ok (by omega) (by omega))) rfl) rfl
  generalize cell % 4294967197 * 49043 + 16061 * a * a = u at e7
  have e8 : exec (sqA tl7) (gG n d__law_draw) [some (penE cs (a + 1) 0), some (.int m), some (.int a), some (.int cell), some (.int u), none] = some (.nx [some (penE cs (a + 1) 0), some (.int m), some (.int a), some (.int cell), some (.int ((u + 1543 * a + 17) % 4294967189)), none]) :=
    x_asg (Ev.op (Ev.blt1 (Ev.op (Ev.op (Ev.var rfl rfl) (Ev.op (Ev.cst rfl) (Ev.var rfl rfl) (mul_ok (by omega) (by omega))) rfl) (Ev.cst rfl) rfl) rfl) (Ev.cst rfl) (o_mod (by omega))) rfl
  have hv := z (u + 1543 * a + 17) 4294967189 (by omega)
  generalize (u + 1543 * a + 17) % 4294967189 = v at e8 hv
  have e9 : exec (sqA tl8) (gG n d__law_draw) [some (penE cs (a + 1) 0), some (.int m), some (.int a), some (.int cell), some (.int v), none] = some (.nx [some (penE cs (a + 1) 0), some (.int m), some (.int a), some (.int cell), some (.int ((v * v + 68891 * v + 29 * a + 7) % 4294967161)), none]) :=
    x_asg (Ev.op (Ev.blt1 (Ev.op (Ev.op (Ev.op (Ev.op (Ev.var rfl rfl) (Ev.var rfl rfl) (mul_ok (by omega) (by omega))) (Ev.op (Ev.cst rfl) (Ev.var rfl rfl) (mul_ok (by omega) (by omega))) rfl) (Ev.op (Ev.cst rfl) (Ev.var rfl rfl) (mul_ok (by omega) (by omega))) rfl) (Ev.cst rfl) rfl) rfl) (Ev.cst rfl) (o_mod (by omega))) rfl
  have hw := z (v * v + 68891 * v + 29 * a + 7) 4294967161 (by omega)
  generalize (v * v + 68891 * v + 29 * a + 7) % 4294967161 = w at e9 hw
  have e10 : exec tl9 (gG n d__law_draw) [some (penE cs (a + 1) 0), some (.int m), some (.int a), some (.int cell), some (.int w), none] = some (.rt (.int ((w * (w + 57041)) % 4294967143 / 64 % m)) [some (penE cs (a + 1) 0), some (.int m), some (.int a), some (.int cell), some (.int w), none]) :=
    x_ret (Ev.op (Ev.blt1 (Ev.op (Ev.op (Ev.blt1 (Ev.op (Ev.var rfl rfl) (Ev.op (Ev.var rfl rfl) (Ev.cst rfl) rfl) (mul_ok (by omega) (by omega))) rfl) (Ev.cst rfl) (o_mod (by omega))) (Ev.cst rfl) (o_fdiv (by omega) (by omega))) rfl) (Ev.var rfl rfl) (o_mod hm))
  have hk := z ((w * (w + 57041)) % 4294967143 / 64) m hm
  exact ⟨_, _, x_seq (a := sqA tl6) (b := tl7) e7 (x_seq (a := sqA tl7) (b := tl8) e8 (x_seq (a := sqA tl8) (b := tl9) e9 e10)), hk.1, hk.2⟩
theorem draw {c : Nat} {pen : D} {m : Int} {n : Nat} (h : PenOk c pen) (hc : c < 10000) (hm : 0 < m) (hm2 : m < 1073741824) :
    ∃ k pen', callN T (n + 1) 49 none [pen, .int m] = some (.ok (.int k) [some pen', none]) ∧ 0 ≤ k ∧ k < m ∧ PenOk (c + 1) pen' := by
  obtain ⟨ns, a, r, rfl, h1, h2, h3⟩ := h
  have z : ∀ (b : Int), 0 ≤ b % m ∧ b % m < m := fun b => ⟨Int.emod_nonneg b (by omega), Int.emod_lt_of_pos b hm⟩
  have c1 : Ev (gG n d__law_draw) [some (penE (ns.map D.int) a r), some (.int m), none, none, none, none] (.op .gt (.idx (.loc 0) (.cst (.str "rest"))) (.cst (.int 0))) (.bl (decide (0 < r))) :=
    Ev.op (Ev.idxL rfl rfl (Ev.cst rfl) i_rest) (Ev.cst rfl) o_gt0
  by_cases hr : 0 < r
  · rw [decide_eq_true hr] at c1
    have e : exec st1 (gG n d__law_draw) [some (penE (ns.map D.int) a r), some (.int m), none, none, none, none] = some (.rt (.int (r % m)) [some (penE (ns.map D.int) a (r / m)), some (.int m), none, none, none, some (.int (r % m))]) := by
      refine x_ifT c1 rfl (x_seq (x_asg (Ev.op (Ev.blt1 (Ev.idxL rfl rfl (Ev.cst rfl) i_rest) rfl) (Ev.var rfl rfl) (o_mod hm)) rfl) (x_seq (x_stD rfl rfl (Ev.op (Ev.idxL rfl rfl (Ev.cst rfl) i_rest) (Ev.var rfl rfl) (o_fdiv hm hm2)) p_rest (by show 3 < 100000; omega)) (x_ret (Ev.var rfl rfl))))
    exact ⟨_, _, callT_rt (d := d__law_draw) rfl rfl (x_seqR (a := st1) (b := tl1) e) rfl, (z r).1, (z r).2, ns, a, _, rfl, h1, by omega, Int.ediv_nonneg h3 (by omega)⟩
  · have : r = 0 := by omega
    subst this
    rw [decide_eq_false hr] at c1
    have e1 : exec st1 (gG n d__law_draw) [some (penE (ns.map D.int) a 0), some (.int m), none, none, none, none] = some (.nx [some (penE (ns.map D.int) a 0), some (.int m), none, none, none, none]) := x_ifF c1 rfl x_pass
    have e2 : exec (sqA tl1) (gG n d__law_draw) [some (penE (ns.map D.int) a 0), some (.int m), none, none, none, none] = some (.nx [some (penE (ns.map D.int) a 0), some (.int m), some (.int a), none, none, none]) := x_asg (Ev.idxL rfl rfl (Ev.cst rfl) i_at) rfl
    have e3 : exec (sqA tl2) (gG n d__law_draw) [some (penE (ns.map D.int) a 0), some (.int m), some (.int a), none, none, none] = some (.nx [some (penE (ns.map D.int) (a + 1) 0), some (.int m), some (.int a), none, none, none]) :=
      x_stD rfl rfl (Ev.op (Ev.var rfl rfl) (Ev.cst rfl) rfl) p_at (by show 3 < 100000; omega)
    have e4 : exec (sqA tl3) (gG n d__law_draw) [some (penE (ns.map D.int) (a + 1) 0), some (.int m), some (.int a), none, none, none] = some (.nx [some (penE (ns.map D.int) (a + 1) 0), some (.int m), some (.int a), some (.int (73 * a + 31)), none, none]) :=
      x_asg (Ev.op (Ev.op (Ev.cst rfl) (Ev.var rfl rfl) (mul_ok (by omega) (by omega))) (Ev.cst rfl) rfl) rfl
    have e5 : ∃ cell, exec (sqA tl4) (gG n d__law_draw) [some (penE (ns.map D.int) (a + 1) 0), some (.int m), some (.int a), some (.int (73 * a + 31)), none, none] = some (.nx [some (penE (ns.map D.int) (a + 1) 0), some (.int m), some (.int a), some (.int cell), none, none]) := by
      cases ns with
      | nil => exact ⟨73 * a + 31, x_ifF (x := .bl false) (Ev.op (Ev.idxL rfl rfl (Ev.cst rfl) i_cells) (Ev.lst Ev.nil) rfl) rfl x_pass⟩
      | cons q ns =>
        have hne : op2 .ne (.lst ((q :: ns).map D.int)) (.lst []) = some (.bl true) := by
          show (if (plainL 29 ((q :: ns).map D.int) && plainL 29 []) = true then some (D.bl (!eqv (.lst ((q :: ns).map D.int)) (.lst []))) else none) = _
          rw [plainI]
          rfl
        have hl : (0 : Int) < ((q :: ns).length : Int) := by simp only [List.length_cons]; omega
        obtain ⟨cell, hcell⟩ := at_ints (ns := q :: ns) (i := a % ((q :: ns).length : Int)) (Int.emod_nonneg a (by omega)) (Int.emod_lt_of_pos a hl)
        have lenC : bi .len [.lst ((q :: ns).map D.int)] = some (.int ((q :: ns).length : Int)) := by
          show some (D.int (((q :: ns).map D.int).length : Int)) = _
          rw [List.length_map]
        exact ⟨cell, x_ifT (Ev.op (Ev.idxL rfl rfl (Ev.cst rfl) i_cells) (Ev.lst Ev.nil) hne) rfl (x_asg (Ev.idx (Ev.idxL rfl rfl (Ev.cst rfl) i_cells) (Ev.op (Ev.blt1 (Ev.var rfl rfl) rfl) (Ev.blt1 (Ev.idxL rfl rfl (Ev.cst rfl) i_cells) lenC) (o_mod hl)) hcell) rfl)⟩
    obtain ⟨cell, e5⟩ := e5
    have lenC : bi .len [.lst (ns.map D.int)] = some (.int (ns.length : Int)) := by
      show some (D.int ((ns.map D.int).length : Int)) = _
      rw [List.length_map]
    have c6 : Ev (gG n d__law_draw) [some (penE (ns.map D.int) (a + 1) 0), some (.int m), some (.int a), some (.int cell), none, none] (.op .lt (.var 2) (.blt .len (.cons (.idx (.loc 0) (.cst (.str "cells"))) (.nil)))) (.bl (decide (a < ns.length))) :=
      Ev.op (Ev.var rfl rfl) (Ev.blt1 (Ev.idxL rfl rfl (Ev.cst rfl) i_cells) lenC) rfl
    have c7 : Ev (gG n d__law_draw) [some (penE (ns.map D.int) (a + 1) 0), some (.int m), some (.int a), some (.int cell), none, none] (.op .ge (.blt .abs (.cons (.var 3) (.nil))) (.op .pow (.cst (.int 10)) (.cst (.int 18)))) (.bl (decide (1000000000000000000 ≤ absI cell))) :=
      Ev.op (Ev.blt1 (Ev.var rfl rfl) b_abs) (Ev.op (Ev.cst rfl) (Ev.cst rfl) o_pow) rfl
    have head : ∀ {o : Option Out}, exec tl5 (gG n d__law_draw) [some (penE (ns.map D.int) (a + 1) 0), some (.int m), some (.int a), some (.int cell), none, none] = o → exec c__law_draw (gG n d__law_draw) [some (penE (ns.map D.int) a 0), some (.int m), none, none, none, none] = o := fun h =>
      x_seq (a := st1) (b := tl1) e1 (x_seq (a := sqA tl1) (b := tl2) e2 (x_seq (a := sqA tl2) (b := tl3) e3 (x_seq (a := sqA tl3) (b := tl4) e4 (x_seq (a := sqA tl4) (b := tl5) e5 h))))
    have low : exec (sqA tl5) (gG n d__law_draw) [some (penE (ns.map D.int) (a + 1) 0), some (.int m), some (.int a), some (.int cell), none, none] = some (.nx [some (penE (ns.map D.int) (a + 1) 0), some (.int m), some (.int a), some (.int cell), none, none]) →
        ∃ k pen', callN T (n + 1) 49 none [penE (ns.map D.int) a 0, .int m] = some (.ok (.int k) [some pen', none]) ∧ 0 ≤ k ∧ k < m ∧ PenOk (c + 1) pen' := fun e6 => by
      obtain ⟨k, y4, q, k0, k1⟩ := dr7 (n := n) (cs := ns.map D.int) (a := a) (m := m) hm h1 (by omega) (cell := cell)
      exact ⟨k, _, callT_rt (d := d__law_draw) rfl rfl (head (x_seq (a := sqA tl5) (b := tl6) e6 q)) rfl, k0, k1, ns, a + 1, 0, rfl, by omega, by omega, by omega⟩
    by_cases q6 : a < ns.length
    · rw [decide_eq_true q6] at c6
      by_cases q7 : 1000000000000000000 ≤ absI cell
      · rw [decide_eq_true q7] at c7
        have e6 : exec (sqA tl5) (gG n d__law_draw) [some (penE (ns.map D.int) (a + 1) 0), some (.int m), some (.int a), some (.int cell), none, none] = some (.rt (.int ((absI cell - 1000000000000000000) % m)) [some (penE (ns.map D.int) (a + 1) ((absI cell - 1000000000000000000) / m)), some (.int m), some (.int a), some (.int cell), none, none]) :=
          x_ifT (Ev.andT c6 rfl c7) rfl (x_seq (x_stD rfl rfl (Ev.op (Ev.op (Ev.blt1 (Ev.var rfl rfl) b_abs) (Ev.op (Ev.cst rfl) (Ev.cst rfl) o_pow) rfl) (Ev.var rfl rfl) (o_fdiv hm hm2)) p_rest (by show 3 < 100000; omega))
            (x_ret (Ev.op (Ev.blt1 (Ev.op (Ev.blt1 (Ev.var rfl rfl) b_abs) (Ev.op (Ev.cst rfl) (Ev.cst rfl) o_pow) rfl) rfl) (Ev.var rfl rfl) (o_mod hm))))
        exact ⟨_, _, callT_rt (d := d__law_draw) rfl rfl (head (x_seqR (a := sqA tl5) (b := tl6) e6)) rfl, (z _).1, (z _).2, ns, a + 1, _, rfl, by omega, by omega, Int.ediv_nonneg (by omega) (by omega)⟩
      · rw [decide_eq_false q7] at c7
        exact low (x_ifF (Ev.andT c6 rfl c7) rfl x_pass)
    · rw [decide_eq_false q6] at c6
      exact low (x_ifF (Ev.andF c6 rfl) rfl x_pass)
end
end PB.M
set_option maxHeartbeats 4000000
/-! M7: k76: draws within a body. -/
namespace PB.M
open PySem PB K76 PB.Q
variable {n : Nat}
section
variable {G : Gx} {e e0 e1 : En} {a b c it elt : C} {x y z v : D} {f : Bi}
theorem bnd_ok {f : D → En → Option (R D)} : bnd (some (R.ok x e)) f = f x e := rfl
theorem x_ret2 (h : ev c G e = some (.ok v e1)) (hl : isLoc c = false := by rfl) : exec (.ret c) G e = some (.rt v e1) := by
  rw [exec, h]
  show (if isLoc c = true then none else some (Out.rt v e1)) = _
  rw [hl]
  rfl
theorem x_asg2 {i : Nat} {e2 : En} (h : ev c G e = some (.ok v e1)) (h2 : asgT G.ks (.var i) v e1 = some e2) (hl : isLoc c = false := by rfl) : exec (.asg (.var i) c) G e = some (.nx e2) := by
  rw [exec, h]
  show (if isLoc c = true then none else (asgT G.ks (.var i) v e1).map Out.nx) = _
  rw [hl, h2]
  rfl
theorem x_par2 {i j : Nat} {e2 e3 e4 : En} (h1 : ev a G e = some (.ok x e1)) (h2 : ev b G e1 = some (.ok y e2)) (h3 : setK G.ks i x e2 = some e3) (h4 : setK G.ks j y e3 = some e4) (la : isLoc a = false := by rfl) (lb : isLoc b = false := by rfl) : exec (.par i j a b) G e = some (.nx e4) := by
  simp only [exec, h1, h2, outB, la, lb, Bool.or_self, Bool.false_eq_true, if_false, h3, h4, Option.bind_some, Option.map_some]
theorem ev_blt (h : ev a G e = some (.ok x e1)) (hb : bi f [x] = some z) (la : isLoc a = false := by rfl) : ev (.blt f (.cons a .nil)) G e = some (.ok z e1) := by
  have h1 : ev (.cons a .nil) G e = some (.ok (.lst [x]) e1) := by
    rw [ev, h, bnd_ok, ev]
    rfl
  rw [ev, h1]
  show (finL (.cons a .nil) [x] e1).bind _ = _
  have : finL (.cons a .nil) [x] e1 = some [x] := by
    simp only [finL, fin_val la]
    rfl
  rw [this]
  show (bi f [x]).map _ = _
  rw [hb]
  rfl
theorem ev_op {o : O2} {e2 : En} (h1 : ev a G e = some (.ok x e1)) (h2 : ev b G e1 = some (.ok y e2)) (h : op2 o x y = some z) (la : isLoc a = false := by rfl) (lb : isLoc b = false := by rfl) : ev (.op o a b) G e = some (.ok z e2) := by
  rw [ev, h1]
  show bnd (ev b G e1) _ = _
  rw [h2]
  show (fin a x e2).bind _ = _
  rw [fin_val la]
  show (fin b y e2).bind _ = _
  rw [fin_val lb]
  show (op2 o x y).map _ = _
  rw [h]
  rfl
end
/-- a call that lends the pen, in slot s -/
theorem ev_pen {n f s : Nat} {dd : DefI} {c : C} {x v pen pen' : D} {e : En} (hk : dd.ks[s]? = some Kd.own) (h0 : rdS e s = some pen) (hi : (gG n dd).info f = [.own, .shr]) (hx : Ev (gG n dd) e c x) (hc : callN T n f none [pen, x] = some (.ok v [some pen', none])) (h1 : isLoc c = false := by rfl) (h2 : ∀ i, c ≠ .scr i := by intro i z; cases z) :
    ev (.call f (.cons (.loc s) (.cons c .nil))) (gG n dd) e = some (.ok v (e.set s (some pen'))) := by
  have a0 : ev (.loc s) (gG n dd) e = some (.ok .non e) := by
    rw [ev]
    show (if dd.ks[s]? = some Kd.own ∨ dd.ks[s]? = some Kd.brw then (rdS e s).map fun _ => R.ok D.non e else none) = _
    rw [if_pos (.inl hk), h0]
    rfl
  unfold Ev at hx
  have a1 : ev (.cons (.loc s) (.cons c .nil)) (gG n dd) e = some (.ok (.lst [.non, x]) e) := by
    rw [ev, a0]
    show bnd (ev (.cons c .nil) (gG n dd) e) _ = _
    rw [ev, hx]
    rfl
  have ar : argL dd.ks [.own, .shr] (.cons (.loc s) (.cons c .nil)) [.non, x] e = some [pen, x] := by
    have : (if dd.ks[s]? = some Kd.own then rdS e s else none) = some pen := by rw [if_pos hk, h0]
    cases c <;> first | (cases h1; done) | (show ((if dd.ks[s]? = some Kd.own then rdS e s else none).bind fun x => _) = _; rw [this]; rfl)
  have bk : backL [.own, .shr] (.cons (.loc s) (.cons c .nil)) [some pen', none] e = some (e.set s (some pen')) := by
    cases c <;> rfl
  rw [ev, a1]
  show (argL dd.ks ((gG n dd).info f) (.cons (.loc s) (.cons c .nil)) [.non, x] e).bind _ = _
  rw [hi, ar]
  show (match callN T n f none [pen, x] with
    | none => none
    | some (.ok d o) => (backL [.own, .shr] (.cons (.loc s) (.cons c .nil)) o e).map (R.ok d ·)
    | some (.xc x o) => (backL [.own, .shr] (.cons (.loc s) (.cons c .nil)) o e).map (R.xc x ·)) = _
  rw [hc]
  show (backL [.own, .shr] (.cons (.loc s) (.cons c .nil)) [some pen', none] e).map _ = _
  rw [bk]
  rfl
/-- a draw where it stands -/
theorem ev_draw {n s : Nat} {dd : DefI} {cc : C} {pen : D} {e : En} {m : Int} {c : Nat} (hp : PenOk c pen) (hc : c < 10000) (hm : 0 < m) (hm2 : m < 1073741824) (hk : dd.ks[s]? = some Kd.own) (h0 : rdS e s = some pen) (hx : Ev (gG (n + 1) dd) e cc (.int m)) (h1 : isLoc cc = false := by rfl) (h2 : ∀ i, cc ≠ .scr i := by intro i z; cases z) :
    ∃ k pen', ev (.call 49 (.cons (.loc s) (.cons cc .nil))) (gG (n + 1) dd) e = some (.ok (.int k) (e.set s (some pen'))) ∧ 0 ≤ k ∧ k < m ∧ PenOk (c + 1) pen' := by
  obtain ⟨k, pen', a1, a2, a3, a4⟩ := draw (n := n) hp hc hm hm2
  exact ⟨k, pen', ev_pen (f := 49) hk h0 rfl hx a1 h1 h2, a2, a3, a4⟩
theorem set_self {e : En} {v : Nat} (h : v < e.length) : e.set v (rdS e v) = e := by
  have : rdS e v = e[v] := by
    unfold rdS
    rw [List.getElem?_eq_getElem h]
    rfl
  rw [this, List.set_getElem_self]
/-- a comprehension that draws -/
theorem lc_pen {G : Gx} {e e0 : En} {v c : Nat} {it elt : C} {ds : List D} {pen : D} {Pv : D → Prop} (hv0 : 0 ≠ v) (hv : v < e.length) (hk : G.ks[v]? = some Kd.shr) (hit : ev it G e0 = some (.ok (.lst ds) (e.set 0 (some pen)))) (hp : PenOk c pen)
    (he : ∀ d ∈ ds, ∀ c' p, PenOk c' p → c' < c + ds.length → ∃ y p', PenOk (c' + 1) p' ∧ Pv y ∧ ev elt G ((e.set 0 (some p)).set v (some d)) = some (.ok y ((e.set 0 (some p')).set v (some d)))) (hl : ds.length ≤ lim) (li : isLoc it = false := by rfl) (l2 : isLoc elt = false := by rfl) :
    ∃ l pen', ev (.lc [v] (.var v) it (.cst (.bl true)) elt) G e0 = some (.ok (.lst l) (e.set 0 (some pen'))) ∧ l.length = ds.length ∧ (∀ y ∈ l, Pv y) ∧ PenOk (c + ds.length) pen' := by
  have loop : ∀ (ds' : List D) (c' : Nat) (p : D) (x : Option D), (∀ d ∈ ds', d ∈ ds) → PenOk c' p → c' + ds'.length ≤ c + ds.length → ∃ l p' x', lcLoop (fun x e2 => (asgT G.ks (.var v) x (wipeE e2 [v])).bind fun e3 => bnd0 (ev (.cst (.bl true)) G e3) fun t e4 => (finT (.cst (.bl true)) t e4).bind fun t => if t then bnd0 (ev elt G e4) fun y e5 => if isLoc elt then none else some (R.ok (some y) e5) else some (.ok none e4)) ds' ((e.set 0 (some p)).set v x) = some (.ok l ((e.set 0 (some p')).set v x')) ∧ l.length = ds'.length ∧ (∀ y ∈ l, Pv y) ∧ PenOk (c' + ds'.length) p' := by
    intro ds'
    induction ds' with
    | nil => exact fun c' p x _ hp _ => ⟨[], p, x, rfl, rfl, (fun y h => by cases h), hp⟩
    | cons d ds' ih =>
      intro c' p x hm hp hc
      rw [List.length_cons] at hc
      obtain ⟨y, p1, q1, q2, q3⟩ := he d (hm d List.mem_cons_self) c' p hp (by omega)
      obtain ⟨l, p', x', r1, r2, r3, r4⟩ := ih (c' + 1) p1 (some d) (fun d' h => hm d' (List.mem_cons_of_mem _ h)) q1 (by omega)
      refine ⟨y :: l, p', x', ?_, by simp [r2], fun y' h => (List.mem_cons.mp h).elim (fun z => z ▸ q2) (r3 y'), by rw [List.length_cons, show c' + (ds'.length + 1) = c' + 1 + ds'.length by omega]; exact r4⟩
      have st : asgT G.ks (.var v) d (wipeE ((e.set 0 (some p)).set v x) [v]) = some ((e.set 0 (some p)).set v (some d)) := by
        show (if (decide (G.ks[v]? = some Kd.shr) && decide (v < (((e.set 0 (some p)).set v x).set v none).length)) = true then some ((((e.set 0 (some p)).set v x).set v none).set v (some d)) else none) = _
        rw [decide_eq_true hk, decide_eq_true (by simpa using hv), List.set_set, List.set_set]
        rfl
      have tr : ev (.cst (.bl true)) G ((e.set 0 (some p)).set v (some d)) = some (.ok (.bl true) ((e.set 0 (some p)).set v (some d))) := Ev.cst rfl
      rw [lcLoop, st, Option.bind_some, tr]
      show bnd0 (bnd0 (ev elt G ((e.set 0 (some p)).set v (some d))) _) _ = _
      rw [q3]
      show bnd0 (if isLoc elt = true then none else some (R.ok (some y) ((e.set 0 (some p1)).set v (some d)))) _ = _
      have z : (if isLoc elt = true then none else some (R.ok (some y) ((e.set 0 (some p1)).set v (some d)))) = some (R.ok (some y) ((e.set 0 (some p1)).set v (some d))) := by rw [l2]; rfl
      rw [z]
      show bnd0 (lcLoop _ ds' ((e.set 0 (some p1)).set v (some d))) _ = _
      rw [r1]
      rfl
  have e00 : (e.set 0 (some pen)).set v (rdS (e.set 0 (some pen)) v) = e.set 0 (some pen) := set_self (by simpa using hv)
  obtain ⟨l, p', x', r1, r2, r3, r4⟩ := loop ds c pen (rdS (e.set 0 (some pen)) v) (fun _ h => h) hp (Nat.le_refl _)
  rw [e00] at r1
  refine ⟨l, p', ?_, r2, r3, r4⟩
  rw [ev, hit]
  show (itemsOf G.ks it (.lst ds) (e.set 0 (some pen))).bind _ = _
  rw [items_val li]
  show bnd0 (lcLoop _ ds (e.set 0 (some pen))) _ = _
  rw [r1]
  show (if l.length ≤ lim then some (R.ok (D.lst l) (restE (e.set 0 (some pen)) ((e.set 0 (some p')).set v x') [v])) else none) = _
  rw [if_pos (by rw [r2]; exact hl)]
  show some (R.ok (D.lst l) (((e.set 0 (some p')).set v x').set v (rdS (e.set 0 (some pen)) v))) = _
  rw [List.set_set]
  have : rdS (e.set 0 (some pen)) v = rdS (e.set 0 (some p')) v := by
    unfold rdS
    rw [List.getElem?_set_ne hv0, List.getElem?_set_ne hv0]
  rw [this, set_self (by simpa using hv)]
def bitOf (l : List D) (p : Nat) : Bool := match l[p]? with
  | some (.int i) => decide (i = 1)
  | _ => false
theorem bits_FL {l : List D} (hl : l.length = 2 ^ n) (h : ∀ d ∈ l, ∃ b, d = .int (b1 b)) : l = FL n (bitOf l) := by
  unfold FL
  apply List.ext_getElem
  · rw [hl, len_map]
  · intro i h1 h2
    rw [List.getElem_map, List.getElem_range]
    obtain ⟨b, hb⟩ := h l[i] (List.getElem_mem h1)
    have : bitOf l i = b := by
      unfold bitOf
      rw [List.getElem?_eq_getElem h1, hb]
      cases b <;> rfl
    rw [this, hb]
end PB.M
set_option maxHeartbeats 4000000
/-! M8: k76: the drawn function. -/
namespace PB.M
open PySem PB K76 PB.Q
variable {n m c : Nat} {pen : D}
abbrev F13 (pen : D) (n : Nat) (x2 w x5 x6 x7 x8 x9 : Option D) : En := [some pen, some (.int (n : Int)), x2, w, some (.int ((2 ^ n : Nat) : Int)), x5, x6, x7, x8, x9, none, none, none]
abbrev dF : DefI := d__law_function
abbrev ifA : C → C | .ife _ a _ => a | c => c
abbrev f1 : C := sqB c__law_function
abbrev f2 : C := sqB f1
abbrev f3 : C := sqB f2
abbrev f4 : C := sqB f3
abbrev f5 : C := sqB f4
abbrev f6 : C := sqB f5
def IsBit (y : D) : Prop := ∃ b, y = .int (b1 b)
/-- what a way gives -/
def Gives (n c : Nat) (o : Option Out) : Prop := ∃ f e' pen', o = some (.rt (FD n f) e') ∧ rdS e' 0 = some pen' ∧ PenOk (c + 40) pen'
theorem bit_at {l : List D} (h : ∀ d ∈ l, IsBit d) {j : Nat} (hj : j < l.length) : idxD (.lst l) (.int (j : Int)) = some (.int (b1 (bitOf l j))) := by
  obtain ⟨b, hb⟩ := h l[j] (List.getElem_mem hj)
  have e : bitOf l j = b := by
    unfold bitOf
    rw [List.getElem?_eq_getElem hj, hb]
    cases b <;> rfl
  show atD l (j : Int) = _
  unfold atD ixOf
  rw [if_pos (by omega), if_pos (by omega)]
  show l[j]? = _
  rw [List.getElem?_eq_getElem hj, hb, e]
theorem draw2 {k : Int} (h0 : 0 ≤ k) (h : k < 2) : IsBit (.int k) := by
  rcases (by omega : k = 0 ∨ k = 1) with rfl | rfl
  · exact ⟨false, rfl⟩
  · exact ⟨true, rfl⟩
theorem pI2 (hn : n ≤ 5) : 0 < ((2 ^ n : Nat) : Int) ∧ ((2 ^ n : Nat) : Int) < 1073741824 := by
  have := pI hn
  exact ⟨Int.ofNat_lt.mpr (Nat.pow_pos (by omega)), by omega⟩
theorem b_range6 (h : n ≤ 6) : bi .range [.int (n : Int)] = some (.lst ((List.range n).map fun i : Nat => D.int (i : Int))) := by
  by_cases q : n ≤ 5
  · exact b_range q
  · have : n = 6 := by omega
    subst this
    kernel_rfl
theorem lones_fin (m : Nat) : ((List.range 32).all fun k => okD (callN T (m + 1) 51 none [.int (k : Int)]) (.int (pc k : Int))) = true := by kernel_rfl
theorem lones_ok (m : Nat) {k : Nat} (hk : k < 32) : ∃ o, callN T (m + 1) 51 none [.int (k : Int)] = some (.ok (.int (pc k : Int)) o) := okD_ok (List.all_eq_true.mp (lones_fin m) k (List.mem_range.mpr hk))
theorem pc_fin : ∀ n, n < 6 → ∀ p, p < 2 ^ n → pc p ≤ n := by decide +kernel
theorem rdS0 {a : Option D} {l : En} : rdS (a :: l) 0 = a := by cases a <;> rfl
/-- the bits of the numbers of ones -/
theorem way0 (hn : n ≤ 5) (hp : PenOk c pen) (hc : c < 9000) {w : Option D} : Gives n c (exec (ifA (sqA f1)) (gG (m + 1) dF) (F13 pen n none w none none none none none)) := by
  obtain ⟨l, p1, a1, a2, a3, a4⟩ := lc_pen (G := gG (m + 1) dF) (e := F13 pen n none w none none none none none) (e0 := F13 pen n none w none none none none none) (v := 10) (it := .blt .range (.cons (.op .add (.var 1) (.cst (.int 1))) (.nil))) (elt := .call 49 (.cons (.loc 0) (.cons (.cst (.int 2)) (.nil)))) (Pv := IsBit) (by decide) (by show _ < 13; omega) rfl
    (Ev.blt1 (Ev.op (z := .int ((n + 1 : Nat) : Int)) (Ev.var rfl rfl) (Ev.cst rfl) rfl) (b_range6 (by omega))) hp (fun d _ c' p hp' hc' => by
      rw [len_map] at hc'
      obtain ⟨k, p', q1, q2, q3, q4⟩ := ev_draw (n := m) (s := 0) (dd := dF) (cc := .cst (.int 2)) (e := [some p, some (.int (n : Int)), none, w, some (.int ((2 ^ n : Nat) : Int)), none, none, none, none, none, some d, none, none]) (m := 2) hp' (by omega) (by omega) (by omega) rfl rfl (Ev.cst rfl)
      exact ⟨_, p', q4, draw2 q2 q3, q1⟩) (by rw [len_map]; show _ ≤ 100000; omega)
  rw [len_map] at a2 a4
  have s1 : exec (sqA (ifA (sqA f1))) (gG (m + 1) dF) (F13 pen n none w none none none none none) = some (.nx (F13 p1 n none w (some (.lst l)) none none none none)) := x_asg2 a1 rfl
  have s2 : exec (sqB (ifA (sqA f1))) (gG (m + 1) dF) (F13 p1 n none w (some (.lst l)) none none none none) = some (.rt (FD n fun p => bitOf l (pc p)) (F13 p1 n none w (some (.lst l)) none none none none)) := by
    refine x_ret (Ev.blt1 (Ev.lcT (P := fun p : Nat => [some p1, some (.int (n : Int)), none, w, some (.int ((2 ^ n : Nat) : Int)), some (.lst l), none, none, none, none, none, none, some (.int (p : Int))]) (h := fun i : Nat => D.int (i : Int)) (g := fun p => D.int (b1 (bitOf l (pc p)))) (s := .lst ((List.range (2 ^ n)).map fun i : Nat => D.int (i : Int)))
      (Ev.blt1 (Ev.var rfl rfl) (b_rangeP hn)) rfl (fun _ _ => rfl) (fun _ _ => rfl) (fun _ => rfl) rfl (fun p hp => ?_) (small hn (g := fun p => p))) PB.M.b_tuple)
    have hp := List.mem_range.mp hp
    obtain ⟨o, h⟩ := lones_ok m (Nat.lt_of_lt_of_le hp (p32 hn))
    have := pc_fin n (by omega) p hp
    exact Ev.idx (Ev.var rfl rfl) (Ev.call (d := d__law_ones) rfl rfl (Ev.cons (Ev.var rfl rfl) Ev.nil) h) (bit_at a3 (by omega))
  exact ⟨_, _, p1, x_seq (a := sqA (ifA (sqA f1))) (b := sqB (ifA (sqA f1))) s1 s2, rfl, a4.mono (by omega)⟩
theorem nats_of {N : Nat} : ∀ {l : List D}, (∀ y ∈ l, ∃ j : Nat, j < N ∧ y = .int (j : Int)) → ∃ ks : List Nat, l = ks.map (fun j : Nat => D.int (j : Int)) ∧ ks.length = l.length
  | [], _ => ⟨[], rfl, rfl⟩
  | y :: l, h => by
    obtain ⟨ks, h1, h2⟩ := nats_of fun z hz => h z (List.mem_cons_of_mem _ hz)
    obtain ⟨j, _, rfl⟩ := h y List.mem_cons_self
    exact ⟨j :: ks, by rw [h1]; rfl, by simp [h2]⟩
theorem ne_nil {L : List Nat} : op2 .ne (.lst (L.map fun j : Nat => D.int (j : Int))) (.lst []) = some (.bl (!L.isEmpty)) := by
  have : (L.map fun j : Nat => D.int (j : Int)) = (L.map fun j : Nat => (j : Int)).map .int := by rw [List.map_map]; rfl
  rw [this]
  show (if (plainL 29 ((L.map fun j : Nat => (j : Int)).map D.int) && plainL 29 []) = true then some (D.bl (!eqv (.lst ((L.map fun j : Nat => (j : Int)).map D.int)) (.lst []))) else none) = _
  rw [plainI]
  cases L <;> rfl
theorem o_eqN (a b : Nat) : op2 .eq (.int (a : Int)) (.int (b : Int)) = some (.bl ((a : Int) == (b : Int))) := rfl
/-- a draw below 2 ^ n -/
theorem drawN {e : En} {c' : Nat} {p : D} (hn : n ≤ 5) (hp : PenOk c' p) (hc : c' < 9990) (h0 : rdS e 0 = some p) (h4 : rdS e 4 = some (.int ((2 ^ n : Nat) : Int))) : ∃ (j : Nat) (p' : D), j < 2 ^ n ∧ ev (.call 49 (.cons (.loc 0) (.cons (.var 4) (.nil)))) (gG (m + 1) dF) e = some (.ok (.int (j : Int)) (e.set 0 (some p'))) ∧ PenOk (c' + 1) p' := by
  obtain ⟨k, p', q1, q2, q3, q4⟩ := ev_draw (n := m) (s := 0) (dd := dF) (cc := .var 4) (e := e) hp (by omega) (pI2 hn).1 (pI2 hn).2 rfl h0 (Ev.var rfl h4)
  obtain ⟨j, rfl⟩ := Int.eq_ofNat_of_zero_le q2
  exact ⟨j, p', by omega, q1, q4⟩
theorem way1 (hn : n ≤ 5) (hp : PenOk c pen) (hc : c < 9000) {w : Option D} : Gives n c (exec (ifA (sqA f2)) (gG (m + 1) dF) (F13 pen n none w none none none none none)) := by
  obtain ⟨k, p0, q1, q2, q3, q4⟩ := ev_draw (n := m) (s := 0) (dd := dF) (cc := .cst (.int 3)) (e := F13 pen n none w none none none none none) (m := 3) hp (by omega) (by omega) (by omega) rfl rfl (Ev.cst rfl)
  obtain ⟨k, rfl⟩ := Int.eq_ofNat_of_zero_le q2
  have hit : ev (.blt .range (.cons (.op .add (.cst (.int 1)) (.call 49 (.cons (.loc 0) (.cons (.cst (.int 3)) (.nil))))) (.nil))) (gG (m + 1) dF) (F13 pen n none w none none none none none) = some (.ok (.lst ((List.range (1 + k)).map fun i : Nat => D.int (i : Int))) (F13 p0 n none w none none none none none)) :=
    ev_blt (x := .int ((1 + k : Nat) : Int)) (ev_op (Ev.cst (v := .int 1) rfl) q1 rfl) (b_range6 (by omega))
  obtain ⟨l, p1, a1, a2, a3, a4⟩ := lc_pen (G := gG (m + 1) dF) (e := F13 pen n none w none none none none none) (e0 := F13 pen n none w none none none none none) (v := 11) (elt := .call 49 (.cons (.loc 0) (.cons (.var 4) (.nil)))) (Pv := fun y => ∃ j : Nat, j < 2 ^ n ∧ y = .int (j : Int)) (by decide) (by show _ < 13; omega) rfl
    hit q4 (fun d _ c' p hp' hc' => by
      rw [len_map] at hc'
      obtain ⟨j, p', r1, r2, r3⟩ := drawN (m := m) (e := [some p, some (.int (n : Int)), none, w, some (.int ((2 ^ n : Nat) : Int)), none, none, none, none, none, none, some d, none]) hn hp' (by omega) rfl rfl
      exact ⟨_, p', r3, ⟨j, r1, rfl⟩, r2⟩) (by rw [len_map]; show _ ≤ 100000; omega)
  rw [len_map] at a2 a4
  obtain ⟨ks, rfl, hks⟩ := nats_of a3
  have s1 : exec (sqA (ifA (sqA f2))) (gG (m + 1) dF) (F13 pen n none w none none none none none) = some (.nx (F13 p1 n none w none (some (.lst (ks.map fun j : Nat => D.int (j : Int)))) none none none)) := x_asg2 a1 rfl
  have s2 : exec (sqB (ifA (sqA f2))) (gG (m + 1) dF) (F13 p1 n none w none (some (.lst (ks.map fun j : Nat => D.int (j : Int)))) none none none) = some (.rt (FD n fun p => !(ks.filter fun j => ((p &&& j : Nat) : Int) == (j : Int)).isEmpty) (F13 p1 n none w none (some (.lst (ks.map fun j : Nat => D.int (j : Int)))) none none none)) := by
    refine x_ret (Ev.blt1 (Ev.lcT (P := fun p : Nat => [some p1, some (.int (n : Int)), none, w, some (.int ((2 ^ n : Nat) : Int)), none, some (.lst (ks.map fun j : Nat => D.int (j : Int))), none, none, none, none, none, some (.int (p : Int))]) (h := fun i : Nat => D.int (i : Int)) (g := fun p => D.int (b1 (!(ks.filter fun j => ((p &&& j : Nat) : Int) == (j : Int)).isEmpty))) (s := .lst ((List.range (2 ^ n)).map fun i : Nat => D.int (i : Int)))
      (Ev.blt1 (Ev.var rfl rfl) (b_rangeP hn)) rfl (fun _ _ => rfl) (fun _ _ => rfl) (fun _ => rfl) rfl (fun p _ => ?_) (small hn (g := fun p => p))) PB.M.b_tuple)
    refine Ev.blt1 (Ev.op (Ev.lc (P := fun j : Nat => [some p1, some (.int (n : Int)), none, w, some (.int ((2 ^ n : Nat) : Int)), none, some (.lst (ks.map fun j : Nat => D.int (j : Int))), some (.int (j : Int)), none, none, none, none, some (.int (p : Int))]) (h := fun j : Nat => D.int (j : Int)) (g := fun j : Nat => D.int (j : Int)) (cc := fun j => ((p &&& j : Nat) : Int) == (j : Int))
      (Ev.var rfl rfl) rfl (fun _ _ => rfl) (fun _ _ => rfl) (fun _ => rfl) rfl (fun j _ => ⟨_, Ev.op (Ev.op (Ev.var rfl rfl) (Ev.var rfl rfl) (o_and _ _)) (Ev.var rfl rfl) (o_eqN _ _), rfl⟩) (fun j _ _ => Ev.var rfl rfl) (by show _ ≤ 100000; omega)) (Ev.lst Ev.nil) ne_nil) rfl
  exact ⟨_, _, p1, x_seq (a := sqA (ifA (sqA f2))) (b := sqB (ifA (sqA f2))) s1 s2, rfl, a4.mono (by omega)⟩
theorem and1 (k : Nat) : ((k &&& 1 : Nat) : Int) = b1 (decide (k % 2 = 1)) := by
  rw [Nat.and_one_is_mod]
  rcases Nat.mod_two_eq_zero_or_one k with h | h <;> rw [h] <;> rfl
theorem way2 (hn : n ≤ 5) (hp : PenOk c pen) (hc : c < 9000) {w : Option D} : Gives n c (exec (ifA (sqA f3)) (gG (m + 1) dF) (F13 pen n none w none none none none none)) := by
  obtain ⟨j, p0, r1, r2, r3⟩ := drawN (m := m) (e := F13 pen n none w none none none none none) hn hp (by omega) rfl rfl
  obtain ⟨k, p1, q1, q2, q3, q4⟩ := ev_draw (n := m) (s := 0) (dd := dF) (cc := .cst (.int 2)) (e := F13 p0 n none w none none none none none) (m := 2) r3 (by omega) (by omega) (by omega) rfl rfl (Ev.cst rfl)
  obtain ⟨k, rfl⟩ := Int.eq_ofNat_of_zero_le q2
  have s1 : exec (sqA (ifA (sqA f3))) (gG (m + 1) dF) (F13 pen n none w none none none none none) = some (.nx (F13 p1 n none w none none (some (.int (j : Int))) (some (.int (k : Int))) none)) := x_par2 r2 q1 rfl rfl
  have s2 : exec (sqB (ifA (sqA f3))) (gG (m + 1) dF) (F13 p1 n none w none none (some (.int (j : Int))) (some (.int (k : Int))) none) = some (.rt (FD n fun p => decide ((pc (p &&& j) + k) % 2 = 1)) (F13 p1 n none w none none (some (.int (j : Int))) (some (.int (k : Int))) none)) := by
    refine x_ret (Ev.blt1 (Ev.lcT (P := fun p : Nat => [some p1, some (.int (n : Int)), none, w, some (.int ((2 ^ n : Nat) : Int)), none, none, some (.int (j : Int)), some (.int (k : Int)), none, none, none, some (.int (p : Int))]) (h := fun i : Nat => D.int (i : Int)) (g := fun p => D.int (b1 (decide ((pc (p &&& j) + k) % 2 = 1)))) (s := .lst ((List.range (2 ^ n)).map fun i : Nat => D.int (i : Int)))
      (Ev.blt1 (Ev.var rfl rfl) (b_rangeP hn)) rfl (fun _ _ => rfl) (fun _ _ => rfl) (fun _ => rfl) rfl (fun p hp => ?_) (small hn (g := fun p => p))) PB.M.b_tuple)
    have hp := List.mem_range.mp hp
    obtain ⟨o, h⟩ := lones_ok m (k := p &&& j) (Nat.lt_of_le_of_lt Nat.and_le_left (Nat.lt_of_lt_of_le hp (p32 hn)))
    rw [← and1]
    exact Ev.op (Ev.op (z := .int ((pc (p &&& j) + k : Nat) : Int)) (Ev.call (d := d__law_ones) rfl rfl (Ev.cons (Ev.op (Ev.var rfl rfl) (Ev.var rfl rfl) (o_and _ _)) Ev.nil) h) (Ev.var rfl rfl) rfl) (Ev.cst rfl) (o_and _ 1)
  exact ⟨_, _, p1, x_seq (a := sqA (ifA (sqA f3))) (b := sqB (ifA (sqA f3))) s1 s2, rfl, q4.mono (by omega)⟩
theorem way3 (hn : n ≤ 5) (hp : PenOk c pen) (hc : c < 9000) {w : Option D} : Gives n c (exec (ifA (sqA f4)) (gG (m + 1) dF) (F13 pen n none w none none none none none)) := by
  have h32 := p32 hn
  obtain ⟨j, p0, r1, r2, r3⟩ := drawN (m := m) (e := F13 pen n none w none none none none none) hn hp (by omega) rfl rfl
  have s1 : exec (sqA (ifA (sqA f4))) (gG (m + 1) dF) (F13 pen n none w none none none none none) = some (.nx (F13 p0 n none w none none (some (.int (j : Int))) none none)) := x_asg2 r2 rfl
  obtain ⟨l, p1, a1, a2, a3, a4⟩ := lc_pen (G := gG (m + 1) dF) (e := F13 p0 n none w none none (some (.int (j : Int))) none none) (e0 := F13 p0 n none w none none (some (.int (j : Int))) none none) (v := 12) (it := .blt .range (.cons (.var 4) (.nil))) (elt := .call 49 (.cons (.loc 0) (.cons (.cst (.int 2)) (.nil)))) (Pv := IsBit) (by decide) (by show _ < 13; omega) rfl
    (Ev.blt1 (Ev.var rfl rfl) (b_rangeP hn)) r3 (fun d _ c' p hp' hc' => by
      rw [len_map] at hc'
      obtain ⟨k, p', q1, q2, q3, q4⟩ := ev_draw (n := m) (s := 0) (dd := dF) (cc := .cst (.int 2)) (e := [some p, some (.int (n : Int)), none, w, some (.int ((2 ^ n : Nat) : Int)), none, none, some (.int (j : Int)), none, none, none, none, some d]) (m := 2) hp' (by omega) (by omega) (by omega) rfl rfl (Ev.cst rfl)
      exact ⟨_, p', q4, draw2 q2 q3, q1⟩) (by rw [len_map]; show _ ≤ 100000; omega)
  rw [len_map] at a2 a4
  have s2 : exec (sqA (sqB (ifA (sqA f4)))) (gG (m + 1) dF) (F13 p0 n none w none none (some (.int (j : Int))) none none) = some (.nx (F13 p1 n none w (some (.lst l)) none (some (.int (j : Int))) none none)) := x_asg2 a1 rfl
  have s3 : exec (sqB (sqB (ifA (sqA f4)))) (gG (m + 1) dF) (F13 p1 n none w (some (.lst l)) none (some (.int (j : Int))) none none) = some (.rt (FD n fun p => bitOf l (p &&& j)) (F13 p1 n none w (some (.lst l)) none (some (.int (j : Int))) none none)) := by
    refine x_ret (Ev.blt1 (Ev.lcT (P := fun p : Nat => [some p1, some (.int (n : Int)), none, w, some (.int ((2 ^ n : Nat) : Int)), some (.lst l), none, some (.int (j : Int)), none, none, none, none, some (.int (p : Int))]) (h := fun i : Nat => D.int (i : Int)) (g := fun p => D.int (b1 (bitOf l (p &&& j)))) (s := .lst ((List.range (2 ^ n)).map fun i : Nat => D.int (i : Int)))
      (Ev.blt1 (Ev.var rfl rfl) (b_rangeP hn)) rfl (fun _ _ => rfl) (fun _ _ => rfl) (fun _ => rfl) rfl (fun p hp => ?_) (small hn (g := fun p => p))) PB.M.b_tuple)
    have hp := List.mem_range.mp hp
    have : p &&& j ≤ p := Nat.and_le_left
    exact Ev.idx (Ev.var rfl rfl) (Ev.op (Ev.var rfl rfl) (Ev.var rfl rfl) (o_and _ _)) (bit_at a3 (by omega))
  exact ⟨_, _, p1, x_seq (a := sqA (ifA (sqA f4))) (b := sqB (ifA (sqA f4))) s1 (x_seq (a := sqA (sqB (ifA (sqA f4)))) (b := sqB (sqB (ifA (sqA f4)))) s2 s3), rfl, a4.mono (by omega)⟩
theorem way4 (hn : n ≤ 5) (hp : PenOk c pen) (hc : c < 9000) {w : Option D} : Gives n c (exec (ifA (sqA f5)) (gG (m + 1) dF) (F13 pen n none w none none none none none)) := by
  obtain ⟨j, p0, r1, r2, r3⟩ := drawN (m := m) (e := F13 pen n none w none none none none none) hn hp (by omega) rfl rfl
  obtain ⟨k, p1, q1, q2, q3⟩ := drawN (m := m) (e := F13 p0 n none w none none none none none) hn r3 (by omega) rfl rfl
  have s1 : exec (sqA (ifA (sqA f5))) (gG (m + 1) dF) (F13 pen n none w none none none none none) = some (.nx (F13 p1 n none w none none (some (.int (j : Int))) none (some (.int (k : Int))))) := x_par2 r2 q2 rfl rfl
  have s2 : exec (sqB (ifA (sqA f5))) (gG (m + 1) dF) (F13 p1 n none w none none (some (.int (j : Int))) none (some (.int (k : Int)))) = some (.rt (FD n fun p => (((p ^^^ k) &&& j : Nat) : Int) == (j : Int)) (F13 p1 n none w none none (some (.int (j : Int))) none (some (.int (k : Int))))) := by
    refine x_ret (Ev.blt1 (Ev.lcT (P := fun p : Nat => [some p1, some (.int (n : Int)), none, w, some (.int ((2 ^ n : Nat) : Int)), none, none, some (.int (j : Int)), none, some (.int (k : Int)), none, none, some (.int (p : Int))]) (h := fun i : Nat => D.int (i : Int)) (g := fun p => D.int (b1 ((((p ^^^ k) &&& j : Nat) : Int) == (j : Int)))) (s := .lst ((List.range (2 ^ n)).map fun i : Nat => D.int (i : Int)))
      (Ev.blt1 (Ev.var rfl rfl) (b_rangeP hn)) rfl (fun _ _ => rfl) (fun _ _ => rfl) (fun _ => rfl) rfl (fun p _ => ?_) (small hn (g := fun p => p))) PB.M.b_tuple)
    exact Ev.blt1 (Ev.op (Ev.op (Ev.op (Ev.var rfl rfl) (Ev.var rfl rfl) (o_xor _ _)) (Ev.var rfl rfl) (o_and _ _)) (Ev.var rfl rfl) (o_eqN _ _)) rfl
  exact ⟨_, _, p1, x_seq (a := sqA (ifA (sqA f5))) (b := sqB (ifA (sqA f5))) s1 s2, rfl, q3.mono (by omega)⟩
theorem way5 (hn : n ≤ 5) (hp : PenOk c pen) (hc : c < 9000) {w : Option D} : Gives n c (exec f6 (gG (m + 1) dF) (F13 pen n none w none none none none none)) := by
  have h32 := p32 hn
  obtain ⟨k, p0, q1, q2, q3, q4⟩ := ev_draw (n := m) (s := 0) (dd := dF) (cc := .cst (.int 4)) (e := F13 pen n none w none none none none none) (m := 4) hp (by omega) (by omega) (by omega) rfl rfl (Ev.cst rfl)
  have s1 : exec (sqA f6) (gG (m + 1) dF) (F13 pen n none w none none none none none) = some (.nx (F13 p0 n (some (.int (1 + k))) w none none none none none)) := x_asg2 (ev_op (Ev.cst (v := .int 1) rfl) q1 rfl) rfl
  obtain ⟨l, p1, a1, a2, a3, a4⟩ := lc_pen (G := gG (m + 1) dF) (e := F13 p0 n (some (.int (1 + k))) w none none none none none) (e0 := F13 p0 n (some (.int (1 + k))) w none none none none none) (v := 12) (it := .blt .range (.cons (.var 4) (.nil))) (elt := .blt .int (.cons (.op .lt (.call 49 (.cons (.loc 0) (.cons (.cst (.int 5)) (.nil)))) (.var 2)) (.nil))) (Pv := IsBit) (by decide) (by show _ < 13; omega) rfl
    (Ev.blt1 (Ev.var rfl rfl) (b_rangeP hn)) q4 (fun d _ c' p hp' hc' => by
      rw [len_map] at hc'
      obtain ⟨j, p', r1, r2, r3, r4⟩ := ev_draw (n := m) (s := 0) (dd := dF) (cc := .cst (.int 5)) (e := [some p, some (.int (n : Int)), some (.int (1 + k)), w, some (.int ((2 ^ n : Nat) : Int)), none, none, none, none, none, none, none, some d]) (m := 5) hp' (by omega) (by omega) (by omega) rfl rfl (Ev.cst rfl)
      have v2 : ev (.var 2) (gG (m + 1) dF) [some p', some (.int (n : Int)), some (.int (1 + k)), w, some (.int ((2 ^ n : Nat) : Int)), none, none, none, none, none, none, none, some d] = some (.ok (.int (1 + k)) [some p', some (.int (n : Int)), some (.int (1 + k)), w, some (.int ((2 ^ n : Nat) : Int)), none, none, none, none, none, none, none, some d]) := Ev.var rfl rfl
      exact ⟨.int (b1 (decide (j < 1 + k))), p', r4, ⟨_, rfl⟩, ev_blt (ev_op (z := .bl (decide (j < 1 + k))) r1 v2 rfl) rfl⟩) (by rw [len_map]; show _ ≤ 100000; omega)
  rw [len_map] at a2 a4
  have e := bits_FL a2 a3
  have s2 : exec (sqB f6) (gG (m + 1) dF) (F13 p0 n (some (.int (1 + k))) w none none none none none) = some (.rt (.tup l) (F13 p1 n (some (.int (1 + k))) w none none none none none)) := x_ret2 (ev_blt a1 rfl)
  rw [e] at s2
  exact ⟨_, _, p1, x_seq (a := sqA f6) (b := sqB f6) s1 s2, rfl, a4.mono (by omega)⟩
theorem Gives.seq {a b : C} {G : Gx} {e : En} (h : Gives n c (exec a G e)) : Gives n c (exec (.seq a b) G e) := by
  obtain ⟨f, e', p, h1, h2, h3⟩ := h
  exact ⟨f, e', p, x_seqR h1, h2, h3⟩
theorem Gives.skip {a b : C} {G : Gx} {e : En} (h1 : exec a G e = some (.nx e)) (h : Gives n c (exec b G e)) : Gives n c (exec (.seq a b) G e) := by
  rw [x_seq h1 rfl]
  exact h
/-- the drawn function is one of n letters -/
theorem func_ok (hn : n ≤ 5) (hp : PenOk c pen) (hc : c < 8000) : ∃ f pen', callN T (m + 2) 52 none [pen, .int (n : Int)] = some (.ok (FD n f) [some pen', none]) ∧ PenOk (c + 41) pen' := by
  obtain ⟨k, p0, q1, q2, q3, q4⟩ := ev_draw (n := m) (s := 0) (dd := dF) (cc := .cst (.int 8)) (e := [some pen, some (.int (n : Int)), none, none, none, none, none, none, none, none, none, none, none]) (m := 8) hp (by omega) (by omega) (by omega) rfl rfl (Ev.cst rfl)
  have s1 : exec (sqA c__law_function) (gG (m + 1) dF) [some pen, some (.int (n : Int)), none, none, none, none, none, none, none, none, none, none, none] = some (.nx (F13 p0 n none (some (.int k)) none none none none none)) :=
    x_par2 (b := .op .shl (.cst (.int 1)) (.var 1)) q1 (Ev.op (Ev.cst rfl) (Ev.var rfl rfl) (o_shl hn)) rfl rfl
  have body : Gives n (c + 1) (exec f1 (gG (m + 1) dF) (F13 p0 n none (some (.int k)) none none none none none)) := by
    have cond : ∀ j : Int, Ev (gG (m + 1) dF) (F13 p0 n none (some (.int k)) none none none none none) (.op .eq (.var 3) (.cst (.int j))) (.bl (k == j)) := fun j => Ev.op (Ev.var rfl rfl) (Ev.cst rfl) rfl
    have yes : ∀ {a : C}, Gives n (c + 1) (exec a (gG (m + 1) dF) (F13 p0 n none (some (.int k)) none none none none none)) → ∀ j : Int, k = j → Gives n (c + 1) (exec (.ife (.op .eq (.var 3) (.cst (.int j))) a .pass) (gG (m + 1) dF) (F13 p0 n none (some (.int k)) none none none none none)) := fun {a} h j e => by
      rw [x_ifT (cond j) (by rw [e, beq_self_eq_true]; rfl) rfl]
      exact h
    have no : ∀ (a : C) (j : Int), k ≠ j → exec (.ife (.op .eq (.var 3) (.cst (.int j))) a .pass) (gG (m + 1) dF) (F13 p0 n none (some (.int k)) none none none none none) = some (.nx (F13 p0 n none (some (.int k)) none none none none none)) := fun a j e => x_ifF (cond j) (by rw [beq_eq_false_iff_ne.mpr e]; rfl) x_pass
    by_cases e0 : k = 0
    · exact Gives.seq (a := sqA f1) (b := f2) (yes (way0 hn q4 (by omega)) 0 e0)
    refine Gives.skip (a := sqA f1) (b := f2) (no _ 0 e0) ?_
    by_cases e1 : k = 1
    · exact Gives.seq (a := sqA f2) (b := f3) (yes (way1 hn q4 (by omega)) 1 e1)
    refine Gives.skip (a := sqA f2) (b := f3) (no _ 1 e1) ?_
    by_cases e2 : k = 2
    · exact Gives.seq (a := sqA f3) (b := f4) (yes (way2 hn q4 (by omega)) 2 e2)
    refine Gives.skip (a := sqA f3) (b := f4) (no _ 2 e2) ?_
    by_cases e3 : k = 3
    · exact Gives.seq (a := sqA f4) (b := f5) (yes (way3 hn q4 (by omega)) 3 e3)
    refine Gives.skip (a := sqA f4) (b := f5) (no _ 3 e3) ?_
    by_cases e4 : k = 4
    · exact Gives.seq (a := sqA f5) (b := f6) (yes (way4 hn q4 (by omega)) 4 e4)
    exact Gives.skip (a := sqA f5) (b := f6) (no _ 4 e4) (way5 hn q4 (by omega))
  obtain ⟨f, e', p, h1, h2, h3⟩ := body
  refine ⟨f, p, callT_rt (d := dF) (e := e') rfl rfl (x_seq (a := sqA c__law_function) (b := f1) s1 h1) ?_, by rw [show c + 41 = c + 1 + 40 by omega]; exact h3⟩
  show [rdS e' 0, none] = _
  rw [h2]
end PB.M
set_option maxHeartbeats 4000000
/-! P4: small facts for the law. -/
namespace PB.Q
theorem filter_sum {f : Nat → Bool} {g : Nat → Int} : ∀ N, (((List.range N).filter f).map g).sum = sm N fun p => b1 (f p) * g p
  | 0 => rfl
  | N + 1 => by
    rw [List.range_succ, List.filter_append, List.map_append, List.sum_append, filter_sum N, sm_succ]
    congr 1
    cases h : f N <;> simp [h, b1]
theorem first_fin : ∀ n, n < 6 → ∀ K, K < 2 ^ n + 1 → tot n (fun p => decide (p < K)) = (K : Int) ∧ eI n (fun p => decide (p < K)) = (hh K : Int) := by decide +kernel
theorem gap_fin : ∀ n : Nat, n < 6 → ∀ K : Nat, K < 2 ^ n + 1 → 0 ≤ ((2 ^ n : Nat) : Int) * (2 * ((n : Int) * (K : Int) - (hh K : Int))) - 4 * ((K : Int) * (((2 ^ n : Nat) : Int) - (K : Int))) := by decide +kernel
theorem clo_tur {n p : Nat} {f : Nat → Bool} (h : f p = true) : (n : Int) - clo n f p = (tur n f p : Int) := by
  unfold tur
  rw [cnt_sm]
  unfold clo
  have : sm n (fun x => b1 (f p != f (p ^^^ 2 ^ x))) = sm n (fun x => 1 - b1 (f (p ^^^ 2 ^ x))) := sm_congr fun x _ => by rw [h]; cases f (p ^^^ 2 ^ x) <;> rfl
  rw [this, sm_sub, sm_const]
  omega
theorem inf_mix {n i : Nat} (hn : n ≤ 5) (hi : i < n) (f : Nat → Bool) : inf n (fun p => f p != par p) i + inf n f i = ((2 ^ n : Nat) : Int) := by
  unfold inf
  rw [← sm_add]
  have h32 : 2 ^ n ≤ 32 := by
    have : ∀ n, n < 6 → 2 ^ n ≤ 32 := by decide
    exact this n (by omega)
  have : ∀ p, p < 2 ^ n → b1 ((f p != par p) != (f (p ^^^ 2 ^ i) != par (p ^^^ 2 ^ i))) + b1 (f p != f (p ^^^ 2 ^ i)) = 1 := fun p hp => by
    rw [par_ne p (by omega) i (by omega)]
    cases f p <;> cases f (p ^^^ 2 ^ i) <;> cases par p <;> rfl
  rw [sm_congr this, sm_const]
  omega
theorem tot_not {n : Nat} {f : Nat → Bool} : tot n (fun p => !f p) = ((2 ^ n : Nat) : Int) - tot n f := by
  unfold tot
  have : sm (2 ^ n) (fun p => b1 (!f p)) = sm (2 ^ n) (fun p => 1 - b1 (f p)) := sm_congr fun p _ => by cases f p <;> rfl
  rw [this, sm_sub, sm_const]
  omega
theorem rev_fin : ∀ n, n < 6 → ∀ k, k < 2 ^ n → k ^^^ (2 ^ n - 1) = 2 ^ n - 1 - k ∧ sp (k >>> n) = 1 := by decide +kernel
/-- signed sums of a mixed function, from behind -/
theorem wh_mix {n k : Nat} (hn : n ≤ 5) (hk : k < 2 ^ n) (f : Nat → Bool) : Wh n (fun p => 1 - 2 * b1 (f p != par p)) k = Wh n (fun p => 1 - 2 * b1 (f p)) (2 ^ n - 1 - k) := by
  have h32 : 2 ^ n ≤ 32 := by
    have : ∀ n, n < 6 → 2 ^ n ≤ 32 := by decide
    exact this n (by omega)
  obtain ⟨r1, r2⟩ := rev_fin n (by omega) k hk
  rw [Wh_turn (A := fun p => 1 - 2 * b1 (f p)) (B := fun p => 1 - 2 * b1 (f p != par p)) (fun x _ => by unfold sp; cases f x <;> cases par x <;> decide) n hn k (by omega), r1, r2, Int.one_mul]
theorem Mo_top {A : Nat → Int} {n k : Nat} (hk : k < 2 ^ n) : ∀ d, Mo (n + d) A k = Mo n A k
  | 0 => rfl
  | d + 1 => by
    show stM (n + d) (Mo (n + d) A) k = _
    unfold stM
    have : k < 2 ^ (n + d) := Nat.lt_of_lt_of_le hk (Nat.pow_le_pow_right (by omega) (by omega))
    rw [Nat.testBit_lt_two_pow this, Mo_top hk d]
    rfl
end PB.Q
set_option maxHeartbeats 4000000
/-! M9: k76: facts for the law's statements. -/
namespace PB.M
open PySem PB K76 PB.Q
variable {n m p i j k : Nat} {f g : Nat → Bool}
abbrev RL (n : Nat) (f : Nat → Bool) : List Nat := (List.range (2 ^ n)).filter f
theorem RL_mem (h : p ∈ RL n f) : p < 2 ^ n ∧ f p = true := ⟨List.mem_range.mp (List.mem_filter.mp h).1, (List.mem_filter.mp h).2⟩
theorem RL_len (hn : n ≤ 5) : (RL n f).length ≤ lim := by
  have a : (RL n f).length ≤ (List.range (2 ^ n)).length := List.length_filter_le f _
  rw [List.length_range] at a
  have := p32 hn
  show _ ≤ 100000
  omega
theorem closes_eq : closes n f = (RL n f).map (clo n f) := rfl
theorem infl_eq (hn : n ≤ 5) : sm n (inf n f) = 2 * ((RL n f).map fun p => (n : Int) - clo n f p).sum := by
  rw [filter_sum, all_inf2, all_inf hn]
theorem mxI_append : ∀ (l r : List Int) (a : Int), mxI a (l ++ r) = mxI (mxI a l) r
  | [], r, a => rfl
  | x :: l, r, a => mxI_append l r (if a < x then x else a)
theorem closes_nn : ∀ x ∈ closes n f, 0 ≤ x ∧ x ≤ n := fun x hx => by
  obtain ⟨p, _, rfl⟩ := List.mem_map.mp hx
  exact clo_nn
theorem mx0_b {l : List Int} {b : Int} (h0 : 0 ≤ b) (h : ∀ x ∈ l, 0 ≤ x ∧ x ≤ b) : 0 ≤ mx0 l ∧ mx0 l ≤ b ∧ ∀ x ∈ l, x ≤ mx0 l := by
  cases l with
  | nil => exact ⟨Int.le_refl _, h0, fun x hx => by cases hx⟩
  | cons y l =>
    obtain ⟨a1, a2, a3⟩ := mxI_spec l y
    have hy := h y List.mem_cons_self
    refine ⟨Int.le_trans hy.1 a2, ?_, fun x hx => ?_⟩
    · show mxI y l ≤ b
      rcases a1 with e | e
      · rw [e]; exact hy.2
      · exact (h _ (List.mem_cons_of_mem _ e)).2
    · rcases List.mem_cons.mp hx with rfl | hx
      · exact a2
      · exact a3 x hx
theorem mn0_b {l : List Int} {b : Int} (h0 : 0 ≤ b) (h : ∀ x ∈ l, 0 ≤ x ∧ x ≤ b) : 0 ≤ mn0 l ∧ mn0 l ≤ b ∧ ∀ x ∈ l, mn0 l ≤ x := by
  cases l with
  | nil => exact ⟨Int.le_refl _, h0, fun x hx => by cases hx⟩
  | cons y l =>
    obtain ⟨a1, a2, a3⟩ := mnI_spec l y
    have hy := h y List.mem_cons_self
    refine ⟨?_, Int.le_trans a2 hy.2, fun x hx => ?_⟩
    · show 0 ≤ mnI y l
      rcases a1 with e | e
      · rw [e]; exact hy.1
      · exact (h _ (List.mem_cons_of_mem _ e)).1
    · rcases List.mem_cons.mp hx with rfl | hx
      · exact a2
      · exact a3 x hx
/-- max(l + [0]) -/
theorem max_app {l : List Int} (h : ∀ x ∈ l, 0 ≤ x) : bi .max [.lst ((l ++ [0]).map .int)] = some (.int (mx0 l)) := by
  cases l with
  | nil => exact max_int 0 []
  | cons x l =>
    show bi .max [.lst ((x :: (l ++ [0])).map .int)] = _
    rw [max_int x (l ++ [0]), mxI_append]
    have : 0 ≤ mxI x l := Int.le_trans (h x List.mem_cons_self) (mxI_spec l x).2.1
    show some (D.int (if mxI x l < 0 then 0 else mxI x l)) = _
    rw [if_neg (by omega)]
    rfl
theorem add_lst {x y : List D} (h : x.length + y.length ≤ lim) : op2 .add (.lst x) (.lst y) = some (.lst (x ++ y)) := by
  show (if x.length + y.length ≤ lim then some (D.lst (x ++ y)) else none) = _
  rw [if_pos h]
theorem add_close (hn : n ≤ 5) : op2 .add (.lst ((RL n f).map fun p => D.int (clo n f p))) (.lst [.int 0]) = some (.lst ((closes n f ++ [0]).map .int)) := by
  have a : (RL n f).length ≤ (List.range (2 ^ n)).length := List.length_filter_le f _
  rw [List.length_range] at a
  have := p32 hn
  rw [add_lst (by rw [List.length_map, List.length_singleton]; show _ ≤ 100000; omega), map_int, List.map_append]
  rfl
theorem add_out (hn : n ≤ 5) {t : Nat → Int} : op2 .add (.lst [.int 0]) (.lst ((RL n f).map fun p => D.int (t p))) = some (.lst ((0 :: (RL n f).map t).map .int)) := by
  have a : (RL n f).length ≤ (List.range (2 ^ n)).length := List.length_filter_le f _
  rw [List.length_range] at a
  have := p32 hn
  rw [add_lst (by rw [List.length_map, List.length_singleton]; show _ ≤ 100000; omega), map_int]
  rfl
mutual
theorem eqv_rfl : ∀ d : D, (∀ t kvs, d ≠ .dic t kvs) → (∀ l, d ≠ .lst l) → (∀ l, d ≠ .tup l) → eqv d d = true
  | .non, _, _, _ => by simp [eqv]
  | .bl b, _, _, _ => by simp [eqv]
  | .int i, _, _, _ => by simp [eqv]
  | .str x, _, _, _ => by simp [eqv]
  | .tup l, _, _, h => absurd rfl (h l)
  | .lst l, _, h, _ => absurd rfl (h l)
  | .dic t kvs, h, _, _ => absurd rfl (h t kvs)
end
theorem eqvL_int : ∀ l : List Int, eqvL (l.map .int) (l.map .int) = true
  | [] => rfl
  | x :: l => by
    show ((x == x) && eqvL (l.map .int) (l.map .int)) = true
    rw [beq_self_eq_true, eqvL_int l]
    rfl
theorem ne_lst (l : List Int) : op2 .ne (.lst (l.map .int)) (.lst (l.map .int)) = some (.bl false) := by
  show (if (plainL 29 (l.map D.int) && plainL 29 (l.map D.int)) = true then some (D.bl (!eqvL (l.map .int) (l.map .int))) else none) = _
  rw [plainI, eqvL_int]
  rfl
theorem ne_tup (l : List Int) : op2 .ne (.tup (l.map .int)) (.tup (l.map .int)) = some (.bl false) := by
  show (if (plainL 29 (l.map D.int) && plainL 29 (l.map D.int)) = true then some (D.bl (!eqvL (l.map .int) (l.map .int))) else none) = _
  rw [plainI, eqvL_int]
  rfl
theorem ne_maps {α : Type} {L : List α} {a b : α → Int} (h : ∀ x ∈ L, a x = b x) : op2 .ne (.lst (L.map fun x => D.int (a x))) (.lst (L.map fun x => D.int (b x))) = some (.bl false) := by
  have : (L.map fun x => D.int (a x)) = L.map fun x => D.int (b x) := List.map_congr_left fun x hx => by rw [h x hx]
  rw [this, map_int]
  exact ne_lst _
theorem ne_FD : op2 .ne (FD n f) (FD n f) = some (.bl false) := by
  show op2 .ne (.tup ((List.range (2 ^ n)).map fun p => D.int (b1 (f p)))) (.tup ((List.range (2 ^ n)).map fun p => D.int (b1 (f p)))) = _
  rw [map_int]
  exact ne_tup _
theorem ne_nilC : op2 .ne (.lst ((RL n f).map fun p => D.int (clo n f p))) (.lst []) = some (.bl (!(closes n f).isEmpty)) := by
  rw [map_int, ← closes_eq]
  show (if (plainL 29 ((closes n f).map D.int) && plainL 29 []) = true then some (D.bl (!eqv (.lst ((closes n f).map D.int)) (.lst []))) else none) = _
  rw [plainI]
  cases closes n f <;> rfl
theorem min_close (h : (!(closes n f).isEmpty) = true) : bi .min [.lst ((RL n f).map fun p => D.int (clo n f p))] = some (.int (mn0 (closes n f))) := by
  rw [map_int, ← closes_eq]
  cases q : closes n f with
  | nil => rw [q] at h; cases h
  | cons x l => exact min_int x l
theorem min_none (h : (!(closes n f).isEmpty) = false) : mn0 (closes n f) = 0 := by
  cases q : closes n f with
  | nil => rfl
  | cons x l => rw [q] at h; cases h
theorem mtur_b (hn : n ≤ 5) : 0 ≤ mtur n f ∧ mtur n f ≤ n ∧ ∀ p, p < 2 ^ n → (tur n f p : Int) ≤ mtur n f := by
  have tb : ∀ p, (tur n f p : Int) ≤ n := fun p => by
    have := List.countP_le_length (p := fun i => f p != f (p ^^^ 2 ^ i)) (l := List.range n)
    rw [List.length_range] at this
    exact Int.ofNat_le.mpr this
  obtain ⟨a, b, c⟩ := mx0_b (l := (List.range (2 ^ n)).map fun p => (tur n f p : Int)) (b := n) (by omega) fun x hx => by
    obtain ⟨p, _, rfl⟩ := List.mem_map.mp hx
    exact ⟨by omega, tb p⟩
  exact ⟨a, b, fun p hp => c _ (List.mem_map.mpr ⟨p, List.mem_range.mpr hp, rfl⟩)⟩
theorem out_max (hn : n ≤ 5) : decide (mtur n f < mxI 0 ((RL n f).map fun p => (tur n f p : Int))) = false := by
  obtain ⟨a, _, c⟩ := mtur_b (f := f) hn
  apply decide_eq_false
  rcases (mxI_spec ((RL n f).map fun p => (tur n f p : Int)) 0).1 with e | e
  · rw [e]; omega
  · obtain ⟨p, hp, q⟩ := List.mem_map.mp e
    have := c p (RL_mem hp).1
    omega
theorem zip_tup {A B : Nat → D} : bi .zip [.tup ((List.range n).map A), .tup ((List.range n).map B)] = some (.lst ((List.range n).map fun i => D.tup [A i, B i])) := by
  show some (D.lst (zipD ((List.range n).map A) ((List.range n).map B))) = _
  rw [zip_map]
theorem mulL (hn : n ≤ 5) : op2 .mul (.lst [.int ((2 ^ n : Nat) : Int)]) (.int (n : Int)) = some (.lst ((List.range n).map fun _ => D.int ((2 ^ n : Nat) : Int))) :=
  cases6 (P := fun n => op2 .mul (.lst [.int ((2 ^ n : Nat) : Int)]) (.int (n : Int)) = some (.lst ((List.range n).map fun _ => D.int ((2 ^ n : Nat) : Int)))) hn (by kernel_rfl) (by kernel_rfl) (by kernel_rfl) (by kernel_rfl) (by kernel_rfl) (by kernel_rfl)
theorem idxT {A : Nat → Int} (h : k < 2 ^ n) : idxD (.tup (AL n A)) (.int (k : Int)) = some (.int (A k)) := at_map h
theorem sub_rev (h : k < 2 ^ n) : op2 .sub (.int (((2 ^ n : Nat) : Int) - 1)) (.int (k : Int)) = some (.int ((2 ^ n - 1 - k : Nat) : Int)) := by
  show some (D.int (((2 ^ n : Nat) : Int) - 1 - (k : Int))) = _
  congr 2
  omega
/-- the crowded row -/
theorem crowd_ok (hn : n ≤ 5) (h : ((2 ^ n : Nat) : Int) < 2 * tot n f) : decide (mx0 (closes n f) * mx0 (closes n f) < (n : Int)) = false := by
  obtain ⟨a, b, c⟩ := mx0_b (l := closes n f) (b := n) (by omega) closes_nn
  obtain ⟨Δ, hΔ⟩ := Int.eq_ofNat_of_zero_le a
  have := crowd hn h (Δ := Δ) fun p hp hf => by
    rw [← hΔ]
    exact c _ (List.mem_map.mpr ⟨p, List.mem_filter.mpr ⟨List.mem_range.mpr hp, hf⟩, rfl⟩)
  apply decide_eq_false
  rw [hΔ, ← Int.natCast_mul]
  have := Int.ofNat_le.mpr this
  omega
theorem mx_small (hn : n ≤ 5) : op2 .mul (.int (mx0 (closes n f))) (.int (mx0 (closes n f))) = some (.int (mx0 (closes n f) * mx0 (closes n f))) := by
  obtain ⟨a, b, _⟩ := mx0_b (l := closes n f) (b := n) (by omega) closes_nn
  exact mul_ok (by omega) (by omega)
theorem mt_small (hn : n ≤ 5) : op2 .mul (.int (mtur n f)) (.int (mtur n f)) = some (.int (mtur n f * mtur n f)) := by
  obtain ⟨a, b, _⟩ := mtur_b (f := f) hn
  exact mul_ok (by omega) (by omega)
theorem deg_le (hn : n ≤ 5) : decide (mtur n f * mtur n f < mx0 (dgl n f)) = false := by
  obtain ⟨a, b, c⟩ := mtur_b (f := f) hn
  obtain ⟨S, hS⟩ := Int.eq_ofNat_of_zero_le a
  have key : ∀ x ∈ dgl n f, 0 ≤ x ∧ x ≤ mtur n f * mtur n f := fun x hx => by
    obtain ⟨k, hk, rfl⟩ := List.mem_map.mp hx
    obtain ⟨h1, h2⟩ := List.mem_filter.mp hk
    have hk2 := List.mem_range.mp h1
    have ne : Mo 5 (fun p => b1 (f p)) k ≠ 0 := by
      have := Mo_top (A := bF f) hk2 (5 - n)
      rw [show n + (5 - n) = 5 by omega] at this
      rw [show (fun p => b1 (f p)) = bF f from rfl, this]
      simpa using h2
    have := deg hn (s := S) (fun p hp => by have := c p hp; omega) hk2 ne
    rw [hS, ← Int.natCast_mul]
    exact ⟨by omega, Int.ofNat_le.mpr this⟩
  have h0 : 0 ≤ mtur n f * mtur n f := by rw [hS, ← Int.natCast_mul]; omega
  obtain ⟨_, q, _⟩ := mx0_b h0 key
  exact decide_eq_false (by omega)
theorem dlt (p K : Nat) : decide ((p : Int) < (K : Int)) = decide (p < K) := by
  by_cases h : p < K
  · rw [decide_eq_true h, decide_eq_true (by omega)]
  · rw [decide_eq_false h, decide_eq_false (by omega)]
abbrev fst (K : Nat) : Nat → Bool := fun p => decide (p < K)
theorem fst_inf (hn : n ≤ 5) {K : Nat} (hK : K ≤ 2 ^ n) : sm n (inf n (fst K)) = 2 * ((n : Int) * (K : Int) - (hh K : Int)) := by
  obtain ⟨a, b⟩ := first_fin n (by omega) K (by omega)
  rw [all_inf hn, a, b]
theorem fst_tot (hn : n ≤ 5) {K : Nat} (hK : K ≤ 2 ^ n) : tot n (fst K) = (K : Int) := (first_fin n (by omega) K (by omega)).1
theorem le_inf (hn : n ≤ 5) {K : Nat} (hK : tot n f = (K : Int)) (hK2 : K ≤ 2 ^ n) : decide (sm n (inf n f) < sm n (inf n (fst K))) = false := by
  apply decide_eq_false
  obtain ⟨K', h1, h2, h3⟩ := iso n hn f
  have : K' = K := by omega
  subst this
  rw [fst_inf hn hK2, all_inf hn, hK]
  omega
theorem fst_rise {K : Nat} : ∀ p, p < 2 ^ n → ∀ i, i < n → (!decide (p < K)) = true → (!decide (p ||| 2 ^ i < K)) = true := fun p _ i _ h => by
  have : p ≤ p ||| 2 ^ i := Nat.left_le_or
  simp only [Bool.not_eq_true', decide_eq_false_iff_not] at h ⊢
  omega
theorem fst_gap (hn : n ≤ 5) {K : Nat} (hK : K ≤ 2 ^ n) : decide (((2 ^ n : Nat) : Int) * sm n (inf n (fst K)) - 4 * (tot n (fst K) * (((2 ^ n : Nat) : Int) - tot n (fst K))) < 0) = false := by
  apply decide_eq_false
  rw [fst_inf hn hK, fst_tot hn hK]
  have := gap_fin n (by omega) K (by omega)
  omega
theorem least_ok (hn : n ≤ 5) {d : Nat} (hd : mn0 (closes n f) = (d : Int)) (h0 : 0 < d) (ht : 0 < tot n f) : decide (tot n f < ((2 ^ d : Nat) : Int)) = false := by
  obtain ⟨a, b, c⟩ := mn0_b (l := closes n f) (b := n) (by omega) closes_nn
  apply decide_eq_false
  have := least_rows hn (d := d) (by omega) (f := f) (fun p hp hf => by
    rw [← hd]
    exact c _ (List.mem_map.mpr ⟨p, List.mem_filter.mpr ⟨List.mem_range.mpr hp, hf⟩, rfl⟩)) ht
  omega
end PB.M
set_option maxHeartbeats 4000000
/-! M10: k76: the statements of the law, one by one (printed by gen76.py). -/
namespace PB.M
open PySem PB K76 PB.Q

abbrev s1 : C := .asg (.var 3) (.call 49 (.cons (.loc 1) (.cons (.cst (.int 6)) (.nil))))
abbrev s2 : C := .asg (.var 4) (.call 52 (.cons (.loc 1) (.cons (.var 3) (.nil))))
abbrev s3 : C := .asg (.var 5) (.lc [16] (.var 16) (.blt .range (.cons (.op .shl (.cst (.int 1)) (.var 3)) (.nil))) (.op .eq (.idx (.var 4) (.var 16)) (.cst (.int 1))) (.call 50 (.cons (.var 3) (.cons (.var 16) (.nil)))))
abbrev s4 : C := .asg (.var 6) (.lc [17] (.var 17) (.var 5) (.cst (.bl true)) (.call 44 (.cons (.var 4) (.cons (.var 17) (.nil)))))
abbrev s5 : C := .ife (.op .ne (.call 26 (.cons (.var 4) (.nil))) (.op .mul (.cst (.int 2)) (.blt .sum (.cons (.lc [10] (.var 10) (.var 6) (.cst (.bl true)) (.op .sub (.var 3) (.var 10))) (.nil))))) (.ret (.cst (.bl false))) (.pass)
abbrev s6 : C := .ife (.or (.op .ne (.call 46 (.cons (.var 4) (.nil))) (.blt .max (.cons (.op .add (.var 6) (.lst (.cons (.cst (.int 0)) (.nil)))) (.nil)))) (.op .ne (.call 47 (.cons (.var 4) (.nil))) (.ite (.op .ne (.var 6) (.lst (.nil))) (.blt .min (.cons (.var 6) (.nil))) (.cst (.int 0))))) (.ret (.cst (.bl false))) (.pass)
abbrev s7 : C := .asg (.var 7) (.lc [17] (.var 17) (.var 5) (.cst (.bl true)) (.call 39 (.cons (.var 4) (.cons (.var 17) (.nil)))))
abbrev s8 : C := .ife (.or (.op .ne (.lc [10] (.var 10) (.var 6) (.cst (.bl true)) (.op .sub (.var 3) (.var 10))) (.var 7)) (.op .gt (.blt .max (.cons (.op .add (.lst (.cons (.cst (.int 0)) (.nil))) (.var 7)) (.nil))) (.call 41 (.cons (.var 4) (.nil))))) (.ret (.cst (.bl false))) (.pass)
abbrev s9 : C := .fr (.var 8) (.blt .range (.cons (.var 3) (.nil))) (.seq (.asg (.var 12) (.call 42 (.cons (.var 4) (.cons (.var 8) (.nil))))) (.seq (.ife (.op .ne (.blt .sum (.cons (.var 12) (.nil))) (.call 24 (.cons (.var 4) (.cons (.var 8) (.nil))))) (.ret (.cst (.bl false))) (.pass)) (.ife (.op .ne (.var 12) (.blt .tuple (.cons (.lc [18] (.var 18) (.blt .range (.cons (.op .shl (.cst (.int 1)) (.var 3)) (.nil))) (.cst (.bl true)) (.op .bxor (.idx (.var 4) (.var 18)) (.idx (.var 4) (.op .bxor (.var 18) (.op .shl (.cst (.int 1)) (.var 8)))))) (.nil)))) (.ret (.cst (.bl false))) (.pass))))
abbrev s10 : C := .asg (.var 9) (.call 16 (.cons (.var 4) (.cons (.call 19 (.cons (.var 3) (.nil))) (.nil))))
abbrev s11 : C := .ife (.op .ne (.lc [19, 20] (.tup (.cons (.var 19) (.cons (.var 20) (.nil)))) (.blt .zip (.cons (.call 25 (.cons (.var 9) (.nil))) (.cons (.call 25 (.cons (.var 4) (.nil))) (.nil)))) (.cst (.bl true)) (.op .add (.var 19) (.var 20))) (.op .mul (.lst (.cons (.op .shl (.cst (.int 1)) (.var 3)) (.nil))) (.var 3))) (.ret (.cst (.bl false))) (.pass)
abbrev s12 : C := .par 13 14 (.call 36 (.cons (.var 4) (.nil))) (.call 36 (.cons (.var 9) (.nil)))
abbrev s13 : C := .ife (.op .ne (.blt .list (.cons (.var 14) (.nil))) (.lc [18] (.var 18) (.blt .range (.cons (.op .shl (.cst (.int 1)) (.var 3)) (.nil))) (.cst (.bl true)) (.idx (.var 13) (.op .sub (.op .sub (.op .shl (.cst (.int 1)) (.var 3)) (.cst (.int 1))) (.var 18))))) (.ret (.cst (.bl false))) (.pass)
abbrev s14 : C := .ife (.and (.op .ne (.op .mul (.cst (.int 2)) (.blt .sum (.cons (.var 4) (.nil)))) (.op .shl (.cst (.int 1)) (.var 3))) (.op .gt (.var 3) (.cst (.int 0)))) (.seq (.asg (.var 15) (.ite (.op .gt (.op .mul (.cst (.int 2)) (.blt .sum (.cons (.var 4) (.nil)))) (.op .shl (.cst (.int 1)) (.var 3))) (.var 4) (.call 14 (.cons (.var 4) (.nil))))) (.ife (.op .lt (.op .mul (.call 46 (.cons (.var 15) (.nil))) (.call 46 (.cons (.var 15) (.nil)))) (.var 3)) (.ret (.cst (.bl false))) (.pass))) (.pass)
abbrev s15 : C := .asg (.var 10) (.blt .sum (.cons (.var 4) (.nil)))
abbrev s16 : C := .asg (.var 11) (.blt .tuple (.cons (.lc [16] (.var 16) (.blt .range (.cons (.op .shl (.cst (.int 1)) (.var 3)) (.nil))) (.cst (.bl true)) (.blt .int (.cons (.op .lt (.var 16) (.var 10)) (.nil)))) (.nil)))
abbrev s17 : C := .ife (.or (.op .gt (.call 26 (.cons (.var 11) (.nil))) (.call 26 (.cons (.var 4) (.nil)))) (.op .ne (.call 28 (.cons (.var 11) (.nil))) (.call 28 (.cons (.var 4) (.nil))))) (.ret (.cst (.bl false))) (.pass)
abbrev s18 : C := .ife (.or (.op .lt (.call 29 (.cons (.var 11) (.nil))) (.cst (.int 0))) (.op .isNot (.call 21 (.cons (.blt .tuple (.cons (.lc [21] (.var 21) (.var 11) (.cst (.bl true)) (.op .sub (.cst (.int 1)) (.var 21))) (.nil))) (.nil))) (.cst (.bl true)))) (.ret (.cst (.bl false))) (.pass)
abbrev s19 : C := .ife (.and (.op .gt (.var 10) (.cst (.int 0))) (.and (.op .gt (.call 47 (.cons (.var 4) (.nil))) (.cst (.int 0))) (.op .lt (.var 10) (.op .shl (.cst (.int 1)) (.call 47 (.cons (.var 4) (.nil))))))) (.ret (.cst (.bl false))) (.pass)
abbrev s20 : C := .ife (.op .gt (.call 34 (.cons (.var 4) (.nil))) (.op .mul (.call 41 (.cons (.var 4) (.nil))) (.call 41 (.cons (.var 4) (.nil))))) (.ret (.cst (.bl false))) (.pass)
abbrev s14a : C := .asg (.var 15) (.ite (.op .gt (.op .mul (.cst (.int 2)) (.blt .sum (.cons (.var 4) (.nil)))) (.op .shl (.cst (.int 1)) (.var 3))) (.var 4) (.call 14 (.cons (.var 4) (.nil))))
abbrev s14b : C := .ife (.op .lt (.op .mul (.call 46 (.cons (.var 15) (.nil))) (.call 46 (.cons (.var 15) (.nil)))) (.var 3)) (.ret (.cst (.bl false))) (.pass)
abbrev lawB : C := .seq s1 (.seq s2 (.seq s3 (.seq s4 (.seq s5 (.seq s6 (.seq s7 (.seq s8 (.seq s9 (.seq s10 (.seq s11 (.seq s12 (.seq s13 (.seq s14 (.seq s15 (.seq s16 (.seq s17 (.seq s18 (.seq s19 (s20)))))))))))))))))))
theorem law_code : c_law = .seq (.asg (.loc 1) (.call 48 (.cons (.scr 0) (.nil)))) (.seq (.fr (.var 2) (.blt .range (.cons (.op .add (.cst (.int 3)) (.blt .min (.cons (.cst (.int 3)) (.cons (.scrLen 0) (.nil))))) (.nil))) lawB) (.ret (.cst (.bl true)))) := rfl
variable {n m K : Nat} {f : Nat → Bool} {sc pen : D} {x2 x3 x4 x5 x6 x7 x8 x9 x10 x11 x12 x13 x14 x15 x16 x17 x18 x19 x20 x21 : Option D}
abbrev gL (m : Nat) : Gx := gG (m + 7) d_law
theorem B3 (hn : n ≤ 5) : exec s3 (gL m) [some sc, some pen, x2, some (.int (n : Int)), some (FD n f), x5, x6, x7, x8, x9, x10, x11, x12, x13, x14, x15, x16, x17, x18, x19, x20, x21] = some (.nx [some sc, some pen, x2, some (.int (n : Int)), some (FD n f), some (.lst ((RL n f).map (rowD n))), x6, x7, x8, x9, x10, x11, x12, x13, x14, x15, x16, x17, x18, x19, x20, x21]) :=
  x_asg (Ev.lc (P := fun p : Nat => [some sc, some pen, x2, some (.int (n : Int)), some (FD n f), x5, x6, x7, x8, x9, x10, x11, x12, x13, x14, x15, some (.int (p : Int)), x17, x18, x19, x20, x21]) (h := fun i : Nat => D.int (i : Int)) (cc := f) (g := rowD n) (s := .lst ((List.range (2 ^ n)).map fun i : Nat => D.int (i : Int)))
    (Ev.blt1 (Ev.op (Ev.cst rfl) (Ev.var rfl rfl) (o_shl hn)) (b_rangeP hn)) rfl (fun _ _ => rfl) (fun _ _ => rfl) (fun _ => rfl) rfl (fun p hp => ⟨.bl (f p), Ev.op (Ev.idx (Ev.var rfl rfl) (Ev.var rfl rfl) (idxF (List.mem_range.mp hp))) (Ev.cst rfl) (o_eq1 _), rfl⟩) (fun p hp _ => by
      obtain ⟨⟨o, h⟩, _⟩ := row_ok (m + 6) hn (List.mem_range.mp hp)
      exact Ev.call (d := d__law_row) rfl rfl (Ev.cons (Ev.var rfl rfl) (Ev.cons (Ev.var rfl rfl) Ev.nil)) h) (small hn (g := fun p => p))) rfl
theorem B4 (hn : n ≤ 5) : exec s4 (gL m) [some sc, some pen, x2, some (.int (n : Int)), some (FD n f), some (.lst ((RL n f).map (rowD n))), x6, x7, x8, x9, x10, x11, x12, x13, x14, x15, x16, x17, x18, x19, x20, x21] = some (.nx [some sc, some pen, x2, some (.int (n : Int)), some (FD n f), some (.lst ((RL n f).map (rowD n))), some (.lst ((RL n f).map fun p => D.int (clo n f p))), x7, x8, x9, x10, x11, x12, x13, x14, x15, x16, x17, x18, x19, x20, x21]) :=
  x_asg (Ev.lcT (L := RL n f) (P := fun p : Nat => [some sc, some pen, x2, some (.int (n : Int)), some (FD n f), some (.lst ((RL n f).map (rowD n))), x6, x7, x8, x9, x10, x11, x12, x13, x14, x15, x16, some (rowD n p), x18, x19, x20, x21]) (h := rowD n) (g := fun p => D.int (clo n f p)) (s := .lst ((RL n f).map (rowD n)))
    (Ev.var rfl rfl) rfl (fun _ _ => rfl) (fun _ _ => rfl) (fun _ => rfl) rfl (fun p hp => Ev.call (d := d_close_count) rfl rfl (Ev.cons (Ev.var rfl rfl) (Ev.cons (Ev.var rfl rfl) Ev.nil)) (closec_ok (m := m) hn (RL_mem hp).1)) (RL_len hn)) rfl
theorem B5 (hn : n ≤ 5) : exec s5 (gL m) [some sc, some pen, x2, some (.int (n : Int)), some (FD n f), some (.lst ((RL n f).map (rowD n))), some (.lst ((RL n f).map fun p => D.int (clo n f p))), x7, x8, x9, x10, x11, x12, x13, x14, x15, x16, x17, x18, x19, x20, x21] = some (.nx [some sc, some pen, x2, some (.int (n : Int)), some (FD n f), some (.lst ((RL n f).map (rowD n))), some (.lst ((RL n f).map fun p => D.int (clo n f p))), x7, x8, x9, x10, x11, x12, x13, x14, x15, x16, x17, x18, x19, x20, x21]) :=
  x_ifF (Ev.op (Ev.call (d := d_all_influence) rfl rfl (Ev.cons (Ev.var rfl rfl) Ev.nil) (allinf_ok (m := m + 1) hn)) (Ev.op (Ev.cst rfl) (Ev.blt1 (Ev.lcT (L := RL n f) (P := fun p : Nat => [some sc, some pen, x2, some (.int (n : Int)), some (FD n f), some (.lst ((RL n f).map (rowD n))), some (.lst ((RL n f).map fun p => D.int (clo n f p))), x7, x8, x9, some (.int (clo n f p)), x11, x12, x13, x14, x15, x16, x17, x18, x19, x20, x21]) (h := fun p => D.int (clo n f p)) (g := fun p => D.int ((n : Int) - clo n f p)) (s := .lst ((RL n f).map fun p => D.int (clo n f p)))
    (Ev.var rfl rfl) rfl (fun _ _ => rfl) (fun _ _ => rfl) (fun _ => rfl) rfl (fun p _ => Ev.op (Ev.var rfl rfl) (Ev.var rfl rfl) rfl) (RL_len hn)) sum_int) (mul_ok (by omega) (by omega))) (by rw [infl_eq hn]; exact o_neS _)) rfl x_pass
theorem B6 (hn : n ≤ 5) : exec s6 (gL m) [some sc, some pen, x2, some (.int (n : Int)), some (FD n f), some (.lst ((RL n f).map (rowD n))), some (.lst ((RL n f).map fun p => D.int (clo n f p))), x7, x8, x9, x10, x11, x12, x13, x14, x15, x16, x17, x18, x19, x20, x21] = some (.nx [some sc, some pen, x2, some (.int (n : Int)), some (FD n f), some (.lst ((RL n f).map (rowD n))), some (.lst ((RL n f).map fun p => D.int (clo n f p))), x7, x8, x9, x10, x11, x12, x13, x14, x15, x16, x17, x18, x19, x20, x21]) :=
  x_ifF (Ev.orF (x := .bl false) (Ev.op (Ev.call (d := d_most_close) rfl rfl (Ev.cons (Ev.var rfl rfl) Ev.nil) (mostc_ok (m := m + 1) hn)) (Ev.blt1 (Ev.op (Ev.var rfl rfl) (Ev.lst (Ev.cons (Ev.cst rfl) Ev.nil)) (add_close hn)) (max_app fun x hx => (closes_nn x hx).1)) (o_neS _)) rfl
    (Ev.op (Ev.call (d := d_least_close) rfl rfl (Ev.cons (Ev.var rfl rfl) Ev.nil) (leastc_ok (m := m + 1) hn)) (Ev.ite (t := !(closes n f).isEmpty) (v := .int (mn0 (closes n f))) (Ev.op (Ev.var rfl rfl) (Ev.lst Ev.nil) ne_nilC) rfl (fun h => Ev.blt1 (Ev.var rfl rfl) (min_close h)) (fun h => by rw [min_none h]; exact Ev.cst rfl)) (o_neS _))) rfl x_pass
theorem B7 (hn : n ≤ 5) : exec s7 (gL m) [some sc, some pen, x2, some (.int (n : Int)), some (FD n f), some (.lst ((RL n f).map (rowD n))), some (.lst ((RL n f).map fun p => D.int (clo n f p))), x7, x8, x9, x10, x11, x12, x13, x14, x15, x16, x17, x18, x19, x20, x21] = some (.nx [some sc, some pen, x2, some (.int (n : Int)), some (FD n f), some (.lst ((RL n f).map (rowD n))), some (.lst ((RL n f).map fun p => D.int (clo n f p))), some (.lst ((RL n f).map fun p => D.int (tur n f p : Int))), x8, x9, x10, x11, x12, x13, x14, x15, x16, x17, x18, x19, x20, x21]) :=
  x_asg (Ev.lcT (L := RL n f) (P := fun p : Nat => [some sc, some pen, x2, some (.int (n : Int)), some (FD n f), some (.lst ((RL n f).map (rowD n))), some (.lst ((RL n f).map fun p => D.int (clo n f p))), x7, x8, x9, x10, x11, x12, x13, x14, x15, x16, some (rowD n p), x18, x19, x20, x21]) (h := rowD n) (g := fun p => D.int (tur n f p : Int)) (s := .lst ((RL n f).map (rowD n)))
    (Ev.var rfl rfl) rfl (fun _ _ => rfl) (fun _ _ => rfl) (fun _ => rfl) rfl (fun p hp => Ev.call (d := d_turn_count) rfl rfl (Ev.cons (Ev.var rfl rfl) (Ev.cons (Ev.var rfl rfl) Ev.nil)) (turn_ok (m := m) hn (RL_mem hp).1)) (RL_len hn)) rfl
theorem B8 (hn : n ≤ 5) : exec s8 (gL m) [some sc, some pen, x2, some (.int (n : Int)), some (FD n f), some (.lst ((RL n f).map (rowD n))), some (.lst ((RL n f).map fun p => D.int (clo n f p))), some (.lst ((RL n f).map fun p => D.int (tur n f p : Int))), x8, x9, x10, x11, x12, x13, x14, x15, x16, x17, x18, x19, x20, x21] = some (.nx [some sc, some pen, x2, some (.int (n : Int)), some (FD n f), some (.lst ((RL n f).map (rowD n))), some (.lst ((RL n f).map fun p => D.int (clo n f p))), some (.lst ((RL n f).map fun p => D.int (tur n f p : Int))), x8, x9, x10, x11, x12, x13, x14, x15, x16, x17, x18, x19, x20, x21]) :=
  x_ifF (Ev.orF (x := .bl false) (Ev.op (Ev.lcT (L := RL n f) (P := fun p : Nat => [some sc, some pen, x2, some (.int (n : Int)), some (FD n f), some (.lst ((RL n f).map (rowD n))), some (.lst ((RL n f).map fun p => D.int (clo n f p))), some (.lst ((RL n f).map fun p => D.int (tur n f p : Int))), x8, x9, some (.int (clo n f p)), x11, x12, x13, x14, x15, x16, x17, x18, x19, x20, x21]) (h := fun p => D.int (clo n f p)) (g := fun p => D.int ((n : Int) - clo n f p)) (s := .lst ((RL n f).map fun p => D.int (clo n f p)))
    (Ev.var rfl rfl) rfl (fun _ _ => rfl) (fun _ _ => rfl) (fun _ => rfl) rfl (fun p _ => Ev.op (Ev.var rfl rfl) (Ev.var rfl rfl) rfl) (RL_len hn)) (Ev.var rfl rfl) (ne_maps fun p hp => clo_tur (RL_mem hp).2)) rfl
    (Ev.op (z := .bl false) (Ev.blt1 (Ev.op (Ev.lst (Ev.cons (Ev.cst rfl) Ev.nil)) (Ev.var rfl rfl) (add_out hn)) (max_int 0 _)) (Ev.call (d := d_most_turns) rfl rfl (Ev.cons (Ev.var rfl rfl) Ev.nil) (mturn_ok (m := m + 1) hn)) (by
      show some (D.bl (decide (mtur n f < mxI 0 ((RL n f).map fun p => (tur n f p : Int))))) = _
      rw [out_max hn]))) rfl x_pass
theorem B9 (hn : n ≤ 5) : ∃ y8 y12, exec s9 (gL m) [some sc, some pen, x2, some (.int (n : Int)), some (FD n f), some (.lst ((RL n f).map (rowD n))), some (.lst ((RL n f).map fun p => D.int (clo n f p))), some (.lst ((RL n f).map fun p => D.int (tur n f p : Int))), x8, x9, x10, x11, x12, x13, x14, x15, x16, x17, x18, x19, x20, x21] = some (.nx [some sc, some pen, x2, some (.int (n : Int)), some (FD n f), some (.lst ((RL n f).map (rowD n))), some (.lst ((RL n f).map fun p => D.int (clo n f p))), some (.lst ((RL n f).map fun p => D.int (tur n f p : Int))), y8, x9, x10, x11, y12, x13, x14, x15, x16, x17, x18, x19, x20, x21]) := by
  obtain ⟨e', q, y8, y12, rfl⟩ : ∃ e', exec s9 (gL m) [some sc, some pen, x2, some (.int (n : Int)), some (FD n f), some (.lst ((RL n f).map (rowD n))), some (.lst ((RL n f).map fun p => D.int (clo n f p))), some (.lst ((RL n f).map fun p => D.int (tur n f p : Int))), x8, x9, x10, x11, x12, x13, x14, x15, x16, x17, x18, x19, x20, x21] = some (.nx e') ∧ ∃ y8 y12, e' = [some sc, some pen, x2, some (.int (n : Int)), some (FD n f), some (.lst ((RL n f).map (rowD n))), some (.lst ((RL n f).map fun p => D.int (clo n f p))), some (.lst ((RL n f).map fun p => D.int (tur n f p : Int))), y8, x9, x10, x11, y12, x13, x14, x15, x16, x17, x18, x19, x20, x21] := by
    refine x_for (Inv := fun e => ∃ y8 y12, e = [some sc, some pen, x2, some (.int (n : Int)), some (FD n f), some (.lst ((RL n f).map (rowD n))), some (.lst ((RL n f).map fun p => D.int (clo n f p))), some (.lst ((RL n f).map fun p => D.int (tur n f p : Int))), y8, x9, x10, x11, y12, x13, x14, x15, x16, x17, x18, x19, x20, x21]) (Ev.blt1 (Ev.var rfl rfl) (b_range hn)) rfl ⟨x8, x12, rfl⟩ fun d hd e he => ?_
    obtain ⟨i, hi, rfl⟩ := List.mem_map.mp hd
    have hi := List.mem_range.mp hi
    obtain ⟨y8, y12, rfl⟩ := he
    refine ⟨[some sc, some pen, x2, some (.int (n : Int)), some (FD n f), some (.lst ((RL n f).map (rowD n))), some (.lst ((RL n f).map fun p => D.int (clo n f p))), some (.lst ((RL n f).map fun p => D.int (tur n f p : Int))), some (.int (i : Int)), x9, x10, x11, y12, x13, x14, x15, x16, x17, x18, x19, x20, x21], rfl, [some sc, some pen, x2, some (.int (n : Int)), some (FD n f), some (.lst ((RL n f).map (rowD n))), some (.lst ((RL n f).map fun p => D.int (clo n f p))), some (.lst ((RL n f).map fun p => D.int (tur n f p : Int))), some (.int (i : Int)), x9, x10, x11, some (FD n fun p => f p != f (p ^^^ 2 ^ i)), x13, x14, x15, x16, x17, x18, x19, x20, x21], ?_, some (.int (i : Int)), some (FD n fun p => f p != f (p ^^^ 2 ^ i)), rfl⟩
    refine x_seq (x_asg (Ev.call (d := d_turned_lot) rfl rfl (Ev.cons (Ev.var rfl rfl) (Ev.cons (Ev.var rfl rfl) Ev.nil)) (lot_ok (m := m + 1) hn hi)) rfl) (x_seq (x_ifF (Ev.op (Ev.blt1 (Ev.var rfl rfl) sumF) (Ev.call (d := d_influence) rfl rfl (Ev.cons (Ev.var rfl rfl) (Ev.cons (Ev.var rfl rfl) Ev.nil)) (infl_ok (m := m + 1) hn hi)) (o_neS _)) rfl x_pass) (x_ifF (Ev.op (Ev.var rfl rfl) (Ev.blt1 (Ev.lcT (P := fun k : Nat => [some sc, some pen, x2, some (.int (n : Int)), some (FD n f), some (.lst ((RL n f).map (rowD n))), some (.lst ((RL n f).map fun p => D.int (clo n f p))), some (.lst ((RL n f).map fun p => D.int (tur n f p : Int))), some (.int (i : Int)), x9, x10, x11, some (FD n fun p => f p != f (p ^^^ 2 ^ i)), x13, x14, x15, x16, x17, some (.int (k : Int)), x19, x20, x21]) (h := fun i : Nat => D.int (i : Int)) (g := fun k => D.int (b1 (f k != f (k ^^^ 2 ^ i)))) (s := .lst ((List.range (2 ^ n)).map fun i : Nat => D.int (i : Int)))
      (Ev.blt1 (Ev.op (Ev.cst rfl) (Ev.var rfl rfl) (o_shl hn)) (b_rangeP hn)) rfl (fun _ _ => rfl) (fun _ _ => rfl) (fun _ => rfl) rfl (fun k hk => Ev.op (Ev.idx (Ev.var rfl rfl) (Ev.var rfl rfl) (idxF (List.mem_range.mp hk))) (Ev.idx (Ev.var rfl rfl) (Ev.op (Ev.var rfl rfl) (Ev.op (Ev.cst rfl) (Ev.var rfl rfl) (o_shl (by omega))) (o_xor _ _)) (idxF (xlt hn (List.mem_range.mp hk) hi))) (o_xb _ _)) (small hn (g := fun p => p))) PB.M.b_tuple) ne_FD) rfl x_pass))
  exact ⟨y8, y12, q⟩
theorem B10 (hn : n ≤ 5) : exec s10 (gL m) [some sc, some pen, x2, some (.int (n : Int)), some (FD n f), some (.lst ((RL n f).map (rowD n))), some (.lst ((RL n f).map fun p => D.int (clo n f p))), some (.lst ((RL n f).map fun p => D.int (tur n f p : Int))), x8, x9, x10, x11, x12, x13, x14, x15, x16, x17, x18, x19, x20, x21] = some (.nx [some sc, some pen, x2, some (.int (n : Int)), some (FD n f), some (.lst ((RL n f).map (rowD n))), some (.lst ((RL n f).map fun p => D.int (clo n f p))), some (.lst ((RL n f).map fun p => D.int (tur n f p : Int))), x8, some (FD n fun p => f p != par p), x10, x11, x12, x13, x14, x15, x16, x17, x18, x19, x20, x21]) := by
  obtain ⟨o, h⟩ := par_ok (m + 3) hn
  exact x_asg (Ev.call (d := d_unlike) rfl rfl (Ev.cons (Ev.var rfl rfl) (Ev.cons (Ev.call (d := d_parity_of) rfl rfl (Ev.cons (Ev.var rfl rfl) Ev.nil) h) Ev.nil)) (unlike_ok (m := m) hn)) rfl
theorem B11 (hn : n ≤ 5) : exec s11 (gL m) [some sc, some pen, x2, some (.int (n : Int)), some (FD n f), some (.lst ((RL n f).map (rowD n))), some (.lst ((RL n f).map fun p => D.int (clo n f p))), some (.lst ((RL n f).map fun p => D.int (tur n f p : Int))), x8, some (FD n fun p => f p != par p), x10, x11, x12, x13, x14, x15, x16, x17, x18, x19, x20, x21] = some (.nx [some sc, some pen, x2, some (.int (n : Int)), some (FD n f), some (.lst ((RL n f).map (rowD n))), some (.lst ((RL n f).map fun p => D.int (clo n f p))), some (.lst ((RL n f).map fun p => D.int (tur n f p : Int))), x8, some (FD n fun p => f p != par p), x10, x11, x12, x13, x14, x15, x16, x17, x18, x19, x20, x21]) :=
  x_ifF (Ev.op (Ev.lcT (L := List.range n) (P := fun i : Nat => [some sc, some pen, x2, some (.int (n : Int)), some (FD n f), some (.lst ((RL n f).map (rowD n))), some (.lst ((RL n f).map fun p => D.int (clo n f p))), some (.lst ((RL n f).map fun p => D.int (tur n f p : Int))), x8, some (FD n fun p => f p != par p), x10, x11, x12, x13, x14, x15, x16, x17, x18, some (.int (inf n (fun p => f p != par p) i)), some (.int (inf n f i)), x21]) (h := fun i : Nat => D.tup [.int (inf n (fun p => f p != par p) i), .int (inf n f i)]) (g := fun i => D.int (inf n (fun p => f p != par p) i + inf n f i)) (s := .lst ((List.range n).map fun i => D.tup [.int (inf n (fun p => f p != par p) i), .int (inf n f i)]))
    (Ev.blt2 (Ev.call (d := d_influences) rfl rfl (Ev.cons (Ev.var rfl rfl) Ev.nil) (infs_ok (m := m + 1) hn)) (Ev.call (d := d_influences) rfl rfl (Ev.cons (Ev.var rfl rfl) Ev.nil) (infs_ok (m := m + 1) hn)) zip_tup) rfl (fun _ _ => rfl) (fun _ _ => rfl) (fun _ => rfl) rfl (fun i _ => Ev.op (Ev.var rfl rfl) (Ev.var rfl rfl) rfl) (small5 hn)) (Ev.op (Ev.lst (Ev.cons (Ev.op (Ev.cst rfl) (Ev.var rfl rfl) (o_shl hn)) Ev.nil)) (Ev.var rfl rfl) (mulL hn)) (ne_maps fun i hi => inf_mix hn (List.mem_range.mp hi) f)) rfl x_pass
theorem B12 (hn : n ≤ 5) : exec s12 (gL m) [some sc, some pen, x2, some (.int (n : Int)), some (FD n f), some (.lst ((RL n f).map (rowD n))), some (.lst ((RL n f).map fun p => D.int (clo n f p))), some (.lst ((RL n f).map fun p => D.int (tur n f p : Int))), x8, some (FD n fun p => f p != par p), x10, x11, x12, x13, x14, x15, x16, x17, x18, x19, x20, x21] = some (.nx [some sc, some pen, x2, some (.int (n : Int)), some (FD n f), some (.lst ((RL n f).map (rowD n))), some (.lst ((RL n f).map fun p => D.int (clo n f p))), some (.lst ((RL n f).map fun p => D.int (tur n f p : Int))), x8, some (FD n fun p => f p != par p), x10, x11, x12, some (.tup (AL n (Wh n (sgF f)))), some (.tup (AL n (Wh n (sgF fun p => f p != par p)))), x15, x16, x17, x18, x19, x20, x21]) :=
  x_par (Ev.call (d := d_signed_sums) rfl rfl (Ev.cons (Ev.var rfl rfl) Ev.nil) (sgns_ok (m := m + 1) hn)) (Ev.call (d := d_signed_sums) rfl rfl (Ev.cons (Ev.var rfl rfl) Ev.nil) (sgns_ok (m := m + 1) hn)) rfl rfl
theorem B13 (hn : n ≤ 5) : exec s13 (gL m) [some sc, some pen, x2, some (.int (n : Int)), some (FD n f), some (.lst ((RL n f).map (rowD n))), some (.lst ((RL n f).map fun p => D.int (clo n f p))), some (.lst ((RL n f).map fun p => D.int (tur n f p : Int))), x8, some (FD n fun p => f p != par p), x10, x11, x12, some (.tup (AL n (Wh n (sgF f)))), some (.tup (AL n (Wh n (sgF fun p => f p != par p)))), x15, x16, x17, x18, x19, x20, x21] = some (.nx [some sc, some pen, x2, some (.int (n : Int)), some (FD n f), some (.lst ((RL n f).map (rowD n))), some (.lst ((RL n f).map fun p => D.int (clo n f p))), some (.lst ((RL n f).map fun p => D.int (tur n f p : Int))), x8, some (FD n fun p => f p != par p), x10, x11, x12, some (.tup (AL n (Wh n (sgF f)))), some (.tup (AL n (Wh n (sgF fun p => f p != par p)))), x15, x16, x17, x18, x19, x20, x21]) :=
  x_ifF (Ev.op (x := .lst (AL n (Wh n (sgF fun p => f p != par p)))) (Ev.blt1 (Ev.var rfl rfl) rfl) (Ev.lcT (P := fun k : Nat => [some sc, some pen, x2, some (.int (n : Int)), some (FD n f), some (.lst ((RL n f).map (rowD n))), some (.lst ((RL n f).map fun p => D.int (clo n f p))), some (.lst ((RL n f).map fun p => D.int (tur n f p : Int))), x8, some (FD n fun p => f p != par p), x10, x11, x12, some (.tup (AL n (Wh n (sgF f)))), some (.tup (AL n (Wh n (sgF fun p => f p != par p)))), x15, x16, x17, some (.int (k : Int)), x19, x20, x21]) (h := fun i : Nat => D.int (i : Int)) (g := fun k => D.int (Wh n (sgF f) (2 ^ n - 1 - k))) (s := .lst ((List.range (2 ^ n)).map fun i : Nat => D.int (i : Int)))
    (Ev.blt1 (Ev.op (Ev.cst rfl) (Ev.var rfl rfl) (o_shl hn)) (b_rangeP hn)) rfl (fun _ _ => rfl) (fun _ _ => rfl) (fun _ => rfl) rfl (fun k hk => Ev.idx (Ev.var rfl rfl) (Ev.op (Ev.op (Ev.op (Ev.cst rfl) (Ev.var rfl rfl) (o_shl hn)) (Ev.cst rfl) rfl) (Ev.var rfl rfl) (sub_rev (List.mem_range.mp hk))) (idxT (by have := List.mem_range.mp hk; omega))) (small hn (g := fun p => p))) (ne_maps fun k hk => wh_mix hn (List.mem_range.mp hk) f)) rfl x_pass
theorem B14 (hn : n ≤ 5) : ∃ y15, exec s14 (gL m) [some sc, some pen, x2, some (.int (n : Int)), some (FD n f), some (.lst ((RL n f).map (rowD n))), some (.lst ((RL n f).map fun p => D.int (clo n f p))), some (.lst ((RL n f).map fun p => D.int (tur n f p : Int))), x8, some (FD n fun p => f p != par p), x10, x11, x12, some (.tup (AL n (Wh n (sgF f)))), some (.tup (AL n (Wh n (sgF fun p => f p != par p)))), x15, x16, x17, x18, x19, x20, x21] = some (.nx [some sc, some pen, x2, some (.int (n : Int)), some (FD n f), some (.lst ((RL n f).map (rowD n))), some (.lst ((RL n f).map fun p => D.int (clo n f p))), some (.lst ((RL n f).map fun p => D.int (tur n f p : Int))), x8, some (FD n fun p => f p != par p), x10, x11, x12, some (.tup (AL n (Wh n (sgF f)))), some (.tup (AL n (Wh n (sgF fun p => f p != par p)))), y15, x16, x17, x18, x19, x20, x21]) := by
  have c1 : Ev (gL m) [some sc, some pen, x2, some (.int (n : Int)), some (FD n f), some (.lst ((RL n f).map (rowD n))), some (.lst ((RL n f).map fun p => D.int (clo n f p))), some (.lst ((RL n f).map fun p => D.int (tur n f p : Int))), x8, some (FD n fun p => f p != par p), x10, x11, x12, some (.tup (AL n (Wh n (sgF f)))), some (.tup (AL n (Wh n (sgF fun p => f p != par p)))), x15, x16, x17, x18, x19, x20, x21] (.op .ne (.op .mul (.cst (.int 2)) (.blt .sum (.cons (.var 4) (.nil)))) (.op .shl (.cst (.int 1)) (.var 3))) (.bl (!(2 * tot n f == ((2 ^ n : Nat) : Int)))) :=
    Ev.op (Ev.op (Ev.cst rfl) (Ev.blt1 (Ev.var rfl rfl) sumF) (mul_ok (by omega) (by omega))) (Ev.op (Ev.cst rfl) (Ev.var rfl rfl) (o_shl hn)) rfl
  have c2 : Ev (gL m) [some sc, some pen, x2, some (.int (n : Int)), some (FD n f), some (.lst ((RL n f).map (rowD n))), some (.lst ((RL n f).map fun p => D.int (clo n f p))), some (.lst ((RL n f).map fun p => D.int (tur n f p : Int))), x8, some (FD n fun p => f p != par p), x10, x11, x12, some (.tup (AL n (Wh n (sgF f)))), some (.tup (AL n (Wh n (sgF fun p => f p != par p)))), x15, x16, x17, x18, x19, x20, x21] (.op .gt (.var 3) (.cst (.int 0))) (.bl (decide (0 < (n : Int)))) := Ev.op (Ev.var rfl rfl) (Ev.cst rfl) rfl
  by_cases q1 : 2 * tot n f = ((2 ^ n : Nat) : Int)
  · rw [q1, beq_self_eq_true] at c1
    exact ⟨x15, x_ifF (Ev.andF c1 rfl) rfl x_pass⟩
  rw [beq_eq_false_iff_ne.mpr q1] at c1
  by_cases q2 : 0 < (n : Int)
  case neg =>
    rw [decide_eq_false q2] at c2
    exact ⟨x15, x_ifF (Ev.andT c1 rfl c2) rfl x_pass⟩
  rw [decide_eq_true q2] at c2
  have tail : ∀ g : Nat → Bool, ((2 ^ n : Nat) : Int) < 2 * tot n g → exec s14b (gL m) [some sc, some pen, x2, some (.int (n : Int)), some (FD n f), some (.lst ((RL n f).map (rowD n))), some (.lst ((RL n f).map fun p => D.int (clo n f p))), some (.lst ((RL n f).map fun p => D.int (tur n f p : Int))), x8, some (FD n fun p => f p != par p), x10, x11, x12, some (.tup (AL n (Wh n (sgF f)))), some (.tup (AL n (Wh n (sgF fun p => f p != par p)))), some (FD n g), x16, x17, x18, x19, x20, x21] = some (.nx [some sc, some pen, x2, some (.int (n : Int)), some (FD n f), some (.lst ((RL n f).map (rowD n))), some (.lst ((RL n f).map fun p => D.int (clo n f p))), some (.lst ((RL n f).map fun p => D.int (tur n f p : Int))), x8, some (FD n fun p => f p != par p), x10, x11, x12, some (.tup (AL n (Wh n (sgF f)))), some (.tup (AL n (Wh n (sgF fun p => f p != par p)))), some (FD n g), x16, x17, x18, x19, x20, x21]) := fun g hg =>
    x_ifF (Ev.op (z := .bl false) (Ev.op (Ev.call (d := d_most_close) rfl rfl (Ev.cons (Ev.var rfl rfl) Ev.nil) (mostc_ok (m := m + 1) hn)) (Ev.call (d := d_most_close) rfl rfl (Ev.cons (Ev.var rfl rfl) Ev.nil) (mostc_ok (m := m + 1) hn)) (mx_small hn)) (Ev.var rfl rfl) (by
      show some (D.bl (decide (mx0 (closes n g) * mx0 (closes n g) < (n : Int)))) = _
      rw [crowd_ok hn hg])) rfl x_pass
  have c3 : Ev (gL m) [some sc, some pen, x2, some (.int (n : Int)), some (FD n f), some (.lst ((RL n f).map (rowD n))), some (.lst ((RL n f).map fun p => D.int (clo n f p))), some (.lst ((RL n f).map fun p => D.int (tur n f p : Int))), x8, some (FD n fun p => f p != par p), x10, x11, x12, some (.tup (AL n (Wh n (sgF f)))), some (.tup (AL n (Wh n (sgF fun p => f p != par p)))), x15, x16, x17, x18, x19, x20, x21] (.op .gt (.op .mul (.cst (.int 2)) (.blt .sum (.cons (.var 4) (.nil)))) (.op .shl (.cst (.int 1)) (.var 3))) (.bl (decide (((2 ^ n : Nat) : Int) < 2 * tot n f))) :=
    Ev.op (Ev.op (Ev.cst rfl) (Ev.blt1 (Ev.var rfl rfl) sumF) (mul_ok (by omega) (by omega))) (Ev.op (Ev.cst rfl) (Ev.var rfl rfl) (o_shl hn)) rfl
  by_cases q3 : ((2 ^ n : Nat) : Int) < 2 * tot n f
  · rw [decide_eq_true q3] at c3
    exact ⟨some (FD n f), x_ifT (Ev.andT c1 rfl c2) rfl (x_seq (a := s14a) (b := s14b) (x_asg (Ev.ite (t := true) c3 rfl (fun _ => (Ev.var rfl rfl)) (fun z => by cases z)) rfl) (tail f q3))⟩
  · rw [decide_eq_false q3] at c3
    exact ⟨some (FD n fun p => !f p), x_ifT (Ev.andT c1 rfl c2) rfl (x_seq (a := s14a) (b := s14b) (x_asg (Ev.ite (t := false) c3 rfl (fun z => by cases z) (fun _ => (Ev.call (d := d_turned_value) rfl rfl (Ev.cons (Ev.var rfl rfl) Ev.nil) (turnv_ok (m := m + 1) hn)))) rfl) (tail (fun p => !f p) (by rw [tot_not]; omega)))⟩
theorem B15 (hK : tot n f = (K : Int)) : exec s15 (gL m) [some sc, some pen, x2, some (.int (n : Int)), some (FD n f), some (.lst ((RL n f).map (rowD n))), some (.lst ((RL n f).map fun p => D.int (clo n f p))), some (.lst ((RL n f).map fun p => D.int (tur n f p : Int))), x8, some (FD n fun p => f p != par p), x10, x11, x12, some (.tup (AL n (Wh n (sgF f)))), some (.tup (AL n (Wh n (sgF fun p => f p != par p)))), x15, x16, x17, x18, x19, x20, x21] = some (.nx [some sc, some pen, x2, some (.int (n : Int)), some (FD n f), some (.lst ((RL n f).map (rowD n))), some (.lst ((RL n f).map fun p => D.int (clo n f p))), some (.lst ((RL n f).map fun p => D.int (tur n f p : Int))), x8, some (FD n fun p => f p != par p), some (.int (K : Int)), x11, x12, some (.tup (AL n (Wh n (sgF f)))), some (.tup (AL n (Wh n (sgF fun p => f p != par p)))), x15, x16, x17, x18, x19, x20, x21]) :=
  x_asg (Ev.blt1 (Ev.var rfl rfl) (by rw [sumF, hK])) rfl
theorem B16 (hn : n ≤ 5) : exec s16 (gL m) [some sc, some pen, x2, some (.int (n : Int)), some (FD n f), some (.lst ((RL n f).map (rowD n))), some (.lst ((RL n f).map fun p => D.int (clo n f p))), some (.lst ((RL n f).map fun p => D.int (tur n f p : Int))), x8, some (FD n fun p => f p != par p), some (.int (K : Int)), x11, x12, some (.tup (AL n (Wh n (sgF f)))), some (.tup (AL n (Wh n (sgF fun p => f p != par p)))), x15, x16, x17, x18, x19, x20, x21] = some (.nx [some sc, some pen, x2, some (.int (n : Int)), some (FD n f), some (.lst ((RL n f).map (rowD n))), some (.lst ((RL n f).map fun p => D.int (clo n f p))), some (.lst ((RL n f).map fun p => D.int (tur n f p : Int))), x8, some (FD n fun p => f p != par p), some (.int (K : Int)), some (FD n (fst K)), x12, some (.tup (AL n (Wh n (sgF f)))), some (.tup (AL n (Wh n (sgF fun p => f p != par p)))), x15, x16, x17, x18, x19, x20, x21]) :=
  x_asg (Ev.blt1 (Ev.lcT (P := fun p : Nat => [some sc, some pen, x2, some (.int (n : Int)), some (FD n f), some (.lst ((RL n f).map (rowD n))), some (.lst ((RL n f).map fun p => D.int (clo n f p))), some (.lst ((RL n f).map fun p => D.int (tur n f p : Int))), x8, some (FD n fun p => f p != par p), some (.int (K : Int)), x11, x12, some (.tup (AL n (Wh n (sgF f)))), some (.tup (AL n (Wh n (sgF fun p => f p != par p)))), x15, some (.int (p : Int)), x17, x18, x19, x20, x21]) (h := fun i : Nat => D.int (i : Int)) (g := fun p => D.int (b1 (fst K p))) (s := .lst ((List.range (2 ^ n)).map fun i : Nat => D.int (i : Int)))
    (Ev.blt1 (Ev.op (Ev.cst rfl) (Ev.var rfl rfl) (o_shl hn)) (b_rangeP hn)) rfl (fun _ _ => rfl) (fun _ _ => rfl) (fun _ => rfl) rfl (fun p _ => Ev.blt1 (Ev.op (z := .bl (decide (p < K))) (Ev.var rfl rfl) (Ev.var rfl rfl) (by show some (D.bl (decide ((p : Int) < (K : Int)))) = _; rw [dlt])) rfl) (small hn (g := fun p => p))) PB.M.b_tuple) rfl
theorem B17 (hn : n ≤ 5) (hK : tot n f = (K : Int)) (hK2 : K ≤ 2 ^ n) : exec s17 (gL m) [some sc, some pen, x2, some (.int (n : Int)), some (FD n f), some (.lst ((RL n f).map (rowD n))), some (.lst ((RL n f).map fun p => D.int (clo n f p))), some (.lst ((RL n f).map fun p => D.int (tur n f p : Int))), x8, some (FD n fun p => f p != par p), some (.int (K : Int)), some (FD n (fst K)), x12, some (.tup (AL n (Wh n (sgF f)))), some (.tup (AL n (Wh n (sgF fun p => f p != par p)))), x15, x16, x17, x18, x19, x20, x21] = some (.nx [some sc, some pen, x2, some (.int (n : Int)), some (FD n f), some (.lst ((RL n f).map (rowD n))), some (.lst ((RL n f).map fun p => D.int (clo n f p))), some (.lst ((RL n f).map fun p => D.int (tur n f p : Int))), x8, some (FD n fun p => f p != par p), some (.int (K : Int)), some (FD n (fst K)), x12, some (.tup (AL n (Wh n (sgF f)))), some (.tup (AL n (Wh n (sgF fun p => f p != par p)))), x15, x16, x17, x18, x19, x20, x21]) :=
  x_ifF (Ev.orF (x := .bl false) (Ev.op (Ev.call (d := d_all_influence) rfl rfl (Ev.cons (Ev.var rfl rfl) Ev.nil) (allinf_ok (m := m + 1) hn)) (Ev.call (d := d_all_influence) rfl rfl (Ev.cons (Ev.var rfl rfl) Ev.nil) (allinf_ok (m := m + 1) hn)) (by
      show some (D.bl (decide (sm n (inf n f) < sm n (inf n (fst K))))) = _
      rw [le_inf hn hK hK2])) rfl
    (Ev.op (Ev.call (d := d_spread_of) rfl rfl (Ev.cons (Ev.var rfl rfl) Ev.nil) (spro_ok (m := m + 1) hn)) (Ev.call (d := d_spread_of) rfl rfl (Ev.cons (Ev.var rfl rfl) Ev.nil) (spro_ok (m := m + 1) hn)) (by rw [fst_tot hn hK2, hK]; exact o_neS _))) rfl x_pass
theorem B18 (hn : n ≤ 5) (hK : tot n f = (K : Int)) (hK2 : K ≤ 2 ^ n) : exec s18 (gL m) [some sc, some pen, x2, some (.int (n : Int)), some (FD n f), some (.lst ((RL n f).map (rowD n))), some (.lst ((RL n f).map fun p => D.int (clo n f p))), some (.lst ((RL n f).map fun p => D.int (tur n f p : Int))), x8, some (FD n fun p => f p != par p), some (.int (K : Int)), some (FD n (fst K)), x12, some (.tup (AL n (Wh n (sgF f)))), some (.tup (AL n (Wh n (sgF fun p => f p != par p)))), x15, x16, x17, x18, x19, x20, x21] = some (.nx [some sc, some pen, x2, some (.int (n : Int)), some (FD n f), some (.lst ((RL n f).map (rowD n))), some (.lst ((RL n f).map fun p => D.int (clo n f p))), some (.lst ((RL n f).map fun p => D.int (tur n f p : Int))), x8, some (FD n fun p => f p != par p), some (.int (K : Int)), some (FD n (fst K)), x12, some (.tup (AL n (Wh n (sgF f)))), some (.tup (AL n (Wh n (sgF fun p => f p != par p)))), x15, x16, x17, x18, x19, x20, x21]) :=
  x_ifF (Ev.orF (x := .bl false) (Ev.op (Ev.call (d := d_spread_gap) rfl rfl (Ev.cons (Ev.var rfl rfl) Ev.nil) (gap_ok (m := m + 1) hn)) (Ev.cst rfl) (by
      show some (D.bl (decide (((2 ^ n : Nat) : Int) * sm n (inf n (fst K)) - 4 * (tot n (fst K) * (((2 ^ n : Nat) : Int) - tot n (fst K))) < 0))) = _
      rw [fst_gap hn hK2])) rfl
    (Ev.op (Ev.call (d := d_is_rising) rfl rfl (Ev.cons (x := FD n fun p => !fst K p) (Ev.blt1 (Ev.lcT (P := fun p : Nat => [some sc, some pen, x2, some (.int (n : Int)), some (FD n f), some (.lst ((RL n f).map (rowD n))), some (.lst ((RL n f).map fun p => D.int (clo n f p))), some (.lst ((RL n f).map fun p => D.int (tur n f p : Int))), x8, some (FD n fun p => f p != par p), some (.int (K : Int)), some (FD n (fst K)), x12, some (.tup (AL n (Wh n (sgF f)))), some (.tup (AL n (Wh n (sgF fun p => f p != par p)))), x15, x16, x17, x18, x19, x20, some (.int (b1 (fst K p)))]) (h := fun p : Nat => D.int (b1 (fst K p))) (g := fun p => D.int (b1 (!fst K p))) (s := FD n (fst K))
    (Ev.var rfl rfl) rfl (fun _ _ => rfl) (fun _ _ => rfl) (fun _ => rfl) rfl (fun p _ => Ev.op (Ev.cst rfl) (Ev.var rfl rfl) (o_sub1 _)) (small hn (g := fun p => p))) PB.M.b_tuple) Ev.nil) (rise_ok (m := m + 1) hn fst_rise)) (Ev.cst rfl) rfl)) rfl x_pass
theorem B19 (hn : n ≤ 5) (hK : tot n f = (K : Int)) (hK2 : K ≤ 2 ^ n) : exec s19 (gL m) [some sc, some pen, x2, some (.int (n : Int)), some (FD n f), some (.lst ((RL n f).map (rowD n))), some (.lst ((RL n f).map fun p => D.int (clo n f p))), some (.lst ((RL n f).map fun p => D.int (tur n f p : Int))), x8, some (FD n fun p => f p != par p), some (.int (K : Int)), some (FD n (fst K)), x12, some (.tup (AL n (Wh n (sgF f)))), some (.tup (AL n (Wh n (sgF fun p => f p != par p)))), x15, x16, x17, x18, x19, x20, x21] = some (.nx [some sc, some pen, x2, some (.int (n : Int)), some (FD n f), some (.lst ((RL n f).map (rowD n))), some (.lst ((RL n f).map fun p => D.int (clo n f p))), some (.lst ((RL n f).map fun p => D.int (tur n f p : Int))), x8, some (FD n fun p => f p != par p), some (.int (K : Int)), some (FD n (fst K)), x12, some (.tup (AL n (Wh n (sgF f)))), some (.tup (AL n (Wh n (sgF fun p => f p != par p)))), x15, x16, x17, x18, x19, x20, x21]) := by
  have c1 : Ev (gL m) [some sc, some pen, x2, some (.int (n : Int)), some (FD n f), some (.lst ((RL n f).map (rowD n))), some (.lst ((RL n f).map fun p => D.int (clo n f p))), some (.lst ((RL n f).map fun p => D.int (tur n f p : Int))), x8, some (FD n fun p => f p != par p), some (.int (K : Int)), some (FD n (fst K)), x12, some (.tup (AL n (Wh n (sgF f)))), some (.tup (AL n (Wh n (sgF fun p => f p != par p)))), x15, x16, x17, x18, x19, x20, x21] (.op .gt (.var 10) (.cst (.int 0))) (.bl (decide (0 < (K : Int)))) := Ev.op (Ev.var rfl rfl) (Ev.cst rfl) rfl
  have c2 : Ev (gL m) [some sc, some pen, x2, some (.int (n : Int)), some (FD n f), some (.lst ((RL n f).map (rowD n))), some (.lst ((RL n f).map fun p => D.int (clo n f p))), some (.lst ((RL n f).map fun p => D.int (tur n f p : Int))), x8, some (FD n fun p => f p != par p), some (.int (K : Int)), some (FD n (fst K)), x12, some (.tup (AL n (Wh n (sgF f)))), some (.tup (AL n (Wh n (sgF fun p => f p != par p)))), x15, x16, x17, x18, x19, x20, x21] (.op .gt (.call 47 (.cons (.var 4) (.nil))) (.cst (.int 0))) (.bl (decide (0 < mn0 (closes n f)))) := Ev.op (Ev.call (d := d_least_close) rfl rfl (Ev.cons (Ev.var rfl rfl) Ev.nil) (leastc_ok (m := m + 1) hn)) (Ev.cst rfl) rfl
  by_cases q1 : 0 < (K : Int)
  case neg =>
    rw [decide_eq_false q1] at c1
    exact x_ifF (Ev.andF c1 rfl) rfl x_pass
  rw [decide_eq_true q1] at c1
  by_cases q2 : 0 < mn0 (closes n f)
  case neg =>
    rw [decide_eq_false q2] at c2
    exact x_ifF (Ev.andT c1 rfl (Ev.andF c2 rfl)) rfl x_pass
  rw [decide_eq_true q2] at c2
  obtain ⟨d, hd⟩ := Int.eq_ofNat_of_zero_le (Int.le_of_lt q2)
  obtain ⟨_, hb, _⟩ := mn0_b (l := closes n f) (b := n) (by omega) closes_nn
  exact x_ifF (Ev.andT c1 rfl (Ev.andT c2 rfl (Ev.op (z := .bl false) (Ev.var rfl rfl) (Ev.op (Ev.cst rfl) (Ev.call (d := d_least_close) rfl rfl (Ev.cons (Ev.var rfl rfl) Ev.nil) (leastc_ok (m := m + 1) hn)) (by rw [hd]; exact o_shl (by omega))) (by
    show some (D.bl (decide ((K : Int) < ((2 ^ d : Nat) : Int)))) = _
    rw [← hK, least_ok hn hd (by omega) (by omega)])))) rfl x_pass
theorem B20 (hn : n ≤ 5) : exec s20 (gL m) [some sc, some pen, x2, some (.int (n : Int)), some (FD n f), some (.lst ((RL n f).map (rowD n))), some (.lst ((RL n f).map fun p => D.int (clo n f p))), some (.lst ((RL n f).map fun p => D.int (tur n f p : Int))), x8, some (FD n fun p => f p != par p), some (.int (K : Int)), some (FD n (fst K)), x12, some (.tup (AL n (Wh n (sgF f)))), some (.tup (AL n (Wh n (sgF fun p => f p != par p)))), x15, x16, x17, x18, x19, x20, x21] = some (.nx [some sc, some pen, x2, some (.int (n : Int)), some (FD n f), some (.lst ((RL n f).map (rowD n))), some (.lst ((RL n f).map fun p => D.int (clo n f p))), some (.lst ((RL n f).map fun p => D.int (tur n f p : Int))), x8, some (FD n fun p => f p != par p), some (.int (K : Int)), some (FD n (fst K)), x12, some (.tup (AL n (Wh n (sgF f)))), some (.tup (AL n (Wh n (sgF fun p => f p != par p)))), x15, x16, x17, x18, x19, x20, x21]) :=
  x_ifF (Ev.op (z := .bl false) (Ev.call (d := d_degree) rfl rfl (Ev.cons (Ev.var rfl rfl) Ev.nil) (deg_ok (m := m + 1) hn)) (Ev.op (Ev.call (d := d_most_turns) rfl rfl (Ev.cons (Ev.var rfl rfl) Ev.nil) (mturn_ok (m := m + 1) hn)) (Ev.call (d := d_most_turns) rfl rfl (Ev.cons (Ev.var rfl rfl) Ev.nil) (mturn_ok (m := m + 1) hn)) (mt_small hn)) (by
    show some (D.bl (decide (mtur n f * mtur n f < mx0 (dgl n f)))) = _
    rw [deg_le hn])) rfl x_pass
end PB.M
set_option maxHeartbeats 4000000
/-! M11: k76: the law. -/
namespace PB.M
open PySem PB K76 PB.Q
variable {m : Nat} {sc : D}
def Inv (sc : D) (c : Nat) (e : En) : Prop := ∃ pen x2 x3 x4 x5 x6 x7 x8 x9 x10 x11 x12 x13 x14 x15 x16 x17 x18 x19 x20 x21, PenOk c pen ∧ e = [some sc, some pen, x2, x3, x4, x5, x6, x7, x8, x9, x10, x11, x12, x13, x14, x15, x16, x17, x18, x19, x20, x21]
theorem body_ok {c : Nat} {e : En} (h : Inv sc c e) (hc : c < 5000) : ∃ e', exec lawB (gL m) e = some (.nx e') ∧ Inv sc (c + 42) e' := by
  obtain ⟨pen, x2, x3, x4, x5, x6, x7, x8, x9, x10, x11, x12, x13, x14, x15, x16, x17, x18, x19, x20, x21, hp, rfl⟩ := h
  obtain ⟨k, p1, q1, q2, q3, q4⟩ := ev_draw (n := m + 6) (s := 1) (dd := d_law) (cc := .cst (.int 6)) (e := [some sc, some pen, x2, x3, x4, x5, x6, x7, x8, x9, x10, x11, x12, x13, x14, x15, x16, x17, x18, x19, x20, x21]) (m := 6) hp (by omega) (by omega) (by omega) rfl rfl (Ev.cst rfl)
  obtain ⟨n, rfl⟩ := Int.eq_ofNat_of_zero_le q2
  have hn : n ≤ 5 := by omega
  obtain ⟨f, p2, r1, r2⟩ := func_ok (m := m + 5) hn q4 (by omega)
  have r3 := ev_pen (n := m + 7) (f := 52) (s := 1) (dd := d_law) (c := .var 3) (x := .int (n : Int)) (e := [some sc, some p1, x2, some (.int (n : Int)), x4, x5, x6, x7, x8, x9, x10, x11, x12, x13, x14, x15, x16, x17, x18, x19, x20, x21]) rfl rfl rfl (Ev.var rfl rfl) r1
  obtain ⟨K, hK, hK2, _⟩ := iso n hn f
  have e1 : exec s1 (gL m) [some sc, some pen, x2, x3, x4, x5, x6, x7, x8, x9, x10, x11, x12, x13, x14, x15, x16, x17, x18, x19, x20, x21] = some (.nx [some sc, some p1, x2, some (.int (n : Int)), x4, x5, x6, x7, x8, x9, x10, x11, x12, x13, x14, x15, x16, x17, x18, x19, x20, x21]) := x_asg2 q1 rfl
  have e2 : exec s2 (gL m) [some sc, some p1, x2, some (.int (n : Int)), x4, x5, x6, x7, x8, x9, x10, x11, x12, x13, x14, x15, x16, x17, x18, x19, x20, x21] = some (.nx [some sc, some p2, x2, some (.int (n : Int)), some (FD n f), x5, x6, x7, x8, x9, x10, x11, x12, x13, x14, x15, x16, x17, x18, x19, x20, x21]) := x_asg2 r3 rfl
  obtain ⟨y8, y12, e9⟩ := B9 (m := m) (f := f) (sc := sc) (pen := p2) (x2 := x2) (x8 := x8) (x9 := x9) (x10 := x10) (x11 := x11) (x12 := x12) (x13 := x13) (x14 := x14) (x15 := x15) (x16 := x16) (x17 := x17) (x18 := x18) (x19 := x19) (x20 := x20) (x21 := x21) hn
  obtain ⟨y15, e14⟩ := B14 (m := m) (f := f) (sc := sc) (pen := p2) (x2 := x2) (x8 := y8) (x10 := x10) (x11 := x11) (x12 := y12) (x15 := x15) (x16 := x16) (x17 := x17) (x18 := x18) (x19 := x19) (x20 := x20) (x21 := x21) hn
  refine ⟨_, (x_seq (a := s1) e1 (x_seq (a := s2) e2 (x_seq (a := s3) (B3 hn) (x_seq (a := s4) (B4 hn) (x_seq (a := s5) (B5 hn) (x_seq (a := s6) (B6 hn) (x_seq (a := s7) (B7 hn) (x_seq (a := s8) (B8 hn) (x_seq (a := s9) e9 (x_seq (a := s10) (B10 hn) (x_seq (a := s11) (B11 hn) (x_seq (a := s12) (B12 hn) (x_seq (a := s13) (B13 hn) (x_seq (a := s14) e14 (x_seq (a := s15) (B15 hK) (x_seq (a := s16) (B16 hn) (x_seq (a := s17) (B17 hn hK hK2) (x_seq (a := s18) (B18 hn hK hK2) (x_seq (a := s19) (B19 hn hK hK2) (B20 hn)))))))))))))))))))), p2, _, _, _, _, _, _, _, _, _, _, _, _, _, _, _, _, _, _, _, _, r2.mono (by omega), rfl⟩
theorem for_cnt {st : D → En → Option En} {b : En → Option Out} (hst : ∀ d c e, Inv sc c e → ∃ e1, st d e = some e1 ∧ Inv sc c e1) (hb : ∀ c e, Inv sc c e → c < 5000 → ∃ e', b e = some (.nx e') ∧ Inv sc (c + 42) e') :
    ∀ (ds : List D) (c : Nat) (e : En), Inv sc c e → c + 42 * ds.length < 5000 → ∃ e', forE st b ds e = some (.nx e') ∧ Inv sc (c + 42 * ds.length) e'
  | [], c, e, h, _ => ⟨e, rfl, h⟩
  | d :: ds, c, e, h, hc => by
    rw [List.length_cons] at hc
    obtain ⟨e1, h1, h2⟩ := hst d c e h
    obtain ⟨e2, h3, h4⟩ := hb c e1 h2 (by omega)
    obtain ⟨e', q1, q2⟩ := for_cnt hst hb ds (c + 42) e2 h4 (by omega)
    refine ⟨e', ?_, by rw [List.length_cons, show c + 42 * (ds.length + 1) = c + 42 + 42 * ds.length by omega]; exact q2⟩
    rw [forE, h1]
    show (match b e1 with
      | some (.nx e2) => forE st b ds e2
      | some (.ct e2) => forE st b ds e2
      | some (.bk e2) => some (.nx e2)
      | o => o) = _
    rw [h3]
    exact q1
theorem pen_ok (m : Nat) (ns : List Int) : ∃ p, PenOk 0 p ∧ callN T (m + 1) 48 none [.lst (ns.map D.int)] = some (.ok p [none]) := by
  have e : ∀ L : List D, exec c__law_pen (gG m d__law_pen) [some (.lst L)] = some (.rt (penE (cutD L none (some 63)) 0 0) [some (.lst L)]) := fun L => by kernel_rfl
  have c : ∃ ns' : List Int, cutD (ns.map D.int) none (some 63) = ns'.map D.int := by
    unfold cutD
    rw [← List.map_drop, ← List.map_take]
    exact ⟨_, rfl⟩
  obtain ⟨ns', c⟩ := c
  have e := e (ns.map D.int)
  rw [c] at e
  exact ⟨_, ⟨ns', 0, 0, rfl, by omega, by omega, by omega⟩, callT_rt (d := d__law_pen) rfl rfl e rfl⟩
theorem law_true (m : Nat) (ns : List Int) : ∃ o, callN T (m + 8) 53 none [.lst (ns.map D.int)] = some (.ok (.bl true) o) := by
  obtain ⟨p0, hp0, h0⟩ := pen_ok (m + 6) ns
  let e0 : En := [some (.lst (ns.map D.int)), some p0, none, none, none, none, none, none, none, none, none, none, none, none, none, none, none, none, none, none, none, none]
  have s1 : exec (.asg (.loc 1) (.call 48 (.cons (.scr 0) (.nil)))) (gL m) (some (.lst (ns.map D.int)) :: List.replicate 21 none) = some (.nx e0) := by
    have e1 : ev (.call 48 (.cons (.scr 0) .nil)) (gL m) (some (.lst (ns.map D.int)) :: List.replicate 21 none) = match callN T (m + 7) 48 none [.lst (ns.map D.int)] with
      | none => none
      | some (.ok d o) => (backL [.frz] (.cons (.scr 0) .nil) o (some (.lst (ns.map D.int)) :: List.replicate 21 none)).map (R.ok d ·)
      | some (.xc x o) => (backL [.frz] (.cons (.scr 0) .nil) o (some (.lst (ns.map D.int)) :: List.replicate 21 none)).map (R.xc x ·) := by kernel_rfl
    obtain ⟨ns', a, r, rfl, _⟩ := hp0
    rw [h0] at e1
    rw [exec, e1]
    rfl
  -- how many turns
  have hsc : Ev (gL m) e0 (.scrLen 0) (.int ((ns.map D.int).length : Int)) := rfl
  have ht : ∃ t : Nat, t ≤ 6 ∧ Ev (gL m) e0 (.op .add (.cst (.int 3)) (.blt .min (.cons (.cst (.int 3)) (.cons (.scrLen 0) (.nil))))) (.int (t : Int)) := by
    refine ⟨3 + min 3 ns.length, by omega, Ev.op (y := .int ((min 3 ns.length : Nat) : Int)) (Ev.cst rfl) (Ev.blt2 (Ev.cst rfl) hsc ?_) ?_⟩
    · show some (D.int (if ((ns.map D.int).length : Int) < 3 then ((ns.map D.int).length : Int) else 3)) = _
      rw [List.length_map]
      congr 2
      split <;> omega
    · show some (D.int (3 + ((min 3 ns.length : Nat) : Int))) = _
      congr 2
  obtain ⟨t, ht1, ht2⟩ := ht
  have i0 : Inv (.lst (ns.map D.int)) 0 e0 := ⟨p0, none, none, none, none, none, none, none, none, none, none, none, none, none, none, none, none, none, none, none, none, hp0, rfl⟩
  obtain ⟨e', q1, q2⟩ := for_cnt (sc := .lst (ns.map D.int)) (st := asgT d_law.ks (.var 2)) (b := fun e => exec lawB (gL m) e) (fun d c e h => by
      obtain ⟨pen, x2, x3, x4, x5, x6, x7, x8, x9, x10, x11, x12, x13, x14, x15, x16, x17, x18, x19, x20, x21, h1, rfl⟩ := h
      exact ⟨[some (.lst (ns.map D.int)), some pen, some d, x3, x4, x5, x6, x7, x8, x9, x10, x11, x12, x13, x14, x15, x16, x17, x18, x19, x20, x21], rfl, pen, some d, x3, x4, x5, x6, x7, x8, x9, x10, x11, x12, x13, x14, x15, x16, x17, x18, x19, x20, x21, h1, rfl⟩) (fun c e h hc => body_ok h hc) ((List.range t).map fun i : Nat => D.int (i : Int)) 0 e0 i0 (by rw [List.length_map, List.length_range]; omega)
  have s2 : exec (.fr (.var 2) (.blt .range (.cons (.op .add (.cst (.int 3)) (.blt .min (.cons (.cst (.int 3)) (.cons (.scrLen 0) (.nil))))) (.nil))) lawB) (gL m) e0 = some (.nx e') := by
    have r : Ev (gL m) e0 (.blt .range (.cons (.op .add (.cst (.int 3)) (.blt .min (.cons (.cst (.int 3)) (.cons (.scrLen 0) (.nil))))) (.nil))) (.lst ((List.range t).map fun i : Nat => D.int (i : Int))) := Ev.blt1 ht2 (b_range6 ht1)
    unfold Ev at r
    rw [exec, r]
    exact q1
  have s3 : exec (.ret (.cst (.bl true))) (gL m) e' = some (.rt (.bl true) e') := x_ret (Ev.cst rfl)
  refine ⟨outsOf d_law.ks d_law.np e', callT_rt (d := d_law) rfl rfl ?_ rfl⟩
  show exec c_law _ _ = _
  rw [law_code]
  exact x_seq s1 (x_seq s2 s3)
end PB.M
open PySem PySem.W PySem.Calls PyProof.Rows
set_option maxHeartbeats 4000000
theorem room76 : L2.Room (3 * 8) callerA := ⟨rfl, by decide +kernel, by decide +kernel⟩
theorem PySem.Challenge.cw_askedsofew_k76_whole_lots_of_rows_and_in_holds : PySem.Challenge.rw_askedsofew_k76_whole_lots_of_rows_and_in.Holds := by
  exact holds76 (n := 8) room76 fun ns _ _ => PB.M.law_true 0 ns
