import PyProof.Rows.All
import HandS.ForMost
import HandS.Exc
import HandS.Lambda
import HandS.Walk
import HandS.TupMul
import HandS.TupAny
import HandS.Deep
import HandS.SortInts
import HandS.IsInst
import HandS.Style
import HandS.Conv
import PyProof.CallFns
import HandS.TupLen
import HandS.Flow
import HandS.Dict
import HandS.Small
import HandS.Zip
import HandS.Comp
import HandS.CallSlots
import KE.GoesMore
import PyProof.EnumMake
import KE.SortData
import KE.DataMinMax
import KE.KDictPairs
import HandS.ExcInit
import HandS.TryMany
import HandS.ExcField
import HandS.EndTab
import HandS.EndBits
import HandS.HeadHook4
import HandS.Defaults
import HandS.Head0
import HandS.Head1
import HandS.Head2
import HandS.HeadEnd
import KE.KStateDown
import PyProof.ReprLen
import PyProof.Rows.ReprOcc
import PySem.Challenge.RW_askedsofew_k90_whole_class_counts
set_option linter.all false
set_option Elab.async false
set_option maxRecDepth 1000000
set_option maxHeartbeats 4000000
/-! Ia: a small interpreter over plain values (no heap): values D, code C, evaluation. -/
namespace PB
open PySem

/-- plain values -/
inductive D where
  | non | bl (b : Bool) | int (i : Int) | str (x : Str)
  | tup (xs : List D) | lst (xs : List D) | dic (t : Bool) (kvs : List (D × D))
deriving Inhabited

/-- how a slot holds its value: shared, owned (may be changed in place), borrowed (only looked at) -/
inductive Kd where | shr | own | brw | frz
deriving DecidableEq, Inhabited

abbrev En := List (Option D)
/-- an exception: the number of its class, its fields -/
structure Exn where
  cls : Nat
  flds : List (Str × D)
deriving Inhabited
inductive R (α : Type) where
  | ok (a : α) (e : En)
  | xc (x : Exn) (e : En)
deriving Inhabited
/-- what a statement comes to -/
inductive Out where
  | nx (e : En) | rt (d : D) (e : En) | bk (e : En) | ct (e : En) | xc (x : Exn) (e : En)
deriving Inhabited
/-- what a call comes to: value or exception, the owned parameters' last values -/
inductive CO where
  | ok (d : D) (e : List (Option D))
  | xc (x : Exn) (e : List (Option D))
deriving Inhabited

/-- operators on two values -/
inductive O2 where
  | add | sub | mul | fdiv | mod | pow | shl | shr | band | bor | bxor
  | lt | le | gt | ge | eq | ne | isIn | notIn | is | isNot
deriving DecidableEq, Inhabited
/-- built-ins that hand back a value -/
inductive Bi where
  | len | sum | any | all | sorted | tuple | list | int | max | min | repr | isinstTuple | isinstList | isinstSeq | isinstInt | isinstBool | isinstStr | dict | abs | str
  | range | enum | zip
deriving DecidableEq, Inhabited

/-- the code: expressions, lists of expressions (nil, cons), targets, statements in one type -/
inductive C where
  -- expressions
  | var (i : Nat) | loc (i : Nat) | cst (d : D) | scr (i : Nat) | scrLen (i : Nat) | scrList (i : Nat) | scrCut (i : Nat) (k : Nat)
  | nil | cons (a b : C)
  | tup (a : C) | lst (a : C) | dnew (t : Bool) | disp (ks : List Str) (a : C)
  | op (o : O2) (a b : C) | neg (a : C) | not (a : C)
  | and (a b : C) | or (a b : C) | ite (c a b : C)
  | idx (a b : C) | slc (a lo hi : C) | noPart
  | call (f : Nat) (a : C) | blt (f : Bi) (a : C) | lrng (t : Bool) (a : C) | isi (f : Bi) (a : C)
  | popAt (i : Nat) (a : C) | popLast (i : Nat)
  | lc (vs : List Nat) (tg it cond elt : C)
  | lc2 (vs vs1 : List Nat) (tg it cond tg1 it1 cond1 elt : C)
  | fld (i : Nat) (f : Str)
  | lamcall (f : Nat) (body : C) | callv (i : Nat)
  -- statements
  | seq (a b : C) | pass | asg (t e : C) | par (i j : Nat) (a b : C) | par3 (i j k : Nat) (a b c : C) | drop (e : C)
  | ret (e : C) | retN | retO (i : Nat)
  | ife (c a b : C) | whl (c b : C) | fr (tg it b : C) | brk | cnt
  | raise (cls : Nat) (a : C)
  | app (i : Nat) (e : C) | stIx (i : Nat) (k e : C) | aug (i : Nat) (o : O2) (e : C)
  | tryx (b : C) (h : C) | hnil | hcons (cls : Nat) (i : Nat) (s : C) (r : C)
deriving Inhabited

/-! ### operations on values -/
def i01 (b : Bool) : Int := if b then 1 else 0
mutual
/-- == of Python -/
def eqv : D → D → Bool
  | .non, .non => true
  | .bl a, .bl b => a == b
  | .bl a, .int j => i01 a == j
  | .int i, .bl b => i == i01 b
  | .int i, .int j => i == j
  | .str x, .str y => x == y
  | .tup xs, .tup ys => eqvL xs ys
  | .lst xs, .lst ys => eqvL xs ys
  | _, _ => false
def eqvL : List D → List D → Bool
  | [], [] => true
  | x :: xs, y :: ys => eqv x y && eqvL xs ys
  | _, _ => false
end
mutual
/-- data that == speaks of: no dict, depth at most n -/
def plainD : Nat → D → Bool
  | _, .non => true
  | _, .bl _ => true
  | _, .int _ => true
  | _, .str x => PyData.strOk x
  | n, .tup xs => match n with | 0 => false | n + 1 => plainL n xs
  | n, .lst xs => match n with | 0 => false | n + 1 => plainL n xs
  | _, .dic _ _ => false
def plainL : Nat → List D → Bool
  | _, [] => true
  | n, x :: xs => plainD n x && plainL n xs
end

mutual
def toPy : D → PyData
  | .non => .none
  | .bl b => .bool b
  | .int i => .int i
  | .str x => .str x
  | .tup xs => .tuple (toPyL xs)
  | .lst xs => .list (toPyL xs)
  | .dic _ _ => .dict []
def toPyL : List D → List PyData
  | [] => []
  | x :: xs => toPy x :: toPyL xs
end
/-- the truth of a value -/
def truth : D → Bool
  | .non => false
  | .bl b => b
  | .int i => i != 0
  | .str x => x.length != 0
  | .tup xs => !xs.isEmpty
  | .lst xs => !xs.isEmpty
  | .dic _ kvs => !kvs.isEmpty
/-- .. where the model tells it -/
def truthO : D → Option Bool
  | .str x => if x.length ≤ 100000 then some (x.length != 0) else none
  | .dic true _ => none
  | d => some (truth d)
/-- an index of Python's, from behind where it is negative -/
def ixOf (n : Nat) (i : Int) : Option Nat := if 0 ≤ i then (if i < n then some i.toNat else none) else if -(n : Int) ≤ i then some (i + n).toNat else none
def atD (xs : List D) (i : Int) : Option D := (ixOf xs.length i).bind fun j => xs[j]?
/-- keys of a dict: ints and texts, or tuples of these -/
def isKey1 : D → Bool
  | .int _ => true
  | .str _ => true
  | _ => false
def isKey : Bool → D → Bool
  | false, k => isKey1 k
  | true, .tup xs => xs.all isKey1
  | true, _ => false
def keyEq1 : D → D → Bool
  | .int i, .int j => i == j
  | .str x, .str y => x == y
  | _, _ => false
def keyEqL : List D → List D → Bool
  | [], [] => true
  | x :: xs, y :: ys => keyEq1 x y && keyEqL xs ys
  | _, _ => false
def keyEq : D → D → Bool
  | .tup xs, .tup ys => keyEqL xs ys
  | x, y => keyEq1 x y
def dGet (kvs : List (D × D)) (k : D) : Option D := match kvs with
  | [] => none
  | (q, v) :: r => if keyEq q k then some v else dGet r k
def dPut (kvs : List (D × D)) (k v : D) : List (D × D) :=
  if (kvs.any fun p => keyEq p.1 k) = true then kvs.map (fun p => if keyEq p.1 k = true then (p.1, v) else p) else kvs ++ [(k, v)]
def lim : Nat := 100000
mutual
/-- x < y, where the two are alike -/
def ltT : D → D → Bool
  | .bl a, .bl b => !a && b
  | .int i, .int j => decide (i < j)
  | .str x, .str y => decide (x.cps.toList < y.cps.toList)
  | .tup xs, .tup ys => ltTL xs ys
  | .lst xs, .lst ys => ltTL xs ys
  | _, _ => false
def ltTL : List D → List D → Bool
  | [], [] => false
  | [], _ :: _ => true
  | _ :: _, [] => false
  | x :: xs, y :: ys => if eqv x y then ltTL xs ys else ltT x y
end
mutual
/-- the two can be compared place by place -/
def alikeD : D → D → Bool
  | .non, .non => true
  | .bl _, .bl _ => true
  | .int _, .int _ => true
  | .str _, .str _ => true
  | .tup xs, .tup ys => alikeL xs ys
  | .lst xs, .lst ys => alikeL xs ys
  | _, _ => false
def alikeL : List D → List D → Bool
  | x :: xs, y :: ys => alikeD x y && alikeL xs ys
  | [], _ => true
  | _ :: _, [] => true
end
def isIntD : D → Bool
  | .int _ => true
  | _ => false
def isIntT : D → Bool
  | .tup xs => xs.all isIntD
  | _ => false
/-- all alike: ints, tuples of ints, or any pair of them -/
def allAlike (l : List D) : Bool := l.all isIntD || l.all isIntT || l.all fun x => l.all fun y => alikeD x y
def isTupN : D → Bool
  | .tup (_ :: _) => true
  | _ => false
def isTupD : D → Bool
  | .tup _ => true
  | _ => false
def isNonD : D → Bool
  | .non => true
  | _ => false
/-- may be sorted: tuples with items, or no tuples, or tuples of which the first has no item -/
def srtShape (l : List D) : Bool := l.all isTupN || (l.all fun d => !isTupD d && !isNonD d) || (l.all isTupD && match l with | .tup [] :: _ => true | _ => false)
def srtOk (l : List D) : Bool := decide (l.length ≤ lim) && plainL 30 l && allAlike l && srtShape l
def insT (x : D) : List D → List D
  | [] => [x]
  | y :: r => if ltT y x then y :: insT x r else x :: y :: r
/-- sorted -/
def sortT : List D → List D
  | [] => []
  | x :: r => insT x (sortT r)
def minT (m : D) : List D → D
  | [] => m
  | x :: r => minT (if ltT x m then x else m) r
def maxT (m : D) : List D → D
  | [] => m
  | x :: r => maxT (if ltT m x then x else m) r
def isObD : D → Bool
  | .lst _ => true
  | .dic _ _ => true
  | _ => false
def mmOk (l : List D) : Bool := plainL 30 l && allAlike l && l.all fun d => !isNonD d && !isObD d
def allInt : List D → Option (List Int)
  | [] => some []
  | .int i :: r => (allInt r).map (i :: ·)
  | _ :: _ => none
def allBl : List D → Option (List Bool)
  | [] => some []
  | .bl i :: r => (allBl r).map (i :: ·)
  | _ :: _ => none
def mulOk (i j : Int) : Bool := (decide (-(2 ^ 64) < i) && decide (i < 2 ^ 64)) || (decide (-(2 ^ 64) < j) && decide (j < 2 ^ 64))
def isNon : D → Bool
  | .non => true
  | _ => false
/-- a op b -/
def op2 : O2 → D → D → Option D
  | .add, .int i, .int j => some (.int (i + j))
  | .add, .str x, .str y => if x.length + y.length ≤ lim then some (.str (x ++ y)) else none
  | .add, .tup x, .tup y => if x.length + y.length ≤ lim then some (.tup (x ++ y)) else none
  | .add, .lst x, .lst y => if x.length + y.length ≤ lim then some (.lst (x ++ y)) else none
  | .sub, .int i, .int j => some (.int (i - j))
  | .mul, .int i, .int j => if mulOk i j then some (.int (i * j)) else none
  | .mul, .tup x, .int k => if x.length * k.toNat ≤ lim && decide (k < 2 ^ 62) && decide (-(2 ^ 62) < k) then some (.tup (List.replicate k.toNat x).flatten) else none
  | .mul, .lst x, .int k => if x.length * k.toNat ≤ lim && decide (k < 2 ^ 62) && decide (-(2 ^ 62) < k) then some (.lst (List.replicate k.toNat x).flatten) else none
  | .fdiv, .int i, .int j => if decide (0 < j) && decide (j < 1073741824) then some (.int (i / j)) else none
  | .mod, .int i, .int j => if 0 < j then some (.int (i % j)) else none
  | .pow, .int i, .int j => if decide (0 ≤ j) && decide (j ≤ 1000000) && decide (i.natAbs < 2 ^ 64) then some (.int (i ^ j.toNat)) else none
  | .shl, .int i, .int j => if decide (0 ≤ j) && decide (j ≤ 1000000) && decide (i.natAbs < 2 ^ 64) then some (.int (i * 2 ^ j.toNat)) else none
  | .shr, .int i, .int j => if 0 ≤ j then some (.int (i / 2 ^ j.toNat)) else none
  | .band, .int i, .int j => if decide (0 ≤ i) && decide (0 ≤ j) then some (.int (i.toNat &&& j.toNat : Nat)) else none
  | .bor, .int i, .int j => if decide (0 ≤ i) && decide (0 ≤ j) then some (.int (i.toNat ||| j.toNat : Nat)) else none
  | .bxor, .int i, .int j => if decide (0 ≤ i) && decide (0 ≤ j) then some (.int (i.toNat ^^^ j.toNat : Nat)) else none
  | .lt, .int i, .int j => some (.bl (decide (i < j)))
  | .le, .int i, .int j => some (.bl (decide (i ≤ j)))
  | .gt, .int i, .int j => some (.bl (decide (j < i)))
  | .ge, .int i, .int j => some (.bl (decide (j ≤ i)))
  | .eq, x, y => if plainD 30 x && plainD 30 y then some (.bl (eqv x y)) else none
  | .ne, x, y => if plainD 30 x && plainD 30 y then some (.bl (!eqv x y)) else none
  | .isIn, x, .lst ys => if plainD 30 x && plainD 30 (.lst ys) then some (.bl (ys.any fun y => eqv y x)) else none
  | .notIn, x, .lst ys => if plainD 30 x && plainD 30 (.lst ys) then some (.bl (!ys.any fun y => eqv y x)) else none
  | .isIn, x, .tup ys => if plainD 0 x && plainL 0 ys then some (.bl (ys.any fun y => eqv y x)) else none
  | .notIn, x, .tup ys => if plainD 0 x && plainL 0 ys then some (.bl (!ys.any fun y => eqv y x)) else none
  | .isIn, x, .dic t kvs => if isKey t x then some (.bl (dGet kvs x).isSome) else none
  | .notIn, x, .dic t kvs => if isKey t x then some (.bl (!(dGet kvs x).isSome)) else none
  | .is, x, .non => some (.bl (isNon x))
  | .isNot, x, .non => some (.bl (!isNon x))
  | _, _, _ => none
/-- a[b] -/
def idxD : D → D → Option D
  | .lst xs, .int i => atD xs i
  | .tup xs, .int i => atD xs i
  | .dic t kvs, k => if isKey t k then dGet kvs k else none
  | _, _ => none
def sIxD (n d : Nat) : Option Int → Nat := HT.sIx n d
def cutD (xs : List D) (lo hi : Option Int) : List D := (xs.drop (HT.sIx xs.length 0 lo)).take (HT.sIx xs.length xs.length hi - HT.sIx xs.length 0 lo)
def slcD : D → Option Int → Option Int → Option D
  | .lst xs, lo, hi => some (.lst (cutD xs lo hi))
  | .tup xs, lo, hi => some (.tup (cutD xs lo hi))
  | _, _, _ => none
def enumD : Nat → List D → List D
  | _, [] => []
  | n, x :: xs => .tup [.int n, x] :: enumD (n + 1) xs
def zipD : List D → List D → List D
  | x :: xs, y :: ys => .tup [x, y] :: zipD xs ys
  | _, _ => []
def rangeD (lo : Int) : Nat → List D
  | 0 => []
  | n + 1 => .int lo :: rangeD (lo + 1) n
def rangeC (lo c : Int) : Nat → List D
  | 0 => []
  | n + 1 => .int lo :: rangeC (lo + c) c n
def seqOf : D → Option (List D)
  | .lst xs => some xs
  | .tup xs => some xs
  | _ => none
def lenD : D → Option Nat
  | .lst xs => some xs.length
  | .tup xs => some xs.length
  | .dic _ kvs => some kvs.length
  | .str x => if x.length ≤ lim then some x.length else none
  | _ => none
def isTag : Bi → D → Bool
  | .isinstTuple, .tup _ => true
  | .isinstList, .lst _ => true
  | .isinstSeq, .tup _ => true
  | .isinstSeq, .lst _ => true
  | .isinstInt, .int _ => true
  | .isinstInt, .bl _ => true
  | .isinstBool, .bl _ => true
  | .isinstStr, .str _ => true
  | _, _ => false
mutual
/-- ints that str tells -/
def showI : D → Bool
  | .int i => decide (i.natAbs.log2 < 1920)
  | .tup xs => showIL xs
  | .lst xs => showIL xs
  | _ => true
def showIL : List D → Bool
  | [] => true
  | x :: xs => showI x && showIL xs
end
def pairsOf : List D → Option (List (D × D))
  | [] => some []
  | .tup [k, v] :: r => (pairsOf r).map ((k, v) :: ·)
  | _ :: _ => none
def isLs0 : D → Bool
  | .lst _ => true
  | _ => false
def bi : Bi → List D → Option D
  | .len, [x] => (lenD x).map fun n => .int n
  | .sum, [.lst xs] => (allInt xs).map fun l => .int l.sum
  | .any, [.lst xs] => (allBl xs).map fun l => .bl (l.any id)
  | .all, [.lst xs] => (allBl xs).map fun l => .bl (l.all id)
  | .sorted, [x] => (seqOf x).bind fun l => if srtOk l then some (.lst (sortT l)) else none
  | .tuple, [x] => (seqOf x).map .tup
  | .list, [x] => (seqOf x).map .lst
  | .int, [.int i] => some (.int i)
  | .int, [.bl b] => some (.int (i01 b))
  | .max, [.int i, .int j] => some (.int (if j > i then j else i))
  | .min, [.int i, .int j] => some (.int (if j < i then j else i))
  | .min, [.lst (x :: xs)] => if mmOk (x :: xs) then some (minT x xs) else none
  | .min, [.tup (x :: xs)] => if mmOk (x :: xs) then some (minT x xs) else none
  | .max, [.lst (x :: xs)] => if mmOk (x :: xs) then some (maxT x xs) else none
  | .max, [.tup (x :: xs)] => if mmOk (x :: xs) then some (maxT x xs) else none
  | .repr, [x] => if plainD 30 x && showI x && decide ((toPy x).shown.length ≤ lim) then some (.str (toPy x).shown) else none
  | .isinstTuple, [x] => some (.bl (isTag .isinstTuple x))
  | .isinstList, [x] => some (.bl (isTag .isinstList x))
  | .isinstSeq, [x] => some (.bl (isTag .isinstSeq x))
  | .isinstInt, [x] => some (.bl (isTag .isinstInt x))
  | .isinstBool, [x] => some (.bl (isTag .isinstBool x))
  | .isinstStr, [x] => some (.bl (isTag .isinstStr x))
  | .dict, [.lst xs] => (pairsOf xs).bind fun ps => if ps.all (fun p => isKey true p.1) then some (.dic true (ps.foldl (fun acc p => dPut acc p.1 p.2) [])) else none
  | .abs, [.int i] => some (.int (if i < 0 then -i else i))
  | .range, [.int j] => if decide (-(2 ^ 62) ≤ j) && decide (j < 2 ^ 62) then some (.lst (rangeD 0 j.toNat)) else none
  | .range, [.int i, .int j] => if decide (-(2 ^ 62) ≤ i) && decide (i < 2 ^ 62) && decide (-(2 ^ 62) ≤ j) && decide (j < 2 ^ 62) then some (.lst (rangeD i (j - i).toNat)) else none
  | .range, [.int i, .int j, .int (-1)] => if decide (-(2 ^ 62) ≤ i) && decide (i < 2 ^ 62) && decide (-(2 ^ 62) ≤ j) && decide (j < 2 ^ 62) then some (.lst (rangeC i (-1) (i - j).toNat)) else none
  | .enum, [x] => (seqOf x).map fun l => .lst (enumD 0 l)
  | .zip, [x, y] => if isLs0 x == isLs0 y then (seqOf x).bind fun l => (seqOf y).map fun m => .lst (zipD l m) else none
  | _, _ => none

def isCst : D → Bool
  | .tup _ => false
  | .lst _ => false
  | .dic _ _ => false
  | _ => true
/-! ### evaluation -/
abbrev Act := Option (Exn ⊕ D)
structure Gx where
  ks : List Kd
  cf : Nat → Act → List D → Option CO
  info : Nat → List Kd
  sub : Nat → Nat → Bool
  xin : Nat → List Str
  wf : Nat
  act : Act
  ex : Option (Nat × List (Str × D))
def bnd {α β : Type} (m : Option (R α)) (f : α → En → Option (R β)) : Option (R β) := match m with
  | none => none
  | some (.ok a e) => f a e
  | some (.xc x e) => some (.xc x e)
/-- within a comprehension nothing may be raised -/
def bnd0 {α β : Type} (m : Option (R α)) (f : α → En → Option (R β)) : Option (R β) := match m with
  | some (.ok a e) => f a e
  | _ => none
def rdS (e : En) (i : Nat) : Option D := (e[i]?).join
def isLoc : C → Bool
  | .loc _ => true
  | .scr _ => true
  | _ => false
/-- no item of a list of expressions is a loc -/
def noLocs : C → Bool
  | .cons a b => !isLoc a && noLocs b
  | _ => true
def fin (c : C) (d : D) (e : En) : Option D := match c with
  | .loc i => rdS e i
  | .scr _ => none
  | _ => some d
def finT (c : C) (d : D) (e : En) : Option Bool := (fin c d e).bind truthO
def finL : C → List D → En → Option (List D)
  | .cons a b, d :: l, e => (fin a d e).bind fun x => (finL b l e).map (x :: ·)
  | .nil, [], _ => some []
  | _, _, _ => none
def wipeE (e : En) : List Nat → En
  | [] => e
  | v :: vs => (wipeE e vs).set v none
/-- the slots vs as they were in e0 -/
def restE (e0 e : En) : List Nat → En
  | [] => e
  | v :: vs => (restE e0 e vs).set v (rdS e0 v)
def argL (ks : List Kd) : List Kd → C → List D → En → Option (List D)
  | [], .nil, [], _ => some []
  | k :: r, .cons c b, d :: l, e =>
    (match c with
      | .loc i => (match k with
        | .own => if ks[i]? = some Kd.own then rdS e i else none
        | .brw => if ks[i]? = some Kd.own ∨ ks[i]? = some Kd.brw then rdS e i else none
        | _ => none)
      | .scr i => (match k with
        | .frz => if ks[i]? = some Kd.frz then rdS e i else none
        | _ => none)
      | _ => (match k with
        | .shr => some d
        | .brw => some d
        | _ => none)).bind fun x => (argL ks r b l e).map (x :: ·)
  | _, _, _, _ => none
def backL : List Kd → C → List (Option D) → En → Option En
  | [], .nil, _, e => some e
  | k :: r, .cons c b, o :: l, e => (match k, c, o with
      | .own, .loc i, some d => some (e.set i (some d))
      | .own, _, _ => none
      | _, _, _ => some e).bind fun e' => backL r b l e'
  | _, _, _, _ => none
/-- a target's store -/
def asgT (ks : List Kd) : C → D → En → Option En
  | .var i, d, e => if ks[i]? = some Kd.shr && decide (i < e.length) then some (e.set i (some d)) else none
  | .tup a, .tup l, e => asgT ks a (.lst l) e
  | .nil, .lst [], e => some e
  | .cons a b, .lst (x :: l), e => (asgT ks a x e).bind fun e' => asgT ks b (.lst l) e'
  | _, _, _ => none
def itemsOf (ks : List Kd) (c : C) (d : D) (e : En) : Option (List D) := match c with
  | .loc i => if ks[i]? = some Kd.brw then (rdS e i).bind seqOf else none
  | .scr i => if ks[i]? = some Kd.frz then (rdS e i).bind seqOf else none
  | _ => seqOf d
def lcLoop (step : D → En → Option (R (Option D))) : List D → En → Option (R (List D))
  | [], e => some (.ok [] e)
  | d :: r, e => bnd0 (step d e) fun o e1 => bnd0 (lcLoop step r e1) fun l e2 => some (.ok (o.toList ++ l) e2)
def lcLoop2 (step : D → En → Option (R (List D))) : List D → En → Option (R (List D))
  | [], e => some (.ok [] e)
  | d :: r, e => bnd0 (step d e) fun o e1 => bnd0 (lcLoop2 step r e1) fun l e2 => some (.ok (o ++ l) e2)
def brwd (ks : List Kd) : List Kd := ks.map fun k => match k with | .own => .brw | k => k
def flds0 : List Str → List D → Option (List (Str × D))
  | [], [] => some []
  | f :: r, d :: l => (flds0 r l).map ((f, d) :: ·)
  | _, _ => none
def partOf (c : C) (d : D) : Option (Option Int) := match c, d with
  | .noPart, _ => some none
  | _, .int i => some (some i)
  | _, _ => none

def smallI (j : Int) : Bool := decide (-(2 ^ 62) ≤ j) && decide (j < 2 ^ 62)
/-- the bounds of a range -/
def rngOf : List D → Option (Int × Int)
  | [.int j] => if smallI j then some (0, j) else none
  | [.int i, .int j] => if smallI i && smallI j then some (i, j) else none
  | _ => none
def isLst : Option D → Bool
  | some (.lst _) => true
  | _ => false
def ev : C → Gx → En → Option (R D)
  | .var i, G, e => if G.ks[i]? = some Kd.shr then (rdS e i).map (.ok · e) else none
  | .loc i, G, e => if G.ks[i]? = some Kd.own ∨ G.ks[i]? = some Kd.brw then (rdS e i).map fun _ => .ok .non e else none
  | .scr i, G, e => if G.ks[i]? = some Kd.frz then (rdS e i).map fun _ => .ok .non e else none
  | .scrLen i, G, e => if G.ks[i]? = some Kd.frz then ((rdS e i).bind seqOf).map fun l => .ok (.int l.length) e else none
  | .scrList i, G, e => if G.ks[i]? = some Kd.frz then ((rdS e i).bind seqOf).map fun l => .ok (.lst l) e else none
  | .scrCut i k, G, e => if G.ks[i]? = some Kd.frz then ((rdS e i).bind seqOf).map fun l => .ok (.lst (cutD l none (some k))) e else none
  | .cst d, _, e => if isCst d then some (.ok d e) else none
  | .noPart, _, e => some (.ok .non e)
  | .nil, _, e => some (.ok (.lst []) e)
  | .cons a b, G, e => bnd (ev a G e) fun x e1 => bnd (ev b G e1) fun xs e2 => match xs with
    | .lst l => some (.ok (.lst (x :: l)) e2)
    | _ => none
  | .tup a, G, e => bnd (ev a G e) fun xs e1 => match xs with
    | .lst l => if noLocs a then some (.ok (.tup l) e1) else none
    | _ => none
  | .lst a, G, e => bnd (ev a G e) fun xs e1 => match xs with
    | .lst l => if noLocs a then some (.ok (.lst l) e1) else none
    | _ => none
  | .dnew t, _, e => some (.ok (.dic t []) e)
  | .disp ks a, G, e => bnd (ev a G e) fun xs e1 => match xs with
    | .lst l => if noLocs a then (flds0 ks l).map fun kvs => .ok (.dic false (kvs.map fun p => (.str p.1, p.2))) e1 else none
    | _ => none
  | .op o a b, G, e => bnd (ev a G e) fun x e1 => bnd (ev b G e1) fun y e2 =>
    (fin a x e2).bind fun x => (fin b y e2).bind fun y => (op2 o x y).map (.ok · e2)
  | .neg a, G, e => bnd (ev a G e) fun x e1 => match x with
    | .int i => some (.ok (.int (-i)) e1)
    | _ => none
  | .not a, G, e => bnd (ev a G e) fun x e1 => (finT a x e1).map fun x => .ok (.bl (!x)) e1
  | .and a b, G, e => bnd (ev a G e) fun x e1 => (truthO x).bind fun t => if isLoc a || isLoc b then none else if t then ev b G e1 else some (.ok x e1)
  | .or a b, G, e => bnd (ev a G e) fun x e1 => (truthO x).bind fun t => if isLoc a || isLoc b then none else if t then some (.ok x e1) else ev b G e1
  | .ite c a b, G, e => bnd (ev c G e) fun x e1 => (finT c x e1).bind fun t => if isLoc a || isLoc b then none else if t then ev a G e1 else ev b G e1
  | .idx a b, G, e => bnd (ev a G e) fun x e1 => bnd (ev b G e1) fun y e2 => (fin a x e2).bind fun x => if isLoc b then none else (idxD x y).map (.ok · e2)
  | .slc a lo hi, G, e => bnd (ev a G e) fun x e1 => bnd (ev lo G e1) fun l e2 => (partOf lo l).bind fun l => bnd (ev hi G e2) fun h e3 =>
    (partOf hi h).bind fun h => (fin a x e3).bind fun x => (slcD x l h).map (.ok · e3)
  | .call f a, G, e => bnd (ev a G e) fun xs e1 => match xs with
    | .lst l => (argL G.ks (G.info f) a l e1).bind fun ds => match G.cf f none ds with
      | none => none
      | some (.ok d o) => (backL (G.info f) a o e1).map (.ok d ·)
      | some (.xc x o) => (backL (G.info f) a o e1).map (.xc x ·)
    | _ => none
  | .blt f a, G, e => bnd (ev a G e) fun xs e1 => match xs with
    | .lst l => (finL a l e1).bind fun ds => (bi f ds).map (.ok · e1)
    | _ => none
  | .isi f a, G, e => bnd (ev a G e) fun x e1 => (fin a x e1).bind fun x => (bi f [x]).map (.ok · e1)
  | .lrng t a, G, e => bnd (ev a G e) fun xs e1 => match xs with
    | .lst l => if noLocs a then (rngOf l).bind fun p => if (p.2 - p.1).toNat ≤ lim then some (.ok (if t then .tup (rangeD p.1 (p.2 - p.1).toNat) else .lst (rangeD p.1 (p.2 - p.1).toNat)) e1) else none else none
    | _ => none
  | .popAt i a, G, e => if isLoc a || !isLst (rdS e i) then none else bnd (ev a G e) fun k e1 => match rdS e1 i, k with
    | some (.lst l), .int k => if G.ks[i]? = some Kd.own ∧ l.length ≤ lim then (ixOf l.length k).bind fun j => (l[j]?).map fun x => .ok x (e1.set i (some (.lst (l.eraseIdx j)))) else none
    | _, _ => none
  | .popLast i, G, e => match rdS e i with
    | some (.lst l) => if G.ks[i]? = some Kd.own then (l[l.length - 1]?).map fun x => .ok x (e.set i (some (.lst l.dropLast))) else none
    | _ => none
  | .lc vs tg it cond elt, G, e => bnd (ev it G e) fun d e1 => (itemsOf G.ks it d e1).bind fun ds =>
    bnd0 (lcLoop (fun x e2 => (asgT G.ks tg x (wipeE e2 vs)).bind fun e3 => bnd0 (ev cond G e3) fun t e4 => (finT cond t e4).bind fun t => if t then bnd0 (ev elt G e4) fun y e5 => if isLoc elt then none else some (.ok (some y) e5) else some (.ok none e4)) ds e1)
      fun l e6 => if l.length ≤ lim then some (.ok (.lst l) (restE e1 e6 vs)) else none
  | .lc2 vs vs1 tg it cond tg1 it1 cond1 elt, G, e => bnd (ev it G e) fun d e1 => (itemsOf G.ks it d e1).bind fun ds =>
    bnd0 (lcLoop2 (fun x e2 => (asgT G.ks tg x (wipeE e2 vs)).bind fun e3 => bnd0 (ev cond G e3) fun t e4 => (finT cond t e4).bind fun t => if t then
        bnd0 (ev it1 G e4) fun d1 e5 => (itemsOf G.ks it1 d1 e5).bind fun ds1 =>
          lcLoop (fun x e6 => (asgT G.ks tg1 x (wipeE e6 vs1)).bind fun e7 => bnd0 (ev cond1 G e7) fun t e8 => (finT cond1 t e8).bind fun t => if t then bnd0 (ev elt G e8) fun y e9 => if isLoc elt then none else some (.ok (some y) e9) else some (.ok none e8)) ds1 e5
      else some (.ok [] e4)) ds e1)
      fun l e6 => if l.length ≤ lim then some (.ok (.lst l) (restE e1 e6 vs)) else none
  | .fld i f, G, e => match G.ex with
    | some (j, fs) => if i = j then (fs.lookup f).map (.ok · e) else none
    | none => none
  | .lamcall f body, G, e => match ev body { G with ks := brwd G.ks } e with
    | none => none
    | some r => if isLoc body then none else match G.cf f (some (match r with | .ok d _ => .inr d | .xc x _ => .inl x)) [] with
      | some (.ok d _) => some (.ok d e)
      | _ => none
  | .callv _, G, e => match G.act with
    | none => none
    | some (.inr d) => some (.ok d e)
    | some (.inl x) => some (.xc x e)
  | _, _, _ => none

def outB (m : Option (R D)) (f : D → En → Option Out) : Option Out := match m with
  | none => none
  | some (.ok a e) => f a e
  | some (.xc x e) => some (.xc x e)
def whileE (t : En → Option (R D)) (tf : D → En → Option Bool) (b : En → Option Out) : Nat → En → Option Out
  | 0, _ => none
  | n + 1, e => outB (t e) fun d e1 => (tf d e1).bind fun tt => if tt then (match b e1 with
      | some (.nx e2) => whileE t tf b n e2
      | some (.ct e2) => whileE t tf b n e2
      | some (.bk e2) => some (.nx e2)
      | o => o) else some (.nx e1)
def forE (st : D → En → Option En) (b : En → Option Out) : List D → En → Option Out
  | [], e => some (.nx e)
  | d :: r, e => (st d e).bind fun e1 => match b e1 with
      | some (.nx e2) => forE st b r e2
      | some (.ct e2) => forE st b r e2
      | some (.bk e2) => some (.nx e2)
      | o => o
/-- a store to a slot: shared, or owned -/
def setK (ks : List Kd) (i : Nat) (d : D) (e : En) : Option En := match ks[i]?, d with
  | some Kd.shr, _ => some (e.set i (some d))
  | some Kd.own, .lst _ => some (e.set i (some d))
  | some Kd.own, .dic _ _ => some (e.set i (some d))
  | _, _ => none
def isSh : C → Bool
  | .cst _ => true
  | _ => false

def exec : C → Gx → En → Option Out
  | .seq a b, G, e => match exec a G e with
    | some (.nx e1) => exec b G e1
    | o => o
  | .pass, _, e => some (.nx e)
  | .asg t c, G, e => outB (ev c G e) fun d e1 => if isLoc c then none else match t with
    | .loc i => if G.ks[i]? = some Kd.own then (setK G.ks i d e1).map .nx else none
    | _ => (asgT G.ks t d e1).map .nx
  | .par i j a b, G, e => outB (ev a G e) fun x e1 => outB (ev b G e1) fun y e2 => if isLoc a || isLoc b then none else (setK G.ks i x e2).bind fun e3 => (setK G.ks j y e3).map .nx
  | .par3 i j k a b c, G, e => outB (ev a G e) fun x e1 => outB (ev b G e1) fun y e2 => outB (ev c G e2) fun z e3 => if isLoc a || isLoc b || isLoc c then none else (setK G.ks i x e3).bind fun e4 => (setK G.ks j y e4).bind fun e5 => (setK G.ks k z e5).map .nx
  | .drop c, G, e => outB (ev c G e) fun _ e1 => some (.nx e1)
  | .ret c, G, e => outB (ev c G e) fun d e1 => if isLoc c then none else some (.rt d e1)
  | .retN, _, e => some (.rt .non e)
  | .retO i, G, e => if G.ks[i]? = some Kd.own then (rdS e i).map (.rt · (e.set i none)) else none
  | .ife c a b, G, e => outB (ev c G e) fun d e1 => (finT c d e1).bind fun t => if t then exec a G e1 else exec b G e1
  | .whl c b, G, e => whileE (fun e => ev c G e) (finT c) (fun e => exec b G e) G.wf e
  | .fr tg it b, G, e => outB (ev it G e) fun d e1 => (itemsOf G.ks it d e1).bind fun ds => forE (asgT G.ks tg) (fun e => exec b G e) ds e1
  | .brk, _, e => some (.bk e)
  | .cnt, _, e => some (.ct e)
  | .raise cls a, G, e => outB (ev a G e) fun xs e1 => match xs with
    | .lst l => if noLocs a then (flds0 (G.xin cls) l).map fun fs => .xc ⟨cls, fs⟩ e1 else none
    | _ => none
  | .app i c, G, e => if !isLst (rdS e i) then none else outB (ev c G e) fun d e1 => if isLoc c then none else match rdS e1 i with
    | some (.lst l) => if G.ks[i]? = some Kd.own && decide (l.length < lim) then some (.nx (e1.set i (some (.lst (l ++ [d]))))) else none
    | _ => none
  | .stIx i k c, G, e => if (rdS e i).isNone then none else outB (ev c G e) fun d e1 => outB (ev k G e1) fun q e2 => if isLoc c || isLoc k then none else match rdS e2 i, q with
    | some (.lst l), .int z => if G.ks[i]? = some Kd.own then (ixOf l.length z).map fun j => .nx (e2.set i (some (.lst (l.set j d)))) else none
    | some (.dic t kvs), q => if G.ks[i]? = some Kd.own && isKey t q && decide (kvs.length < lim) then some (.nx (e2.set i (some (.dic t (dPut kvs q d))))) else none
    | _, _ => none
  | .aug i o c, G, e => match rdS e i with
    | some x => if G.ks[i]? = some Kd.shr then outB (ev c G e) fun y e1 => if isLoc c then none else match x, y with
      | .int _, .int _ => (op2 o x y).map fun z => .nx (e1.set i (some z))
      | _, _ => none
      else none
    | none => none
  | .tryx b h, G, e => match exec b G e with
    | some (.xc x e1) => exec h { G with ex := some (0, x.flds), act := some (.inl x) } e1
    | o => o
  | .hnil, G, e => match G.act with
    | some (.inl x) => some (.xc x e)
    | _ => none
  | .hcons cls i s r, G, e => match G.act with
    | some (.inl x) => if G.sub x.cls cls then exec s { G with ex := some (i, x.flds), act := none } (e.set i none) else exec r G e
    | _ => none
  | _, _, _ => none

/-- a def: the kinds of its slots (parameters first), the number of its parameters, its body -/
structure DefI where
  ks : List Kd
  np : Nat
  code : C
deriving Inhabited
structure Tb where
  defs : List DefI
  sub : Nat → Nat → Bool
  xin : Nat → List Str
  wf : Nat
def outsOf (ks : List Kd) (np : Nat) (e : En) : List (Option D) := (List.range np).map fun i => if ks[i]? = some Kd.own then rdS e i else none
def callN (T : Tb) : Nat → Nat → Act → List D → Option CO
  | 0, _, _, _ => none
  | n + 1, f, act, ds => match T.defs[f]? with
    | none => none
    | some d => if act.isNone && decide (ds.length ≠ d.np) then none else
      match exec d.code { ks := d.ks, cf := callN T n, info := fun g => match T.defs[g]? with | some d => d.ks.take d.np | none => [], sub := T.sub, xin := T.xin, wf := T.wf, act := act, ex := none }
        (ds.map some ++ List.replicate (d.ks.length - ds.length) none) with
      | some (.nx e) => some (.ok .non (outsOf d.ks d.np e))
      | some (.rt v e) => some (.ok v (outsOf d.ks d.np e))
      | some (.xc x e) => some (.xc x (outsOf d.ks d.np e))
      | _ => none
end PB
set_option maxHeartbeats 4000000
/-! Ib: plain values and what stands in the heap. -/
namespace PB
open PySem PySem.Spec PyProof.Rows L2

abbrev AS := Addr → Prop
/-- a list, a tuple of the written part -/
def KL (K : PySem.W.Frag) (a : Addr) (xs : List V) : Prop :=
  ∃ (o : Obj) (its : Array Value) (n : Nat), K.lookup a = some o ∧ o.cls = .type "list" ∧ o.dict = none ∧ o.data = .seq its n ∧ its.size ≤ sizeLine ∧ Vals xs its.toList
def KTu (K : PySem.W.Frag) (a : Addr) (xs : List V) : Prop :=
  ∃ (o : Obj) (its : Array Value) (n : Nat), K.lookup a = some o ∧ o.cls = .type "tuple" ∧ o.data = .seq its n ∧ its.size ≤ sizeLine ∧ Vals xs its.toList

/-- a key, as an int or a text -/
def repKey (k : Key) : D → Prop
  | .int i => k = .inl i
  | .str x => k = .inr x
  | _ => False
def repKeys : List Key → List D → Prop
  | [], [] => True
  | k :: ks, d :: ds => repKey k d ∧ repKeys ks ds
  | _, _ => False

section
variable (Z : AS) (H : Hp)
mutual
/-- v, in H, is the plain value d; nothing of it is in Z -/
def Rep : D → V → Prop
  | .non, v => v = .non
  | .bl b, v => v = .bl b
  | .int i, v => v = .int i
  | .str x, v => v = .str x
  | .tup ds, v => ∃ a xs, v = .ref a ∧ (¬ Z a ∧ H a = some (.tup xs)) ∧ RepL ds xs
  | .lst ds, v => ∃ a xs, v = .ref a ∧ (¬ Z a ∧ H a = some (.lst xs)) ∧ RepL ds xs
  | .dic t ds, v => ∃ a, v = .ref a ∧ ¬ Z a ∧ ((t = false ∧ ∃ kvs, H a = some (.dK kvs) ∧ RepK ds kvs) ∨ (t = true ∧ ∃ kvs, H a = some (.dT kvs) ∧ RepT ds kvs))
def RepL : List D → List V → Prop
  | [], xs => xs = []
  | d :: ds, xs => ∃ v r, xs = v :: r ∧ Rep d v ∧ RepL ds r
def RepK : List (D × D) → List (Key × V) → Prop
  | [], kvs => kvs = []
  | (k, d) :: ds, kvs => ∃ q v r, kvs = (q, v) :: r ∧ repKey q k ∧ Rep d v ∧ RepK ds r
def RepT : List (D × D) → List (List Key × V) → Prop
  | [], kvs => kvs = []
  | (k, d) :: ds, kvs => ∃ q v r ks, kvs = (q, v) :: r ∧ k = .tup ks ∧ repKeys q ks ∧ Rep d v ∧ RepT ds r
end
end

/-- what stands in H outside Z stands in H' outside Z' -/
def Kp (Z Z' : AS) (H H' : Hp) : Prop := ∀ a o, H a = some o → (∀ ps, o ≠ .tbl ps) → ¬ Z a → H' a = some o ∧ ¬ Z' a
theorem Kp.refl {Z : AS} {H : Hp} : Kp Z Z H H := fun _ _ h _ z => ⟨h, z⟩
theorem Kp.trans {Z Z1 Z2 : AS} {H H1 H2 : Hp} (a : Kp Z Z1 H H1) (b : Kp Z1 Z2 H1 H2) : Kp Z Z2 H H2 := fun x o h n z =>
  let ⟨h1, z1⟩ := a x o h n z
  b x o h1 n z1
theorem Kp.sub {Z Z' : AS} {H : Hp} (h : ∀ a, Z' a → Z a) : Kp Z Z' H H := fun _ _ e _ z => ⟨e, fun q => z (h _ q)⟩

section
variable {K : PySem.W.Frag} {Z Z' : AS} {H H' : Hp}
theorem Kp.rd (k : Kp Z Z' H H') {a : Addr} {u : HO} (hu : ∀ ps, u ≠ .tbl ps) (z : ¬ Z a) (h : Rd H a u) : ¬ Z' a ∧ Rd H' a u := by
  rcases h with h | ⟨o, h⟩
  · exact ⟨(k a _ h hu z).2, .inl (k a _ h hu z).1⟩
  · have q := k a _ h (fun ps e => by cases e) z
    exact ⟨q.2, .inr ⟨o, q.1⟩⟩
mutual
theorem Rep.mono (k : Kp Z Z' H H') : ∀ (d : D) (v : V), Rep Z H d v → Rep Z' H' d v
  | .non, _, h => h
  | .bl _, _, h => h
  | .int _, _, h => h
  | .str _, _, h => h
  | .tup ds, v, h => by
    obtain ⟨a, xs, e, q, r⟩ := h
    have q' := k a _ q.2 (fun ps e => by cases e) q.1
    exact ⟨a, xs, e, ⟨q'.2, q'.1⟩, RepL.mono k ds xs r⟩
  | .lst ds, v, h => by
    obtain ⟨a, xs, e, q, r⟩ := h
    have q' := k a _ q.2 (fun ps e => by cases e) q.1
    exact ⟨a, xs, e, ⟨q'.2, q'.1⟩, RepL.mono k ds xs r⟩
  | .dic t ds, v, h => by
    obtain ⟨a, e, z, q⟩ := h
    rcases q with ⟨ht, kvs, q, r⟩ | ⟨ht, kvs, q, r⟩
    · have q' := k a _ q (fun ps e => by cases e) z
      exact ⟨a, e, q'.2, .inl ⟨ht, kvs, q'.1, RepK.mono k ds kvs r⟩⟩
    · have q' := k a _ q (fun ps e => by cases e) z
      exact ⟨a, e, q'.2, .inr ⟨ht, kvs, q'.1, RepT.mono k ds kvs r⟩⟩
theorem RepL.mono (k : Kp Z Z' H H') : ∀ (ds : List D) (xs : List V), RepL Z H ds xs → RepL Z' H' ds xs
  | [], _, h => h
  | d :: ds, xs, h => by
    obtain ⟨v, r, e, h1, h2⟩ := h
    exact ⟨v, r, e, Rep.mono k d v h1, RepL.mono k ds r h2⟩
theorem RepK.mono (k : Kp Z Z' H H') : ∀ (ds : List (D × D)) (xs : List (Key × V)), RepK Z H ds xs → RepK Z' H' ds xs
  | [], _, h => h
  | (_, d) :: ds, xs, h => by
    obtain ⟨q, v, r, e, h0, h1, h2⟩ := h
    exact ⟨q, v, r, e, h0, Rep.mono k d v h1, RepK.mono k ds r h2⟩
theorem RepT.mono (k : Kp Z Z' H H') : ∀ (ds : List (D × D)) (xs : List (List Key × V)), RepT Z H ds xs → RepT Z' H' ds xs
  | [], _, h => h
  | (_, d) :: ds, xs, h => by
    obtain ⟨q, v, r, ks, e, e2, h0, h1, h2⟩ := h
    exact ⟨q, v, r, ks, e, e2, h0, Rep.mono k d v h1, RepT.mono k ds r h2⟩
end
theorem RepL.length : ∀ (ds : List D) (xs : List V), RepL Z H ds xs → xs.length = ds.length
  | [], _, h => by cases h; rfl
  | d :: ds, xs, h => by
    obtain ⟨v, r, e, _, h2⟩ := h
    subst e
    simp [RepL.length ds r h2]
theorem RepL.get : ∀ (ds : List D) (xs : List V), RepL Z H ds xs → ∀ (i : Nat) (d : D), ds[i]? = some d → ∃ v, xs[i]? = some v ∧ Rep Z H d v
  | [], _, _, i, d, h => by simp at h
  | d0 :: ds, xs, h, 0, d, e => by
    obtain ⟨v, r, q, h1, _⟩ := h
    subst q
    simp at e
    subst e
    exact ⟨v, rfl, h1⟩
  | d0 :: ds, xs, h, i + 1, d, e => by
    obtain ⟨v, r, q, _, h2⟩ := h
    subst q
    simpa using RepL.get ds r h2 i d (by simpa using e)
theorem RepL.at (ds : List D) (xs : List V) (h : RepL Z H ds xs) (i : Nat) (v : V) (e : xs[i]? = some v) : ∃ d, ds[i]? = some d ∧ Rep Z H d v := by
  have hl := RepL.length ds xs h
  have hi : i < ds.length := by rw [← hl]; exact (List.getElem?_eq_some_iff.mp e).1
  obtain ⟨w, h1, h2⟩ := RepL.get ds xs h i ds[i] (by simp [hi])
  rw [e] at h1
  cases h1
  exact ⟨ds[i], by simp [hi], h2⟩
theorem RepL.append : ∀ (ds es : List D) (xs ys : List V), RepL Z H ds xs → RepL Z H es ys → RepL Z H (ds ++ es) (xs ++ ys)
  | [], es, xs, ys, h, h' => by cases h; exact h'
  | d :: ds, es, xs, ys, h, h' => by
    obtain ⟨v, r, q, h1, h2⟩ := h
    subst q
    exact ⟨v, r ++ ys, rfl, h1, RepL.append ds es r ys h2 h'⟩
theorem RepL.take : ∀ (n : Nat) (ds : List D) (xs : List V), RepL Z H ds xs → RepL Z H (ds.take n) (xs.take n)
  | 0, ds, xs, h => by simp [RepL]
  | n + 1, [], xs, h => by cases h; simp [RepL]
  | n + 1, d :: ds, xs, h => by
    obtain ⟨v, r, q, h1, h2⟩ := h
    subst q
    exact ⟨v, r.take n, rfl, h1, RepL.take n ds r h2⟩
theorem RepL.drop : ∀ (n : Nat) (ds : List D) (xs : List V), RepL Z H ds xs → RepL Z H (ds.drop n) (xs.drop n)
  | 0, ds, xs, h => h
  | n + 1, [], xs, h => by cases h; simp [RepL]
  | n + 1, d :: ds, xs, h => by
    obtain ⟨v, r, q, h1, h2⟩ := h
    subst q
    exact RepL.drop n ds r h2
theorem RepL.set : ∀ (n : Nat) (ds : List D) (xs : List V) (d : D) (v : V), RepL Z H ds xs → Rep Z H d v → RepL Z H (ds.set n d) (xs.set n v)
  | _, [], xs, d, v, h, h' => by cases h; simp [RepL]
  | 0, d0 :: ds, xs, d, v, h, h' => by
    obtain ⟨v0, r, q, h1, h2⟩ := h
    subst q
    exact ⟨v, r, rfl, h', h2⟩
  | n + 1, d0 :: ds, xs, d, v, h, h' => by
    obtain ⟨v0, r, q, h1, h2⟩ := h
    subst q
    exact ⟨v0, r.set n v, rfl, h1, RepL.set n ds r d v h2 h'⟩
theorem RepL.eraseIdx : ∀ (n : Nat) (ds : List D) (xs : List V), RepL Z H ds xs → RepL Z H (ds.eraseIdx n) (xs.eraseIdx n)
  | _, [], xs, h => by cases h; simp [RepL]
  | 0, d0 :: ds, xs, h => by
    obtain ⟨v0, r, q, h1, h2⟩ := h
    subst q
    exact h2
  | n + 1, d0 :: ds, xs, h => by
    obtain ⟨v0, r, q, h1, h2⟩ := h
    subst q
    exact ⟨v0, r.eraseIdx n, rfl, h1, RepL.eraseIdx n ds r h2⟩
theorem RepL.dropLast (ds : List D) (xs : List V) (h : RepL Z H ds xs) : RepL Z H ds.dropLast xs.dropLast := by
  rw [List.dropLast_eq_take, List.dropLast_eq_take, RepL.length ds xs h]
  exact RepL.take _ ds xs h
theorem RepL.rep (ds : List D) (xs : List V) (h : RepL Z H ds xs) : ∀ k : Nat, RepL Z H (List.replicate k ds).flatten (List.replicate k xs).flatten
  | 0 => rfl
  | k + 1 => by
    rw [List.replicate_succ, List.replicate_succ, List.flatten_cons, List.flatten_cons]
    exact RepL.append _ _ _ _ h (RepL.rep ds xs h k)
/-- all ints, all bools -/
theorem RepL.ints : ∀ (ds : List D) (xs : List V) (l : List Int), RepL Z H ds xs → allInt ds = some l → xs = l.map V.int
  | [], xs, l, h, e => by
    cases h
    simp [allInt] at e
    subst e
    rfl
  | d :: ds, xs, l, h, e => by
    obtain ⟨v, r, q, h1, h2⟩ := h
    subst q
    cases d with
    | int i =>
      simp only [allInt, Option.map_eq_some_iff] at e
      obtain ⟨l', e', rfl⟩ := e
      rw [RepL.ints ds r l' h2 e', show v = V.int i from h1]
      rfl
    | _ => simp [allInt] at e
theorem RepL.bls : ∀ (ds : List D) (xs : List V) (l : List Bool), RepL Z H ds xs → allBl ds = some l → xs = l.map V.bl
  | [], xs, l, h, e => by
    cases h
    simp [allBl] at e
    subst e
    rfl
  | d :: ds, xs, l, h, e => by
    obtain ⟨v, r, q, h1, h2⟩ := h
    subst q
    cases d with
    | bl i =>
      simp only [allBl, Option.map_eq_some_iff] at e
      obtain ⟨l', e', rfl⟩ := e
      rw [RepL.bls ds r l' h2 e', show v = V.bl i from h1]
      rfl
    | _ => simp [allBl] at e
theorem repL_ints : ∀ l : List Int, RepL Z H (l.map D.int) (l.map V.int)
  | [] => rfl
  | i :: l => ⟨_, _, rfl, rfl, repL_ints l⟩
/-! ### == -/
mutual
theorem Rep.dp : ∀ (n : Nat) (d : D) (v : V), plainD n d = true → Rep Z H d v → Dp K H v (toPy d)
  | _, .non, v, _, h => by cases h; exact .non
  | _, .bl b, v, _, h => by cases h; exact .bl b
  | _, .int i, v, _, h => by cases h; exact .int i
  | _, .str x, v, _, h => by cases h; exact .str x
  | 0, .tup ds, v, p, h => by simp [plainD] at p
  | n + 1, .tup ds, v, p, h => by
    obtain ⟨a, xs, e, q, r⟩ := h
    subst e
    exact .tup (.of q.2) (RepL.dp n ds xs (by simpa [plainD] using p) r)
  | 0, .lst ds, v, p, h => by simp [plainD] at p
  | n + 1, .lst ds, v, p, h => by
    obtain ⟨a, xs, e, q, r⟩ := h
    subst e
    exact .lst (.of q.2) (RepL.dp n ds xs (by simpa [plainD] using p) r)
  | _, .dic _ _, v, p, h => by simp [plainD] at p
theorem RepL.dp : ∀ (n : Nat) (ds : List D) (xs : List V), plainL n ds = true → RepL Z H ds xs → DpAll K H xs (toPyL ds)
  | _, [], xs, _, h => by cases h; exact .nil
  | n, d :: ds, xs, p, h => by
    obtain ⟨v, r, q, h1, h2⟩ := h
    subst q
    simp only [plainL, Bool.and_eq_true] at p
    exact .cons (Rep.dp n d v p.1 h1) (RepL.dp n ds r p.2 h2)
end
end
mutual
theorem plain_lay : ∀ (n : Nat) (d : D), plainD n d = true → (toPy d).canLay0 = true ∧ (toPy d).depth ≤ n
  | _, .non, _ => by simp [toPy, PyData.canLay0, PyData.depth]
  | _, .bl b, _ => by simp [toPy, PyData.canLay0, PyData.depth]
  | _, .int i, _ => by simp [toPy, PyData.canLay0, PyData.depth]
  | _, .str x, h => by
    simp only [plainD] at h
    simp [toPy, PyData.canLay0, PyData.depth, h]
  | 0, .tup ds, p => by simp [plainD] at p
  | n + 1, .tup ds, p => by
    have h := plain_layL n ds (by simpa [plainD] using p)
    simp only [toPy, PyData.canLay0, PyData.depth]
    exact ⟨h.1, by omega⟩
  | 0, .lst ds, p => by simp [plainD] at p
  | n + 1, .lst ds, p => by
    have h := plain_layL n ds (by simpa [plainD] using p)
    simp only [toPy, PyData.canLay0, PyData.depth]
    exact ⟨h.1, by omega⟩
  | _, .dic _ _, p => by simp [plainD] at p
theorem plain_layL : ∀ (n : Nat) (ds : List D), plainL n ds = true → PyData.canLayAll0 (toPyL ds) = true ∧ PyData.depthAll (toPyL ds) ≤ n
  | _, [], _ => by simp [toPyL, PyData.canLayAll0, PyData.depthAll]
  | n, d :: ds, p => by
    simp only [plainL, Bool.and_eq_true] at p
    have h1 := plain_lay n d p.1
    have h2 := plain_layL n ds p.2
    simp only [toPyL, PyData.canLayAll0, PyData.depthAll, h1.1, h2.1]
    exact ⟨rfl, by omega⟩
end
theorem plain_shaped {n : Nat} {d : D} (hn : n ≤ 64) (h : plainD n d = true) : SeqAt.shaped (toPy d) = true := by
  have q := plain_lay n d h
  unfold SeqAt.shaped
  rw [q.1, decide_eq_true (Nat.le_trans q.2 hn)]
  rfl
mutual
theorem eqv_py : ∀ (d e : D), PyData.eqv (toPy d) (toPy e) = eqv d e
  | .non, e => by cases e <;> simp [toPy, PyData.eqv, eqv]
  | .bl b, e => by cases e <;> simp [toPy, PyData.eqv, eqv, i01]
  | .int i, e => by cases e <;> simp [toPy, PyData.eqv, eqv, i01]
  | .str x, e => by cases e <;> simp [toPy, PyData.eqv, eqv]
  | .tup ds, e => by
    cases e with
    | tup es => simp only [toPy, PyData.eqv, eqv]; exact eqv_pyL ds es
    | _ => simp [toPy, PyData.eqv, eqv]
  | .lst ds, e => by
    cases e with
    | lst es => simp only [toPy, PyData.eqv, eqv]; exact eqv_pyL ds es
    | _ => simp [toPy, PyData.eqv, eqv]
  | .dic _ _, e => by cases e <;> simp [toPy, PyData.eqv, eqv]
theorem eqv_pyL : ∀ (ds es : List D), PyData.eqvAll (toPyL ds) (toPyL es) = eqvL ds es
  | [], [] => by simp [toPyL, PyData.eqvAll, eqvL]
  | [], _ :: _ => by simp [toPyL, PyData.eqvAll, eqvL]
  | _ :: _, [] => by simp [toPyL, PyData.eqvAll, eqvL]
  | d :: ds, e :: es => by simp only [toPyL, PyData.eqvAll, eqvL, eqv_py d e, eqv_pyL ds es]
end

/-! ### what is only looked at -/
section
variable (Zo Z : AS) (H : Hp)
/-- v is the plain value d; its own object may be in Z (not in Zo), nothing below it is in Z -/
def RepO : D → V → Prop
  | .tup ds, v => ∃ a xs, v = .ref a ∧ (¬ Zo a ∧ H a = some (.tup xs)) ∧ RepL Z H ds xs
  | .lst ds, v => ∃ a xs, v = .ref a ∧ (¬ Zo a ∧ H a = some (.lst xs)) ∧ RepL Z H ds xs
  | .dic t ds, v => ∃ a, v = .ref a ∧ ¬ Zo a ∧ ((t = false ∧ ∃ kvs, H a = some (.dK kvs) ∧ RepK Z H ds kvs) ∨ (t = true ∧ ∃ kvs, H a = some (.dT kvs) ∧ RepT Z H ds kvs))
  | d, v => Rep Z H d v
/-- an object's own content -/
def Own (a : Addr) : D → Prop
  | .lst ds => ∃ xs, H a = some (.lst xs) ∧ RepL Z H ds xs
  | .dic t ds => (t = false ∧ ∃ kvs, H a = some (.dK kvs) ∧ RepK Z H ds kvs) ∨ (t = true ∧ ∃ kvs, H a = some (.dT kvs) ∧ RepT Z H ds kvs)
  | _ => False
end
abbrev RepB (Z : AS) (H : Hp) (d : D) (v : V) : Prop := RepO (fun _ => False) Z H d v
section
variable {K : PySem.W.Frag} {Zo Zo' Z Z' : AS} {H H' : Hp}
theorem RepO.mono (ko : Kp Zo Zo' H H') (k : Kp Z Z' H H') : ∀ (d : D) (v : V), RepO Zo Z H d v → RepO Zo' Z' H' d v
  | .non, _, h => h
  | .bl _, _, h => h
  | .int _, _, h => h
  | .str _, _, h => h
  | .tup ds, v, h => by
    obtain ⟨a, xs, e, q, r⟩ := h
    have q' := ko a _ q.2 (fun ps e => by cases e) q.1
    exact ⟨a, xs, e, ⟨q'.2, q'.1⟩, RepL.mono k ds xs r⟩
  | .lst ds, v, h => by
    obtain ⟨a, xs, e, q, r⟩ := h
    have q' := ko a _ q.2 (fun ps e => by cases e) q.1
    exact ⟨a, xs, e, ⟨q'.2, q'.1⟩, RepL.mono k ds xs r⟩
  | .dic t ds, v, h => by
    obtain ⟨a, e, z, q⟩ := h
    rcases q with ⟨ht, kvs, q, r⟩ | ⟨ht, kvs, q, r⟩
    · have q' := ko a _ q (fun ps e => by cases e) z
      exact ⟨a, e, q'.2, .inl ⟨ht, kvs, q'.1, RepK.mono k ds kvs r⟩⟩
    · have q' := ko a _ q (fun ps e => by cases e) z
      exact ⟨a, e, q'.2, .inr ⟨ht, kvs, q'.1, RepT.mono k ds kvs r⟩⟩
theorem Rep.toO (hz : ∀ a, Zo a → Z a) : ∀ (d : D) (v : V), Rep Z H d v → RepO Zo Z H d v
  | .non, _, h => h
  | .bl _, _, h => h
  | .int _, _, h => h
  | .str _, _, h => h
  | .tup ds, v, h => by
    obtain ⟨a, xs, e, q, r⟩ := h
    exact ⟨a, xs, e, ⟨fun z => q.1 (hz a z), q.2⟩, r⟩
  | .lst ds, v, h => by
    obtain ⟨a, xs, e, q, r⟩ := h
    exact ⟨a, xs, e, ⟨fun z => q.1 (hz a z), q.2⟩, r⟩
  | .dic t ds, v, h => by
    obtain ⟨a, e, z, q⟩ := h
    exact ⟨a, e, fun y => z (hz a y), q⟩
theorem RepO.toB (d : D) (v : V) (h : RepO Zo Z H d v) : RepB Z H d v := RepO.mono (Zo' := fun _ => False) (fun a o e _ _ => ⟨e, fun f => f⟩) Kp.refl d v h
theorem Rep.toB (d : D) (v : V) (h : Rep Z H d v) : RepB Z H d v := Rep.toO (fun _ f => f.elim) d v h
theorem Own.toB {a : Addr} {d : D} (h : Own Z H a d) : RepB Z H d (.ref a) := by
  cases d with
  | lst ds =>
    obtain ⟨xs, e, r⟩ := h
    exact ⟨a, xs, rfl, ⟨fun f => f, e⟩, r⟩
  | dic t ds => exact ⟨a, rfl, fun f => f, h⟩
  | _ => exact h.elim
theorem Own.toRep {a : Addr} {d : D} (h : Own Z H a d) (hz : ¬ Z' a) (k : Kp Z Z' H H) : Rep Z' H d (.ref a) := by
  cases d with
  | lst ds =>
    obtain ⟨xs, e, r⟩ := h
    exact ⟨a, xs, rfl, ⟨hz, e⟩, RepL.mono k _ _ r⟩
  | dic t ds =>
    refine ⟨a, rfl, hz, ?_⟩
    rcases h with ⟨ht, kvs, e, r⟩ | ⟨ht, kvs, e, r⟩
    · exact .inl ⟨ht, kvs, e, RepK.mono k _ _ r⟩
    · exact .inr ⟨ht, kvs, e, RepT.mono k _ _ r⟩
  | _ => exact h.elim
theorem Own.there {a : Addr} {d : D} (h : Own Z H a d) : H a ≠ none := by
  cases d with
  | lst ds =>
    obtain ⟨xs, e, r⟩ := h
    rw [e]; exact fun z => nomatch z
  | dic t ds =>
    rcases h with ⟨ht, kvs, e, r⟩ | ⟨ht, kvs, e, r⟩ <;> (rw [e]; exact fun z => nomatch z)
  | _ => exact h.elim
theorem Own.mono {a : Addr} {d : D} (h : Own Z H a d) (ha : ∀ o, H a = some o → H' a = some o) (k : Kp Z Z' H H') : Own Z' H' a d := by
  cases d with
  | lst ds =>
    obtain ⟨xs, e, r⟩ := h
    exact ⟨xs, ha _ e, RepL.mono k _ _ r⟩
  | dic t ds =>
    rcases h with ⟨ht, kvs, e, r⟩ | ⟨ht, kvs, e, r⟩
    · exact .inl ⟨ht, kvs, ha _ e, RepK.mono k _ _ r⟩
    · exact .inr ⟨ht, kvs, ha _ e, RepT.mono k _ _ r⟩
  | _ => exact h.elim
theorem RepO.lst {ds : List D} {v : V} (h : RepB Z H (.lst ds) v) : ∃ a xs, v = .ref a ∧ H a = some (.lst xs) ∧ RepL Z H ds xs := by
  obtain ⟨a, xs, e, q, r⟩ := h
  exact ⟨a, xs, e, q.2, r⟩
theorem RepO.tup {ds : List D} {v : V} (h : RepB Z H (.tup ds) v) : ∃ a xs, v = .ref a ∧ H a = some (.tup xs) ∧ RepL Z H ds xs := by
  obtain ⟨a, xs, e, q, r⟩ := h
  exact ⟨a, xs, e, q.2, r⟩
theorem RepO.dp (n : Nat) (d : D) (v : V) (p : plainD n d = true) (h : RepB Z H d v) : Dp K H v (toPy d) := by
  cases d with
  | tup ds =>
    obtain ⟨a, xs, e, q, r⟩ := RepO.tup h
    subst e
    cases n with
    | zero => simp [plainD] at p
    | succ n => exact .tup (.of q) (RepL.dp n ds xs (by simpa [plainD] using p) r)
  | lst ds =>
    obtain ⟨a, xs, e, q, r⟩ := RepO.lst h
    subst e
    cases n with
    | zero => simp [plainD] at p
    | succ n => exact .lst (.of q) (RepL.dp n ds xs (by simpa [plainD] using p) r)
  | dic t ds => simp [plainD] at p
  | non => exact Rep.dp (Z := Z) n .non v p h
  | bl b => exact Rep.dp (Z := Z) n (.bl b) v p h
  | int i => exact Rep.dp (Z := Z) n (.int i) v p h
  | str x => exact Rep.dp (Z := Z) n (.str x) v p h
end
end PB
set_option maxHeartbeats 4000000
namespace PB
open PySem PySem.Spec PyProof.Rows L2
/-- t * k, t empty or k at most 1 -/
theorem tuple_mul1 (l : Addr) (items : Array Value) (n : Nat) (dd : Option Addr) (sl : Array (Option Value)) (x : Int) (u : Tok) (c0 : (decide (x < -(2 ^ 63)) || decide (x ≥ 2 ^ 63)) = false) (c1 : (items.isEmpty || x == 1) = true) :
    Meets (Builtin.«tuple.__mul__» ⟨[.ref l, .int x u], []⟩) (fun _ R s => s.heap.get? l = some { cls := .type "tuple", dict := dd, data := .seq items n, slots := sl } ∧
      R (.ok (.ret (Value.ref l))) s) :=
  .of_wp fun prog w A R s h => by
    obtain ⟨hp, g, d, tk, os⟩ := s
    obtain ⟨hl, h⟩ := h
    have f1 := AutoSeq1.idx_int
    wp_walk using wpAny_loadPart' hl
    refine wpAny_ite_false (decide_eq_false (by rw [c0]; exact Bool.false_ne_true)) ?_
    wp_walk using wpAny_loadPart' hl
    first
      | exact ⟨_, rfl, h⟩
      | (refine wpAny_ite_true (decide_eq_true c1) ?_
         wp_walk using wpAny_loadPart' hl
         exact ⟨_, rfl, h⟩)
theorem tuple_mul0 (l : Addr) (items : Array Value) (n : Nat) (dd : Option Addr) (sl : Array (Option Value)) (x : Int) (u : Tok) (c0 : (decide (x < -(2 ^ 63)) || decide (x ≥ 2 ^ 63)) = false) (c1 : (items.isEmpty || x == 1) = false) (c2 : (decide (x ≤ 0) || items.isEmpty) = true) :
    Meets (Builtin.«tuple.__mul__» ⟨[.ref l, .int x u], []⟩) (fun _ R s => s.heap.get? l = some { cls := .type "tuple", dict := dd, data := .seq items n, slots := sl } ∧
      R (.ok (.ret (Value.ref s.heap.objs.size))) { s with heap := s.heap.push { cls := Value.type "tuple", data := Data.seq #[] }, toks := s.toks }) :=
  .of_wp fun prog w A R s h => by
    obtain ⟨hp, g, d, tk, os⟩ := s
    obtain ⟨hl, h⟩ := h
    have f1 := AutoSeq1.idx_int
    wp_walk using wpAny_loadPart' hl
    refine wpAny_ite_false (decide_eq_false (by rw [c0]; exact Bool.false_ne_true)) ?_
    wp_walk using wpAny_loadPart' hl
    repeat (first
      | (refine wpAny_ite_false (decide_eq_false (by rw [c1]; exact Bool.false_ne_true)) ?_; wp_walk using wpAny_loadPart' hl)
      | (refine wpAny_ite_true (decide_eq_true c2) ?_; wp_walk using wpAny_loadPart' hl)
      | (refine wpAny_ite_false (decide_eq_false (by decide)) ?_; wp_walk using wpAny_loadPart' hl))
    exact ⟨_, rfl, h⟩
section
variable {X : Cx}
/-- t * k, whatever k is -/
def rRepU (K : PySem.W.Frag) : R2 := fun x y H Q => ∃ l k xs, x = .ref l ∧ y = .int k ∧ SqT K H l xs ∧ -(2 ^ 62) < k ∧ k < 2 ^ 62 ∧ xs.length * k.toNat ≤ 100000 ∧
  (xs = [] ∨ k = 1 → Q (.ref l) H) ∧ (¬ (xs = [] ∨ k = 1) → ∀ p, H p = none → Q (.ref p) (upd H p (.tup (List.replicate k.toNat xs).flatten)))
theorem op_repU : OpR X (binaryOp .Mult) (rRepU X.K) := by
  intro pins s σ H x y v u Q I rx ry h
  obtain ⟨l, k, xs, rfl, rfl, hT, h1, h2, hz, q1, q2⟩ := h
  cases rx
  obtain ⟨t, rfl⟩ := ry
  obtain ⟨its, r, ⟨⟨cls, dd, data, sl⟩, ho, hc, n, hd⟩, hs⟩ := I.tuple hT
  simp only at hc hd
  subst hc hd
  have hle : its.length = xs.length := r.length.symm
  have c0 : (decide (k < -(2 ^ 63)) || decide (k ≥ 2 ^ 63)) = false := by
    rw [decide_eq_false (by omega), decide_eq_false (by omega)] <;> rfl
  have go : ∀ {Q' : Value → Shared → Prop}, codeAny (model X.prog X.w) X.A (.call (.builtin "tuple.__mul__") ⟨[.ref l, .int k t], []⟩) (fun r s' => match r with | .ok (.ret v) => Q' v s' | _ => False) s → True := fun _ => trivial
  have em : its.toArray.isEmpty = xs.isEmpty := by
    cases its <;> cases xs <;> simp_all
  by_cases hw : xs = [] ∨ k = 1
  · have c1 : (its.toArray.isEmpty || k == 1) = true := by
      rw [em]
      rcases hw with e | e <;> simp [e]
    refine wpAny_binaryOp_repeat_ref (T := "tuple") (U := "int") (by decide) ⟨_, ho, rfl⟩ (fun s' => typeIs_int s' k t) noFill_tuple_mul F.fills_int_mul F.slot_int_rmul repeat_tuple F.slot_int_index.lookup
      (call_meets F.slot_int_rmul (typeIs_int s k t) F.entry_int_rmul (F.args_int_rmul_2 _ _) (int_rmul_tuple k t l its.toArray n dd sl)
        ⟨ho, rfl, ⟨_, ho, rfl⟩, call_meets F.slot_tuple_mul ⟨_, ho, rfl⟩ F.entry_tuple_mul (F.args_tuple_mul_2 _ _) (tuple_mul1 l its.toArray n dd sl k t c0 c1) ⟨ho, ?_⟩⟩)
    exact ⟨.ref l, H, I, rfl, q1 hw⟩
  · have hx : xs ≠ [] := fun e => hw (.inl e)
    have hk : k ≠ 1 := fun e => hw (.inr e)
    have hxe : xs.isEmpty = false := by cases xs with | nil => exact absurd rfl hx | cons => rfl
    have c1 : (its.toArray.isEmpty || k == 1) = false := by
      rw [em, hxe, Bool.false_or]
      exact beq_eq_false_iff_ne.mpr hk
    have hpos : 1 ≤ xs.length := by cases xs with | nil => exact absurd rfl hx | cons => simp
    by_cases h0 : k ≤ 0
    · have c2 : (decide (k ≤ 0) || its.toArray.isEmpty) = true := by rw [decide_eq_true h0]; rfl
      refine wpAny_binaryOp_repeat_ref (T := "tuple") (U := "int") (by decide) ⟨_, ho, rfl⟩ (fun s' => typeIs_int s' k t) noFill_tuple_mul F.fills_int_mul F.slot_int_rmul repeat_tuple F.slot_int_index.lookup
        (call_meets F.slot_int_rmul (typeIs_int s k t) F.entry_int_rmul (F.args_int_rmul_2 _ _) (int_rmul_tuple k t l its.toArray n dd sl)
          ⟨ho, rfl, ⟨_, ho, rfl⟩, call_meets F.slot_tuple_mul ⟨_, ho, rfl⟩ F.entry_tuple_mul (F.args_tuple_mul_2 _ _) (tuple_mul0 l its.toArray n dd sl k t c0 c1 c2) ⟨ho, ?_⟩⟩)
      have e0 : k.toNat = 0 := by omega
      have q := q2 hw s.heap.objs.size (I.hok.fresh (Nat.le_refl _))
      rw [e0] at q
      exact ⟨.ref s.heap.objs.size, _, I.laid (t' := s.toks) (o := .tup []) (fun b ob q => Heap.get?_push_of_some _ q) (Nat.le_refl _) ⟨Nat.zero_le _, [], .nil, IsTup.new _ _⟩, rfl, q⟩
    · have hk2 : 2 ≤ k := by omega
      have hkl : k ≤ 100000 := by
        have h3 : 1 * k.toNat ≤ xs.length * k.toNat := Nat.mul_le_mul_right _ hpos
        omega
      have hm : ((its.toArray.size : Nat) : Int) * k ≤ 100000 := by
        have e : ((its.toArray.size : Nat) : Int) * k = ((xs.length * k.toNat : Nat) : Int) := by
          rw [List.size_toArray, hle, Int.natCast_mul]
          have e2 : ((k.toNat : Nat) : Int) = k := Int.toNat_of_nonneg (by omega)
          rw [e2]
        omega
      have flen : (List.replicate k.toNat its).flatten.length ≤ sizeLine := by
        rw [PyProof.Rows.lm_len_rep_flat, hle, sizeLine_eq, Nat.mul_comm]
        omega
      have c2 : (decide (k ≤ 0) || its.toArray.isEmpty) = false := by
        rw [em, hxe, Bool.or_false]
        exact decide_eq_false (by omega)
      have c4 : Builtin.Tuple.tupleTooMany (((its.toArray.size : Nat) : Int) * k) = false := by
        unfold Builtin.Tuple.tupleTooMany
        rw [sizeLine_eq]
        exact decide_eq_false (by omega)
      refine wpAny_binaryOp_repeat_ref (T := "tuple") (U := "int") (by decide) ⟨_, ho, rfl⟩ (fun s' => typeIs_int s' k t) noFill_tuple_mul F.fills_int_mul F.slot_int_rmul repeat_tuple F.slot_int_index.lookup
        (call_meets F.slot_int_rmul (typeIs_int s k t) F.entry_int_rmul (F.args_int_rmul_2 _ _) (int_rmul_tuple k t l its.toArray n dd sl)
          ⟨ho, rfl, ⟨_, ho, rfl⟩, call_meets F.slot_tuple_mul ⟨_, ho, rfl⟩ F.entry_tuple_mul (F.args_tuple_mul_2 _ _) (tuple_mulW l its.toArray n dd sl k t c0 c1 c2 (by omega) c4 (by rw [size_rep, List.size_toArray]; exact flen)) ⟨ho, ?_⟩⟩)
      rw [size_rep]
      refine ⟨.ref s.heap.objs.size, _, I.laid (t' := s.toks) (o := .tup (List.replicate k.toNat xs).flatten) (fun b ob q => Heap.get?_push_of_some _ q) (Nat.le_refl _) ?_, rfl, q2 hw _ (I.hok.fresh (Nat.le_refl _))⟩
      exact ⟨by rw [PyProof.Rows.lm_len_rep_flat, sizeLine_eq, Nat.mul_comm]; omega, _, r.rep k.toNat, IsTup.new _ _⟩
end
end PB
set_option maxHeartbeats 4000000
/-! Ic: the operators' rules over plain values. -/
namespace PB
open PySem PySem.Spec PyProof.Rows L2

def Ex (H H' : Hp) : Prop := ∀ a o, H a = some o → H' a = some o
theorem Ex.refl {H : Hp} : Ex H H := fun _ _ h => h
theorem Ex.trans {H H1 H2 : Hp} (a : Ex H H1) (b : Ex H1 H2) : Ex H H2 := fun x o h => b x o (a x o h)
theorem Ex.new {H : Hp} {p : Addr} {o : HO} (h : H p = none) : Ex H (upd H p o) := fun a u e => by
  rw [upd_ne (ne_of_none e h)]; exact e
theorem Ex.kp {Z : AS} {H H' : Hp} (e : Ex H H') : Kp Z Z H H' := fun a o h _ z => ⟨e a o h, z⟩
/-- a new address besides -/
def addZ (Z : AS) (p : Addr) : AS := fun a => Z a ∨ a = p
theorem Ex.kpZ {Z : AS} {H H' : Hp} {p : Addr} (e : Ex H H') (hp : H p = none) : Kp Z (addZ Z p) H H' := fun a o h _ z =>
  ⟨e a o h, fun q => q.elim z (ne_of_none h hp)⟩
def isHp : D → Bool
  | .lst _ => true
  | .dic _ _ => true
  | _ => false
/-- a new object that nothing else leans on -/
def FrR (Z : AS) (H H' : Hp) (z : D) (v : V) : Prop := isHp z = true → ∃ p, v = .ref p ∧ H p = none ∧ Own (addZ Z p) H' p z
/-- what is wanted behind an operation that gives the plain value z -/
def Res (Z : AS) (H : Hp) (fr : Bool) (z : D) (Q : VK) : Prop := ∀ v H', Ex H H' → Rep Z H' z v → (fr = true → FrR Z H H' z v) → Q v H'
/-- what is in Z stands, and is no tuple -/
def ZH (Z : AS) (H : Hp) : Prop := ∀ a, Z a → H a ≠ none ∧ ∀ xs, H a ≠ some (.tup xs)
theorem ZH.free {Z : AS} {H : Hp} (h : ZH Z H) {p : Addr} (hp : H p = none) : ¬ Z p := fun z => (h p z).1 hp
theorem RepO.tupRep {Z : AS} {H : Hp} {ds : List D} {v : V} (hz : ZH Z H) (h : RepB Z H (.tup ds) v) : Rep Z H (.tup ds) v := by
  obtain ⟨a, xs, e, q, r⟩ := h
  exact ⟨a, xs, e, ⟨fun z => (hz a z).2 _ q.2, q.2⟩, r⟩
section
variable {Z : AS} {H : Hp} {fr : Bool} {Q : VK}
theorem Res.flat {z : D} {v : V} (h : Res Z H fr z Q) (r : Rep Z H z v) (n : isHp z = false) : Q v H := h v H Ex.refl r fun _ q => by rw [n] at q; cases q
theorem Res.old {z : D} {v : V} (h : Res Z H false z Q) (r : Rep Z H z v) : Q v H := h v H Ex.refl r fun q => by cases q
theorem Res.lst {ds : List D} {xs : List V} (h : Res Z H fr (.lst ds) Q) (hz : ZH Z H) (r : RepL Z H ds xs) {p : Addr} (hp : H p = none) : Q (.ref p) (upd H p (.lst xs)) := by
  refine h _ _ (Ex.new hp) ⟨p, xs, rfl, ⟨hz.free hp, upd_same⟩, RepL.mono (Ex.new hp).kp _ _ r⟩ fun _ _ => ⟨p, rfl, hp, xs, upd_same, ?_⟩
  exact RepL.mono ((Ex.new hp).kpZ hp) _ _ r
theorem Res.tup {ds : List D} {xs : List V} (h : Res Z H fr (.tup ds) Q) (hz : ZH Z H) (r : RepL Z H ds xs) {p : Addr} (hp : H p = none) : Q (.ref p) (upd H p (.tup xs)) :=
  h _ _ (Ex.new hp) ⟨p, xs, rfl, ⟨hz.free hp, upd_same⟩, RepL.mono (Ex.new hp).kp _ _ r⟩ fun _ q => by cases q
end
/-- an operator's reading -/
def rO (o : O2) : R2 := fun x y H Q => ∃ Z d e z fr, ZH Z H ∧ RepB Z H d x ∧ RepB Z H e y ∧ op2 o d e = some z ∧ Res Z H fr z Q
theorem lim_le {n : Nat} (h : n ≤ lim) : n ≤ sizeLine := by
  have := sizeLine_eq
  unfold lim at h
  omega
section
variable {X : Cx}
/-- two ints -/
theorem rO_int {o : O2} {f : Value → Value → Sem Value} {C : Int → Int → Prop} {g : Int → Int → V} (ho : OpR X f (rI C g))
    (hh : ∀ d e z, op2 o d e = some z → ∃ i j, d = .int i ∧ e = .int j ∧ C i j ∧ isHp z = false ∧ ∀ Z H, Rep Z H z (g i j)) : OpR X f (rO o) := by
  intro pins s σ H x y v u Q I rx ry h
  obtain ⟨Z, d, e, z, fr, hz, hd, he, q, r⟩ := h
  obtain ⟨i, j, rfl, rfl, c, n, rep⟩ := hh d e z q
  cases hd
  cases he
  exact ho pins s σ H _ _ v u Q I rx ry ⟨i, j, rfl, rfl, c, r.flat (rep Z H) n⟩
theorem rI0_rI {g : Int → Int → V} {f : Value → Value → Sem Value} (h : OpR X f (rI0 g)) : OpR X f (rI (fun _ _ => True) g) := by
  intro pins s σ H x y v u Q I rx ry q
  obtain ⟨i, j, e1, e2, _, q⟩ := q
  exact h pins s σ H x y v u Q I rx ry ⟨i, j, e1, e2, q⟩
theorem o_sub : OpR X (binaryOp .Sub) (rO .sub) := rO_int (rI0_rI op_sub) fun d e z q => by
  cases d <;> cases e <;> simp only [op2] at q <;> first | cases q | skip
  exact ⟨_, _, rfl, rfl, trivial, rfl, fun _ _ => rfl⟩
theorem o_fdiv : OpR X (binaryOp .FloorDiv) (rO .fdiv) := rO_int op_fdiv fun d e z q => by
  cases d <;> cases e <;> simp only [op2] at q <;> first | cases q | skip
  split at q
  · rename_i h
    cases q
    simp only [Bool.and_eq_true, decide_eq_true_eq] at h
    exact ⟨_, _, rfl, rfl, h, rfl, fun _ _ => rfl⟩
  · cases q
theorem o_mod : OpR X (binaryOp .Mod) (rO .mod) := rO_int op_mod fun d e z q => by
  cases d <;> cases e <;> simp only [op2] at q <;> first | cases q | skip
  split at q
  · rename_i h
    cases q
    exact ⟨_, _, rfl, rfl, h, rfl, fun _ _ => rfl⟩
  · cases q
theorem o_pow : OpR X (binaryOp .Pow) (rO .pow) := rO_int op_pow fun d e z q => by
  cases d <;> cases e <;> simp only [op2] at q <;> first | cases q | skip
  split at q
  · rename_i h
    cases q
    simp only [Bool.and_eq_true, decide_eq_true_eq] at h
    exact ⟨_, _, rfl, rfl, ⟨h.1.1, h.1.2, h.2⟩, rfl, fun _ _ => rfl⟩
  · cases q
theorem o_shl : OpR X (binaryOp .LShift) (rO .shl) := rO_int op_shl fun d e z q => by
  cases d <;> cases e <;> simp only [op2] at q <;> first | cases q | skip
  split at q
  · rename_i h
    cases q
    simp only [Bool.and_eq_true, decide_eq_true_eq] at h
    exact ⟨_, _, rfl, rfl, ⟨h.1.1, h.1.2, h.2⟩, rfl, fun _ _ => rfl⟩
  · cases q
theorem o_shr : OpR X (binaryOp .RShift) (rO .shr) := rO_int op_shr fun d e z q => by
  cases d <;> cases e <;> simp only [op2] at q <;> first | cases q | skip
  split at q
  · rename_i h
    cases q
    exact ⟨_, _, rfl, rfl, h, rfl, fun _ _ => rfl⟩
  · cases q
theorem bits_of {f : Value → Value → Sem Value} {g : Int → Int → Int} {n : Nat → Nat → Nat} (h : OpR X f (rI0 fun i j => .int (g i j))) (hg : ∀ {i j : Int}, 0 ≤ i → 0 ≤ j → g i j = ((n i.toNat j.toNat : Nat) : Int)) :
    OpR X f (rI (fun i j => 0 ≤ i ∧ 0 ≤ j) fun i j => .int ((n i.toNat j.toNat : Nat) : Int)) := by
  intro pins s σ H x y v u Q I rx ry q
  obtain ⟨i, j, e1, e2, c, q⟩ := q
  exact h pins s σ H x y v u Q I rx ry ⟨i, j, e1, e2, by show Q (.int (g i j)) H; rw [hg c.1 c.2]; exact q⟩
theorem o_band : OpR X (binaryOp .BitAnd) (rO .band) := rO_int (bits_of (n := fun a b => a &&& b) op_and bitAnd_pp) fun d e z q => by
  cases d <;> cases e <;> simp only [op2] at q <;> first | cases q | skip
  split at q
  · rename_i h
    cases q
    simp only [Bool.and_eq_true, decide_eq_true_eq] at h
    exact ⟨_, _, rfl, rfl, h, rfl, fun _ _ => rfl⟩
  · cases q
theorem o_bor : OpR X (binaryOp .BitOr) (rO .bor) := rO_int (bits_of (n := fun a b => a ||| b) op_or Bits.bitOr_pp) fun d e z q => by
  cases d <;> cases e <;> simp only [op2] at q <;> first | cases q | skip
  split at q
  · rename_i h
    cases q
    simp only [Bool.and_eq_true, decide_eq_true_eq] at h
    exact ⟨_, _, rfl, rfl, h, rfl, fun _ _ => rfl⟩
  · cases q
theorem o_bxor : OpR X (binaryOp .BitXor) (rO .bxor) := rO_int (bits_of (n := fun a b => a ^^^ b) op_xor Bits.bitXor_pp) fun d e z q => by
  cases d <;> cases e <;> simp only [op2] at q <;> first | cases q | skip
  split at q
  · rename_i h
    cases q
    simp only [Bool.and_eq_true, decide_eq_true_eq] at h
    exact ⟨_, _, rfl, rfl, h, rfl, fun _ _ => rfl⟩
  · cases q
theorem o_lt : OpR X (compareOp .Lt) (rO .lt) := rO_int (rI0_rI op_lt) fun d e z q => by
  cases d <;> cases e <;> simp only [op2] at q <;> first | cases q | skip
  exact ⟨_, _, rfl, rfl, trivial, rfl, fun _ _ => rfl⟩
theorem o_le : OpR X (compareOp .LtE) (rO .le) := rO_int (rI0_rI op_le) fun d e z q => by
  cases d <;> cases e <;> simp only [op2] at q <;> first | cases q | skip
  exact ⟨_, _, rfl, rfl, trivial, rfl, fun _ _ => rfl⟩
theorem o_gt : OpR X (compareOp .Gt) (rO .gt) := rO_int (rI0_rI op_gt) fun d e z q => by
  cases d <;> cases e <;> simp only [op2] at q <;> first | cases q | skip
  exact ⟨_, _, rfl, rfl, trivial, rfl, fun _ _ => rfl⟩
theorem o_ge : OpR X (compareOp .GtE) (rO .ge) := rO_int (rI0_rI op_ge) fun d e z q => by
  cases d <;> cases e <;> simp only [op2] at q <;> first | cases q | skip
  exact ⟨_, _, rfl, rfl, trivial, rfl, fun _ _ => rfl⟩
/-- + -/
theorem o_add : OpR X (binaryOp .Add) (rO .add) := by
  intro pins s σ H x y v u Q I rx ry h
  obtain ⟨Z, d, e, z, fr, hz, hd, he, q, r⟩ := h
  cases d <;> cases e <;> simp only [op2] at q <;> first | cases q | skip
  · cases hd
    cases he
    exact op_add pins s σ H _ _ v u Q I rx ry ⟨_, _, rfl, rfl, r.flat rfl rfl⟩
  · split at q
    · rename_i hl
      cases q
      cases hd
      cases he
      exact op_add_str pins s σ H _ _ v u Q I rx ry ⟨_, _, rfl, rfl, lim_le hl, r.flat rfl rfl⟩
    · cases q
  · split at q
    · rename_i ds es hl
      cases q
      obtain ⟨a, xs, rfl, ha, ra⟩ := RepO.tup hd
      obtain ⟨b, ys, rfl, hb, rb⟩ := RepO.tup he
      have la := RepL.length _ _ ra
      have lb := RepL.length _ _ rb
      refine op_catA pins s σ H _ _ v u Q I rx ry ⟨a, b, xs, ys, rfl, rfl, .of ha, .of hb, by rw [la, lb]; exact lim_le hl, fun ex => ?_, fun _ ey => ?_, fun _ _ p hp => ?_⟩
      · subst ex
        have e0 : ds = [] := List.eq_nil_of_length_eq_zero (by simpa using la.symm)
        subst e0
        rw [List.nil_append] at r
        exact r.flat (RepO.tupRep hz he) rfl
      · subst ey
        have e0 : es = [] := List.eq_nil_of_length_eq_zero (by simpa using lb.symm)
        subst e0
        rw [List.append_nil] at r
        exact r.flat (RepO.tupRep hz hd) rfl
      · exact r.tup hz (RepL.append _ _ _ _ ra rb) hp
    · cases q
  · split at q
    · rename_i hl
      cases q
      obtain ⟨a, xs, rfl, ha, ra⟩ := RepO.lst hd
      obtain ⟨b, ys, rfl, hb, rb⟩ := RepO.lst he
      have la := RepL.length _ _ ra
      have lb := RepL.length _ _ rb
      exact op_cat pins s σ H _ _ v u Q I rx ry ⟨a, b, xs, ys, rfl, rfl, ha, hb, by rw [la, lb]; exact lim_le hl, fun p hp => r.lst hz (RepL.append _ _ _ _ ra rb) hp⟩
    · cases q

theorem mulOk_c {i j : Int} (h : mulOk i j = true) : CMul i j := by
  unfold mulOk at h
  simp only [Bool.or_eq_true, Bool.and_eq_true, decide_eq_true_eq] at h
  exact h
/-- * -/
theorem o_mul : OpR X (binaryOp .Mult) (rO .mul) := by
  intro pins s σ H x y v u Q I rx ry h
  obtain ⟨Z, d, e, z, fr, hz, hd, he, q, r⟩ := h
  cases d <;> cases e <;> simp only [op2] at q <;> first | cases q | skip
  · split at q
    · rename_i hm
      cases q
      cases hd
      cases he
      exact op_mul pins s σ H _ _ v u Q I rx ry ⟨_, _, rfl, rfl, mulOk_c hm, r.flat rfl rfl⟩
    · cases q
  · split at q
    · rename_i ds k hl
      cases q
      simp only [Bool.and_eq_true, decide_eq_true_eq] at hl
      cases he
      obtain ⟨a, xs, rfl, ha, ra⟩ := RepO.tup hd
      have la := RepL.length _ _ ra
      refine op_repU pins s σ H _ _ v u Q I rx ry ⟨a, k, xs, rfl, rfl, .of ha, hl.2, hl.1.2, by rw [la]; exact hl.1.1, fun ex => ?_, fun _ p hp => r.tup hz (RepL.rep _ _ ra _) hp⟩
      rcases ex with ex | ex
      · subst ex
        have e0 : ds = [] := List.eq_nil_of_length_eq_zero (by simpa using la.symm)
        subst e0
        have e1 : (List.replicate k.toNat ([] : List D)).flatten = [] := by simp
        rw [e1] at r
        exact r.flat (RepO.tupRep hz hd) rfl
      · subst ex
        have e1 : (List.replicate (1 : Int).toNat ds).flatten = ds := by simp
        rw [e1] at r
        exact r.flat (RepO.tupRep hz hd) rfl
    · cases q
  · split at q
    · rename_i ds k hl
      cases q
      simp only [Bool.and_eq_true, decide_eq_true_eq] at hl
      cases he
      obtain ⟨a, xs, rfl, ha, ra⟩ := RepO.lst hd
      have la := RepL.length _ _ ra
      exact op_rep pins s σ H _ _ v u Q I rx ry ⟨a, k, xs, rfl, rfl, ha, by omega, by omega, by rw [la]; exact lim_le hl.1.1, fun p hp => r.lst hz (RepL.rep _ _ ra _) hp⟩
    · cases q
/-- ==, != -/
theorem o_eq (hu : X.A.units + 64 < cLine) : OpR X (compareOp .Eq) (rO .eq) := by
  intro pins s σ H x y v u Q I rx ry h
  obtain ⟨Z, d, e, z, fr, hz, hd, he, q, r⟩ := h
  simp only [op2] at q
  split at q
  · rename_i hp
    cases q
    simp only [Bool.and_eq_true] at hp
    refine op_eqD hu pins s σ H _ _ v u Q I rx ry ⟨_, _, RepO.dp _ _ _ hp.1 hd, RepO.dp _ _ _ hp.2 he, plain_shaped (by decide) hp.1, plain_shaped (by decide) hp.2, ?_⟩
    rw [eqv_py]
    exact r.flat rfl rfl
  · cases q
theorem o_ne (hu : X.A.units + 64 < cLine) : OpR X (compareOp .NotEq) (rO .ne) := by
  intro pins s σ H x y v u Q I rx ry h
  obtain ⟨Z, d, e, z, fr, hz, hd, he, q, r⟩ := h
  simp only [op2] at q
  split at q
  · rename_i hp
    cases q
    simp only [Bool.and_eq_true] at hp
    refine op_neD hu pins s σ H _ _ v u Q I rx ry ⟨_, _, RepO.dp _ _ _ hp.1 hd, RepO.dp _ _ _ hp.2 he, plain_shaped (by decide) hp.1, plain_shaped (by decide) hp.2, ?_⟩
    rw [eqv_py]
    exact r.flat rfl rfl
  · cases q
theorem any_py (x : D) : ∀ ys : List D, ((toPyL ys).any fun z => PyData.eqv z (toPy x)) = ys.any fun y => eqv y x
  | [] => rfl
  | y :: ys => by simp only [toPyL, List.any_cons, eqv_py, any_py x ys]
/-! dicts -/
theorem repKey_eq {a b : Key} {x y : D} (h : repKey a x) (h' : repKey b y) : keyEq1 x y = decide (a = b) := by
  cases x <;> cases y <;> simp only [repKey] at h h' <;> first | exact h.elim | exact h'.elim | skip
  all_goals subst h h'; simp [keyEq1]
  all_goals rfl
theorem repKeys_eq : ∀ {a b : List Key} {x y : List D}, repKeys a x → repKeys b y → keyEqL x y = decide (a = b)
  | [], [], [], [], _, _ => by simp [keyEqL]
  | [], _ :: _, [], _ :: _, _, _ => by simp [keyEqL]
  | _ :: _, [], _ :: _, [], _, _ => by simp [keyEqL]
  | a :: as, b :: bs, x :: xs, y :: ys, h, h' => by
    simp only [keyEqL, repKey_eq h.1 h'.1, repKeys_eq h.2 h'.2, List.cons.injEq, Bool.decide_and]
  | [], [], [], _ :: _, _, h => h.elim
  | [], [], _ :: _, _, h, _ => h.elim
  | [], _ :: _, [], [], _, h => h.elim
  | [], _ :: _, _ :: _, _, h, _ => h.elim
  | _ :: _, [], [], _, h, _ => h.elim
  | _ :: _, [], _ :: _, _ :: _, _, h => h.elim
  | _ :: _, _ :: _, [], _, h, _ => h.elim
  | _ :: _, _ :: _, _ :: _, [], _, h => h.elim

theorem repK_get {Z : AS} {H : Hp} {k : Key} {kd : D} (hk : repKey k kd) (hk1 : isKey1 kd = true) : ∀ (ds : List (D × D)) (kvs : List (Key × V)), RepK Z H ds kvs →
    (dGet ds kd = none ∧ valV kvs k = none) ∨ ∃ d v, dGet ds kd = some d ∧ valV kvs k = some v ∧ Rep Z H d v
  | [], kvs, h => by cases h; exact .inl ⟨rfl, rfl⟩
  | (q, d) :: ds, kvs, h => by
    obtain ⟨q', v, r, e, h0, h1, h2⟩ := h
    subst e
    have eq : keyEq q kd = decide (q' = k) := by
      cases kd with
      | int i => cases q <;> first | exact repKey_eq h0 hk | exact h0.elim
      | str i => cases q <;> first | exact repKey_eq h0 hk | exact h0.elim
      | _ => simp [isKey1] at hk1
    by_cases c : q' = k
    · refine .inr ⟨d, v, ?_, valV_pos (p := (q', v)) c, h1⟩
      simp [dGet, eq, c]
    · rw [valV_neg (p := (q', v)) c]
      have e2 : dGet ((q, d) :: ds) kd = dGet ds kd := by simp [dGet, eq, c]
      rw [e2]
      exact repK_get hk hk1 ds r h2
theorem repT_get {Z : AS} {H : Hp} {k : List Key} {ks : List D} (hk : repKeys k ks) : ∀ (ds : List (D × D)) (kvs : List (List Key × V)), RepT Z H ds kvs →
    (dGet ds (.tup ks) = none ∧ valV kvs k = none) ∨ ∃ d v, dGet ds (.tup ks) = some d ∧ valV kvs k = some v ∧ Rep Z H d v
  | [], kvs, h => by cases h; exact .inl ⟨rfl, rfl⟩
  | (q, d) :: ds, kvs, h => by
    obtain ⟨q', v, r, qs, e, eq0, h0, h1, h2⟩ := h
    subst e eq0
    have eq : keyEq (.tup qs) (.tup ks) = decide (q' = k) := by simp only [keyEq]; exact repKeys_eq h0 hk
    by_cases c : q' = k
    · refine .inr ⟨d, v, ?_, valV_pos (p := (q', v)) c, h1⟩
      simp [dGet, eq, c]
    · rw [valV_neg (p := (q', v)) c]
      have e2 : dGet ((.tup qs, d) :: ds) (.tup ks) = dGet ds (.tup ks) := by simp [dGet, eq, c]
      rw [e2]
      exact repT_get hk ds r h2
theorem key_of1 {Z : AS} {H : Hp} {kd : D} {y : V} (h : isKey1 kd = true) (r : Rep Z H kd y) : ∃ k, repKey k kd ∧ y = kV k := by
  cases kd with
  | int i => exact ⟨.inl i, rfl, r⟩
  | str x => exact ⟨.inr x, rfl, r⟩
  | _ => simp [isKey1] at h
theorem keys_of1 {Z : AS} {H : Hp} : ∀ (ks : List D) (xs : List V), ks.all isKey1 = true → RepL Z H ks xs → ∃ k, repKeys k ks ∧ xs = k.map kV
  | [], xs, _, h => by cases h; exact ⟨[], trivial, rfl⟩
  | d :: ds, xs, a, h => by
    obtain ⟨v, r, e, h1, h2⟩ := h
    subst e
    simp only [List.all_cons, Bool.and_eq_true] at a
    obtain ⟨k, e1, e2⟩ := key_of1 a.1 h1
    obtain ⟨ks, e3, e4⟩ := keys_of1 ds r a.2 h2
    exact ⟨k :: ks, ⟨e1, e3⟩, by rw [e2, e4]; rfl⟩
/-- what a dict holds at a key -/
theorem dget_of {Z : AS} {H : Hp} {t : Bool} {ds : List (D × D)} {kd : D} {x y : V} (hd : RepB Z H (.dic t ds) x) (hk : RepB Z H kd y) (ik : isKey t kd = true) :
    ∃ a o, x = .ref a ∧ DGet H a y o ∧ ((dGet ds kd = none ∧ o = none) ∨ ∃ d v, dGet ds kd = some d ∧ o = some v ∧ Rep Z H d v) := by
  obtain ⟨a, rfl, _, h⟩ := hd
  rcases h with ⟨rfl, kvs, e, r⟩ | ⟨rfl, kvs, e, r⟩
  · have ik1 : isKey1 kd = true := ik
    have hk' : Rep Z H kd y := by
      cases kd with
      | int i => exact hk
      | str i => exact hk
      | _ => simp [isKey1] at ik1
    obtain ⟨k, e1, rfl⟩ := key_of1 ik1 hk'
    refine ⟨a, valV kvs k, rfl, DGet.k e, ?_⟩
    rcases repK_get e1 ik1 ds kvs r with ⟨q1, q2⟩ | ⟨d, v, q1, q2, q3⟩
    · exact .inl ⟨q1, q2⟩
    · exact .inr ⟨d, v, q1, q2, q3⟩
  · cases kd with
    | tup ks =>
      obtain ⟨b, xs, rfl, eb, rb⟩ := RepO.tup hk
      obtain ⟨k, e1, rfl⟩ := keys_of1 ks xs ik rb
      refine ⟨a, valV kvs k, rfl, DGet.t e eb, ?_⟩
      rcases repT_get e1 ds kvs r with ⟨q1, q2⟩ | ⟨d, v, q1, q2, q3⟩
      · exact .inl ⟨q1, q2⟩
      · exact .inr ⟨d, v, q1, q2, q3⟩
    | _ => simp [isKey] at ik
theorem isSome_of {Z : AS} {H : Hp} {ds : List (D × D)} {kd : D} {o : Option V} (h : (dGet ds kd = none ∧ o = none) ∨ ∃ d v, dGet ds kd = some d ∧ o = some v ∧ Rep Z H d v) : o.isSome = (dGet ds kd).isSome := by
  rcases h with ⟨h1, h2⟩ | ⟨d, v, h1, h2, _⟩ <;> rw [h1, h2] <;> rfl
theorem flat_of {Z : AS} {H : Hp} {d : D} {v : V} (p : plainD 0 d = true) (h : RepB Z H d v) : flatV v = true ∧ ∀ e w, plainD 0 e = true → RepB Z H e w → eqV w v = eqv e d := by
  have g : ∀ {d : D} {v : V}, plainD 0 d = true → RepB Z H d v → (d = .non ∧ v = .non) ∨ (∃ b, d = .bl b ∧ v = .bl b) ∨ (∃ b, d = .int b ∧ v = .int b) ∨ ∃ b, d = .str b ∧ v = .str b := by
    intro d v p h
    cases d with
    | non => exact .inl ⟨rfl, h⟩
    | bl b => exact .inr (.inl ⟨b, rfl, h⟩)
    | int b => exact .inr (.inr (.inl ⟨b, rfl, h⟩))
    | str b => exact .inr (.inr (.inr ⟨b, rfl, h⟩))
    | _ => simp [plainD] at p
  refine ⟨?_, fun e w pe he => ?_⟩
  · rcases g p h with ⟨_, rfl⟩ | ⟨b, _, rfl⟩ | ⟨b, _, rfl⟩ | ⟨b, _, rfl⟩ <;> rfl
  · rcases g p h with ⟨rfl, rfl⟩ | ⟨b, rfl, rfl⟩ | ⟨b, rfl, rfl⟩ | ⟨b, rfl, rfl⟩ <;> rcases g pe he with ⟨rfl, rfl⟩ | ⟨c, rfl, rfl⟩ | ⟨c, rfl, rfl⟩ | ⟨c, rfl, rfl⟩ <;> simp [eqV, eqv, i01]
theorem flats_of {Z : AS} {H : Hp} {d : D} {v : V} (p : plainD 0 d = true) (h : RepB Z H d v) : ∀ (ys : List D) (ws : List V), plainL 0 ys = true → RepL Z H ys ws → ws.all flatV = true ∧ inV v ws = ys.any fun y => eqv y d
  | [], ws, _, r => by cases r; exact ⟨rfl, rfl⟩
  | y :: ys, ws, q, r => by
    obtain ⟨w, r', e, h1, h2⟩ := r
    subst e
    simp only [plainL, Bool.and_eq_true] at q
    have a := flats_of p h ys r' q.2 h2
    have b := (flat_of p h).2 y w q.1 (Rep.toB _ _ h1)
    have c := (flat_of q.1 (Rep.toB _ _ h1)).1
    refine ⟨by rw [List.all_cons, c, a.1]; rfl, ?_⟩
    unfold inV
    rw [List.any_cons, List.any_cons, b]
    have a2 := a.2
    unfold inV at a2
    rw [a2]
theorem o_in (hu : X.A.units + 65 < cLine) : OpR X (compareOp .In) (rO .isIn) := by
  intro pins s σ H x y v u Q I rx ry h
  obtain ⟨Z, d, e, z, fr, hz, hd, he, q, r⟩ := h
  cases e <;> simp only [op2] at q <;> first | cases q | skip
  · split at q
    · rename_i ys hp
      cases q
      simp only [Bool.and_eq_true] at hp
      obtain ⟨b, ws, rfl, eb, rb⟩ := RepO.tup he
      have a := flats_of hp.1 hd ys ws hp.2 rb
      refine op_in_seq pins s σ H _ _ v u Q I rx ry ⟨b, ws, rfl, .inr (.of eb), (flat_of hp.1 hd).1, a.1, ?_⟩
      show Q (.bl (inV x ws)) H
      rw [a.2]
      exact r.flat rfl rfl
    · cases q
  · split at q
    · rename_i ys hp
      cases q
      simp only [Bool.and_eq_true] at hp
      refine op_inD hu pins s σ H _ _ v u Q I rx ry ⟨_, _, RepO.dp _ _ _ hp.1 hd, RepO.dp _ _ _ hp.2 he, plain_shaped (by decide) hp.1, plain_shaped (by decide) hp.2, ?_⟩
      rw [any_py]
      exact r.flat rfl rfl
    · cases q
  · split at q
    · rename_i t kvs hp
      cases q
      obtain ⟨a, o, rfl, g, ho⟩ := dget_of he hd hp
      cases ry
      refine d_in (by omega) I g rx fun s' I' => ⟨.bl _, H, I', rfl, ?_⟩
      rw [isSome_of ho]
      exact r.flat rfl rfl
    · cases q
theorem o_notIn (hu : X.A.units + 65 < cLine) : OpR X (compareOp .NotIn) (rO .notIn) := by
  intro pins s σ H x y v u Q I rx ry h
  obtain ⟨Z, d, e, z, fr, hz, hd, he, q, r⟩ := h
  cases e <;> simp only [op2] at q <;> first | cases q | skip
  · split at q
    · rename_i ys hp
      cases q
      simp only [Bool.and_eq_true] at hp
      obtain ⟨b, ws, rfl, eb, rb⟩ := RepO.tup he
      have a := flats_of hp.1 hd ys ws hp.2 rb
      refine op_notIn_seq pins s σ H _ _ v u Q I rx ry ⟨b, ws, rfl, .inr (.of eb), (flat_of hp.1 hd).1, a.1, ?_⟩
      show Q (.bl (!inV x ws)) H
      rw [a.2]
      exact r.flat rfl rfl
    · cases q
  · split at q
    · rename_i ys hp
      cases q
      simp only [Bool.and_eq_true] at hp
      refine op_notInD hu pins s σ H _ _ v u Q I rx ry ⟨_, _, RepO.dp _ _ _ hp.1 hd, RepO.dp _ _ _ hp.2 he, plain_shaped (by decide) hp.1, plain_shaped (by decide) hp.2, ?_⟩
      rw [any_py]
      exact r.flat rfl rfl
    · cases q
  · split at q
    · rename_i t kvs hp
      cases q
      obtain ⟨a, o, rfl, g, ho⟩ := dget_of he hd hp
      cases ry
      refine d_notIn (by omega) I g rx fun s' I' => ⟨.bl _, H, I', rfl, ?_⟩
      rw [isSome_of ho]
      exact r.flat rfl rfl
    · cases q
theorem non_iff {Z : AS} {H : Hp} {d : D} {v : V} (h : RepB Z H d v) : decide (v = .non) = isNon d := by
  cases d with
  | non => cases h; rfl
  | bl b => cases h; rfl
  | int b => cases h; rfl
  | str b => cases h; rfl
  | tup b => obtain ⟨a, xs, rfl, _⟩ := h; rfl
  | lst b => obtain ⟨a, xs, rfl, _⟩ := h; rfl
  | dic t b => obtain ⟨a, rfl, _⟩ := h; rfl
theorem o_is : OpR X (compareOp .Is) (rO .is) := by
  intro pins s σ H x y v u Q I rx ry h
  obtain ⟨Z, d, e, z, fr, hz, hd, he, q, r⟩ := h
  cases e <;> simp only [op2] at q <;> first | cases q | skip
  cases he
  refine op_isN pins s σ H _ _ v u Q I rx ry ⟨rfl, ?_⟩
  rw [non_iff hd]
  exact r.flat rfl rfl
theorem o_isNot : OpR X (compareOp .IsNot) (rO .isNot) := by
  intro pins s σ H x y v u Q I rx ry h
  obtain ⟨Z, d, e, z, fr, hz, hd, he, q, r⟩ := h
  cases e <;> simp only [op2] at q <;> first | cases q | skip
  cases he
  refine op_notN pins s σ H _ _ v u Q I rx ry ⟨rfl, ?_⟩
  rw [non_iff hd]
  exact r.flat rfl rfl
/-! ### a[b] -/
theorem ixOf_eq (n : Nat) (i : Int) : ixOf n i = ixN n i := rfl
def rIxD : R2 := fun x y H Q => ∃ Z d e z, ZH Z H ∧ RepB Z H d x ∧ Rep Z H e y ∧ idxD d e = some z ∧ Res Z H false z Q
theorem atD_get {ds : List D} {i : Int} {z : D} (h : atD ds i = some z) : ∃ j, ixN ds.length i = some j ∧ ds[j]? = some z := by
  unfold atD at h
  obtain ⟨j, h1, h2⟩ := Option.bind_eq_some_iff.mp h
  exact ⟨j, h1, h2⟩
theorem repL_at {Z : AS} {H : Hp} {ds : List D} {xs : List V} (r : RepL Z H ds xs) {i : Int} {z : D} (h : atD ds i = some z) : ∃ v, atI xs i = some v ∧ Rep Z H z v := by
  obtain ⟨j, h1, h2⟩ := atD_get h
  obtain ⟨v, e, rv⟩ := RepL.get ds xs r j z h2
  refine ⟨v, ?_, rv⟩
  unfold atI
  rw [RepL.length ds xs r, h1]
  exact e
theorem ix_plain (hu : X.A.units + 1 < cLine) : IxR X rIxD := by
  intro value slice pins s σ H x y v u Q I rx ry h hs
  obtain ⟨Z, d, e, z, hz, hd, he, q, r⟩ := h
  cases d with
  | tup ds =>
    cases e <;> simp only [idxD] at q <;> first | cases q | skip
    cases he
    obtain ⟨a, xs, rfl, ha, ra⟩ := RepO.tup hd
    obtain ⟨w, e1, e2⟩ := repL_at ra q
    exact ix_tup value slice pins s σ H _ _ v u Q I rx ry ⟨a, xs, _, w, rfl, rfl, .of ha, e1, r.old e2⟩ hs
  | lst ds =>
    cases e <;> simp only [idxD] at q <;> first | cases q | skip
    cases he
    obtain ⟨a, xs, rfl, ha, ra⟩ := RepO.lst hd
    obtain ⟨w, e1, e2⟩ := repL_at ra q
    exact ix_list value slice pins s σ H _ _ v u Q I rx ry ⟨a, xs, _, w, rfl, rfl, .of ha, e1, r.old e2⟩ hs
  | dic t ds =>
    simp only [idxD] at q
    split at q
    · rename_i ik
      obtain ⟨a, o, rfl, g, ho⟩ := dget_of hd (Rep.toB _ _ he) ik
      rcases ho with ⟨h1, _⟩ | ⟨d, w, h1, h2, h3⟩
      · rw [h1] at q; cases q
      · rw [h1] at q
        cases q
        subst h2
        obtain rfl : v = Value.ref a := rx
        have hT := dict_typeIs I g
        unfold subscriptTail
        refine wpAny_bind ?_
        rw [getitemInPython_of_ne hT.not_modules]
        refine wpAny_bind (wpAny_specialOf hT PySem.F.slot_dict_getitem.lookup ?_)
        have fin : wpAny (model X.prog X.w) X.A (subscripted slice false (.ref a) u) (fun r s₃ => wpAny (model X.prog X.w) X.A (letTemporaryGo value (.ref a) r >>= fun _ => pure r) (EP X pins σ Q) X.xe s₃) X.xe s := by
          rw [hs]
          exact wpAny_operating (wpAny_mono (d_getItem hu I g ry fun w' s3 I3 rw' => (⟨w, H, I3, rw', r.old h3⟩ : EP X pins σ Q w' s3)) (fun r s₃ h₃ => wpAny_bind (wpAny_letTemporaryGo (wpAny_pure h₃))) fun _ _ x => x)
        first
          | exact wpAny_pure (wpAny_bind fin)
          | exact wpAny_bind (wpAny_pure (wpAny_bind fin))
          | exact wpAny_bind fin
    · cases q
  | _ => simp [idxD] at q
/-! ### a[lo:hi] -/
def rSlD : V → Option Int → Option Int → Hp → VK → Prop := fun x lo hi H Q => ∃ Z d z fr, ZH Z H ∧ RepB Z H d x ∧ slcD d lo hi = some z ∧ Res Z H fr z Q
theorem repL_cut {Z : AS} {H : Hp} {ds : List D} {xs : List V} (r : RepL Z H ds xs) (lo hi : Option Int) : RepL Z H (cutD ds lo hi) (cutV xs lo hi) := by
  unfold cutD cutV
  rw [RepL.length ds xs r]
  exact RepL.take _ _ _ (RepL.drop _ _ _ r)
theorem sl_plain : SlR X rSlD := by
  intro pins s σ H x v vl vu lo hi sl Q I rx hs pl pu h
  obtain ⟨Z, d, z, fr, hz, hd, q, r⟩ := h
  cases d <;> simp only [slcD] at q <;> first | cases q | skip
  · obtain ⟨a, xs, rfl, ha, ra⟩ := RepO.tup hd
    refine sl_tupA pins s σ H _ v vl vu lo hi sl Q I rx hs pl pu ⟨a, xs, rfl, .of ha, fun hw => ?_, fun _ p hp => r.tup hz (repL_cut ra lo hi) hp⟩
    rename_i ds
    have e : cutD ds lo hi = ds := by
      unfold cutD
      rw [← RepL.length ds xs ra, hw.1, hw.2]
      simp [RepL.length ds xs ra]
    rw [e] at r
    exact r.flat (RepO.tupRep hz hd) rfl
  · obtain ⟨a, xs, rfl, ha, ra⟩ := RepO.lst hd
    exact sl_list pins s σ H _ v vl vu lo hi sl Q I rx hs pl pu ⟨a, xs, rfl, .of ha, fun p hp => r.lst hz (repL_cut ra lo hi) hp⟩
/-! ### truth -/
theorem truth_of {Z : AS} {H : Hp} {d : D} {v : V} {b : Bool} (K : PySem.W.Frag) (hd : RepB Z H d v) (h : truthO d = some b) : TruV K v H b := by
  cases d with
  | non => cases hd; cases h; rfl
  | bl b => cases hd; cases h; rfl
  | int b => cases hd; cases h; rfl
  | str x =>
    cases hd
    simp only [truthO] at h
    split at h
    · rename_i hl
      cases h
      refine ⟨lim_le hl, ?_⟩
      show (x.length != 0) = ((x.length : Int) != 0)
      generalize x.length = n
      cases n with
      | zero => rfl
      | succ n =>
        have h1 : (n + 1 != 0) = true := by simp
        have h2 : (((n + 1 : Nat) : Int) != 0) = true := by
          rw [bne_iff_ne]
          omega
        rw [h1, h2]
    · cases h
  | tup ds =>
    obtain ⟨a, xs, rfl, ha, ra⟩ := RepO.tup hd
    cases h
    refine .inr (.inl ⟨xs, .of ha, ?_⟩)
    have := RepL.length _ _ ra
    cases ds <;> cases xs <;> simp_all [truth]
  | lst ds =>
    obtain ⟨a, xs, rfl, ha, ra⟩ := RepO.lst hd
    cases h
    refine .inl ⟨xs, .of ha, ?_⟩
    have := RepL.length _ _ ra
    cases ds <;> cases xs <;> simp_all [truth]
  | dic t ds =>
    obtain ⟨a, rfl, _, q⟩ := hd
    rcases q with ⟨rfl, kvs, e, r⟩ | ⟨rfl, kvs, e, r⟩
    · cases h
      refine .inr (.inr ⟨kvs, e, ?_⟩)
      cases ds with
      | nil => cases r; rfl
      | cons p ds =>
        obtain ⟨k, d⟩ := p
        obtain ⟨_, _, _, rfl, _⟩ := r
        rfl
    · cases h
end
end PB
set_option maxHeartbeats 4000000
/-! Id: built-ins over plain values. -/
namespace PB
open PySem PySem.Spec PyProof.Rows L2

def RepBs (Z : AS) (H : Hp) : List D → List V → Prop
  | [], vs => vs = []
  | d :: ds, vs => ∃ v r, vs = v :: r ∧ RepB Z H d v ∧ RepBs Z H ds r
/-- a built-in's reading -/
def rB (f : Bi) : List V → Hp → VK → Prop := fun vs H Q => ∃ Z ds z fr, ZH Z H ∧ RepBs Z H ds vs ∧ bi f ds = some z ∧ Res Z H fr z Q
section
variable {Z : AS} {H : Hp}
theorem RepBs.one {d : D} {vs : List V} (h : RepBs Z H [d] vs) : ∃ v, vs = [v] ∧ RepB Z H d v := by
  obtain ⟨v, r, e, h1, h2⟩ := h
  cases h2
  exact ⟨v, e, h1⟩
theorem RepBs.two {d e : D} {vs : List V} (h : RepBs Z H [d, e] vs) : ∃ v w, vs = [v, w] ∧ RepB Z H d v ∧ RepB Z H e w := by
  obtain ⟨v, r, q, h1, h2⟩ := h
  obtain ⟨w, q2, h3⟩ := h2.one
  subst q2
  exact ⟨v, w, q, h1, h3⟩
/-- a list or a tuple -/
theorem RepO.seq {d : D} {l : List D} {v : V} (e : seqOf d = some l) (h : RepB Z H d v) : ∃ a xs, v = .ref a ∧ ((d = .lst l ∧ H a = some (.lst xs)) ∨ (d = .tup l ∧ H a = some (.tup xs))) ∧ RepL Z H l xs := by
  cases d <;> simp only [seqOf] at e <;> first | cases e | skip
  · obtain ⟨a, xs, rfl, ha, r⟩ := RepO.tup h
    exact ⟨a, xs, rfl, .inr ⟨rfl, ha⟩, r⟩
  · obtain ⟨a, xs, rfl, ha, r⟩ := RepO.lst h
    exact ⟨a, xs, rfl, .inl ⟨rfl, ha⟩, r⟩
end
section
variable {X : Cx}
theorem repK_len {Z : AS} {H : Hp} : ∀ {ds : List (D × D)} {kvs : List (Key × V)}, RepK Z H ds kvs → kvs.length = ds.length
  | [], _, h => by cases h; rfl
  | (_, _) :: _, _, h => by obtain ⟨q, v, r, e, _, _, h2⟩ := h; subst e; simp [repK_len h2]
theorem repT_len {Z : AS} {H : Hp} : ∀ {ds : List (D × D)} {kvs : List (List Key × V)}, RepT Z H ds kvs → kvs.length = ds.length
  | [], _, h => by cases h; rfl
  | (_, _) :: _, _, h => by obtain ⟨q, v, r, ks, e, _, _, _, h2⟩ := h; subst e; simp [repT_len h2]
theorem b_len : CallR X (.builtin "len") (rB .len) := by
  intro pins s σ H vs us Q I r h
  obtain ⟨Z, ds, z, fr, hz, hd, q, k⟩ := h
  match ds, q with
  | [d], q =>
    simp only [bi, Option.map_eq_some_iff] at q
    obtain ⟨n, e, rfl⟩ := q
    obtain ⟨v, rfl, hv⟩ := hd.one
    cases d <;> simp only [lenD] at e <;> first | cases e | skip
    · rename_i x
      split at e
      · rename_i hl
        cases e
        cases hv
        exact call_len_str pins s σ H _ us Q I r ⟨_, rfl, lim_le hl, k.flat rfl rfl⟩
      · cases e
    · obtain ⟨a, ws, rfl, ha, ra⟩ := RepO.tup hv
      refine call_len_seq pins s σ H _ us Q I r ⟨a, ws, rfl, .inr (.of ha), ?_⟩
      rw [RepL.length _ _ ra]
      exact k.flat rfl rfl
    · obtain ⟨a, ws, rfl, ha, ra⟩ := RepO.lst hv
      refine call_len_seq pins s σ H _ us Q I r ⟨a, ws, rfl, .inl (.of ha), ?_⟩
      rw [RepL.length _ _ ra]
      exact k.flat rfl rfl
    · obtain ⟨a, rfl, _, ⟨ht, kvs, e1, r1⟩ | ⟨ht, kvs, e1, r1⟩⟩ := hv
      · obtain ⟨u, rfl, rx⟩ := vals1 r
        cases rx
        refine d_len I (.inl e1) fun t s' I' => ⟨.int kvs.length, H, I', ⟨_, rfl⟩, ?_⟩
        rw [repK_len r1]
        exact k.flat rfl rfl
      · refine call_len_dT pins s σ H _ us Q I r ⟨a, kvs, rfl, e1, ?_⟩
        rw [repT_len r1]
        exact k.flat rfl rfl
theorem b_sum (hc : X.calm = true) : CallR X (.builtin "sum") (rB .sum) := by
  intro pins s σ H vs us Q I r h
  obtain ⟨Z, ds, z, fr, hz, hd, q, k⟩ := h
  match ds, q with
  | [.lst xs], q =>
    simp only [bi, Option.map_eq_some_iff] at q
    obtain ⟨l, el, rfl⟩ := q
    obtain ⟨v, rfl, hv⟩ := hd.one
    obtain ⟨a, ws, rfl, ha, ra⟩ := RepO.lst hv
    have e := RepL.ints _ _ _ ra el
    subst e
    exact cr_sum hc pins s σ H _ us Q I r ⟨a, l, rfl, .of ha, k.flat rfl rfl⟩
theorem b_any (hc : X.calm = true) : CallR X (.builtin "any") (rB .any) := by
  intro pins s σ H vs us Q I r h
  obtain ⟨Z, ds, z, fr, hz, hd, q, k⟩ := h
  match ds, q with
  | [.lst xs], q =>
    simp only [bi, Option.map_eq_some_iff] at q
    obtain ⟨l, el, rfl⟩ := q
    obtain ⟨v, rfl, hv⟩ := hd.one
    obtain ⟨a, ws, rfl, ha, ra⟩ := RepO.lst hv
    have e := RepL.bls _ _ _ ra el
    subst e
    exact cr_any hc pins s σ H _ us Q I r ⟨a, l, rfl, .of ha, k.flat rfl rfl⟩
theorem b_all (hc : X.calm = true) : CallR X (.builtin "all") (rB .all) := by
  intro pins s σ H vs us Q I r h
  obtain ⟨Z, ds, z, fr, hz, hd, q, k⟩ := h
  match ds, q with
  | [.lst xs], q =>
    simp only [bi, Option.map_eq_some_iff] at q
    obtain ⟨l, el, rfl⟩ := q
    obtain ⟨v, rfl, hv⟩ := hd.one
    obtain ⟨a, ws, rfl, ha, ra⟩ := RepO.lst hv
    have e := RepL.bls _ _ _ ra el
    subst e
    exact cr_all hc pins s σ H _ us Q I r ⟨a, l, rfl, .of ha, k.flat rfl rfl⟩
theorem b_tuple : CallR X (.type "tuple") (rB .tuple) := by
  intro pins s σ H vs us Q I r h
  obtain ⟨Z, ds, z, fr, hz, hd, q, k⟩ := h
  match ds, q with
  | [d], q =>
    simp only [bi, Option.map_eq_some_iff] at q
    obtain ⟨l, el, rfl⟩ := q
    obtain ⟨v, rfl, hv⟩ := hd.one
    obtain ⟨a, ws, rfl, ha, ra⟩ := RepO.seq el hv
    rcases ha with ⟨rfl, ha⟩ | ⟨rfl, ha⟩
    · exact call_tuple_of pins s σ H _ us Q I r ⟨a, ws, rfl, .inl ⟨.of ha, fun p hp => k.tup hz ra hp⟩⟩
    · exact call_tuple_of pins s σ H _ us Q I r ⟨a, ws, rfl, .inr ⟨.of ha, k.flat (RepO.tupRep hz hv) rfl⟩⟩
theorem b_list : CallR X (.type "list") (rB .list) := by
  intro pins s σ H vs us Q I r h
  obtain ⟨Z, ds, z, fr, hz, hd, q, k⟩ := h
  match ds, q with
  | [d], q =>
    simp only [bi, Option.map_eq_some_iff] at q
    obtain ⟨l, el, rfl⟩ := q
    obtain ⟨v, rfl, hv⟩ := hd.one
    obtain ⟨a, ws, rfl, ha, ra⟩ := RepO.seq el hv
    rcases ha with ⟨rfl, ha⟩ | ⟨rfl, ha⟩
    · exact call_list_of pins s σ H _ us Q I r ⟨a, ws, rfl, .inl (.of ha), fun p hp => k.lst hz ra hp⟩
    · exact call_list_of pins s σ H _ us Q I r ⟨a, ws, rfl, .inr (.of ha), fun p hp => k.lst hz ra hp⟩
theorem b_int : CallR X (.type "int") (rB .int) := by
  intro pins s σ H vs us Q I r h
  obtain ⟨Z, ds, z, fr, hz, hd, q, k⟩ := h
  match ds, q with
  | [.int i], q =>
    cases q
    obtain ⟨v, rfl, hv⟩ := hd.one
    cases hv
    exact call_int1 pins s σ H _ us Q I r (.inl ⟨_, rfl, k.flat rfl rfl⟩)
  | [.bl b], q =>
    cases q
    obtain ⟨v, rfl, hv⟩ := hd.one
    cases hv
    exact call_int1 pins s σ H _ us Q I r (.inr ⟨_, rfl, k.flat rfl rfl⟩)
theorem b_abs : CallR X (.builtin "abs") (rB .abs) := by
  intro pins s σ H vs us Q I r h
  obtain ⟨Z, ds, z, fr, hz, hd, q, k⟩ := h
  match ds, q with
  | [.int i], q =>
    cases q
    obtain ⟨v, rfl, hv⟩ := hd.one
    cases hv
    exact call_abs pins s σ H _ us Q I r ⟨_, rfl, k.flat rfl rfl⟩
/-! repr -/
mutual
theorem show_ok : ∀ (n : Nat) (d : D), plainD n d = true → showI d = true → (toPy d).showable = true
  | _, .non, _, _ => by simp [toPy, PyData.showable]
  | _, .bl b, _, _ => by simp [toPy, PyData.showable]
  | _, .int i, _, h => by simpa [toPy, PyData.showable, showI] using h
  | _, .str x, _, _ => by simp [toPy, PyData.showable]
  | 0, .tup ds, p, _ => by simp [plainD] at p
  | n + 1, .tup ds, p, h => by
    simp only [toPy, PyData.showable]
    exact show_okL n ds (by simpa [plainD] using p) (by simpa [showI] using h)
  | 0, .lst ds, p, _ => by simp [plainD] at p
  | n + 1, .lst ds, p, h => by
    simp only [toPy, PyData.showable]
    exact show_okL n ds (by simpa [plainD] using p) (by simpa [showI] using h)
  | _, .dic _ _, p, _ => by simp [plainD] at p
theorem show_okL : ∀ (n : Nat) (ds : List D), plainL n ds = true → showIL ds = true → PyData.showableAll (toPyL ds) = true
  | _, [], _, _ => by simp [toPyL, PyData.showableAll]
  | n, d :: ds, p, h => by
    simp only [plainL, Bool.and_eq_true] at p
    simp only [showIL, Bool.and_eq_true] at h
    simp only [toPyL, PyData.showableAll, show_ok n d p.1 h.1, show_okL n ds p.2 h.2]
    rfl
end
theorem b_repr (hg : X.A.guards = some []) (hu : X.A.units + 64 < cLine) : CallR X (.builtin "repr") (rB .repr) := by
  intro pins s σ H vs us Q I r h
  obtain ⟨Z, ds, z, fr, hz, hd, q, k⟩ := h
  match ds, q with
  | [d], q =>
    simp only [bi] at q
    split at q
    · rename_i hp
      cases q
      simp only [Bool.and_eq_true, decide_eq_true_eq] at hp
      obtain ⟨v, rfl, hv⟩ := hd.one
      obtain ⟨u, rfl, rv⟩ := vals1 r
      have dp := RepO.dp (K := X.K) _ _ _ hp.1.1 hv
      obtain ⟨as, rd⟩ := Dp.reads I _ _ _ dp rv
      have lay := plain_lay _ _ hp.1.1
      have hsh := show_ok _ _ hp.1.1 hp.1.2
      have hlen := lim_le hp.2
      have nd := PyData.hasDict_of_canLay _ lay.1
      cases d with
      | tup ds =>
        obtain ⟨a, xs, rfl, ha, ra⟩ := RepO.tup hv
        obtain rfl : u = Value.ref a := rv
        exact repr_of_reads' rd hsh (fun e => by rw [nd] at e; cases e) hg (by have := lay.2; omega) (fun _ _ e => e) (fun h' u tk hk => ⟨.str _, H, I.kept hk, ⟨_, rfl⟩, k.flat rfl rfl⟩) hlen
      | lst ds =>
        obtain ⟨a, xs, rfl, ha, ra⟩ := RepO.lst hv
        obtain rfl : u = Value.ref a := rv
        exact repr_of_reads' rd hsh (fun e => by rw [nd] at e; cases e) hg (by have := lay.2; omega) (fun _ _ e => e) (fun h' u tk hk => ⟨.str _, H, I.kept hk, ⟨_, rfl⟩, k.flat rfl rfl⟩) hlen
      | non =>
        cases hv
        cases rv
        exact PySem.P.repr_of_none ⟨.str _, H, I.tok _, ⟨_, rfl⟩, k.flat rfl rfl⟩
      | bl b =>
        cases hv
        cases rv
        exact PySem.P.repr_of_bool ⟨.str _, H, I.tok _, ⟨_, rfl⟩, k.flat rfl rfl⟩
      | int b =>
        cases hv
        obtain ⟨t, rfl⟩ := rv
        exact PySem.P.repr_of_int (by simpa [showI] using hp.1.2) ⟨.str _, H, I.tok _, ⟨_, rfl⟩, k.flat rfl rfl⟩
      | str x =>
        cases hv
        obtain ⟨t, rfl⟩ := rv
        exact PySem.P.repr_of_str ⟨.str _, H, I.tok _, ⟨_, rfl⟩, k.flat rfl rfl⟩ hlen
      | dic t kvs => simp [plainD] at hp
    · cases q
end
end PB
set_option maxHeartbeats 4000000
/-! Ie: a def's slots over plain values: the relation of state and environment, readings. -/
namespace PB
open PySem PySem.Spec PyProof.Rows L2

/-- what a frame knows of its entry: what others own, the heap, the slots -/
structure Fm where
  Z : AS
  H0 : Hp
  σ0 : L2.St
/-- fixed through a def's body: tables of code objects, classes' addresses, slots' kinds, parameters, the caught exception -/
structure Gm where
  T : List (Addr × Str)
  K : PySem.W.Frag
  cA : Nat → Option Addr
  ks : List Kd
  np : Nat
  xo : Option (Nat × Addr × Addr × List (Str × D))
  lam : Option (Addr × Addr × Str)
/-- a slot that may be set -/
def Fre (Γ : Gm) (i : Nat) : Prop := (∀ a dx ds, Γ.xo ≠ some (i, a, dx, ds)) ∧ (i = 0 → Γ.lam = none)

def OsS (ks : List Kd) (σ : L2.St) : AS := fun a => ∃ i : Nat, ks[i]? = some Kd.own ∧ σ[i]? = some (some (V.ref a))
def LsS (ks : List Kd) (np : Nat) (σ0 : L2.St) : AS := fun a => ∃ i : Nat, i < np ∧ ks[i]? = some Kd.own ∧ σ0[i]? = some (some (V.ref a))
def zt (Γ : Gm) (F : Fm) (σ : L2.St) : AS := fun a => F.Z a ∨ OsS Γ.ks σ a

/-- what a thing that is only looked at is not: owned here, or newer than the entry -/
def zo (Γ : Gm) (F : Fm) (σ : L2.St) : AS := fun a => OsS Γ.ks σ a ∨ F.H0 a = none
/-- what may change while an expression is evaluated -/
def zs (Γ : Gm) (F : Fm) (σ : L2.St) : AS := fun a => OsS Γ.ks σ a ∨ (F.H0 a = none ∧ ¬ F.Z a)
/-- the script: a known list, or one of the written part -/
def SqF (K : PySem.W.Frag) (H0 : Hp) (a : Addr) (l : List Int) : Prop := (∃ o, H0 a = some (.frz o (.lst (l.map V.int)))) ∨ SqL K (fun _ => none) a (l.map V.int)
theorem SqF.sq {K : PySem.W.Frag} {H : Hp} {a : Addr} {l : List Int} (h : SqF K H a l) : SqL K H a (l.map V.int) := by
  rcases h with ⟨o, h⟩ | h | h
  · exact .inl (.inr ⟨o, h⟩)
  · rcases h with h | ⟨o, h⟩ <;> cases h
  · exact .inr h
structure ER (Γ : Gm) (F : Fm) (H : Hp) (σ : L2.St) (e : En) : Prop where
  le : e.length = Γ.ks.length
  lσ : σ.length = Γ.ks.length
  shr : ∀ (i : Nat) d, Γ.ks[i]? = some Kd.shr → e[i]? = some (some d) → ∃ v, σ[i]? = some (some v) ∧ Rep (zt Γ F σ) H d v
  brw : ∀ (i : Nat) d, Γ.ks[i]? = some Kd.brw → e[i]? = some (some d) → ∃ v, σ[i]? = some (some v) ∧ RepO (zo Γ F σ) (zt Γ F σ) H d v
  frz : ∀ (i : Nat) d, Γ.ks[i]? = some Kd.frz → e[i]? = some (some d) → ∃ (a : Addr) (l : List Int), σ[i]? = some (some (V.ref a)) ∧ d = .lst (l.map D.int) ∧ SqF Γ.K F.H0 a l ∧ ∀ o u, F.H0 a = some (.frz o u) → ¬ LsS Γ.ks Γ.np F.σ0 a
  own : ∀ (i : Nat) v, Γ.ks[i]? = some Kd.own → σ[i]? = some (some v) → ∃ a d, v = .ref a ∧ ¬ F.Z a ∧ (i < Γ.np → F.σ0[i]? = some (some (V.ref a))) ∧ (Γ.np ≤ i → F.H0 a = none) ∧ e[i]? = some (some d) ∧ Own (zt Γ F σ) H a d
  ownE : ∀ (i : Nat) d, Γ.ks[i]? = some Kd.own → e[i]? = some (some d) → ∃ v, σ[i]? = some (some v)
  par : ∀ (i : Nat) v, i < Γ.np → Γ.ks[i]? = some Kd.own → F.σ0[i]? = some (some v) → σ[i]? = some (some v)
  inj : ∀ (i j : Nat) a, Γ.ks[i]? = some Kd.own → Γ.ks[j]? = some Kd.own → σ[i]? = some (some (V.ref a)) → σ[j]? = some (some (V.ref a)) → i = j
  base : ∀ a o, F.H0 a = some o → (∀ ps, o ≠ .tbl ps) → ¬ LsS Γ.ks Γ.np F.σ0 a → H a = some o
  dom : ∀ a, F.H0 a ≠ none → H a ≠ none
  zh : ∀ a, F.Z a → H a ≠ none ∧ (∀ xs, H a ≠ some (.tup xs)) ∧ ∀ ps, H a ≠ some (.tbl ps)
  tabs : LamX.Tabs Γ.T H
  exo : ∀ (i : Nat) a dx ds, Γ.xo = some (i, a, dx, ds) → σ[i]? = some (some (V.ref a)) ∧ Γ.ks[i]? = some Kd.shr ∧ ∃ fs, H dx = some (.xd fs) ∧ ∀ f d, ds.lookup f = some d → ∃ v, fs.lookup f = some v ∧ Rep (zt Γ F σ) H d v
  lam : ∀ f c q, Γ.lam = some (f, c, q) → σ[0]? = some (some (V.ref f)) ∧ Γ.ks[0]? = some Kd.shr ∧ H c = some (LamX.CodeO c q)

theorem Own.notTup {Z : AS} {H : Hp} {a : Addr} {d : D} (h : Own Z H a d) : ∀ xs, H a ≠ some (.tup xs) := by
  cases d with
  | lst ds => obtain ⟨xs, e, r⟩ := h; intro ys z; rw [e] at z; cases z
  | dic t ds => rcases h with ⟨ht, kvs, e, r⟩ | ⟨ht, kvs, e, r⟩ <;> (intro ys z; rw [e] at z; cases z)
  | _ => exact h.elim
theorem Own.notFrz {Z : AS} {H : Hp} {a : Addr} {d : D} (h : Own Z H a d) : ∀ o u, H a ≠ some (.frz o u) := by
  cases d with
  | lst ds => obtain ⟨xs, e, r⟩ := h; intro ys z y; rw [e] at y; cases y
  | dic t ds => rcases h with ⟨ht, kvs, e, r⟩ | ⟨ht, kvs, e, r⟩ <;> (intro ys z y; rw [e] at y; cases y)
  | _ => exact h.elim
theorem Own.notXd {Z : AS} {H : Hp} {a : Addr} {d : D} (h : Own Z H a d) : ∀ fs, H a ≠ some (.xd fs) := by
  cases d with
  | lst ds => obtain ⟨xs, e, r⟩ := h; intro ys y; rw [e] at y; cases y
  | dic t ds => rcases h with ⟨ht, kvs, e, r⟩ | ⟨ht, kvs, e, r⟩ <;> (intro ys y; rw [e] at y; cases y)
  | _ => exact h.elim
theorem Own.notCode {Z : AS} {H : Hp} {a : Addr} {d : D} (h : Own Z H a d) : ∀ q, H a ≠ some (LamX.CodeO a q) := by
  cases d with
  | lst ds => obtain ⟨xs, e, r⟩ := h; intro ys y; rw [e] at y; unfold LamX.CodeO at y; cases y
  | dic t ds => rcases h with ⟨ht, kvs, e, r⟩ | ⟨ht, kvs, e, r⟩ <;> (intro ys y; rw [e] at y; unfold LamX.CodeO at y; cases y)
  | _ => exact h.elim
theorem Own.notTbl {Z : AS} {H : Hp} {a : Addr} {d : D} (h : Own Z H a d) : ∀ fs, H a ≠ some (.tbl fs) := by
  cases d with
  | lst ds => obtain ⟨xs, e, r⟩ := h; intro ys y; rw [e] at y; cases y
  | dic t ds => rcases h with ⟨ht, kvs, e, r⟩ | ⟨ht, kvs, e, r⟩ <;> (intro ys y; rw [e] at y; cases y)
  | _ => exact h.elim
section
variable {Γ : Gm} {F : Fm} {H H' : Hp} {σ : L2.St} {e : En}
theorem ER.ztH (E : ER Γ F H σ e) : ZH (zt Γ F σ) H := by
  intro a ha
  rcases ha with h | ⟨i, h1, h2⟩
  · exact ⟨(E.zh a h).1, (E.zh a h).2.1⟩
  · obtain ⟨a', d, q, _, _, _, _, o⟩ := E.own i _ h1 h2
    cases q
    exact ⟨o.there, o.notTup⟩
theorem ER.h0 (E : ER Γ F H σ e) {p : Addr} (hp : H p = none) : F.H0 p = none := by
  cases q : F.H0 p with
  | none => rfl
  | some o => exact absurd hp (E.dom p (by rw [q]; exact fun z => nomatch z))
theorem ER.sq (E : ER Γ F H σ e) {a : Addr} {l : List Int} (h : SqF Γ.K F.H0 a l) (n : ∀ o u, F.H0 a = some (.frz o u) → ¬ LsS Γ.ks Γ.np F.σ0 a) : SqF Γ.K H a l := by
  rcases h with ⟨o, h⟩ | h
  · exact .inl ⟨o, E.base a _ h (fun ps z => by cases z) (n _ _ h)⟩
  · exact .inr h
/-- the frame, another Z -/
abbrev Fm.wz (F : Fm) (Z' : AS) : Fm := { F with Z := Z' }
abbrev Fm.add (F : Fm) (p : Addr) : Fm := { F with Z := addZ F.Z p }
theorem kp_of {Z' : AS} (k : ∀ a o, H a = some o → (∀ ps, o ≠ .tbl ps) → ¬ OsS Γ.ks σ a → H' a = some o) (hZ : ∀ a, Z' a → F.Z a ∨ H a = none) : Kp (zt Γ F σ) (zt Γ (F.wz Z') σ) H H' := by
  intro a o h n z
  refine ⟨k a o h n fun q => z (.inr q), fun q => ?_⟩
  rcases q with q | q
  · rcases hZ a q with q | q
    · exact z (.inl q)
    · rw [q] at h; cases h
  · exact z (.inr q)
/-- the state goes on: what is not owned here stays -/
theorem ER.next (E : ER Γ F H σ e) {Z' : AS} {e' : En} (k : ∀ a o, H a = some o → (∀ ps, o ≠ .tbl ps) → ¬ OsS Γ.ks σ a → H' a = some o) (hZ : ∀ a, Z' a → F.Z a ∨ (H a = none ∧ H' a ≠ none ∧ (∀ xs, H' a ≠ some (.tup xs)) ∧ ∀ ps, H' a ≠ some (.tbl ps)))
    (hl : e'.length = e.length) (he : ∀ i : Nat, Γ.ks[i]? ≠ some Kd.own → e'[i]? = e[i]?) (hd : ∀ a, H a ≠ none → H' a ≠ none) (ht : LamX.Tabs Γ.T H')
    (ho : ∀ (i : Nat) a, Γ.ks[i]? = some Kd.own → σ[i]? = some (some (V.ref a)) → ∃ d, e'[i]? = some (some d) ∧ Own (zt Γ (F.wz Z') σ) H' a d)
    (hoe : ∀ (i : Nat) d, Γ.ks[i]? = some Kd.own → e'[i]? = some (some d) → ∃ v, σ[i]? = some (some v)) : ER Γ (F.wz Z') H' σ e' := by
  have kp : Kp (zt Γ F σ) (zt Γ (F.wz Z') σ) H H' := kp_of k fun a q => (hZ a q).imp id fun q => q.1
  have kO : Kp (zo Γ F σ) (zo Γ F σ) H H' := fun a o h n z => ⟨k a o h n fun q => z (.inl q), z⟩
  refine ⟨hl.trans E.le, E.lσ, fun i d h1 h2 => ?_, fun i d h1 h2 => ?_, fun i d h1 h2 => ?_, fun i v h1 h2 => ?_, hoe, E.par, E.inj, fun a o h1 h2 h3 => ?_, fun a h => hd a (E.dom a h), fun a h => ?_, ht, fun i a dx ds h => ?_, fun f c q h => ?_⟩
  · rw [he i (by rw [h1]; intro z; cases z)] at h2
    obtain ⟨v, q1, q2⟩ := E.shr i d h1 h2
    exact ⟨v, q1, Rep.mono kp d v q2⟩
  · rw [he i (by rw [h1]; intro z; cases z)] at h2
    obtain ⟨v, q1, q2⟩ := E.brw i d h1 h2
    exact ⟨v, q1, RepO.mono kO kp d v q2⟩
  · rw [he i (by rw [h1]; intro z; cases z)] at h2
    exact E.frz i d h1 h2
  · obtain ⟨a, d, q1, q2, q3, q4, q5, q6⟩ := E.own i v h1 h2
    subst q1
    obtain ⟨d', r1, r2⟩ := ho i a h1 h2
    refine ⟨a, d', rfl, fun z => ?_, q3, q4, r1, r2⟩
    rcases hZ a z with z | z
    · exact q2 z
    · exact q6.there z.1
  · refine k a o (E.base a o h1 h2 h3) h2 fun ⟨i, z1, z2⟩ => ?_
    obtain ⟨a', d, q1, q2, q3, q4, q5, q6⟩ := E.own i _ z1 z2
    cases q1
    by_cases hi : i < Γ.np
    · exact h3 ⟨i, hi, z1, q3 hi⟩
    · rw [q4 (by omega)] at h1; cases h1
  · rcases hZ a h with z | z
    · have q := E.zh a z
      cases qa : H a with
      | none => exact absurd qa q.1
      | some o =>
        by_cases hOs : OsS Γ.ks σ a
        · obtain ⟨j, z1, z2⟩ := hOs
          obtain ⟨d', r1, r2⟩ := ho j a z1 z2
          exact ⟨r2.there, r2.notTup, r2.notTbl⟩
        · have nt : ∀ ps, o ≠ .tbl ps := fun ps y => q.2.2 ps (by rw [qa, y])
          have := k a o qa nt hOs
          refine ⟨fun z => ?_, fun xs y => ?_, fun ps y => ?_⟩
          · rw [this] at z
            cases z
          · rw [this] at y
            exact q.2.1 xs (qa.trans y)
          · rw [this] at y
            exact nt ps (Option.some.inj y)
    · exact z.2
  · obtain ⟨q1, q2, fs, q3, q4⟩ := E.exo i a dx ds h
    refine ⟨q1, q2, fs, k dx _ q3 (fun ps z => by cases z) fun ⟨j, z1, z2⟩ => ?_, fun f d hf => ?_⟩
    · obtain ⟨a', d, r1, _, _, _, _, r6⟩ := E.own j _ z1 z2
      cases r1
      exact r6.notXd _ q3
    · obtain ⟨v, r1, r2⟩ := q4 f d hf
      exact ⟨v, r1, Rep.mono kp d v r2⟩
  · obtain ⟨q1, q2, q3⟩ := E.lam f c q h
    refine ⟨q1, q2, k c _ q3 (fun ps z => LamX.codeO_ne ps z) fun ⟨j, z1, z2⟩ => ?_⟩
    obtain ⟨a', d, r1, _, _, _, _, r6⟩ := E.own j _ z1 z2
    cases r1
    exact r6.notCode _ q3

theorem ER.kp (E : ER Γ F H σ e) (k : ∀ a o, H a = some o → (∀ ps, o ≠ .tbl ps) → ¬ OsS Γ.ks σ a → H' a = some o) : Kp (zt Γ F σ) (zt Γ F σ) H H' := fun a o h n z => ⟨k a o h n fun q => z (.inr q), z⟩
theorem Rep.ofZ {Z Z' : AS} {d : D} {v : V} (h : Rep Z H d v) (q : ∀ a, Z' a → Z a) : Rep Z' H d v := Rep.mono (Kp.sub q) d v h
theorem Own.ofZ {Z Z' : AS} {a : Addr} {d : D} (h : Own Z H a d) (q : ∀ a, Z' a → Z a) : Own Z' H a d := h.mono (fun _ e => e) (Kp.sub q)
/-- fewer are others' -/
theorem ER.weak (E : ER Γ F H σ e) {Z' : AS} (hz : ∀ a, Z' a → F.Z a) : ER Γ (F.wz Z') H σ e := by
  have sub : ∀ a, zt Γ (F.wz Z') σ a → zt Γ F σ a := fun a q => q.imp (hz a) id
  refine E.next (fun a o h _ _ => h) (fun a q => .inl (hz a q)) rfl (fun _ _ => rfl) (fun _ q => q) E.tabs (fun i a h1 h2 => ?_) E.ownE
  obtain ⟨a', d, r1, _, _, _, r5, r6⟩ := E.own i _ h1 h2
  cases r1
  exact ⟨d, r5, r6.ofZ sub⟩
theorem ER.unadd {p : Addr} (E : ER Γ (F.add p) H σ e) : ER Γ F H σ e := E.weak (Z' := F.Z) fun _ q => .inl q
/-- new objects -/
theorem ER.extZ (E : ER Γ F H σ e) (x : Ex H H') {Z' : AS} (hZ : ∀ a, Z' a → F.Z a ∨ (H a = none ∧ H' a ≠ none ∧ (∀ xs, H' a ≠ some (.tup xs)) ∧ ∀ ps, H' a ≠ some (.tbl ps))) : ER Γ (F.wz Z') H' σ e := by
  have k : ∀ a o, H a = some o → (∀ ps, o ≠ .tbl ps) → ¬ OsS Γ.ks σ a → H' a = some o := fun a o h _ _ => x a o h
  refine E.next k hZ rfl (fun _ _ => rfl) (fun a q => ?_) (E.tabs.ext x) (fun i a h1 h2 => ?_) E.ownE
  · cases qa : H a with
    | none => exact absurd qa q
    | some o => rw [x a o qa]; exact fun z => nomatch z
  · obtain ⟨a', d, r1, _, _, _, r5, r6⟩ := E.own i _ h1 h2
    cases r1
    exact ⟨d, r5, r6.mono (x a) (kp_of k fun b q => (hZ b q).imp id fun q => q.1)⟩
theorem ER.ext (E : ER Γ F H σ e) (x : Ex H H') : ER Γ F H' σ e := E.extZ (Z' := F.Z) x fun _ q => .inl q
theorem get_set {α : Type} {l : List α} {i j : Nat} {x : α} (h : j ≠ i) : (l.set i x)[j]? = l[j]? := List.getElem?_set_ne (Ne.symm h)
theorem lt_of_get {α : Type} {l : List α} {i : Nat} {x : α} (h : l[i]? = some x) : i < l.length := (List.getElem?_eq_some_iff.mp h).1
/-- an owned object is changed in place -/
theorem ER.wr (E : ER Γ F H σ e) {i : Nat} {a : Addr} {d : D} (h1 : Γ.ks[i]? = some Kd.own) (h2 : σ[i]? = some (some (V.ref a))) (x : ∀ b, b ≠ a → H' b = H b) (o : Own (zt Γ F σ) H' a d) : ER Γ F H' σ (e.set i (some d)) := by
  have hi : i < e.length := by rw [E.le]; exact lt_of_get h1
  have aO : OsS Γ.ks σ a := ⟨i, h1, h2⟩
  have k : ∀ b u, H b = some u → (∀ ps, u ≠ .tbl ps) → ¬ OsS Γ.ks σ b → H' b = some u := fun b u h _ z => by
    rw [x b (fun q => z (q ▸ aO))]; exact h
  refine E.next (Z' := F.Z) k (fun _ q => .inl q) (by simp) (fun j hj => get_set fun q => hj (q ▸ h1)) (fun b q => ?_) (fun p hp => ?_) (fun j b q1 q2 => ?_) (fun j d' q1 q2 => ?_)
  · by_cases hb : b = a
    · rw [hb]; exact o.there
    · rw [x b hb]; exact q
  · obtain ⟨a', d0, r1, _, _, _, r5, r6⟩ := E.own i _ h1 h2
    cases r1
    obtain ⟨ps, t1, t2, t3⟩ := E.tabs p hp
    have n1 : p.1 ≠ a := fun z => r6.notTbl ps (z ▸ t1)
    refine ⟨ps, by rw [x _ n1]; exact t1, t2, fun pos cv hc => ?_⟩
    obtain ⟨c, s1, s2⟩ := t3 pos cv hc
    refine ⟨c, s1, ?_⟩
    rw [x c fun z => ?_]
    · exact s2
    · rw [z] at s2
      cases d0 with
      | lst ds => obtain ⟨xs, q1, _⟩ := r6; rw [q1] at s2; unfold LamX.CodeO at s2; cases s2
      | dic t ds => rcases r6 with ⟨_, kvs, q1, _⟩ | ⟨_, kvs, q1, _⟩ <;> (rw [q1] at s2; unfold LamX.CodeO at s2; cases s2)
      | _ => exact r6.elim
  · by_cases hj : j = i
    · subst hj
      rw [h2] at q2
      cases q2
      exact ⟨d, by simp [hi], o⟩
    · obtain ⟨a', d0, r1, _, _, _, r5, r6⟩ := E.own j _ q1 q2
      cases r1
      have hb : b ≠ a := fun z => hj (E.inj j i a q1 h1 (z ▸ q2) h2)
      exact ⟨d0, by rw [get_set hj]; exact r5, r6.mono (fun o q => by rw [x b hb]; exact q) (E.kp k)⟩
  · by_cases hj : j = i
    · subst hj; exact ⟨_, h2⟩
    · rw [get_set hj] at q2
      exact E.ownE j d' q1 q2
/-- a slot that is not owned is set -/
theorem osS_set {ks : List Kd} {i : Nat} {w : Option V} (h1 : ks[i]? ≠ some Kd.own) (a : Addr) : OsS ks (σ.set i w) a ↔ OsS ks σ a := by
  constructor
  · rintro ⟨j, q1, q2⟩
    have : j ≠ i := fun z => h1 (z ▸ q1)
    exact ⟨j, q1, by rw [get_set this] at q2; exact q2⟩
  · rintro ⟨j, q1, q2⟩
    have : j ≠ i := fun z => h1 (z ▸ q1)
    exact ⟨j, q1, by rw [get_set this]; exact q2⟩
theorem osS_set' {ks : List Kd} {i : Nat} {w : Option V} (h1 : ks[i]? ≠ some Kd.own) : OsS ks (σ.set i w) = OsS ks σ := funext fun a => propext (osS_set h1 a)
theorem zt_set {i : Nat} {w : Option V} (h1 : Γ.ks[i]? ≠ some Kd.own) : zt Γ F (σ.set i w) = zt Γ F σ := by
  funext a
  unfold zt
  rw [osS_set' h1]
theorem ER.setShr (E : ER Γ F H σ e) {i : Nat} {v : V} {d : D} (h1 : Γ.ks[i]? = some Kd.shr) (hx : Fre Γ i) (r : Rep (zt Γ F σ) H d v) : ER Γ F H (σ.set i (some v)) (e.set i (some d)) := by
  have ne : Γ.ks[i]? ≠ some Kd.own := by rw [h1]; exact fun z => nomatch z
  have hi := lt_of_get h1
  have hie : i < e.length := by rw [E.le]; exact hi
  have hiσ : i < σ.length := by rw [E.lσ]; exact hi
  have nk : ∀ {j : Nat} {k : Kd}, k ≠ .shr → Γ.ks[j]? = some k → j ≠ i := fun {j k} h q z => by rw [z, h1] at q; exact h (Option.some.inj q).symm
  refine ⟨by simp [E.le], by simp [E.lσ], fun j d' q1 q2 => ?_, fun j d' q1 q2 => ?_, fun j d' q1 q2 => ?_, fun j w q1 q2 => ?_, fun j d' q1 q2 => ?_, fun j w q0 q1 q2 => ?_, fun j k a q1 q2 q3 q4 => ?_, E.base, E.dom, E.zh, E.tabs, fun j a dx ds q => ?_, fun f c q' q => ?_⟩
  · rw [zt_set ne]
    by_cases hj : j = i
    · subst hj
      rw [List.getElem?_set_self hie] at q2
      cases q2
      exact ⟨v, List.getElem?_set_self hiσ, r⟩
    · rw [get_set hj] at q2 ⊢
      exact E.shr j d' q1 q2
  · have hj := nk (by decide) q1
    unfold zo
    rw [zt_set ne, osS_set' ne, get_set hj]
    rw [get_set hj] at q2
    exact E.brw j d' q1 q2
  · have hj := nk (by decide) q1
    rw [get_set hj] at q2 ⊢
    exact E.frz j d' q1 q2
  · have hj := nk (by decide) q1
    rw [zt_set ne]
    rw [get_set hj] at q2 ⊢
    exact E.own j w q1 q2
  · have hj := nk (by decide) q1
    rw [get_set hj] at q2 ⊢
    exact E.ownE j d' q1 q2
  · have hj := nk (by decide) q1
    rw [get_set hj]
    exact E.par j w q0 q1 q2
  · have hj := nk (by decide) q1
    have hk := nk (by decide) q2
    rw [get_set hj] at q3
    rw [get_set hk] at q4
    exact E.inj j k a q1 q2 q3 q4
  · have hj : j ≠ i := fun z => hx.1 a dx ds (z ▸ q)
    rw [zt_set ne, get_set hj]
    exact E.exo j a dx ds q
  · have hj : 0 ≠ i := fun z => by rw [hx.2 z.symm] at q; cases q
    rw [get_set hj]
    exact E.lam f c q' q
/-- an owned slot gets a new object -/
theorem ER.setOwn {p : Addr} {i : Nat} {d : D} (E : ER Γ (F.add p) H σ e) (h1 : Γ.ks[i]? = some Kd.own) (hn : Γ.np ≤ i) (p0 : F.H0 p = none) (pz : ¬ zt Γ F σ p) (o : Own (addZ (zt Γ F σ) p) H p d) :
    ER Γ F H (σ.set i (some (.ref p))) (e.set i (some d)) := by
  have hi := lt_of_get h1
  have hie : i < e.length := by rw [E.le]; exact hi
  have hiσ : i < σ.length := by rw [E.lσ]; exact hi
  have nk : ∀ {j : Nat} {k : Kd}, k ≠ .own → Γ.ks[j]? = some k → j ≠ i := fun {j k} h q z => by rw [z, h1] at q; exact h (Option.some.inj q).symm
  have sO : ∀ a, OsS Γ.ks (σ.set i (some (.ref p))) a → OsS Γ.ks σ a ∨ a = p := fun a ⟨j, q1, q2⟩ => by
    by_cases hj : j = i
    · subst hj
      rw [List.getElem?_set_self hiσ] at q2
      cases q2
      exact .inr rfl
    · rw [get_set hj] at q2
      exact .inl ⟨j, q1, q2⟩
  have sZ : ∀ a, zt Γ F (σ.set i (some (.ref p))) a → zt Γ (F.add p) σ a := fun a q => by
    rcases q with q | q
    · exact .inl (.inl q)
    · rcases sO a q with q | q
      · exact .inr q
      · exact .inl (.inr q)
  have eZ : ∀ a, zt Γ (F.add p) σ a → addZ (zt Γ F σ) p a := fun a q => by
    rcases q with (q | q) | q
    · exact .inl (.inl q)
    · exact .inr q
    · exact .inl (.inr q)
  refine ⟨by simp [E.le], by simp [E.lσ], fun j d' q1 q2 => ?_, fun j d' q1 q2 => ?_, fun j d' q1 q2 => ?_, fun j w q1 q2 => ?_, fun j d' q1 q2 => ?_, fun j w q0 q1 q2 => ?_, fun j k a q1 q2 q3 q4 => ?_, E.base, E.dom, fun a q => E.zh a (.inl q), E.tabs, fun j a dx ds q => ?_, fun f c q' q => ?_⟩
  · have hj := nk (by decide) q1
    rw [get_set hj] at q2 ⊢
    obtain ⟨v, r1, r2⟩ := E.shr j d' q1 q2
    exact ⟨v, r1, r2.ofZ sZ⟩
  · have hj := nk (by decide) q1
    rw [get_set hj] at q2 ⊢
    obtain ⟨v, r1, r2⟩ := E.brw j d' q1 q2
    refine ⟨v, r1, RepO.mono (Kp.sub fun a q => ?_) (Kp.sub sZ) d' v r2⟩
    rcases q with q | q
    · rcases sO a q with q | q
      · exact .inl q
      · exact .inr (q ▸ p0)
    · exact .inr q
  · have hj := nk (by decide) q1
    rw [get_set hj] at q2 ⊢
    exact E.frz j d' q1 q2
  · by_cases hj : j = i
    · subst hj
      rw [List.getElem?_set_self hiσ] at q2
      cases q2
      refine ⟨p, d, rfl, fun z => pz (.inl z), fun z => by omega, fun _ => p0, List.getElem?_set_self hie, o.ofZ fun a q => eZ a (sZ a q)⟩
    · rw [get_set hj] at q2 ⊢
      obtain ⟨a, d', r1, r2, r3, r4, r5, r6⟩ := E.own j w q1 q2
      exact ⟨a, d', r1, fun z => r2 (.inl z), r3, r4, r5, r6.ofZ sZ⟩
  · by_cases hj : j = i
    · subst hj
      exact ⟨_, List.getElem?_set_self hiσ⟩
    · rw [get_set hj] at q2 ⊢
      exact E.ownE j d' q1 q2
  · have hj : j ≠ i := by omega
    rw [get_set hj]
    exact E.par j w q0 q1 q2
  · have np : ∀ {j : Nat}, Γ.ks[j]? = some Kd.own → σ[j]? = some (some (V.ref p)) → False := fun {j} a b => pz (.inr ⟨j, a, b⟩)
    by_cases hj : j = i
    · by_cases hk : k = i
      · rw [hj, hk]
      · subst hj
        rw [List.getElem?_set_self hiσ] at q3
        cases q3
        rw [get_set hk] at q4
        exact (np q2 q4).elim
    · by_cases hk : k = i
      · subst hk
        rw [List.getElem?_set_self hiσ] at q4
        cases q4
        rw [get_set hj] at q3
        exact (np q1 q3).elim
      · rw [get_set hj] at q3
        rw [get_set hk] at q4
        exact E.inj j k a q1 q2 q3 q4
  · obtain ⟨r1, r2, fs, r3, r4⟩ := E.exo j a dx ds q
    have hj := nk (by decide) r2
    rw [get_set hj]
    exact ⟨r1, r2, fs, r3, fun f d' hf => by
      obtain ⟨v, s1, s2⟩ := r4 f d' hf
      exact ⟨v, s1, s2.ofZ sZ⟩⟩
  · obtain ⟨r1, r2, r3⟩ := E.lam f c q' q
    rw [get_set (nk (by decide) r2)]
    exact ⟨r1, r2, r3⟩
/-- what stays while an expression is evaluated -/
structure Sp (Γ : Gm) (F : Fm) (σ : L2.St) (H H' : Hp) : Prop where
  kp : Kp (zt Γ F σ) (zt Γ F σ) H H'
  ko : Kp (zs Γ F σ) (zs Γ F σ) H H'
  dom : ∀ a, H a ≠ none → H' a ≠ none
theorem Sp.refl : Sp Γ F σ H H := ⟨Kp.refl, Kp.refl, fun _ q => q⟩
theorem Sp.trans {H H1 H2 : Hp} (a : Sp Γ F σ H H1) (b : Sp Γ F σ H1 H2) : Sp Γ F σ H H2 := ⟨a.kp.trans b.kp, a.ko.trans b.ko, fun x q => b.dom x (a.dom x q)⟩
theorem Ex.sp {H H' : Hp} (x : Ex H H') : Sp Γ F σ H H' := ⟨x.kp, x.kp, fun a q => by
  cases qa : H a with
  | none => exact absurd qa q
  | some o => rw [x a o qa]; exact fun z => nomatch z⟩
theorem sp_of (k : ∀ a o, H a = some o → (∀ ps, o ≠ .tbl ps) → ¬ OsS Γ.ks σ a → H' a = some o) (d : ∀ a, H a ≠ none → H' a ≠ none) : Sp Γ F σ H H' :=
  ⟨fun a o h n z => ⟨k a o h n fun q => z (.inr q), z⟩, fun a o h n z => ⟨k a o h n fun q => z (.inl q), z⟩, d⟩
theorem upd_dom {H : Hp} {a : Addr} {o : HO} : ∀ b, H b ≠ none → upd H a o b ≠ none := fun b h => by
  unfold upd
  split
  · exact fun z => nomatch z
  · exact h
theorem sp_wr {H : Hp} {a : Addr} {o : HO} (az : OsS Γ.ks σ a) : Sp Γ F σ H (upd H a o) := sp_of (fun b u hb n z => by rw [upd_ne (fun q => z (by rw [q]; exact az))]; exact hb) upd_dom
/-- what others own, newer than the entry, is rewritten -/
theorem ER.wrO (E : ER Γ F H σ e) {p : Addr} {u w : HO} (hp : H p = some u) (n1 : ∀ ps, u ≠ .tbl ps) (n2 : ∀ q, u ≠ LamX.CodeO p q) (n3 : ∀ fs, u ≠ .xd fs) (m1 : ∀ xs, w ≠ .tup xs) (m2 : ∀ ps, w ≠ .tbl ps) (hz : F.Z p) (h0 : F.H0 p = none) : ER Γ F (upd H p w) σ e := by
  have pz : zt Γ F σ p := .inl hz
  have po : zo Γ F σ p := .inr h0
  have k : ∀ b, b ≠ p → upd H p w b = H b := fun b h => upd_ne h
  have kp : Kp (zt Γ F σ) (zt Γ F σ) H (upd H p w) := fun a o h n z => ⟨by rw [k a (fun q => z (by rw [q]; exact pz))]; exact h, z⟩
  have kO : Kp (zo Γ F σ) (zo Γ F σ) H (upd H p w) := fun a o h n z => ⟨by rw [k a (fun q => z (by rw [q]; exact po))]; exact h, z⟩
  refine ⟨E.le, E.lσ, fun i d h1 h2 => ?_, fun i d h1 h2 => ?_, E.frz, fun i v h1 h2 => ?_, E.ownE, E.par, E.inj, fun a o h1 h2 h3 => ?_, fun a h => upd_dom a (E.dom a h), fun a h => ?_, fun q hq => ?_, fun i a dx ds h => ?_, fun f c q h => ?_⟩
  · obtain ⟨v, q1, q2⟩ := E.shr i d h1 h2
    exact ⟨v, q1, Rep.mono kp d v q2⟩
  · obtain ⟨v, q1, q2⟩ := E.brw i d h1 h2
    exact ⟨v, q1, RepO.mono kO kp d v q2⟩
  · obtain ⟨a, d, q1, q2, q3, q4, q5, q6⟩ := E.own i v h1 h2
    have na : a ≠ p := fun z => q2 (by rw [z]; exact hz)
    exact ⟨a, d, q1, q2, q3, q4, q5, q6.mono (fun o q => by rw [k a na]; exact q) kp⟩
  · have na : a ≠ p := fun z => by rw [z, h0] at h1; cases h1
    rw [k a na]
    exact E.base a o h1 h2 h3
  · by_cases ha : a = p
    · rw [ha, upd_same]
      refine ⟨?_, ?_, ?_⟩
      · intro z; cases z
      · intro xs z; exact m1 xs (Option.some.inj z)
      · intro ps z; exact m2 ps (Option.some.inj z)
    · rw [k a ha]
      exact E.zh a h
  · obtain ⟨ps, t1, t2, t3⟩ := E.tabs q hq
    have n1 : q.1 ≠ p := fun z => by rw [z, hp] at t1; exact n1 ps (Option.some.inj t1)
    refine ⟨ps, by rw [k _ n1]; exact t1, t2, fun pos cv hc => ?_⟩
    obtain ⟨c, s1, s2⟩ := t3 pos cv hc
    refine ⟨c, s1, ?_⟩
    rw [k c fun z => ?_]
    · exact s2
    · rw [z, hp] at s2
      exact n2 _ (Option.some.inj s2)
  · obtain ⟨q1, q2, fs, q3, q4⟩ := E.exo i a dx ds h
    refine ⟨q1, q2, fs, by rw [k dx fun z => by rw [z, hp] at q3; exact n3 fs (Option.some.inj q3)]; exact q3, fun f d hf => ?_⟩
    obtain ⟨v, r1, r2⟩ := q4 f d hf
    exact ⟨v, r1, Rep.mono kp d v r2⟩
  · obtain ⟨q1, q2, q3⟩ := E.lam f c q h
    refine ⟨q1, q2, ?_⟩
    rw [k c fun z => ?_]
    · exact q3
    · rw [z, hp] at q3
      exact n2 _ (Option.some.inj q3)
/-- a list that others own, newer than the entry, is rewritten -/
theorem ER.wrZ (E : ER Γ F H σ e) {p : Addr} {xs ys : List V} (hp : H p = some (.lst xs)) (hz : F.Z p) (h0 : F.H0 p = none) : ER Γ F (upd H p (.lst ys)) σ e :=
  E.wrO hp (fun _ z => by cases z) (fun _ z => by unfold LamX.CodeO at z; cases z) (fun _ z => by cases z) (fun _ z => by cases z) (fun _ z => by cases z) hz h0
end
end PB
set_option maxHeartbeats 4000000
/-! If: readings of expressions through the interpreter. -/
namespace PB
open PySem PySem.Spec PyProof.Rows L2

def Wt {α : Type} (o : Option (R α)) (P : α → En → Prop) (X : Exn → En → Prop) : Prop := match o with
  | none => False
  | some (.ok a e) => P a e
  | some (.xc x e) => X x e
theorem Wt_bnd {α β : Type} {m : Option (R α)} {f : α → En → Option (R β)} {P : β → En → Prop} {X : Exn → En → Prop} (h : Wt (bnd m f) P X) : Wt m (fun a e => Wt (f a e) P X) X := by
  unfold bnd at h
  cases m with
  | none => exact h
  | some r => cases r with
    | ok a e => exact h
    | xc x e => exact h
theorem Wt_some {α : Type} {o : Option α} {g : α → R α} {P : α → En → Prop} {X : Exn → En → Prop} {e : En} (h : Wt (o.map (R.ok · e)) P X) : ∃ a, o = some a ∧ P a e := by
  cases o with
  | none => exact h.elim
  | some a => exact ⟨a, rfl, h⟩
theorem Wt_bind {α β : Type} {o : Option β} {g : β → Option (R α)} {P : α → En → Prop} {X : Exn → En → Prop} (h : Wt (o.bind g) P X) : ∃ a, o = some a ∧ Wt (g a) P X := by
  cases o with
  | none => exact h.elim
  | some a => exact ⟨a, rfl, h⟩
theorem Wt_ite {α : Type} {c : Prop} [Decidable c] {a : Option (R α)} {P : α → En → Prop} {X : Exn → En → Prop} (h : Wt (if c then a else none) P X) : c ∧ Wt a P X := by
  split at h
  · exact ⟨by assumption, h⟩
  · exact h.elim
theorem Wt_ite' {α : Type} {c : Prop} [Decidable c] {a : Option (R α)} {P : α → En → Prop} {X : Exn → En → Prop} (h : Wt (if c then none else a) P X) : ¬ c ∧ Wt a P X := by
  split at h
  · exact h.elim
  · exact ⟨by assumption, h⟩

/-- what an exception is -/
def XR (Γ : Gm) (F : Fm) (σ : L2.St) (H : Hp) (x : Exn) (cls : Value) (od : Option Addr) : Prop :=
  ∃ C, Γ.cA x.cls = some C ∧ cls = .ref C ∧ ∃ dx fs, od = some dx ∧ H dx = some (.xd fs) ∧ ∀ f d, x.flds.lookup f = some d → ∃ v, fs.lookup f = some v ∧ Rep (zt Γ F σ) H d v
/-- a new object of one's own -/
def FrE (Γ : Gm) (F : Fm) (Hs H : Hp) (σ : L2.St) (e : En) (d : D) (v : V) : Prop := isHp d = true → ∃ p, v = .ref p ∧ Hs p = none ∧ F.H0 p = none ∧ ¬ zt Γ F σ p ∧ ER Γ (F.add p) H σ e ∧ Own (addZ (zt Γ F σ) p) H p d
/-- an operand's value -/
def VR0 (Γ : Gm) (F : Fm) (H : Hp) (σ : L2.St) (c : C) (d : D) (v : V) : Prop := match c with
  | .loc i => σ[i]? = some (some v)
  | .scr i => σ[i]? = some (some v)
  | _ => Rep (zt Γ F σ) H d v
/-- code whose value is new wherever it is a list or a dict -/
def frC (fq : Nat → Bool) : C → Bool
  | .lst _ => true
  | .dnew _ => true
  | .disp _ _ => true
  | .lc .. => true
  | .lc2 .. => true
  | .call f _ => fq f
  | .blt .. => true
  | .slc .. => true
  | .op .. => true
  | .scrList _ => true
  | .lrng _ _ => true
  | .scrCut .. => true
  | .ite _ a b => frC fq a && frC fq b
  | .cst _ => true
  | _ => false
def VR (Γ : Gm) (fq : Nat → Bool) (F : Fm) (Hs H : Hp) (σ : L2.St) (e : En) (c : C) (d : D) (v : V) : Prop := VR0 Γ F H σ c d v ∧ (frC fq c = true → FrE Γ F Hs H σ e d v)
def XF (Γ : Gm) (XW : WX) (F : Fm) (σ : L2.St) (H : Hp) : Exn → En → Prop := fun x e' => ∀ cls od H', Sp Γ F σ H H' → ER Γ F H' σ e' → XR Γ F σ H' x cls od → XW cls od σ H'
def PF (Γ : Gm) (fq : Nat → Bool) (F : Fm) (σ : L2.St) (H : Hp) (c : C) (Q : VK) : D → En → Prop := fun d e' => ∀ v H', Sp Γ F σ H H' → ER Γ F H' σ e' → VR Γ fq F H H' σ e' c d v → Q v H'
def rdE (Γ : Gm) (fq : Nat → Bool) (XW : WX) (G : Gx) (c : C) : TE := fun σ H Q => ∃ F e, ER Γ F H σ e ∧ Wt (ev c G e) (PF Γ fq F σ H c Q) (XF Γ XW F σ H)
/-- a test -/
def PT0 (Γ : Gm) (F : Fm) (σ : L2.St) (H : Hp) (c : C) (Q : Bool → Hp → Prop) : D → En → Prop := fun d e' => ∃ t, finT c d e' = some t ∧ ∀ H', Sp Γ F σ H H' → ER Γ F H' σ e' → Q t H'
def rdT (Γ : Gm) (XW : WX) (G : Gx) (c : C) : TT := fun σ H Q => ∃ F e, ER Γ F H σ e ∧ Wt (ev c G e) (PT0 Γ F σ H c Q) (XF Γ XW F σ H)
/-- lists of operands -/
def VRs (Γ : Gm) (F : Fm) (H : Hp) (σ : L2.St) : C → List D → List V → Prop
  | .nil, [], vs => vs = []
  | .cons a b, d :: l, vs => ∃ v r, vs = v :: r ∧ VR0 Γ F H σ a d v ∧ VRs Γ F H σ b l r
  | _, _, _ => False
def PA0 (Γ : Gm) (F : Fm) (σ : L2.St) (H : Hp) (c : C) (Q : List V → Hp → Prop) : D → En → Prop := fun d e' => ∃ l, d = .lst l ∧ ∀ vs H', Sp Γ F σ H H' → ER Γ F H' σ e' → VRs Γ F H' σ c l vs → Q vs H'
def rdA (Γ : Gm) (XW : WX) (G : Gx) (c : C) : TA := fun σ H Q => ∃ F e, ER Γ F H σ e ∧ Wt (ev c G e) (PA0 Γ F σ H c Q) (XF Γ XW F σ H)

theorem PEimp {X : Cx} {ex : Expr} {t t' : TE} (h : PE X ex t) (i : ∀ σ H Q, t' σ H Q → t σ H Q) : PE X ex t' := ⟨fun pins s σ H Q I q => h.run pins s σ H Q I (i σ H Q q)⟩
theorem PTimp {X : Cx} {ex : Expr} {t t' : TT} (h : PT X ex t) (i : ∀ σ H Q, t' σ H Q → t σ H Q) : PT X ex t' := ⟨fun pins s σ H Q I q => h.run pins s σ H Q I (i σ H Q q)⟩
theorem PWimp {X : Cx} {ex : Expr} {t t' : TT} (h : PW X ex t) (i : ∀ σ H Q, t' σ H Q → t σ H Q) : PW X ex t' := ⟨fun wh pins s σ H Q I q => h.run wh pins s σ H Q I (i σ H Q q)⟩
theorem PAimp {X : Cx} {ex : List Expr} {t t' : TA} (h : PA X ex t) (i : ∀ σ H Q, t' σ H Q → t σ H Q) : PA X ex t' := ⟨fun p pins s σ H Q I q => h.run p pins s σ H Q I (i σ H Q q)⟩

section
variable {Γ : Gm} {fq : Nat → Bool} {XW : WX} {G : Gx} {F : Fm} {σ : L2.St} {H H1 : Hp} {e : En} {c : C} {Q : VK}
theorem XF.mono {x : Exn} {e' : En} (h : XF Γ XW F σ H x e') (k : Sp Γ F σ H H1) : XF Γ XW F σ H1 x e' := fun cls od H' k' => h cls od H' (k.trans k')
theorem FrE.back {d : D} {v : V} {H' : Hp} (h : FrE Γ F H1 H' σ e d v) (k : Sp Γ F σ H H1) : FrE Γ F H H' σ e d v := fun q => by
  obtain ⟨p, h1, h2, h3⟩ := h q
  refine ⟨p, h1, ?_, h3⟩
  cases qa : H p with
  | none => rfl
  | some o => exact absurd h2 (k.dom p (by rw [qa]; exact fun z => nomatch z))
theorem Wt.imp {α : Type} {o : Option (R α)} {P P' : α → En → Prop} {X X' : Exn → En → Prop} (h : Wt o P X) (i : ∀ a e, P a e → P' a e) (j : ∀ x e, X x e → X' x e) : Wt o P' X' := by
  cases o with
  | none => exact h
  | some r => cases r with
    | ok a e => exact i a e h
    | xc x e => exact j x e h
theorem Wt.ifs {α : Type} {o o' : Option (R α)} {P : α → En → Prop} {X : Exn → En → Prop} (h : Wt o P X) (q : o = o') : Wt o' P X := q ▸ h
/-- one expression, and then -/
theorem rd_step {P : D → En → Prop} (E : ER Γ F H σ e) (w : Wt (ev c G e) P (XF Γ XW F σ H)) (hP : ∀ d e1 v H1, P d e1 → Sp Γ F σ H H1 → ER Γ F H1 σ e1 → VR Γ fq F H H1 σ e1 c d v → Q v H1) : rdE Γ fq XW G c σ H Q :=
  ⟨F, e, E, w.imp (fun d e1 p v H1 k E1 r => hP d e1 v H1 p k E1 r) fun _ _ q => q⟩
theorem rd_stepT {P : D → En → Prop} {Q : Bool → Hp → Prop} (E : ER Γ F H σ e) (w : Wt (ev c G e) P (XF Γ XW F σ H)) (hP : ∀ d e1, P d e1 → ∃ t, finT c d e1 = some t ∧ ∀ H1, Sp Γ F σ H H1 → ER Γ F H1 σ e1 → Q t H1) : rdT Γ XW G c σ H Q :=
  ⟨F, e, E, w.imp (fun d e1 p => hP d e1 p) fun _ _ q => q⟩
theorem rd_stepA {P : D → En → Prop} {Q : List V → Hp → Prop} (E : ER Γ F H σ e) (w : Wt (ev c G e) P (XF Γ XW F σ H)) (hP : ∀ d e1, P d e1 → ∃ l, d = .lst l ∧ ∀ vs H1, Sp Γ F σ H H1 → ER Γ F H1 σ e1 → VRs Γ F H1 σ c l vs → Q vs H1) : rdA Γ XW G c σ H Q :=
  ⟨F, e, E, w.imp (fun d e1 p => hP d e1 p) fun _ _ q => q⟩
/-- operands later -/
theorem VR0.mono {d : D} {v : V} (h : VR0 Γ F H σ c d v) (k : Sp Γ F σ H H1) : VR0 Γ F H1 σ c d v := by
  cases c <;> first | exact h | exact Rep.mono k.kp _ _ h
theorem VRs.mono (k : Sp Γ F σ H H1) : ∀ {c : C} {l : List D} {vs : List V}, VRs Γ F H σ c l vs → VRs Γ F H1 σ c l vs := by
  intro c
  induction c with
  | nil => intro l vs h; cases l with
    | nil => exact h
    | cons d l => exact h.elim
  | cons a b iha ihb => intro l vs h; cases l with
    | nil => exact h.elim
    | cons d l =>
      obtain ⟨v, r, q, h1, h2⟩ := h
      exact ⟨v, r, q, h1.mono k, ihb h2⟩
  | _ => intro l vs h; exact h.elim
/-- an operand is well placed -/
def lcOk (ks : List Kd) : C → Bool
  | .loc i => decide (ks[i]? = some Kd.own) || decide (ks[i]? = some Kd.brw)
  | _ => true
theorem ER.own' (E : ER Γ F H σ e) {i : Nat} {v : V} {d : D} (h1 : Γ.ks[i]? = some Kd.own) (h2 : σ[i]? = some (some v)) (h3 : e[i]? = some (some d)) : ∃ a, v = .ref a ∧ Own (zt Γ F σ) H a d := by
  obtain ⟨a, d', r1, _, _, _, r5, r6⟩ := E.own i v h1 h2
  rw [h3] at r5
  cases r5
  exact ⟨a, r1, r6⟩
theorem rdS_some {i : Nat} {d : D} (h : rdS e i = some d) : e[i]? = some (some d) := by
  unfold rdS at h
  cases q : e[i]? with
  | none => rw [q] at h; cases h
  | some o => rw [q] at h; cases o with
    | none => cases h
    | some d' => cases h; rfl
theorem rdS_of {i : Nat} {d : D} (h : e[i]? = some (some d)) : rdS e i = some d := by
  unfold rdS
  rw [h]
  rfl
theorem VR0.fin (E : ER Γ F H σ e) (hl : lcOk Γ.ks c = true) {d x : D} {v : V} (h : VR0 Γ F H σ c d v) (f : fin c d e = some x) : RepB (zt Γ F σ) H x v := by
  cases c with
  | loc i =>
    have f' : e[i]? = some (some x) := rdS_some f
    simp only [lcOk, Bool.or_eq_true, decide_eq_true_eq] at hl
    rcases hl with hl | hl
    · obtain ⟨a, q1, q2⟩ := E.own' hl h f'
      subst q1
      exact q2.toB
    · obtain ⟨w, q1, q2⟩ := E.brw i x hl f'
      have h' : σ[i]? = some (some v) := h
      rw [h'] at q1
      cases q1
      exact q2.toB
  | scr i => cases f
  | _ => cases f; exact Rep.toB _ _ h
theorem VR0.rep {d : D} {v : V} (hl : isLoc c = false) (h : VR0 Γ F H σ c d v) : Rep (zt Γ F σ) H d v := by
  cases c <;> first | exact h | cases hl
theorem Ex.kp' {Z : AS} {H H' : Hp} (x : Ex H H') : Kp Z Z H H' := x.kp
/-- an operation's outcome -/
theorem res_of {z : D} (E : ER Γ F H σ e) (h : ∀ v H', Sp Γ F σ H H' → ER Γ F H' σ e → Rep (zt Γ F σ) H' z v → FrE Γ F H H' σ e z v → Q v H') : Res (zt Γ F σ) H true z Q := by
  intro v H' x r f
  refine h v H' x.sp (E.ext x) r fun hz => ?_
  obtain ⟨p, e1, hp, o⟩ := f rfl hz
  refine ⟨p, e1, hp, E.h0 hp, fun z => (E.ztH p z).1 hp, E.extZ (Z' := addZ F.Z p) x fun a q => ?_, o⟩
  rcases q with q | q
  · exact .inl q
  · subst q
    exact .inr ⟨hp, o.there, o.notTup, o.notTbl⟩
theorem resOld_of {z : D} (E : ER Γ F H σ e) (h : ∀ v H', Sp Γ F σ H H' → ER Γ F H' σ e → Rep (zt Γ F σ) H' z v → Q v H') : Res (zt Γ F σ) H false z Q := by
  intro v H' x r f
  exact h v H' x.sp (E.ext x) r
end

/-! ### the rules -/
section
variable {X : Cx} {Γ : Gm} {fq : Nat → Bool} {XW : WX} {G : Gx} {a b : C} {ea eb : Expr} {pos : Pos}
theorem flat_fr {F : Fm} {Hs H : Hp} {σ : L2.St} {e : En} {d : D} {v : V} (h : isHp d = false) : FrE Γ F Hs H σ e d v := fun q => by rw [h] at q; cases q
/-- a slot is read -/
theorem E_var (hks : G.ks = Γ.ks) {i : Nat} {x : Str} (h : PE X (.Name x pos) (tVar i)) : PE X (.Name x pos) (rdE Γ fq XW G (.var i)) := PEimp h fun σ H Q q => by
  obtain ⟨F, e, E, w⟩ := q
  simp only [ev, hks] at w
  obtain ⟨h1, w⟩ := Wt_ite w
  cases q : rdS e i with
  | none => rw [q] at w; exact w.elim
  | some d =>
    rw [q] at w
    obtain ⟨v, r1, r2⟩ := E.shr i d h1 (rdS_some q)
    exact ⟨v, r1, w v H Sp.refl E ⟨r2, fun z => by cases z⟩⟩
theorem E_loc (hks : G.ks = Γ.ks) {i : Nat} {x : Str} (h : PE X (.Name x pos) (tVar i)) : PE X (.Name x pos) (rdE Γ fq XW G (.loc i)) := PEimp h fun σ H Q q => by
  obtain ⟨F, e, E, w⟩ := q
  simp only [ev, hks] at w
  obtain ⟨h1, w⟩ := Wt_ite w
  cases q : rdS e i with
  | none => rw [q] at w; exact w.elim
  | some d =>
    rw [q] at w
    have : ∃ v, σ[i]? = some (some v) := by
      rcases h1 with h1 | h1
      · exact E.ownE i d h1 (rdS_some q)
      · obtain ⟨v, r1, _⟩ := E.brw i d h1 (rdS_some q)
        exact ⟨v, r1⟩
    obtain ⟨v, r1⟩ := this
    exact ⟨v, r1, w v H Sp.refl E ⟨r1, fun z => by cases z⟩⟩
theorem E_scr (hks : G.ks = Γ.ks) {i : Nat} {x : Str} (h : PE X (.Name x pos) (tVar i)) : PE X (.Name x pos) (rdE Γ fq XW G (.scr i)) := PEimp h fun σ H Q q => by
  obtain ⟨F, e, E, w⟩ := q
  simp only [ev, hks] at w
  obtain ⟨h1, w⟩ := Wt_ite w
  cases q : rdS e i with
  | none => rw [q] at w; exact w.elim
  | some d =>
    rw [q] at w
    obtain ⟨ad, l, r1, _⟩ := E.frz i d h1 (rdS_some q)
    exact ⟨_, r1, w _ H Sp.refl E ⟨r1, fun z => by cases z⟩⟩
/-- constants -/
def cstV : D → Option V
  | .non => some .non
  | .bl b => some (.bl b)
  | .int i => some (.int i)
  | .str x => some (.str x)
  | _ => none
theorem E_cst {d : D} {v : V} (hv : cstV d = some v) {ex : Expr} (h : PE X ex (tC v)) : PE X ex (rdE Γ fq XW G (.cst d)) := PEimp h fun σ H Q q => by
  obtain ⟨F, e, E, w⟩ := q
  have hr : Rep (zt Γ F σ) H d v := by cases d <;> cases hv <;> rfl
  have hf : isHp d = false := by cases d <;> first | rfl | cases hv
  have hc : isCst d = true := by cases d <;> first | rfl | cases hv
  simp only [ev, hc, if_true] at w
  exact w v H Sp.refl E ⟨hr, fun _ => flat_fr hf⟩
/-- two operands -/
theorem E_op {o : O2} {f : Value → Value → Sem Value} {ex : Expr} (la : lcOk Γ.ks a = true) (lb : lcOk Γ.ks b = true) (h : PE X ex (tOp (rO o) (rdE Γ fq XW G a) (rdE Γ fq XW G b))) :
    PE X ex (rdE Γ fq XW G (.op o a b)) := PEimp h fun σ H Q q => by
  obtain ⟨F, e, E, w⟩ := q
  simp only [ev] at w
  refine rd_step E (Wt_bnd w) fun d1 e1 v H1 w1 k1 E1 r1 => ?_
  refine rd_step E1 ((Wt_bnd w1).imp (fun _ _ q => q) fun x e' q => XF.mono q k1) fun d2 e2 v2 H2 w2 k2 E2 r2 => ?_
  obtain ⟨x, f1, w2⟩ := Wt_bind w2
  obtain ⟨y, f2, w2⟩ := Wt_bind w2
  cases q : op2 o x y with
  | none => rw [q] at w2; exact w2.elim
  | some z =>
    rw [q] at w2
    refine ⟨zt Γ F σ, x, y, z, true, E2.ztH, (r1.1.mono k2).fin E2 la f1, r2.1.fin E2 lb f2, q, res_of E2 fun v H' k E' r fr => ?_⟩
    exact w2 v H' ((k1.trans k2).trans k) E' ⟨r, fun _ => fr.back (k1.trans k2)⟩
end
end PB
set_option maxHeartbeats 4000000
/-! Ig: readings of expressions, more. -/
namespace PB
open PySem PySem.Spec PyProof.Rows L2
section
variable {X : Cx} {Γ : Gm} {fq : Nat → Bool} {XW : WX} {G : Gx} {a b c : C} {ea eb ec ex : Expr} {pos : Pos}
theorem E_neg (la : isLoc a = false) (h : PE X ex (tUn (rU fun i => .int (-i)) (rdE Γ fq XW G a))) : PE X ex (rdE Γ fq XW G (.neg a)) := PEimp h fun σ H Q q => by
  obtain ⟨F, e, E, w⟩ := q
  simp only [ev] at w
  refine rd_step E (Wt_bnd w) fun d e1 v H1 w1 k1 E1 r1 => ?_
  cases d with
  | int i =>
    have hv : v = .int i := r1.1.rep la
    exact ⟨i, hv, w1 _ H1 k1 E1 ⟨rfl, fun _ => flat_fr rfl⟩⟩
  | _ => exact w1.elim
/-- a truth, of a value -/
theorem tru_fin {F : Fm} {H : Hp} {σ : L2.St} {e : En} (E : ER Γ F H σ e) (la : lcOk Γ.ks a = true) {d : D} {v : V} (r : VR0 Γ F H σ a d v) {t : Bool} (h : finT a d e = some t) : TruV X.K v H t := by
  unfold finT at h
  obtain ⟨x, h1, h2⟩ := Option.bind_eq_some_iff.mp h
  exact truth_of X.K (r.fin E la h1) h2
theorem T_val (la : lcOk Γ.ks a = true) (h : PT X ex (fun σ H Q => rdE Γ fq XW G a σ H fun x H' => ∃ k, TruV X.K x H' k ∧ Q k H')) : PT X ex (rdT Γ XW G a) := PTimp h fun σ H Q q => by
  obtain ⟨F, e, E, w⟩ := q
  refine rd_step E w fun d e1 v H1 w1 k1 E1 r1 => ?_
  obtain ⟨t, h1, h2⟩ := w1
  exact ⟨t, tru_fin E1 la r1.1 h1, h2 H1 k1 E1⟩
theorem bl_of {F : Fm} {H : Hp} {σ : L2.St} {t : Bool} : Rep (zt Γ F σ) H (.bl t) (.bl t) := rfl
theorem E_not (la : lcOk Γ.ks a = true) (h : PE X ex (tNotT X.K (rdE Γ fq XW G a))) : PE X ex (rdE Γ fq XW G (.not a)) := PEimp h fun σ H Q q => by
  obtain ⟨F, e, E, w⟩ := q
  simp only [ev] at w
  refine rd_step E (Wt_bnd w) fun d e1 v H1 w1 k1 E1 r1 => ?_
  cases q : finT a d e1 with
  | none => rw [q] at w1; exact w1.elim
  | some t =>
    rw [q] at w1
    exact ⟨t, tru_fin E1 la r1.1 q, w1 _ H1 k1 E1 ⟨rfl, fun _ => flat_fr rfl⟩⟩
theorem finT_of (la : isLoc a = false) {d : D} {e : En} : finT a d e = truthO d := by
  cases a <;> first | rfl | cases la
theorem T_not (h : PT X ex (tNot (rdT Γ XW G a))) : PT X ex (rdT Γ XW G (.not a)) := PTimp h fun σ H Q q => by
  obtain ⟨F, e, E, w⟩ := q
  simp only [ev] at w
  refine rd_stepT E (Wt_bnd w) fun d e1 w1 => ?_
  cases q : finT a d e1 with
  | none => rw [q] at w1; exact w1.elim
  | some t =>
    rw [q] at w1
    obtain ⟨t', h1, h2⟩ := w1
    cases h1
    exact ⟨t, rfl, h2⟩
theorem loc2 {x y : Bool} (h : ¬ (x || y) = true) : x = false ∧ y = false := by cases x <;> cases y <;> simp_all
theorem E_and (h : PE X ex (tAndT X.K (rdE Γ fq XW G a) (rdE Γ fq XW G b))) : PE X ex (rdE Γ fq XW G (.and a b)) := PEimp h fun σ H Q q => by
  obtain ⟨F, e, E, w⟩ := q
  simp only [ev] at w
  refine rd_step E (Wt_bnd w) fun d e1 v H1 w1 k1 E1 r1 => ?_
  obtain ⟨t, ht, w1⟩ := Wt_bind w1
  obtain ⟨hl, w1⟩ := Wt_ite' w1
  obtain ⟨la, lb⟩ := loc2 hl
  have r : Rep (zt Γ F σ) H1 d v := r1.1.rep la
  refine ⟨t, truth_of X.K (Rep.toB _ _ r) ht, ?_⟩
  cases t with
  | true =>
    refine rd_step E1 (w1.imp (fun _ _ q => q) fun x e' q => XF.mono q k1) fun d2 e2 v2 H2 w2 k2 E2 r2 => ?_
    exact w2 v2 H2 (k1.trans k2) E2 ⟨r2.1.rep lb, fun z => by cases z⟩
  | false => exact w1 v H1 k1 E1 ⟨r, fun z => by cases z⟩
theorem E_or (h : PE X ex (tOrT X.K (rdE Γ fq XW G a) (rdE Γ fq XW G b))) : PE X ex (rdE Γ fq XW G (.or a b)) := PEimp h fun σ H Q q => by
  obtain ⟨F, e, E, w⟩ := q
  simp only [ev] at w
  refine rd_step E (Wt_bnd w) fun d e1 v H1 w1 k1 E1 r1 => ?_
  obtain ⟨t, ht, w1⟩ := Wt_bind w1
  obtain ⟨hl, w1⟩ := Wt_ite' w1
  obtain ⟨la, lb⟩ := loc2 hl
  have r : Rep (zt Γ F σ) H1 d v := r1.1.rep la
  refine ⟨t, truth_of X.K (Rep.toB _ _ r) ht, ?_⟩
  cases t with
  | false =>
    refine rd_step E1 (w1.imp (fun _ _ q => q) fun x e' q => XF.mono q k1) fun d2 e2 v2 H2 w2 k2 E2 r2 => ?_
    exact w2 v2 H2 (k1.trans k2) E2 ⟨r2.1.rep lb, fun z => by cases z⟩
  | true => exact w1 v H1 k1 E1 ⟨r, fun z => by cases z⟩
theorem T_and (h : PW X ex (tAnd (rdT Γ XW G a) (rdT Γ XW G b))) : PW X ex (rdT Γ XW G (.and a b)) := PWimp h fun σ H Q q => by
  obtain ⟨F, e, E, w⟩ := q
  simp only [ev] at w
  refine rd_stepT E (Wt_bnd w) fun d e1 w1 => ?_
  obtain ⟨t, ht, w1⟩ := Wt_bind w1
  obtain ⟨hl, w1⟩ := Wt_ite' w1
  obtain ⟨la, lb⟩ := loc2 hl
  refine ⟨t, by rw [finT_of la]; exact ht, fun H1 k1 E1 => ?_⟩
  cases t with
  | true =>
    refine rd_stepT E1 (w1.imp (fun _ _ q => q) fun x e' q => XF.mono q k1) fun d2 e2 w2 => ?_
    obtain ⟨t2, h1, h2⟩ := w2
    rw [finT_of rfl] at h1
    exact ⟨t2, by rw [finT_of lb]; exact h1, fun H2 k2 E2 => h2 H2 (k1.trans k2) E2⟩
  | false =>
    obtain ⟨t2, h1, h2⟩ := w1
    rw [finT_of rfl, ht] at h1
    cases h1
    exact h2 H1 k1 E1
theorem T_or (h : PW X ex (tOr (rdT Γ XW G a) (rdT Γ XW G b))) : PW X ex (rdT Γ XW G (.or a b)) := PWimp h fun σ H Q q => by
  obtain ⟨F, e, E, w⟩ := q
  simp only [ev] at w
  refine rd_stepT E (Wt_bnd w) fun d e1 w1 => ?_
  obtain ⟨t, ht, w1⟩ := Wt_bind w1
  obtain ⟨hl, w1⟩ := Wt_ite' w1
  obtain ⟨la, lb⟩ := loc2 hl
  refine ⟨t, by rw [finT_of la]; exact ht, fun H1 k1 E1 => ?_⟩
  cases t with
  | false =>
    refine rd_stepT E1 (w1.imp (fun _ _ q => q) fun x e' q => XF.mono q k1) fun d2 e2 w2 => ?_
    obtain ⟨t2, h1, h2⟩ := w2
    rw [finT_of rfl] at h1
    exact ⟨t2, by rw [finT_of lb]; exact h1, fun H2 k2 E2 => h2 H2 (k1.trans k2) E2⟩
  | true =>
    obtain ⟨t2, h1, h2⟩ := w1
    rw [finT_of rfl, ht] at h1
    cases h1
    exact h2 H1 k1 E1
theorem and_split {x y : Bool} (h : (x && y) = true) : x = true ∧ y = true := by simpa using h
theorem E_ite (h : PE X ex (tIf (rdT Γ XW G c) (rdE Γ fq XW G a) (rdE Γ fq XW G b))) : PE X ex (rdE Γ fq XW G (.ite c a b)) := PEimp h fun σ H Q q => by
  obtain ⟨F, e, E, w⟩ := q
  simp only [ev] at w
  refine rd_stepT E (Wt_bnd w) fun d e1 w1 => ?_
  obtain ⟨t, ht, w1⟩ := Wt_bind w1
  obtain ⟨hl, w1⟩ := Wt_ite' w1
  obtain ⟨la, lb⟩ := loc2 hl
  refine ⟨t, ht, fun H1 k1 E1 => ?_⟩
  cases t with
  | true =>
    refine rd_step E1 (w1.imp (fun _ _ q => q) fun x e' q => XF.mono q k1) fun d2 e2 v2 H2 w2 k2 E2 r2 => ?_
    exact w2 v2 H2 (k1.trans k2) E2 ⟨r2.1.rep la, fun z => (r2.2 (and_split z).1).back k1⟩
  | false =>
    refine rd_step E1 (w1.imp (fun _ _ q => q) fun x e' q => XF.mono q k1) fun d2 e2 v2 H2 w2 k2 E2 r2 => ?_
    exact w2 v2 H2 (k1.trans k2) E2 ⟨r2.1.rep lb, fun z => (r2.2 (and_split z).2).back k1⟩
theorem E_idx (la : lcOk Γ.ks a = true) (h : PE X ex (tOp rIxD (rdE Γ fq XW G a) (rdE Γ fq XW G b))) : PE X ex (rdE Γ fq XW G (.idx a b)) := PEimp h fun σ H Q q => by
  obtain ⟨F, e, E, w⟩ := q
  simp only [ev] at w
  refine rd_step E (Wt_bnd w) fun d1 e1 v H1 w1 k1 E1 r1 => ?_
  refine rd_step E1 ((Wt_bnd w1).imp (fun _ _ q => q) fun x e' q => XF.mono q k1) fun d2 e2 v2 H2 w2 k2 E2 r2 => ?_
  obtain ⟨x, f1, w2⟩ := Wt_bind w2
  obtain ⟨hl, w2⟩ := Wt_ite' w2
  have lb : isLoc b = false := by simpa using hl
  cases q : idxD x d2 with
  | none => rw [q] at w2; exact w2.elim
  | some z =>
    rw [q] at w2
    exact ⟨zt Γ F σ, x, d2, z, E2.ztH, (r1.1.mono k2).fin E2 la f1, r2.1.rep lb, q, resOld_of E2 fun v' H' k E' r => w2 v' H' ((k1.trans k2).trans k) E' ⟨r, fun z => by cases z⟩⟩
/-- a slice's parts -/
def rdP (Γ : Gm) (XW : WX) (G : Gx) (c : C) : TO := fun σ H Q => ∃ F e, ER Γ F H σ e ∧ Wt (ev c G e) (fun d e' => ∃ o, partOf c d = some o ∧ ∀ H', Sp Γ F σ H H' → ER Γ F H' σ e' → Q o H') (XF Γ XW F σ H)
theorem PO_none : PO X none (rdP Γ XW G .noPart) := ⟨fun pins s σ H Q I q => (po_none (X := X)).run pins s σ H Q I (by
  obtain ⟨F, e, E, w⟩ := q
  obtain ⟨o, h1, h2⟩ := w
  cases h1
  exact h2 H Sp.refl E)⟩
theorem PO_some (hn : c ≠ .noPart) (lc : isLoc c = false) (h : PE X ex (rdE Γ fq XW G c)) : PO X (some ex) (rdP Γ XW G c) := ⟨fun pins s σ H Q I q => (po_some h).run pins s σ H Q I (by
  obtain ⟨F, e, E, w⟩ := q
  refine rd_step E w fun d e1 v H1 w1 k1 E1 r1 => ?_
  obtain ⟨o, h1, h2⟩ := w1
  have r : Rep (zt Γ F σ) H1 d v := r1.1.rep lc
  have : ∃ i, d = .int i ∧ o = some i := by
    unfold partOf at h1
    split at h1
    · rename_i hc _
      exact absurd rfl hn
    · cases h1; exact ⟨_, rfl, rfl⟩
    · cases h1
  obtain ⟨i, rfl, rfl⟩ := this
  exact ⟨i, r, h2 H1 k1 E1⟩)⟩
theorem E_slc (la : lcOk Γ.ks a = true) (h : PE X ex (tSl rSlD (rdE Γ fq XW G a) (rdP Γ XW G b) (rdP Γ XW G c))) : PE X ex (rdE Γ fq XW G (.slc a b c)) := PEimp h fun σ H Q q => by
  obtain ⟨F, e, E, w⟩ := q
  simp only [ev] at w
  refine rd_step E (Wt_bnd w) fun d1 e1 v H1 w1 k1 E1 r1 => ?_
  refine ⟨F, e1, E1, (Wt_bnd w1).imp (fun d2 e2 w2 => ?_) fun x e' q => XF.mono q k1⟩
  obtain ⟨o2, hp2, w3⟩ := Wt_bind w2
  refine ⟨o2, hp2, fun H2 k2 E2 => ?_⟩
  refine ⟨F, e2, E2, (Wt_bnd w3).imp (fun d3 e3 w4 => ?_) fun x e' q => XF.mono q (k1.trans k2)⟩
  obtain ⟨h, f3, w4⟩ := Wt_bind w4
  obtain ⟨x, f1, w4⟩ := Wt_bind w4
  refine ⟨h, f3, fun H3 k3 E3 => ?_⟩
  cases q : slcD x o2 h with
  | none => rw [q] at w4; exact w4.elim
  | some z =>
    rw [q] at w4
    exact ⟨zt Γ F σ, x, z, true, E3.ztH, (r1.1.mono (k2.trans k3)).fin E3 la f1, q, res_of E3 fun v' H' k E' r fr => w4 v' H' (((k1.trans k2).trans k3).trans k) E' ⟨r, fun _ => fr.back ((k1.trans k2).trans k3)⟩⟩
/-! lists of operands -/
theorem A_nil {es : List Expr} (h : PA X es tNil) : PA X es (rdA Γ XW G .nil) := PAimp h fun σ H Q q => by
  obtain ⟨F, e, E, w⟩ := q
  simp only [ev] at w
  obtain ⟨l, h1, h2⟩ := w
  cases h1
  exact h2 [] H Sp.refl E rfl
theorem A_cons {es : List Expr} (h : PA X es (tCons (rdE Γ fq XW G a) (rdA Γ XW G b))) : PA X es (rdA Γ XW G (.cons a b)) := PAimp h fun σ H Q q => by
  obtain ⟨F, e, E, w⟩ := q
  simp only [ev] at w
  refine rd_step E (Wt_bnd w) fun d1 e1 v H1 w1 k1 E1 r1 => ?_
  refine ⟨F, e1, E1, (Wt_bnd w1).imp (fun d2 e2 w2 => ?_) fun x e' q => XF.mono q k1⟩
  cases d2 with
  | lst l =>
    obtain ⟨l', h1, h2⟩ := w2
    cases h1
    exact ⟨l, rfl, fun vs H2 k2 E2 rs => h2 (v :: vs) H2 (k1.trans k2) E2 ⟨v, vs, rfl, r1.1.mono k2, rs⟩⟩
  | _ => exact w2.elim
theorem VRs.repL {F : Fm} {H : Hp} {σ : L2.St} : ∀ {a : C} {l : List D} {vs : List V}, noLocs a = true → VRs Γ F H σ a l vs → RepL (zt Γ F σ) H l vs := by
  intro a
  induction a with
  | nil => intro l vs _ h; cases l with
    | nil => exact h
    | cons d l => exact h.elim
  | cons a b iha ihb => intro l vs hn h; cases l with
    | nil => exact h.elim
    | cons d l =>
      obtain ⟨v, r, q, h1, h2⟩ := h
      simp only [noLocs, Bool.and_eq_true, Bool.not_eq_true'] at hn
      exact ⟨v, r, q, h1.rep hn.1, ihb hn.2 h2⟩
  | _ => intro l vs _ h; exact h.elim
theorem E_tup {es : List Expr} (ln : ∀ l e e', ev a G e = some (.ok (.lst l) e') → l.length ≤ sizeLine) (h : PE X ex (tTup (rdA Γ XW G a))) : PE X ex (rdE Γ fq XW G (.tup a)) := PEimp h fun σ H Q q => by
  obtain ⟨F, e, E, w⟩ := q
  simp only [ev] at w
  have ln' := ln
  refine ⟨F, e, E, ?_⟩
  have w1 := Wt_bnd w
  revert w1
  cases qe : ev a G e with
  | none => exact fun z => z.elim
  | some r => cases r with
    | xc x e1 => exact fun z => z
    | ok d1 e1 =>
      intro w1
      cases d1 with
      | lst l =>
        obtain ⟨hn, w1⟩ := Wt_ite w1
        refine ⟨l, rfl, fun vs H1 k1 E1 rs => ?_⟩
        have rl := VRs.repL hn rs
        refine ⟨by rw [RepL.length _ _ rl]; exact ln l e e1 qe, fun p hp => ?_⟩
        exact Res.tup (res_of (e := e1) E1 fun v' H' k E' r fr => w1 v' H' (k1.trans k) E' ⟨r, fun _ => fr.back k1⟩) E1.ztH rl hp
      | _ => exact w1.elim
theorem E_lst {es : List Expr} (ln : ∀ l e e', ev a G e = some (.ok (.lst l) e') → l.length ≤ sizeLine) (h : PE X ex (tLst (rdA Γ XW G a))) : PE X ex (rdE Γ fq XW G (.lst a)) := PEimp h fun σ H Q q => by
  obtain ⟨F, e, E, w⟩ := q
  simp only [ev] at w
  refine ⟨F, e, E, ?_⟩
  have w1 := Wt_bnd w
  revert w1
  cases qe : ev a G e with
  | none => exact fun z => z.elim
  | some r => cases r with
    | xc x e1 => exact fun z => z
    | ok d1 e1 =>
      intro w1
      cases d1 with
      | lst l =>
        obtain ⟨hn, w1⟩ := Wt_ite w1
        refine ⟨l, rfl, fun vs H1 k1 E1 rs => ?_⟩
        have rl := VRs.repL hn rs
        refine ⟨by rw [RepL.length _ _ rl]; exact ln l e e1 qe, fun p hp => ?_⟩
        exact Res.lst (res_of (e := e1) E1 fun v' H' k E' r fr => w1 v' H' (k1.trans k) E' ⟨r, fun _ => fr.back k1⟩) E1.ztH rl hp
      | _ => exact w1.elim
end
end PB
set_option maxHeartbeats 4000000
/-! Ih: readings of expressions: dicts, built-ins, the script, pop. -/
namespace PB
open PySem PySem.Spec PyProof.Rows L2
section
variable {X : Cx} {Γ : Gm} {fq : Nat → Bool} {XW : WX} {G : Gx} {a b c : C} {ea eb ec ex : Expr} {pos : Pos}
theorem E_dnewK (h : PE X ex tDNewK) : PE X ex (rdE Γ fq XW G (.dnew false)) := PEimp h fun σ H Q q p hp => by
  obtain ⟨F, e, E, w⟩ := q
  simp only [ev] at w
  have r := res_of (e := e) (z := .dic false []) (Q := Q) E fun v' H' k E' r fr => w v' H' k E' ⟨r, fun _ => fr⟩
  have x : Ex H (upd H p (.dK [])) := Ex.new hp
  exact r _ _ x ⟨p, rfl, E.ztH.free hp, .inl ⟨rfl, [], upd_same, rfl⟩⟩ fun _ _ => ⟨p, rfl, hp, .inl ⟨rfl, [], upd_same, rfl⟩⟩
theorem E_dnewT (h : PE X ex tDNewT) : PE X ex (rdE Γ fq XW G (.dnew true)) := PEimp h fun σ H Q q p hp => by
  obtain ⟨F, e, E, w⟩ := q
  simp only [ev] at w
  have r := res_of (e := e) (z := .dic true []) (Q := Q) E fun v' H' k E' r fr => w v' H' k E' ⟨r, fun _ => fr⟩
  have x : Ex H (upd H p (.dT [])) := Ex.new hp
  exact r _ _ x ⟨p, rfl, E.ztH.free hp, .inr ⟨rfl, [], upd_same, rfl⟩⟩ fun _ _ => ⟨p, rfl, hp, .inr ⟨rfl, [], upd_same, rfl⟩⟩
/-- operands of a built-in -/
def lcsOk (ks : List Kd) : C → Bool
  | .cons a b => lcOk ks a && lcsOk ks b
  | _ => true
theorem VRs.fin {F : Fm} {H : Hp} {σ : L2.St} {e : En} (E : ER Γ F H σ e) : ∀ {a : C} {l ds : List D} {vs : List V}, lcsOk Γ.ks a = true → VRs Γ F H σ a l vs → finL a l e = some ds → RepBs (zt Γ F σ) H ds vs := by
  intro a
  induction a with
  | nil => intro l ds vs _ h f; cases l with
    | nil => cases f; exact h
    | cons d l => exact h.elim
  | cons a b iha ihb => intro l ds vs hn h f; cases l with
    | nil => exact h.elim
    | cons d l =>
      obtain ⟨v, r, q, h1, h2⟩ := h
      obtain ⟨x, f1, f⟩ := Option.bind_eq_some_iff.mp f
      obtain ⟨y, f2, f⟩ := Option.map_eq_some_iff.mp f
      subst f
      simp only [lcsOk, Bool.and_eq_true] at hn
      exact ⟨v, r, q, h1.fin E hn.1 f1, ihb hn.2 h2 f2⟩
  | _ => intro l ds vs _ h; exact h.elim
theorem E_blt {f : Bi} (la : lcsOk Γ.ks a = true) (h : PE X ex (tCB (rB f) (rdA Γ XW G a))) : PE X ex (rdE Γ fq XW G (.blt f a)) := PEimp h fun σ H Q q => by
  obtain ⟨F, e, E, w⟩ := q
  simp only [ev] at w
  refine ⟨F, e, E, (Wt_bnd w).imp (fun d1 e1 w1 => ?_) fun x e' q => q⟩
  cases d1 with
  | lst l =>
    obtain ⟨ds, f1, w1⟩ := Wt_bind w1
    cases q : bi f ds with
    | none => rw [q] at w1; exact w1.elim
    | some z =>
      rw [q] at w1
      exact ⟨l, rfl, fun vs H1 k1 E1 rs => ⟨zt Γ F σ, ds, z, true, E1.ztH, rs.fin E1 la f1, q, res_of E1 fun v' H' k E' r fr => w1 v' H' (k1.trans k) E' ⟨r, fun _ => fr.back k1⟩⟩⟩
  | _ => exact w1.elim
/-! the script -/
theorem E_scrLen (hK : Γ.K = X.K) (hks : G.ks = Γ.ks) {i : Nat} (h : PE X ex (fun σ H Q => ∃ p ys, σ[i]? = some (some (.ref p)) ∧ SqL X.K H p ys ∧ Q (.int ys.length) H)) : PE X ex (rdE Γ fq XW G (.scrLen i)) := PEimp h fun σ H Q q => by
  obtain ⟨F, e, E, w⟩ := q
  simp only [ev, hks] at w
  obtain ⟨h1, w⟩ := Wt_ite w
  cases q : rdS e i with
  | none => rw [q] at w; exact w.elim
  | some d =>
    rw [q] at w
    obtain ⟨ad, l, r1, rfl, r3, r4⟩ := E.frz i d h1 (rdS_some q)
    have r5 := (E.sq r3 r4).sq
    rw [hK] at r5
    refine ⟨ad, l.map V.int, r1, r5, ?_⟩
    have w' := w (.int ((l.map V.int).length : Nat)) H Sp.refl E ⟨by show _ = _; simp, fun _ => flat_fr rfl⟩
    exact w'
theorem E_scrList (hK : Γ.K = X.K) (hks : G.ks = Γ.ks) {i : Nat} (h : PE X ex (fun σ H Q => ∃ a xs, σ[i]? = some (some (.ref a)) ∧ SqL X.K H a xs ∧ ∀ p, H p = none → Q (.ref p) (upd H p (.lst xs)))) : PE X ex (rdE Γ fq XW G (.scrList i)) := PEimp h fun σ H Q q => by
  obtain ⟨F, e, E, w⟩ := q
  simp only [ev, hks] at w
  obtain ⟨h1, w⟩ := Wt_ite w
  cases q : rdS e i with
  | none => rw [q] at w; exact w.elim
  | some d =>
    rw [q] at w
    obtain ⟨ad, l, r1, rfl, r3, r4⟩ := E.frz i d h1 (rdS_some q)
    have r5 := (E.sq r3 r4).sq
    rw [hK] at r5
    refine ⟨ad, l.map V.int, r1, r5, fun p hp => ?_⟩
    exact Res.lst (ds := l.map D.int) (res_of (e := e) E fun v' H' k E' r fr => w v' H' k E' ⟨r, fun _ => fr⟩) E.ztH (repL_ints l) hp
/-! pop -/
theorem Own.lst {Z : AS} {H : Hp} {a : Addr} {ds : List D} (h : Own Z H a (.lst ds)) : ∃ xs, H a = some (.lst xs) ∧ RepL Z H ds xs := h
theorem upd_other {H : Hp} {a : Addr} {o : HO} : ∀ b, b ≠ a → upd H a o b = H b := fun b h => upd_ne h
/-- an owned list is rewritten -/
theorem ER.wrL {F : Fm} {H : Hp} {σ : L2.St} {e : En} (E : ER Γ F H σ e) {i : Nat} {a : Addr} {ds' : List D} {xs' : List V} (h1 : Γ.ks[i]? = some Kd.own) (h2 : σ[i]? = some (some (V.ref a))) (r : RepL (zt Γ F σ) H ds' xs') :
    ER Γ F (upd H a (.lst xs')) σ (e.set i (some (.lst ds'))) ∧ Sp Γ F σ H (upd H a (.lst xs')) := by
  have k : Sp Γ F σ H (upd H a (.lst xs')) := sp_wr ⟨i, h1, h2⟩
  exact ⟨E.wr h1 h2 upd_other ⟨xs', upd_same, RepL.mono k.kp _ _ r⟩, k⟩
theorem tyL {F : Fm} {H : Hp} {σ : L2.St} {e : En} (E : ER Γ F H σ e) {i : Nat} (h1 : Γ.ks[i]? = some Kd.own) (h2 : isLst (rdS e i) = true) : ∃ a ds xs, rdS e i = some (.lst ds) ∧ σ[i]? = some (some (V.ref a)) ∧ H a = some (.lst xs) ∧ RepL (zt Γ F σ) H ds xs := by
  cases q : rdS e i with
  | none => rw [q] at h2; cases h2
  | some d =>
    rw [q] at h2
    cases d with
    | lst ds =>
      have q' := rdS_some q
      obtain ⟨v, r1⟩ := E.ownE i _ h1 q'
      obtain ⟨a, r2, r3⟩ := E.own' h1 r1 q'
      subst r2
      obtain ⟨xs, r4, r5⟩ := r3
      exact ⟨a, ds, xs, rfl, r1, r4, r5⟩
    | _ => cases h2
theorem E_popAt (hks : G.ks = Γ.ks) {i : Nat} (ho : Γ.ks[i]? = some Kd.own) (h : PE X ex (tBM X.K "list" rPopAt (tVar i) (tCons (rdE Γ fq XW G a) tNil))) : PE X ex (rdE Γ fq XW G (.popAt i a)) := PEimp h fun σ H Q q => by
  obtain ⟨F, e, E, w⟩ := q
  simp only [ev, hks] at w
  obtain ⟨hc, w⟩ := Wt_ite' w
  have hc2 : isLoc a = false ∧ isLst (rdS e i) = true := by
    revert hc
    cases isLoc a <;> cases isLst (rdS e i) <;> simp
  obtain ⟨l, ds0, xs0, _, hl, hH0, _⟩ := tyL E ho hc2.2
  refine ⟨.ref l, hl, .inl ⟨rfl, xs0, .of hH0⟩, ?_⟩
  refine rd_step E (Wt_bnd w) fun d e1 v H1 w1 k1 E1 r1 => ?_
  have rv : Rep (zt Γ F σ) H1 d v := r1.1.rep hc2.1
  split at w1
  · rename_i ds k q1
    obtain ⟨hlim, w1⟩ := Wt_ite w1
    obtain ⟨j, q2, w1⟩ := Wt_bind w1
    cases q3 : ds[j]? with
    | none => rw [q3] at w1; exact w1.elim
    | some x =>
      rw [q3] at w1
      obtain ⟨l', ds', xs, q4, q5, q6, q7⟩ := tyL E1 ho (by rw [q1]; rfl)
      rw [q1] at q4
      cases q4
      rw [hl] at q5
      cases q5
      obtain ⟨y, q8, q9⟩ := RepL.get _ _ q7 j x q3
      have hlen := RepL.length _ _ q7
      obtain ⟨s1, s2, s3, s4⟩ := ixN_seq (show ixN xs.length k = some j from by rw [hlen]; exact q2)
      obtain ⟨E2, k2⟩ := E1.wrL ho hl (RepL.eraseIdx j _ _ q7)
      have hz : xs.length ≤ 100000 := by rw [hlen]; exact hlim.2
      exact ⟨l, xs, k, j, y, rfl, by rw [show v = .int k from rv], q6, by omega, by omega, s1, q8, w1 y _ (k1.trans k2) E2 ⟨Rep.mono k2.kp _ _ q9, fun z => by cases z⟩⟩
  · exact w1.elim
theorem E_popLast (hks : G.ks = Γ.ks) {i : Nat} (ho : Γ.ks[i]? = some Kd.own) (h : PE X ex (tBM0 X.K "list" rPop (tVar i))) : PE X ex (rdE Γ fq XW G (.popLast i)) := PEimp h fun σ H Q q => by
  obtain ⟨F, e, E, w⟩ := q
  simp only [ev, hks] at w
  split at w
  · rename_i ds q1
    obtain ⟨_, w⟩ := Wt_ite w
    cases q3 : ds[ds.length - 1]? with
    | none => rw [q3] at w; exact w.elim
    | some x =>
      rw [q3] at w
      obtain ⟨l, ds', xs, q4, q5, q6, q7⟩ := tyL E ho (by rw [q1]; rfl)
      rw [q1] at q4
      cases q4
      obtain ⟨y, q8, q9⟩ := RepL.get _ _ q7 _ x q3
      have hlen := RepL.length _ _ q7
      obtain ⟨E2, k2⟩ := E.wrL ho q5 (RepL.dropLast _ _ q7)
      refine ⟨.ref l, q5, .inl ⟨rfl, xs, .of q6⟩, l, xs, y, rfl, rfl, q6, by rw [hlen]; exact q8, w y _ k2 E2 ⟨Rep.mono k2.kp _ _ q9, fun z => by cases z⟩⟩
  · exact w.elim
end
end PB
set_option maxHeartbeats 4000000
/-! Ii: readings of statements. -/
namespace PB
open PySem PySem.Spec PyProof.Rows L2

def WtS (o : Option Out) (nx bk ct : En → Prop) (rt : D → En → Prop) (xc : Exn → En → Prop) : Prop := match o with
  | none => False
  | some (.nx e) => nx e
  | some (.rt d e) => rt d e
  | some (.bk e) => bk e
  | some (.ct e) => ct e
  | some (.xc x e) => xc x e
/-- what stays from statement to statement -/
structure Stp (Γ : Gm) (F : Fm) (σ σ' : L2.St) (H H' : Hp) : Prop where
  kp : Kp (zt Γ F σ) (zt Γ F σ') H H'
  ko : Kp (zs Γ F σ) (zs Γ F σ') H H'
  dom : ∀ a, H a ≠ none → H' a ≠ none
/-- what a return leaves -/
def RetR (Γ : Gm) (fr : Bool) (F : Fm) (H : Hp) (e : En) (d : D) (v : V) : Prop :=
  (∃ σ', ER Γ F H σ' e ∧ Rep (zt Γ F σ') H d v ∧ (fr = true → isHp d = true → ∃ p, v = .ref p ∧ F.H0 p = none ∧ ¬ zt Γ F σ' p ∧ ER Γ (F.add p) H σ' e ∧ Own (addZ (zt Γ F σ') p) H p d)) ∨
  (∃ σ' i a e0, ER Γ F H σ' e0 ∧ e = e0.set i none ∧ Γ.ks[i]? = some Kd.own ∧ Γ.np ≤ i ∧ σ'[i]? = some (some (.ref a)) ∧ rdS e0 i = some d ∧ v = .ref a)
def NX (Γ : Gm) (F : Fm) (σ : L2.St) (H : Hp) (P : L2.St → Hp → Prop) : En → Prop := fun e' => ∀ σ' H', Stp Γ F σ σ' H H' → ER Γ F H' σ' e' → P σ' H'
def XFS (Γ : Gm) (XW : WX) (F : Fm) (σ : L2.St) (H : Hp) : Exn → En → Prop := fun x e' => ∀ cls od σ' H', Stp Γ F σ σ' H H' → ER Γ F H' σ' e' → XR Γ F σ' H' x cls od → XW cls od σ' H'
def RT (Γ : Gm) (fr : Bool) (F : Fm) (P : VK) : D → En → Prop := fun d e' => ∀ v H', RetR Γ fr F H' e' d v → P v H'
def rdS' (Γ : Gm) (fr : Bool) (XW : WX) (F : Fm) (D : Ends) (σ : L2.St) (H : Hp) (o : Option Out) : Prop :=
  WtS o (NX Γ F σ H D.nx) (NX Γ F σ H D.bk) (NX Γ F σ H D.ct) (RT Γ fr F D.rt) (XFS Γ XW F σ H)
def rdSt (Γ : Gm) (fr : Bool) (XW : WX) (G : Gx) (c : C) : TS := fun D σ H => ∃ F e, ER Γ F H σ e ∧ rdS' Γ fr XW F D σ H (exec c G e)
theorem PSimp {X : Cx} {st : Stmt} {t t' : TS} (h : PS X st t) (i : ∀ D σ H, t' D σ H → t D σ H) : PS X st t' := ⟨fun pins s σ H D I q => h.run pins s σ H D I (i D σ H q)⟩
theorem PSsimp {X : Cx} {st : List Stmt} {t t' : TS} (h : PSs X st t) (i : ∀ D σ H, t' D σ H → t D σ H) : PSs X st t' := ⟨fun pins s σ H D I q => h.run pins s σ H D I (i D σ H q)⟩
section
variable {Γ : Gm} {F : Fm} {σ σ1 σ2 : L2.St} {H H1 H2 : Hp} {XW : WX} {fr : Bool} {D : Ends} {e : En}
theorem Stp.refl : Stp Γ F σ σ H H := ⟨Kp.refl, Kp.refl, fun _ q => q⟩
theorem Stp.trans (a : Stp Γ F σ σ1 H H1) (b : Stp Γ F σ1 σ2 H1 H2) : Stp Γ F σ σ2 H H2 := ⟨a.kp.trans b.kp, a.ko.trans b.ko, fun x q => b.dom x (a.dom x q)⟩
theorem Sp.stp (k : Sp Γ F σ H H1) : Stp Γ F σ σ H H1 := ⟨k.kp, k.ko, k.dom⟩
theorem NX.mono {P : L2.St → Hp → Prop} (h : NX Γ F σ H P e) (k : Stp Γ F σ σ1 H H1) : NX Γ F σ1 H1 P e := fun σ' H' k' => h σ' H' (k.trans k')
theorem XFS.mono {x : Exn} (h : XFS Γ XW F σ H x e) (k : Stp Γ F σ σ1 H H1) : XFS Γ XW F σ1 H1 x e := fun cls od σ' H' k' => h cls od σ' H' (k.trans k')
theorem WtS.imp {o : Option Out} {nx bk ct nx' bk' ct' : En → Prop} {rt rt' : PB.D → En → Prop} {xc xc' : Exn → En → Prop} (h : WtS o nx bk ct rt xc) (h1 : ∀ e, nx e → nx' e) (h2 : ∀ e, bk e → bk' e) (h3 : ∀ e, ct e → ct' e) (h4 : ∀ d e, rt d e → rt' d e) (h5 : ∀ x e, xc x e → xc' x e) : WtS o nx' bk' ct' rt' xc' := by
  cases o with
  | none => exact h
  | some o => cases o with
    | nx e => exact h1 e h
    | rt d e => exact h4 d e h
    | bk e => exact h2 e h
    | ct e => exact h3 e h
    | xc x e => exact h5 x e h
theorem rdS'.mono {o : Option Out} (h : rdS' Γ fr XW F D σ H o) (k : Stp Γ F σ σ1 H H1) : rdS' Γ fr XW F D σ1 H1 o := h.imp (fun _ q => q.mono k) (fun _ q => q.mono k) (fun _ q => q.mono k) (fun _ _ q => q) fun _ _ q => q.mono k
/-- an expression within a statement -/
theorem WtS_outB {m : Option (R PB.D)} {f : PB.D → En → Option Out} (h : rdS' Γ fr XW F D σ H (outB m f)) : Wt m (fun d e => rdS' Γ fr XW F D σ H (f d e)) (XF Γ XW F σ H) := by
  unfold outB at h
  cases m with
  | none => exact h
  | some r => cases r with
    | ok a e => exact h
    | xc x e => exact fun cls od H' k E r => (show XFS Γ XW F σ H x e from h) cls od σ H' k.stp E r
theorem stp_same {σ' : L2.St} (k : Sp Γ F σ H H1) (z : OsS Γ.ks σ' = OsS Γ.ks σ) : Stp Γ F σ σ' H H1 := by
  have z1 : zt Γ F σ' = zt Γ F σ := by unfold zt; rw [z]
  have z2 : zs Γ F σ' = zs Γ F σ := by unfold zs; rw [z]
  exact ⟨by rw [z1]; exact k.kp, by rw [z2]; exact k.ko, k.dom⟩
theorem rdS_map {o : Option En} (h : rdS' Γ fr XW F D σ H (o.map Out.nx)) : ∃ e', o = some e' ∧ NX Γ F σ H D.nx e' := by
  cases o with
  | none => exact h.elim
  | some e' => exact ⟨e', rfl, h⟩
theorem rdS_bind {α : Type} {o : Option α} {g : α → Option Out} (h : rdS' Γ fr XW F D σ H (o.bind g)) : ∃ a, o = some a ∧ rdS' Γ fr XW F D σ H (g a) := by
  cases o with
  | none => exact h.elim
  | some e' => exact ⟨e', rfl, h⟩
theorem rdS_ite' {c : Prop} [Decidable c] {a : Option Out} (h : rdS' Γ fr XW F D σ H (if c then none else a)) : ¬ c ∧ rdS' Γ fr XW F D σ H a := by
  split at h
  · exact h.elim
  · exact ⟨by assumption, h⟩
theorem rdS_ite {c : Prop} [Decidable c] {a : Option Out} (h : rdS' Γ fr XW F D σ H (if c then a else none)) : c ∧ rdS' Γ fr XW F D σ H a := by
  split at h
  · exact ⟨by assumption, h⟩
  · exact h.elim
end
section
variable {X : Cx} {Γ : Gm} {fq : Nat → Bool} {fr : Bool} {XW : WX} {G : Gx} {a b c : C} {st : Stmt} {sts : List Stmt} {pos : Pos}
theorem S_seq {rest : List Stmt} (h : PSs X sts (tSeq (rdSt Γ fr XW G a) (rdSt Γ fr XW G b))) : PSs X sts (rdSt Γ fr XW G (.seq a b)) := PSsimp h fun D σ H q => by
  obtain ⟨F, e, E, w⟩ := q
  refine ⟨F, e, E, ?_⟩
  simp only [exec] at w
  cases qe : exec a G e with
  | none => rw [qe] at w; exact w
  | some o =>
    rw [qe] at w
    cases o with
    | nx e1 => exact fun σ1 H1 k1 E1 => ⟨F, e1, E1, rdS'.mono w k1⟩
    | _ => exact w
theorem S_pass (h : PS X st tNext) : PS X st (rdSt Γ fr XW G .pass) := PSimp h fun D σ H q => by
  obtain ⟨F, e, E, w⟩ := q
  exact w σ H Stp.refl E
theorem S_brk (h : PS X st tBreak) : PS X st (rdSt Γ fr XW G .brk) := PSimp h fun D σ H q => by
  obtain ⟨F, e, E, w⟩ := q
  exact w σ H Stp.refl E
theorem S_cnt (h : PS X st tCont) : PS X st (rdSt Γ fr XW G .cnt) := PSimp h fun D σ H q => by
  obtain ⟨F, e, E, w⟩ := q
  exact w σ H Stp.refl E
theorem S_drop (h : PS X st (tDrop (rdE Γ fq XW G c))) : PS X st (rdSt Γ fr XW G (.drop c)) := PSimp h fun D σ H q => by
  obtain ⟨F, e, E, w⟩ := q
  exact rd_step E (WtS_outB w) fun d e1 v H1 w1 k1 E1 r1 => w1 σ H1 k1.stp E1
theorem S_ret (hf : fr = true → frC fq c = true) (h : PS X st (tRet (rdE Γ fq XW G c))) : PS X st (rdSt Γ fr XW G (.ret c)) := PSimp h fun D σ H q => by
  obtain ⟨F, e, E, w⟩ := q
  refine rd_step E (WtS_outB w) fun d e1 v H1 w1 k1 E1 r1 => ?_
  obtain ⟨hl, w1⟩ := rdS_ite' w1
  refine w1 v H1 (.inl ⟨σ, E1, r1.1.rep (by simpa using hl), fun q1 q2 => ?_⟩)
  obtain ⟨p, h1, _, h2⟩ := r1.2 (hf q1) q2
  exact ⟨p, h1, h2⟩
theorem S_retN (h : PS X st tRetN) : PS X st (rdSt Γ fr XW G .retN) := PSimp h fun D σ H q => by
  obtain ⟨F, e, E, w⟩ := q
  exact w .non H (.inl ⟨σ, E, rfl, fun _ q2 => by cases q2⟩)
theorem S_retO (hks : G.ks = Γ.ks) {i : Nat} (hn : Γ.np ≤ i) (h : PS X st (tRet (tVar i))) : PS X st (rdSt Γ fr XW G (.retO i)) := PSimp h fun D σ H q => by
  obtain ⟨F, e, E, w⟩ := q
  simp only [exec, hks] at w
  obtain ⟨ho, w⟩ := rdS_ite w
  cases q1 : rdS e i with
  | none => rw [q1] at w; exact w.elim
  | some d =>
    rw [q1] at w
    obtain ⟨v, r1⟩ := E.ownE i d ho (rdS_some q1)
    obtain ⟨a, r2, r3⟩ := E.own' ho r1 (rdS_some q1)
    subst r2
    exact ⟨_, r1, w (.ref a) H (.inr ⟨σ, i, a, e, E, rfl, ho, hn, r1, q1, rfl⟩)⟩
theorem S_ife (h : PS X st (tIfS (rdT Γ XW G c) (rdSt Γ fr XW G a) (rdSt Γ fr XW G b))) : PS X st (rdSt Γ fr XW G (.ife c a b)) := PSimp h fun D σ H q => by
  obtain ⟨F, e, E, w⟩ := q
  refine rd_stepT E (WtS_outB w) fun d e1 w1 => ?_
  obtain ⟨t, ht, w1⟩ := rdS_bind w1
  refine ⟨t, ht, fun H1 k1 E1 => ?_⟩
  cases t with
  | true => exact ⟨F, e1, E1, rdS'.mono w1 k1.stp⟩
  | false => exact ⟨F, e1, E1, rdS'.mono w1 k1.stp⟩
/-! stores -/
/-- the slots of a target -/
def slotsG : C → List Nat
  | .var i => [i]
  | .tup a => slotsG a
  | .cons a b => slotsG a ++ slotsG b
  | _ => []
theorem wipe_set {σ : L2.St} {w : Option V} : ∀ {vs : List Nat} {i : Nat}, i ∈ vs → wipe (σ.set i w) vs = wipe σ vs
  | v :: vs, i, h => by
    unfold wipe
    by_cases hv : i ∈ vs
    · rw [wipe_set hv]
    · have e : i = v := by
        rcases List.mem_cons.mp h with h | h
        · exact h
        · exact absurd h hv
      subst e
      have key : ∀ (us : List Nat) (σ : L2.St), i ∉ us → wipe (σ.set i w) us = (wipe σ us).set i w := by
        intro us
        induction us with
        | nil => intro σ _; rfl
        | cons u us ih =>
          intro σ hn
          unfold wipe
          simp only [List.mem_cons, not_or] at hn
          rw [ih σ hn.2, List.set_comm _ _ hn.1]
      rw [key vs σ hv, List.set_set]
/-- targets: names (shared), tuples of these -/
def rdG (Γ : Gm) (c : C) : TG := fun v σ H Q => ∃ F e d e', ER Γ F H σ e ∧ Rep (zt Γ F σ) H d v ∧ asgT Γ.ks c d e = some e' ∧ ∀ σ', ER Γ F H σ' e' → OsS Γ.ks σ' = OsS Γ.ks σ → (∀ vs, (∀ i ∈ slotsG c, i ∈ vs) → wipe σ' vs = wipe σ vs) → Q σ' H
def rdGs (Γ : Gm) (c : C) : TGs := fun vs σ H Q => ∃ F e l e', ER Γ F H σ e ∧ RepL (zt Γ F σ) H l vs ∧ asgT Γ.ks c (.lst l) e = some e' ∧ ∀ σ', ER Γ F H σ' e' → OsS Γ.ks σ' = OsS Γ.ks σ → (∀ vs, (∀ i ∈ slotsG c, i ∈ vs) → wipe σ' vs = wipe σ vs) → Q σ' H
theorem PGimp {ex : Expr} {t t' : TG} (h : PG X ex t) (i : ∀ v σ H Q, t' v σ H Q → t v σ H Q) : PG X ex t' := ⟨fun pins s σ H v u Q I r q => h.run pins s σ H v u Q I r (i v σ H Q q)⟩
theorem PGsimp {ex : List Expr} {t t' : TGs} (h : PGs X ex t) (i : ∀ v σ H Q, t' v σ H Q → t v σ H Q) : PGs X ex t' := ⟨fun pins s σ H v u Q I r q => h.run pins s σ H v u Q I r (i v σ H Q q)⟩
theorem var_read {i : Nat} (hx : Fre Γ i) {v : V} {σ : L2.St} {H : Hp} {Q : L2.St → Hp → Prop} (q : rdG Γ (.var i) v σ H Q) : gName i v σ H Q := by
  obtain ⟨F, e, d, e', E, r, q1, w⟩ := q
  simp only [asgT] at q1
  split at q1
  · rename_i hk
    cases q1
    simp only [Bool.and_eq_true, decide_eq_true_eq] at hk
    exact w _ (E.setShr hk.1 hx r) (osS_set' (by rw [hk.1]; exact fun z => nomatch z)) fun vs hv => wipe_set (hv i (by simp [slotsG]))
  · cases q1
theorem G_var {ex : Expr} {i : Nat} (hx : Fre Γ i) (h : PG X ex (gName i)) : PG X ex (rdG Γ (.var i)) := PGimp h fun _ _ _ _ q => var_read hx q
theorem Gs_nil {ex : List Expr} (h : PGs X ex gNil) : PGs X ex (rdGs Γ .nil) := PGsimp h fun vs σ H Q q => by
  obtain ⟨F, e, l, e', E, r, q1, w⟩ := q
  cases l with
  | nil => cases q1; exact ⟨r, w σ E rfl fun _ _ => rfl⟩
  | cons d l => simp [asgT] at q1
theorem Gs_cons {ex : List Expr} (h : PGs X ex (gCons (rdG Γ a) (rdGs Γ b))) : PGs X ex (rdGs Γ (.cons a b)) := PGsimp h fun vs σ H Q q => by
  obtain ⟨F, e, l, e', E, r, q1, w⟩ := q
  cases l with
  | nil => simp [asgT] at q1
  | cons d l =>
    simp only [asgT] at q1
    obtain ⟨e1, q2, q3⟩ := Option.bind_eq_some_iff.mp q1
    obtain ⟨v, r', rfl, r1, r2⟩ := r
    exact ⟨v, r', rfl, F, e, d, e1, E, r1, q2, fun σ1 E1 z1 y1 => ⟨F, e1, l, e', E1, by unfold zt; rw [z1]; exact r2, q3, fun σ2 E2 z2 y2 => w σ2 E2 (z2.trans z1) fun vs hv => (y2 vs fun i hi => hv i (by simp [slotsG, hi])).trans (y1 vs fun i hi => hv i (by simp [slotsG, hi]))⟩⟩
def lenG : C → Nat
  | .cons _ b => lenG b + 1
  | _ => 0
def isTgs : C → Bool
  | .nil => true
  | .cons _ b => isTgs b
  | _ => false
theorem asgT_len {ks : List Kd} : ∀ {c : C} {l : List PB.D} {e e' : En}, isTgs c = true → asgT ks c (.lst l) e = some e' → l.length = lenG c := by
  intro c
  induction c with
  | nil => intro l e e' _ h; cases l with
    | nil => rfl
    | cons => simp [asgT] at h
  | cons a b iha ihb => intro l e e' ht h; cases l with
    | nil => simp [asgT] at h
    | cons d l =>
      simp only [asgT] at h
      obtain ⟨e1, q2, q3⟩ := Option.bind_eq_some_iff.mp h
      simp [lenG, ihb ht q3]
  | _ => intro l e e' ht; cases ht
theorem G_tup {ex : Expr} {n : Nat} (hl : ∀ l e e', asgT Γ.ks a (.lst l) e = some e' → l.length = n) (h : PG X ex (gTup X.K n (rdGs Γ a))) : PG X ex (rdG Γ (.tup a)) := PGimp h fun v σ H Q q => by
  obtain ⟨F, e, d, e', E, r, q1, w⟩ := q
  cases d with
  | tup l =>
    obtain ⟨p, xs, rfl, ⟨_, hp⟩, rl⟩ := r
    exact ⟨p, xs, rfl, .of hp, by rw [RepL.length _ _ rl]; exact hl l e e' q1, F, e, l, e', E, rl, q1, w⟩
  | _ => simp [asgT] at q1
theorem asg_read (hks : G.ks = Γ.ks) (hn : ∀ i, a ≠ .loc i) {D : Ends} {σ : L2.St} {H : Hp} (q : rdSt Γ fr XW G (.asg a c) D σ H) : rdE Γ fq XW G c σ H fun x H1 => rdG Γ a x σ H1 D.nx := by
  obtain ⟨F, e, E, w⟩ := q
  refine rd_step E (WtS_outB w) fun d e1 v H1 w1 k1 E1 r1 => ?_
  obtain ⟨hl, w1⟩ := rdS_ite' w1
  have w1' : rdS' Γ fr XW F D σ H ((asgT G.ks a d e1).map .nx) := by
    cases a <;> first | exact w1 | exact absurd rfl (hn _)
  obtain ⟨e', q1, q2⟩ := rdS_map w1'
  rw [hks] at q1
  refine ⟨F, e1, d, e', E1, r1.1.rep (by simpa using hl), q1, fun σ' E' z _ => q2 σ' H1 (stp_same k1 z) E'⟩
theorem S_asg (hks : G.ks = Γ.ks) (hn : ∀ i, a ≠ .loc i) (h : PS X st (tAsg (rdE Γ fq XW G c) (rdG Γ a))) : PS X st (rdSt Γ fr XW G (.asg a c)) := PSimp h fun _ _ _ q => asg_read hks hn q
/-- a new object for an owned slot -/
theorem Stp.own {F : Fm} {σ : L2.St} {H H1 : Hp} {i : Nat} {p : Addr} (k : Sp Γ F σ H H1) (hp : H p = none) : Stp Γ F σ (σ.set i (some (.ref p))) H H1 := by
  have sO : ∀ b o, H b = some o → ¬ OsS Γ.ks σ b → ¬ OsS Γ.ks (σ.set i (some (.ref p))) b := fun b o h z ⟨j, q1, q2⟩ => by
    by_cases hj : j = i
    · subst hj
      by_cases hlt : j < σ.length
      · rw [List.getElem?_set_self hlt] at q2
        cases q2
        rw [hp] at h
        cases h
      · rw [List.getElem?_eq_none (by simpa using hlt)] at q2
        cases q2
    · rw [get_set hj] at q2
      exact z ⟨j, q1, q2⟩
  refine ⟨fun b o h n z => ⟨(k.kp b o h n z).1, fun q => ?_⟩, fun b o h n z => ⟨(k.ko b o h n z).1, fun q => ?_⟩, k.dom⟩
  · rcases q with q | q
    · exact z (.inl q)
    · exact sO b o h (fun y => z (.inr y)) q
  · rcases q with q | q
    · exact sO b o h (fun y => z (.inl y)) q
    · exact z (.inr q)
theorem setK_own {ks : List Kd} {i : Nat} {d : PB.D} {e e' : En} (ho : ks[i]? = some Kd.own) (h : setK ks i d e = some e') : isHp d = true ∧ e' = e.set i (some d) := by
  unfold setK at h
  rw [ho] at h
  cases d <;> cases h <;> exact ⟨rfl, rfl⟩
theorem setK_shr {ks : List Kd} {i : Nat} {d : PB.D} {e e' : En} (ho : ks[i]? = some Kd.shr) (h : setK ks i d e = some e') : e' = e.set i (some d) := by
  unfold setK at h
  rw [ho] at h
  cases h
  rfl
theorem asgO_read (hks : G.ks = Γ.ks) {i : Nat} (hn : Γ.np ≤ i) (hf : frC fq c = true) {D : Ends} {σ : L2.St} {H : Hp} (q : rdSt Γ fr XW G (.asg (.loc i) c) D σ H) : rdE Γ fq XW G c σ H fun x H1 => gName i x σ H1 D.nx := by
  obtain ⟨F, e, E, w⟩ := q
  refine rd_step E (WtS_outB w) fun d e1 v H1 w1 k1 E1 r1 => ?_
  obtain ⟨hl, w1⟩ := rdS_ite' w1
  rw [hks] at w1
  obtain ⟨ho, w1⟩ := rdS_ite w1
  obtain ⟨e', q1, q2⟩ := rdS_map w1
  obtain ⟨hd, rfl⟩ := setK_own ho q1
  obtain ⟨p, rfl, hs, h0, hz, E2, o⟩ := r1.2 hf hd
  exact q2 _ H1 (Stp.own k1 hs) (E2.setOwn ho hn h0 hz o)
theorem S_asgO (hks : G.ks = Γ.ks) {i : Nat} (hn : Γ.np ≤ i) (hf : frC fq c = true) (h : PS X st (tAsg (rdE Γ fq XW G c) (gName i))) : PS X st (rdSt Γ fr XW G (.asg (.loc i) c)) := PSimp h fun _ _ _ q => asgO_read hks hn hf q
theorem rdE_imp {Q Q' : VK} {σ : L2.St} {H : Hp} (h : rdE Γ fq XW G c σ H Q) (i : ∀ v H1, Q v H1 → Q' v H1) : rdE Γ fq XW G c σ H Q' := by
  obtain ⟨F, e, E, w⟩ := h
  exact ⟨F, e, E, w.imp (fun d e1 q v H1 k E1 r => i v H1 (q v H1 k E1 r)) fun _ _ q => q⟩
end
end PB
set_option maxHeartbeats 4000000
/-! Ij: readings of statements: stores in place, several targets. -/
namespace PB
open PySem PySem.Spec PyProof.Rows L2
section
variable {X : Cx} {Γ : Gm} {fq : Nat → Bool} {fr : Bool} {XW : WX} {G : Gx} {a b c : C} {st : Stmt} {sts : List Stmt} {pos : Pos}
/-- xs.append(e) -/
theorem S_app (hks : G.ks = Γ.ks) {i : Nat} (ho : Γ.ks[i]? = some Kd.own) (h : PS X st (tDrop (tBM X.K "list" rAppend (tVar i) (tCons (rdE Γ fq XW G c) tNil)))) : PS X st (rdSt Γ fr XW G (.app i c)) := PSimp h fun D σ H q => by
  obtain ⟨F, e, E, w⟩ := q
  simp only [exec, hks] at w
  obtain ⟨hc, w⟩ := rdS_ite' w
  have hc2 : isLst (rdS e i) = true := by simpa using hc
  obtain ⟨l, ds0, xs0, _, hl, hH0, _⟩ := tyL E ho hc2
  refine ⟨.ref l, hl, .inl ⟨rfl, xs0, .of hH0⟩, ?_⟩
  refine rd_step E (WtS_outB w) fun d e1 v H1 w1 k1 E1 r1 => ?_
  obtain ⟨hll, w1⟩ := rdS_ite' w1
  have rv : Rep (zt Γ F σ) H1 d v := r1.1.rep (by simpa using hll)
  split at w1
  · rename_i ds q1
    obtain ⟨hz, w1⟩ := rdS_ite w1
    simp only [Bool.and_eq_true, decide_eq_true_eq] at hz
    obtain ⟨l', ds', xs, q4, q5, q6, q7⟩ := tyL E1 ho (by rw [q1]; rfl)
    rw [q1] at q4
    cases q4
    rw [hl] at q5
    cases q5
    have hlen := RepL.length _ _ q7
    obtain ⟨E2, k2⟩ := E1.wrL ho hl (RepL.append _ [d] _ [v] q7 ⟨v, [], rfl, rv, rfl⟩)
    refine ⟨l, xs, v, rfl, rfl, q6, ?_, w1 σ _ (k1.trans k2).stp E2⟩
    have := sizeLine_eq
    have hz2 : ds.length < 100000 := hz.2
    omega
  · exact w1.elim
/-- a dict that is owned is written -/
theorem repK_put {Z : AS} {H : Hp} {k : Key} {kd d : PB.D} {v : V} (hk : repKey k kd) (hv : Rep Z H d v) : ∀ (ds : List (PB.D × PB.D)) (kvs : List (Key × V)), RepK Z H ds kvs → isKey1 kd = true →
    (ds.any fun p => keyEq p.1 kd) = (kvs.any fun kv => decide (kv.1 = k)) ∧ RepK Z H (ds.map fun p => if keyEq p.1 kd = true then (p.1, d) else p) (kvs.map fun kv => if kv.1 = k then (kv.1, v) else kv) ∧ RepK Z H (ds ++ [(kd, d)]) (kvs ++ [(k, v)])
  | [], kvs, h, _ => by cases h; exact ⟨rfl, rfl, k, v, [], rfl, hk, hv, rfl⟩
  | (q, d0) :: ds, kvs, h, ik => by
    obtain ⟨q', v0, r, e, h0, h1, h2⟩ := h
    subst e
    have eq : keyEq q kd = decide (q' = k) := by
      cases kd with
      | int i => cases q <;> first | exact repKey_eq h0 hk | exact h0.elim
      | str i => cases q <;> first | exact repKey_eq h0 hk | exact h0.elim
      | _ => simp [isKey1] at ik
    obtain ⟨i1, i2, i3⟩ := repK_put hk hv ds r h2 ik
    refine ⟨by simp only [List.any_cons, eq, i1], ?_, ⟨q', v0, _, rfl, h0, h1, i3⟩⟩
    by_cases c : q' = k
    · have : keyEq q kd = true := by rw [eq]; simp [c]
      simp only [List.map_cons, this, if_true, c]
      exact ⟨k, v, _, rfl, c ▸ h0, hv, i2⟩
    · have : ¬ keyEq q kd = true := by rw [eq]; simp [c]
      simp only [List.map_cons, this, if_false, c]
      exact ⟨q', v0, _, rfl, h0, h1, i2⟩
theorem repT_put {Z : AS} {H : Hp} {k : List Key} {ks : List PB.D} {d : PB.D} {v : V} (hk : repKeys k ks) (hv : Rep Z H d v) : ∀ (ds : List (PB.D × PB.D)) (kvs : List (List Key × V)), RepT Z H ds kvs →
    (ds.any fun p => keyEq p.1 (.tup ks)) = (kvs.any fun kv => decide (kv.1 = k)) ∧ RepT Z H (ds.map fun p => if keyEq p.1 (.tup ks) = true then (p.1, d) else p) (kvs.map fun kv => if kv.1 = k then (kv.1, v) else kv) ∧ RepT Z H (ds ++ [(.tup ks, d)]) (kvs ++ [(k, v)])
  | [], kvs, h => by cases h; exact ⟨rfl, rfl, k, v, [], ks, rfl, rfl, hk, hv, rfl⟩
  | (q, d0) :: ds, kvs, h => by
    obtain ⟨q', v0, r, qs, e, eq0, h0, h1, h2⟩ := h
    subst e eq0
    have eq : keyEq (.tup qs) (.tup ks) = decide (q' = k) := by simp only [keyEq]; exact repKeys_eq h0 hk
    obtain ⟨i1, i2, i3⟩ := repT_put hk hv ds r h2
    refine ⟨by simp only [List.any_cons, eq, i1], ?_, ⟨q', v0, _, qs, rfl, rfl, h0, h1, i3⟩⟩
    by_cases c : q' = k
    · have : keyEq (.tup qs) (.tup ks) = true := by rw [eq]; simp [c]
      simp only [List.map_cons, this, if_true, c]
      exact ⟨k, v, _, qs, rfl, rfl, c ▸ h0, hv, i2⟩
    · have : ¬ keyEq (.tup qs) (.tup ks) = true := by rw [eq]; simp [c]
      simp only [List.map_cons, this, if_false, c]
      exact ⟨q', v0, _, qs, rfl, rfl, h0, h1, i2⟩
theorem own_put {Z : AS} {H : Hp} {a : Addr} {t : Bool} {ds : List (PB.D × PB.D)} {kd d : PB.D} {y v : V} (az : Z a) (h : Own Z H a (.dic t ds)) (hk : Rep Z H kd y) (hv : Rep Z H d v) (ik : isKey t kd = true) (hl : ds.length < lim) :
    ∃ o, DPut H a y v (upd H a o) ∧ Own Z (upd H a o) a (.dic t (dPut ds kd d)) := by
  have len : ∀ {ds : List (PB.D × PB.D)} {kvs : List (Key × V)}, RepK Z H ds kvs → kvs.length = ds.length := by
    intro ds
    induction ds with
    | nil => intro kvs h; cases h; rfl
    | cons p ds ih => intro kvs h; obtain ⟨q, v, r, e, _, _, h2⟩ := h; subst e; simp [ih h2]
  have lenT : ∀ {ds : List (PB.D × PB.D)} {kvs : List (List Key × V)}, RepT Z H ds kvs → kvs.length = ds.length := by
    intro ds
    induction ds with
    | nil => intro kvs h; cases h; rfl
    | cons p ds ih => intro kvs h; obtain ⟨q, v, r, ks, e, _, _, _, h2⟩ := h; subst e; simp [ih h2]
  have hsz : ds.length < sizeLine := by
    have := sizeLine_eq
    unfold lim at hl
    omega
  have kp : ∀ o, Kp Z Z H (upd H a o) := fun o b u hb n z => ⟨by rw [upd_ne (fun q => z (by rw [q]; exact az))]; exact hb, z⟩
  rcases h with ⟨rfl, kvs, e, r⟩ | ⟨rfl, kvs, e, r⟩
  · have ik1 : isKey1 kd = true := ik
    obtain ⟨k, e1, rfl⟩ := key_of1 ik1 hk
    obtain ⟨i1, i2, i3⟩ := repK_put e1 hv ds kvs r ik1
    refine ⟨_, DPut.k e (by rw [len r]; exact hsz), .inl ⟨rfl, _, upd_same, ?_⟩⟩
    unfold dPut putK
    rw [i1]
    split
    · exact RepK.mono (kp _) _ _ i2
    · exact RepK.mono (kp _) _ _ i3
  · cases kd with
    | tup ks =>
      obtain ⟨b, xs, rfl, ⟨hb1, hb2⟩, rl⟩ := hk
      obtain ⟨k, e1, rfl⟩ := keys_of1 ks xs ik rl
      obtain ⟨i1, i2, i3⟩ := repT_put e1 hv ds kvs r
      refine ⟨_, DPut.t e hb2 (by rw [lenT r]; exact hsz), .inr ⟨rfl, _, upd_same, ?_⟩⟩
      unfold dPut putK
      rw [i1]
      split
      · exact RepT.mono (kp _) _ _ i2
      · exact RepT.mono (kp _) _ _ i3
    | _ => cases ik
/-- what an indexed store writes -/
def rSetA (K : PySem.W.Frag) : TSet := fun o i v H Q => rSetL o i v H Q ∨ rSetD o i v H Q
theorem set_any (hu : X.A.units + 1 < cLine) : PSet X (rSetA X.K) := by
  intro pins s σ H o i v ov iv u Q I ro ri rv h
  rcases h with h | h
  · exact set_list pins s σ H o i v ov iv u Q I ro ri rv h
  · exact set_dict hu pins s σ H o i v ov iv u Q I ro ri rv h
theorem S_stIx (hks : G.ks = Γ.ks) {i : Nat} (ho : Γ.ks[i]? = some Kd.own) (h : PS X st (tAsg (rdE Γ fq XW G c) (gSub (tVar i) (rdE Γ fq XW G b) (rSetA X.K)))) : PS X st (rdSt Γ fr XW G (.stIx i b c)) := PSimp h fun D σ H q => by
  obtain ⟨F, e, E, w⟩ := q
  simp only [exec, hks] at w
  obtain ⟨hn, w⟩ := rdS_ite' w
  have hsl : ∃ v, σ[i]? = some (some v) := by
    cases q1 : rdS e i with
    | none => rw [q1] at hn; exact absurd rfl hn
    | some d => exact E.ownE i d ho (rdS_some q1)
  obtain ⟨v0, hl⟩ := hsl
  refine rd_step E (WtS_outB w) fun d e1 v H1 w1 k1 E1 r1 => ?_
  refine ⟨v0, hl, ?_⟩
  refine rd_step E1 ((WtS_outB w1).imp (fun _ _ q => q) fun x e' q => XF.mono q k1) fun q e2 y H2 w2 k2 E2 r2 => ?_
  obtain ⟨hll, w2⟩ := rdS_ite' w2
  obtain ⟨lc, lb⟩ := loc2 hll
  have rv : Rep (zt Γ F σ) H2 d v := Rep.mono k2.kp _ _ (r1.1.rep lc)
  have ry : Rep (zt Γ F σ) H2 q y := r2.1.rep lb
  cases q1 : rdS e2 i with
  | none => rw [q1] at w2; exact w2.elim
  | some od =>
    rw [q1] at w2
    cases od with
    | lst l => cases q with
      | int z =>
        obtain ⟨_, w2⟩ := rdS_ite w2
        cases q3 : ixOf l.length z with
        | none => rw [q3] at w2; exact w2.elim
        | some j =>
          rw [q3] at w2
          obtain ⟨a, ds', xs, q4, q5, q6, q7⟩ := tyL E2 ho (by rw [q1]; rfl)
          rw [q1] at q4
          cases q4
          rw [hl] at q5
          cases q5
          have hlen := RepL.length _ _ q7
          obtain ⟨E3, k3⟩ := E2.wrL ho hl (RepL.set j _ _ _ _ q7 rv)
          exact .inl ⟨a, xs, z, j, rfl, ry, q6, by rw [hlen]; exact q3, w2 σ _ ((k1.trans k2).trans k3).stp E3⟩
      | _ => exact w2.elim
    | dic t kvs =>
      obtain ⟨hz, w2⟩ := rdS_ite w2
      simp only [Bool.and_eq_true, decide_eq_true_eq] at hz
      obtain ⟨a, r4, r5⟩ := E2.own' ho hl (rdS_some q1)
      subst r4
      have az : zt Γ F σ a := .inr ⟨i, ho, hl⟩
      obtain ⟨o, g, o2⟩ := own_put az r5 ry rv hz.1.2 hz.2
      have k3 : Sp Γ F σ H2 (upd H2 a o) := sp_wr ⟨i, ho, hl⟩
      exact .inr ⟨a, _, rfl, g, w2 σ _ ((k1.trans k2).trans k3).stp (E2.wr ho hl upd_other o2)⟩
    | _ => cases q <;> exact w2.elim
/-! name op= e -/
/-- ints alone -/
def rOi (o : O2) : R2 := fun x y H Q => ∃ Z m n z, x = .int m ∧ y = .int n ∧ op2 o (.int m) (.int n) = some z ∧ Res Z H false z Q
theorem i_of {o : O2} {f : Value → Value → Sem Value} {C : Int → Int → Prop} {g : Int → Int → Int} (ho : OpR X f (rI C fun i j => .int (g i j))) (hh : ∀ m n z, op2 o (.int m) (.int n) = some z → C m n ∧ z = .int (g m n)) : OpR X f (rOi o) := by
  intro pins s σ H x y v u Q I rx ry h
  obtain ⟨Z, m, n, z, rfl, rfl, q, r⟩ := h
  obtain ⟨c, rfl⟩ := hh m n z q
  exact ho pins s σ H _ _ v u Q I rx ry ⟨m, n, rfl, rfl, c, r.flat rfl rfl⟩
theorem i_add : OpR X (inplaceOp .Add) (rOi .add) := i_of (rI0_rI iop_add) fun m n z q => by cases q; exact ⟨trivial, rfl⟩
theorem i_sub : OpR X (inplaceOp .Sub) (rOi .sub) := i_of (rI0_rI iop_sub) fun m n z q => by cases q; exact ⟨trivial, rfl⟩
theorem i_mul : OpR X (inplaceOp .Mult) (rOi .mul) := i_of iop_mul fun m n z q => by
  simp only [op2] at q
  split at q
  · rename_i hm
    cases q
    exact ⟨mulOk_c hm, rfl⟩
  · cases q
theorem i_fdiv : OpR X (inplaceOp .FloorDiv) (rOi .fdiv) := i_of iop_fdiv fun m n z q => by
  simp only [op2] at q
  split at q
  · rename_i hm
    cases q
    simp only [Bool.and_eq_true, decide_eq_true_eq] at hm
    exact ⟨hm, rfl⟩
  · cases q
theorem i_mod : OpR X (inplaceOp .Mod) (rOi .mod) := i_of iop_mod fun m n z q => by
  simp only [op2] at q
  split at q
  · rename_i hm
    cases q
    exact ⟨hm, rfl⟩
  · cases q
theorem i_shr : OpR X (inplaceOp .RShift) (rOi .shr) := i_of iop_shr fun m n z q => by
  simp only [op2] at q
  split at q
  · rename_i hm
    cases q
    exact ⟨hm, rfl⟩
  · cases q
theorem i_shl : OpR X (inplaceOp .LShift) (rOi .shl) := i_of iop_shl fun m n z q => by
  simp only [op2] at q
  split at q
  · rename_i hm
    cases q
    simp only [Bool.and_eq_true, decide_eq_true_eq] at hm
    exact ⟨⟨hm.1.1, hm.1.2, hm.2⟩, rfl⟩
  · cases q
theorem i_or : OpR X (inplaceOp .BitOr) (rOi .bor) := i_of (bits_of (n := fun a b => a ||| b) iop_or Bits.bitOr_pp) fun m n z q => by
  simp only [op2] at q
  split at q
  · rename_i hm
    cases q
    simp only [Bool.and_eq_true, decide_eq_true_eq] at hm
    exact ⟨hm, rfl⟩
  · cases q
theorem i_and : OpR X (inplaceOp .BitAnd) (rOi .band) := i_of (bits_of (n := fun a b => a &&& b) iop_and bitAnd_pp) fun m n z q => by
  simp only [op2] at q
  split at q
  · rename_i hm
    cases q
    simp only [Bool.and_eq_true, decide_eq_true_eq] at hm
    exact ⟨hm, rfl⟩
  · cases q
theorem i_xor : OpR X (inplaceOp .BitXor) (rOi .bxor) := i_of (bits_of (n := fun a b => a ^^^ b) iop_xor Bits.bitXor_pp) fun m n z q => by
  simp only [op2] at q
  split at q
  · rename_i hm
    cases q
    simp only [Bool.and_eq_true, decide_eq_true_eq] at hm
    exact ⟨hm, rfl⟩
  · cases q
theorem S_aug (hks : G.ks = Γ.ks) {i : Nat} {o : O2} (hx : Fre Γ i) (h : PS X st (tAug i (rdE Γ fq XW G c) (rOi o))) : PS X st (rdSt Γ fr XW G (.aug i o c)) := PSimp h fun D σ H q => by
  obtain ⟨F, e, E, w⟩ := q
  simp only [exec, hks] at w
  cases q1 : rdS e i with
  | none => rw [q1] at w; exact w.elim
  | some x =>
    rw [q1] at w
    obtain ⟨hk, w⟩ := rdS_ite w
    obtain ⟨v, r1, r2⟩ := E.shr i x hk (rdS_some q1)
    refine ⟨v, r1, ?_⟩
    refine rd_step E (WtS_outB w) fun d e1 y H1 w1 k1 E1 r3 => ?_
    obtain ⟨hl, w1⟩ := rdS_ite' w1
    have ry : Rep (zt Γ F σ) H1 d y := r3.1.rep (by simpa using hl)
    cases x with
    | int m => cases d with
      | int n =>
        cases q3 : op2 o (.int m) (.int n) with
        | none => rw [q3] at w1; exact w1.elim
        | some z =>
          rw [q3] at w1
          refine ⟨zt Γ F σ, m, n, z, r2, ry, q3, resOld_of E1 fun v' H' k E' r => ?_⟩
          exact w1 _ H' (stp_same (k1.trans k) (osS_set' (by rw [hk]; exact fun z => nomatch z))) (E'.setShr hk hx r)
      | _ => exact w1.elim
    | _ => cases d <;> exact w1.elim
/-! a, b = x, y -/
def setOk (Γ : Gm) (fq : Nat → Bool) (i : Nat) (c : C) : Bool := (decide (Γ.ks[i]? = some Kd.shr)) || (decide (Γ.ks[i]? = some Kd.own) && decide (Γ.np ≤ i) && frC fq c)
theorem S_par (hks : G.ks = Γ.ks) {i j : Nat} (hij : i ≠ j) (hxi : Fre Γ i) (hxj : Fre Γ j) (hi : Γ.ks[i]? = some Kd.shr) (hj : Γ.ks[j]? = some Kd.shr)
    (h : PS X st (tPar i j (tCons (rdE Γ fq XW G a) (tCons (rdE Γ fq XW G b) tNil)))) : PS X st (rdSt Γ fr XW G (.par i j a b)) := PSimp h fun D σ H q => by
  obtain ⟨F, e, E, w⟩ := q
  simp only [exec, hks] at w
  refine rd_step E (WtS_outB w) fun d e1 v H1 w1 k1 E1 r1 => ?_
  refine rd_step E1 ((WtS_outB w1).imp (fun _ _ q => q) fun x e' q => XF.mono q k1) fun q e2 y H2 w2 k2 E2 r2 => ?_
  obtain ⟨hll, w2⟩ := rdS_ite' w2
  obtain ⟨lc, lb⟩ := loc2 hll
  have rv : Rep (zt Γ F σ) H2 d v := Rep.mono k2.kp _ _ (r1.1.rep lc)
  have ry : Rep (zt Γ F σ) H2 q y := r2.1.rep lb
  obtain ⟨e3, q3, w2⟩ := rdS_bind w2
  obtain ⟨e4, q4, w2⟩ := rdS_map w2
  cases setK_shr hi q3
  cases setK_shr hj q4
  have ni : Γ.ks[i]? ≠ some Kd.own := by rw [hi]; exact fun z => nomatch z
  have nj : Γ.ks[j]? ≠ some Kd.own := by rw [hj]; exact fun z => nomatch z
  refine ⟨v, y, rfl, w2 _ H2 (stp_same (k1.trans k2) ?_) ((E2.setShr hi hxi rv).setShr hj hxj (by rw [zt_set ni]; exact ry))⟩
  rw [osS_set' nj, osS_set' ni]
end
end PB
set_option maxHeartbeats 4000000
/-! Ik: loops. -/
namespace PB
open PySem PySem.Spec PyProof.Rows L2
theorem Kp.so {Γ : Gm} {F : Fm} {σ : L2.St} {Zo' : AS} {H H' : Hp} (k : Kp (zs Γ F σ) Zo' H H') : Kp (zo Γ F σ) Zo' H H' := fun a o h n z => k a o h n fun q => z (q.imp id fun q => q.1)
/-- an iterator J gives the values ds, wherever the frame goes on -/
def ItOk (Γ : Gm) (F : Fm) (σ : L2.St) (H1 : Hp) (J : It) (ds : List PB.D) : Prop :=
  ∃ (Gd : Hp → Prop) (Y : Nat → Hp → V → Hp → Prop), Walk J ds.length Gd Y ∧ (∀ Z' Zo' H', Kp (zt Γ F σ) Z' H1 H' → Kp (zo Γ F σ) Zo' H1 H' → Gd H') ∧
    ∀ i x Z' H' H'', Kp (zt Γ F σ) Z' H1 H' → i < ds.length → ZH Z' H' → Y i H' x H'' → Ex H' H'' ∧ ∃ d, ds[i]? = some d ∧ Rep Z' H'' d x
def PI0 (Γ : Gm) (F : Fm) (σ : L2.St) (H : Hp) (c : C) (R : It → Hp → Prop) : PB.D → En → Prop := fun d e1 => ∃ ds, itemsOf Γ.ks c d e1 = some ds ∧ ∀ J H1, Sp Γ F σ H H1 → ER Γ F H1 σ e1 → ItOk Γ F σ H1 J ds → R J H1
def rdI (Γ : Gm) (XW : WX) (G : Gx) (c : C) : TI := fun σ H R => ∃ F e, ER Γ F H σ e ∧ Wt (ev c G e) (PI0 Γ F σ H c R) (XF Γ XW F σ H)
theorem PIimp {X : Cx} {tg ex : Expr} {t t' : TI} (h : PI X tg ex t) (i : ∀ σ H Q, t' σ H Q → t σ H Q) : PI X tg ex t' := ⟨fun pins s σ H R I q => h.run pins s σ H R I (i σ H R q)⟩
/-- a list or a tuple, as it comes -/
def iSeq (K : PySem.W.Frag) (tl : TE) : TI := fun σ H R => tl σ H fun x H1 => ∃ a, x = .ref a ∧ (((∃ xs, SqL K H1 a xs) ∧ R (Itl K a) H1) ∨ ((∃ xs, SqT K H1 a xs) ∧ R (Itt K a) H1))
section
variable {X : Cx} {tg l : Expr}
theorem pi_seq {tl : TE} (hl : PE X l tl) : PI X tg l (iSeq X.K tl) := by
  refine ⟨fun pins s σ H R I h => thn (hl.run pins s σ H _ I h) fun v s1 z => ?_⟩
  obtain ⟨x, H1, J1, rx, a, ea, q⟩ := z
  subst ea
  cases rx
  have fp : ∀ b ∈ [s1.heap.objs.size], FpOk X pins H1 b := fun b hb => by
    rw [List.mem_singleton] at hb
    subst hb
    exact J1.fpOk (Nat.le_refl _) (J1.hok.fresh (Nat.le_refl _))
  rcases q with ⟨⟨xs, sq⟩, q⟩ | ⟨⟨xs, sq⟩, q⟩
  · obtain ⟨its, _, pl, _⟩ := J1.list sq
    exact wpAny_pyIter_list pl.isList ⟨_, [s1.heap.objs.size], _, _, H1, rfl, J1.kept (t' := s1.toks) fun b o e => Heap.get?_push_of_some _ e, turn_list a _, ⟨_, Heap.get?_push_size _ rfl, rfl, rfl⟩, fp, q⟩
  · obtain ⟨its, _, pl, _⟩ := J1.tuple sq
    exact wpAny_pyIter_tuple (show s1.heap.IsTuple a its.toArray from pl) ⟨_, [s1.heap.objs.size], _, _, H1, rfl, J1.kept (t' := s1.toks) fun b o e => Heap.get?_push_of_some _ e, turn_tuple a _, ⟨_, Heap.get?_push_size _ rfl, rfl, rfl⟩, fp, q⟩
end
section
variable {X : Cx} {Γ : Gm} {fq : Nat → Bool} {fr : Bool} {XW : WX} {G : Gx} {a b c : C} {tg ex : Expr} {st : Stmt}
theorem Stp.rep {F : Fm} {σ σ' : L2.St} {H H' : Hp} (k : Stp Γ F σ σ' H H') {d : PB.D} {v : V} (r : Rep (zt Γ F σ) H d v) : Rep (zt Γ F σ') H' d v := Rep.mono k.kp d v r
theorem itList {F : Fm} {σ : L2.St} {H1 : Hp} {ad : Addr} {xs : List V} {ds : List PB.D} {K : PySem.W.Frag} (h : ∀ Z' Zo' H', Kp (zt Γ F σ) Z' H1 H' → Kp (zo Γ F σ) Zo' H1 H' → SqL K H' ad xs) (r : RepL (zt Γ F σ) H1 ds xs) : ItOk Γ F σ H1 (Itl K ad) ds := by
  have hl := RepL.length _ _ r
  refine ⟨fun H => SqL K H ad xs, YAt xs, by rw [← hl]; exact walk_list, h, fun i x Z' H' H'' k hi zh y => ?_⟩
  obtain ⟨y1, y2⟩ := y
  subst y1
  obtain ⟨d, q1, q2⟩ := RepL.at _ _ (RepL.mono k _ _ r) i x y2
  exact ⟨Ex.refl, d, q1, q2⟩
theorem itTup {F : Fm} {σ : L2.St} {H1 : Hp} {ad : Addr} {xs : List V} {ds : List PB.D} {K : PySem.W.Frag} (h : ∀ Z' Zo' H', Kp (zt Γ F σ) Z' H1 H' → Kp (zo Γ F σ) Zo' H1 H' → SqT K H' ad xs) (r : RepL (zt Γ F σ) H1 ds xs) : ItOk Γ F σ H1 (Itt K ad) ds := by
  have hl := RepL.length _ _ r
  refine ⟨fun H => SqT K H ad xs, YAt xs, by rw [← hl]; exact walk_tup, h, fun i x Z' H' H'' k hi zh y => ?_⟩
  obtain ⟨y1, y2⟩ := y
  subst y1
  obtain ⟨d, q1, q2⟩ := RepL.at _ _ (RepL.mono k _ _ r) i x y2
  exact ⟨Ex.refl, d, q1, q2⟩
/-- the list or tuple of an operand stays -/
theorem seqIt {F : Fm} {σ : L2.St} {H1 : Hp} {e1 : En} (E : ER Γ F H1 σ e1) {d : PB.D} {v : V} {ds : List PB.D} (r : VR0 Γ F H1 σ c d v) (hl : lcOk Γ.ks c = true ∨ ∃ i, c = .scr i) (q : itemsOf Γ.ks c d e1 = some ds) {K : PySem.W.Frag} (hK : Γ.K = K) {R : It → Hp → Prop} (hR : ∀ J, ItOk Γ F σ H1 J ds → R J H1) :
    ∃ a, v = .ref a ∧ (((∃ xs, SqL K H1 a xs) ∧ R (Itl K a) H1) ∨ ((∃ xs, SqT K H1 a xs) ∧ R (Itt K a) H1)) := by
  have main : ∀ (Z : AS) (zz : ∀ a o, H1 a = some o → (∀ ps, o ≠ .tbl ps) → ¬ Z a → ∀ Z' Zo' H', Kp (zt Γ F σ) Z' H1 H' → Kp (zo Γ F σ) Zo' H1 H' → H' a = some o) (d : PB.D), seqOf d = some ds → RepO Z (zt Γ F σ) H1 d v →
      ∃ a, v = .ref a ∧ (((∃ xs, SqL K H1 a xs) ∧ R (Itl K a) H1) ∨ ((∃ xs, SqT K H1 a xs) ∧ R (Itt K a) H1)) := by
    intro Z zz d hs r
    cases d <;> simp only [seqOf] at hs <;> first | cases hs | skip
    · obtain ⟨ad, xs, rfl, ⟨h1, h2⟩, r⟩ := r
      refine ⟨ad, rfl, .inr ⟨⟨xs, .of h2⟩, hR _ (itTup (fun Z' Zo' H' k k2 => .of (zz ad _ h2 (fun ps z => by cases z) h1 Z' Zo' H' k k2)) r)⟩⟩
    · obtain ⟨ad, xs, rfl, ⟨h1, h2⟩, r⟩ := r
      refine ⟨ad, rfl, .inl ⟨⟨xs, .of h2⟩, hR _ (itList (fun Z' Zo' H' k k2 => .of (zz ad _ h2 (fun ps z => by cases z) h1 Z' Zo' H' k k2)) r)⟩⟩
  have gen : (∀ i, c ≠ .loc i) → (∀ i, c ≠ .scr i) → ∃ a, v = .ref a ∧ (((∃ xs, SqL K H1 a xs) ∧ R (Itl K a) H1) ∨ ((∃ xs, SqT K H1 a xs) ∧ R (Itt K a) H1)) := fun n1 n2 => by
    have q' : seqOf d = some ds := by
      cases c <;> first | exact q | exact absurd rfl (n1 _) | exact absurd rfl (n2 _)
    have r' : Rep (zt Γ F σ) H1 d v := by
      cases c <;> first | exact r | exact absurd rfl (n1 _) | exact absurd rfl (n2 _)
    refine main (zt Γ F σ) (fun a o h n z Z' Zo' H' k k2 => (k a o h n z).1) d q' ?_
    exact Rep.toO (fun _ z => z) _ _ r'
  cases c with
  | loc i =>
    simp only [itemsOf] at q
    split at q
    · rename_i hk
      obtain ⟨d', q1, q2⟩ := Option.bind_eq_some_iff.mp q
      obtain ⟨w, r1, r2⟩ := E.brw i d' hk (rdS_some q1)
      have r' : σ[i]? = some (some v) := r
      rw [r'] at r1
      cases r1
      exact main (zo Γ F σ) (fun a o h n z Z' Zo' H' k k2 => (k2 a o h n z).1) d' q2 r2
    · cases q
  | scr i =>
    simp only [itemsOf] at q
    split at q
    · rename_i hk
      obtain ⟨d', q1, q2⟩ := Option.bind_eq_some_iff.mp q
      obtain ⟨ad, l, r1, rfl, r3, r4⟩ := E.frz i d' hk (rdS_some q1)
      have r' : σ[i]? = some (some v) := r
      rw [r'] at r1
      cases r1
      cases q2
      have r5 := E.sq r3 r4
      refine ⟨ad, rfl, .inl ⟨⟨l.map V.int, hK ▸ r5.sq⟩, hR _ (itList (fun Z' Zo' H' k k2 => ?_) (repL_ints l))⟩⟩
      rcases r3 with ⟨o, h0⟩ | r5
      · have r5 := E.base ad _ h0 (fun ps z => by cases z) (r4 _ _ h0)
        have nz : ¬ zo Γ F σ ad := fun z => by
          rcases z with ⟨j, z1, z2⟩ | z
          · obtain ⟨a', d2, e1, _, _, _, _, e2⟩ := E.own j _ z1 z2
            cases e1
            exact e2.notFrz _ _ r5
          · rw [h0] at z; cases z
        exact .inl (.inr ⟨o, (k2 ad _ r5 (fun ps z => by cases z) nz).1⟩)
      · exact hK ▸ (show SqF Γ.K H' ad l from .inr r5).sq
    · cases q
  | _ => exact gen (fun i z => by cases z) (fun i z => by cases z)
theorem I_seq (hK : Γ.K = X.K) (hl : lcOk Γ.ks c = true ∨ ∃ i, c = .scr i) (h : PE X ex (rdE Γ fq XW G c)) : PI X tg ex (rdI Γ XW G c) := PIimp (pi_seq h) fun σ H R q => by
  obtain ⟨F, e, E, w⟩ := q
  refine rd_step E w fun d e1 v H1 w1 k1 E1 r1 => ?_
  obtain ⟨ds, q1, q2⟩ := w1
  exact seqIt E1 r1.1 hl q1 hK fun J j => q2 J H1 k1 E1 j
/-! range -/
theorem rangeD_length : ∀ (n : Nat) (lo : Int), (rangeD lo n).length = n
  | 0, _ => rfl
  | n + 1, lo => by simp [rangeD, rangeD_length n]
theorem rangeD_get : ∀ (n : Nat) (lo : Int) (i : Nat), i < n → (rangeD lo n)[i]? = some (.int (lo + i))
  | 0, _, i, h => by omega
  | n + 1, lo, 0, h => by simp [rangeD]
  | n + 1, lo, i + 1, h => by
    have := rangeD_get n (lo + 1) i (by omega)
    simp only [rangeD, List.getElem?_cons_succ, this]
    congr 2
    omega
theorem rangeC_length : ∀ (n : Nat) (lo c : Int), (rangeC lo c n).length = n
  | 0, _, _ => rfl
  | n + 1, lo, c => by simp [rangeC, rangeC_length n]
theorem rangeC_get : ∀ (n : Nat) (lo c : Int) (i : Nat), i < n → (rangeC lo c n)[i]? = some (.int (lo + (i : Nat) * c))
  | 0, _, _, i, h => by omega
  | n + 1, lo, c, 0, h => by simp [rangeC]
  | n + 1, lo, c, i + 1, h => by
    have := rangeC_get n (lo + c) c i (by omega)
    simp only [rangeC, List.getElem?_cons_succ, this]
    congr 2
    have : ((i + 1 : Nat) : Int) * c = (i : Int) * c + c := by
      rw [Int.natCast_add]
      simp [Int.add_mul]
    omega
theorem itRange {F : Fm} {σ : L2.St} {H1 : Hp} {lo : Int} {n : Nat} : ItOk Γ F σ H1 (Itr lo n) (rangeD lo n) := by
  refine ⟨fun _ => True, YFn fun i => .int (lo + i), by rw [rangeD_length]; exact walk_range, fun _ _ _ _ _ => trivial, fun i x Z' H' H'' k hi zh y => ?_⟩
  obtain ⟨y1, y2⟩ := y
  subst y1 y2
  rw [rangeD_length] at hi
  exact ⟨Ex.refl, _, rangeD_get n lo i hi, rfl⟩
theorem itRangeC {F : Fm} {σ : L2.St} {H1 : Hp} {lo c : Int} {n : Nat} : ItOk Γ F σ H1 (Itc lo c n) (rangeC lo c n) := by
  refine ⟨fun _ => True, YFn fun i => .int (lo + (i : Nat) * c), by rw [rangeC_length]; exact walk_rangeC, fun _ _ _ _ _ => trivial, fun i x Z' H' H'' k hi zh y => ?_⟩
  obtain ⟨y1, y2⟩ := y
  subst y1 y2
  rw [rangeC_length] at hi
  exact ⟨Ex.refl, _, rangeC_get n lo c i hi, rfl⟩
theorem bltI {f : Bi} {R : It → Hp → Prop} {F : Fm} {σ : L2.St} {H : Hp} {e : En} (w : Wt (ev (.blt f a) G e) (PI0 Γ F σ H (.blt f a) R) (XF Γ XW F σ H)) :
    Wt (ev a G e) (fun d e1 => ∃ l ds z zs, d = .lst l ∧ finL a l e1 = some ds ∧ bi f ds = some z ∧ seqOf z = some zs ∧ ∀ J H1, Sp Γ F σ H H1 → ER Γ F H1 σ e1 → ItOk Γ F σ H1 J zs → R J H1) (XF Γ XW F σ H) := by
  simp only [ev] at w
  refine (Wt_bnd w).imp (fun d e1 w1 => ?_) fun _ _ q => q
  cases d with
  | lst l =>
    obtain ⟨ds, f1, w1⟩ := Wt_bind w1
    cases q : bi f ds with
    | none => rw [q] at w1; exact w1.elim
    | some z =>
      rw [q] at w1
      obtain ⟨zs, q1, q2⟩ := w1
      exact ⟨l, ds, z, zs, rfl, f1, q, q1, q2⟩
  | _ => exact w1.elim
theorem RepBs.len {Z : AS} {H : Hp} : ∀ {ds : List PB.D} {vs : List V}, RepBs Z H ds vs → vs.length = ds.length
  | [], _, h => by cases h; rfl
  | d :: ds, vs, h => by
    obtain ⟨v, r, q, h1, h2⟩ := h
    subst q
    simp [RepBs.len h2]
theorem VRs.len {F : Fm} {H : Hp} {σ : L2.St} : ∀ {c : C} {l : List PB.D} {vs : List V}, VRs Γ F H σ c l vs → vs.length = lenG c := by
  intro c
  induction c with
  | nil => intro l vs h; cases l with
    | nil => cases h; rfl
    | cons d l => exact h.elim
  | cons a b iha ihb => intro l vs h; cases l with
    | nil => exact h.elim
    | cons d l =>
      obtain ⟨v, r, q, h1, h2⟩ := h
      subst q
      simp [lenG, ihb h2]
  | _ => intro l vs h; exact h.elim
theorem RepBs.three {Z : AS} {H : Hp} {d e f : PB.D} {vs : List V} (h : RepBs Z H [d, e, f] vs) : ∃ u v w, vs = [u, v, w] ∧ RepB Z H d u ∧ RepB Z H e v ∧ RepB Z H f w := by
  obtain ⟨v, r, q, h1, h2⟩ := h
  obtain ⟨w, x, q2, h3, h4⟩ := h2.two
  subst q2
  exact ⟨v, w, x, q, h1, h3, h4⟩
theorem len1 {α : Type} {l : List α} (h : l.length = 1) : ∃ a, l = [a] := by
  match l, h with
  | [a], _ => exact ⟨a, rfl⟩
theorem len2 {α : Type} {l : List α} (h : l.length = 2) : ∃ a b, l = [a, b] := by
  match l, h with
  | [a, b], _ => exact ⟨a, b, rfl⟩
theorem len3 {α : Type} {l : List α} (h : l.length = 3) : ∃ a b c, l = [a, b, c] := by
  match l, h with
  | [a, b, c], _ => exact ⟨a, b, c, rfl⟩
theorem I_range1 (la : lcsOk Γ.ks a = true) (hn : lenG a = 1) (h : PI X tg ex (iRng1 (rdA Γ XW G a))) : PI X tg ex (rdI Γ XW G (.blt .range a)) := PIimp h fun σ H R q => by
  obtain ⟨F, e, E, w⟩ := q
  refine rd_stepA E (bltI w) fun d e1 w1 => ?_
  obtain ⟨l, ds, z, zs, rfl, f1, q1, q2, k⟩ := w1
  refine ⟨l, rfl, fun vs H1 k1 E1 rs => ?_⟩
  have rb := rs.fin E1 la f1
  obtain ⟨x, rfl⟩ := len1 (rb.len.symm.trans (rs.len.trans hn))
  cases x <;> simp only [bi] at q1 <;> first | cases q1 | skip
  rename_i j
  split at q1
  · rename_i hj
    cases q1
    cases q2
    simp only [Bool.and_eq_true, decide_eq_true_eq] at hj
    obtain ⟨v, rfl, rv⟩ := rb.one
    cases rv
    exact ⟨j, rfl, hj.1, hj.2, k _ H1 k1 E1 itRange⟩
  · cases q1
theorem I_range2 (la : lcsOk Γ.ks a = true) (hn : lenG a = 2) (h : PI X tg ex (iRng2 (rdA Γ XW G a))) : PI X tg ex (rdI Γ XW G (.blt .range a)) := PIimp h fun σ H R q => by
  obtain ⟨F, e, E, w⟩ := q
  refine rd_stepA E (bltI w) fun d e1 w1 => ?_
  obtain ⟨l, ds, z, zs, rfl, f1, q1, q2, k⟩ := w1
  refine ⟨l, rfl, fun vs H1 k1 E1 rs => ?_⟩
  have rb := rs.fin E1 la f1
  obtain ⟨x, y, rfl⟩ := len2 (rb.len.symm.trans (rs.len.trans hn))
  cases x <;> cases y <;> simp only [bi] at q1 <;> first | cases q1 | skip
  rename_i i j
  split at q1
  · rename_i hj
    cases q1
    cases q2
    simp only [Bool.and_eq_true, decide_eq_true_eq] at hj
    obtain ⟨v, u, rfl, rv, ru⟩ := rb.two
    cases rv
    cases ru
    exact ⟨i, j, rfl, ⟨hj.1.1.1, hj.1.1.2, hj.1.2, hj.2⟩, k _ H1 k1 E1 itRange⟩
  · cases q1
/-! enumerate, zip -/
theorem enumD_length : ∀ (l : List PB.D) (n : Nat), (enumD n l).length = l.length
  | [], _ => rfl
  | _ :: l, n => by simp [enumD, enumD_length l]
theorem enumD_get : ∀ (l : List PB.D) (n i : Nat) (d : PB.D), l[i]? = some d → (enumD n l)[i]? = some (.tup [.int ((n + i : Nat) : Int), d])
  | [], _, i, _, h => by simp at h
  | x :: l, n, 0, d, h => by simp at h; subst h; simp [enumD]
  | x :: l, n, i + 1, d, h => by
    have := enumD_get l (n + 1) i d (by simpa using h)
    simp only [enumD, List.getElem?_cons_succ, this]
    congr 5
    omega
theorem zipD_length : ∀ (l m : List PB.D), (zipD l m).length = min l.length m.length
  | [], _ => by simp [zipD]
  | _ :: _, [] => by simp [zipD]
  | _ :: l, _ :: m => by simp [zipD, zipD_length l m]
theorem zipD_get : ∀ (l m : List PB.D) (i : Nat) (d e : PB.D), l[i]? = some d → m[i]? = some e → (zipD l m)[i]? = some (.tup [d, e])
  | [], _, i, _, _, h, _ => by simp at h
  | _ :: _, [], i, _, _, _, h => by simp at h
  | x :: l, y :: m, 0, d, e, h, h' => by simp at h h'; subst h h'; simp [zipD]
  | x :: l, y :: m, i + 1, d, e, h, h' => by
    have := zipD_get l m i d e (by simpa using h) (by simpa using h')
    simp only [zipD, List.getElem?_cons_succ, this]
/-- a pair that the iterator makes -/
theorem pair_new {Z : AS} {H' : Hp} {T : Addr} {u v : V} {d e : PB.D} (zh : ZH Z H') (hT : H' T = none) (hd : Rep Z H' d u) (he : Rep Z H' e v) : Rep Z (upd H' T (.tup [u, v])) (.tup [d, e]) (.ref T) := by
  have x : Ex H' (upd H' T (.tup [u, v])) := Ex.new hT
  exact ⟨T, [u, v], rfl, ⟨zh.free hT, upd_same⟩, u, [v], rfl, Rep.mono x.kp _ _ hd, v, [], rfl, Rep.mono x.kp _ _ he, rfl⟩
theorem itEnum {F : Fm} {σ : L2.St} {H1 : Hp} {ad : Addr} {xs : List V} {ds : List PB.D} {K : PySem.W.Frag} (h : ∀ Z' Zo' H', Kp (zt Γ F σ) Z' H1 H' → Kp (zo Γ F σ) Zo' H1 H' → SqL K H' ad xs) (r : RepL (zt Γ F σ) H1 ds xs) : ItOk Γ F σ H1 (Ite K ad) (enumD 0 ds) := by
  have hl := RepL.length _ _ r
  refine ⟨fun H => SqL K H ad xs, _, by rw [enumD_length, ← hl]; exact walk_enum, h, fun i x Z' H' H'' k hi zh y => ?_⟩
  obtain ⟨T, u, v, y1, y2, y3, y4, y5⟩ := y
  subst y1 y3
  cases y4
  obtain ⟨d, q1, q2⟩ := RepL.at _ _ (RepL.mono k _ _ r) i v y5
  refine ⟨Ex.new y2, _, enumD_get ds 0 i d q1, ?_⟩
  rw [Nat.zero_add]
  exact pair_new zh y2 rfl q2
theorem itZip {F : Fm} {σ : L2.St} {H1 : Hp} {ad bd : Addr} {xs ys : List V} {ds es : List PB.D} {K : PySem.W.Frag} (h : ∀ Z' Zo' H', Kp (zt Γ F σ) Z' H1 H' → Kp (zo Γ F σ) Zo' H1 H' → SqL K H' ad xs ∧ SqL K H' bd ys) (r : RepL (zt Γ F σ) H1 ds xs) (r' : RepL (zt Γ F σ) H1 es ys) : ItOk Γ F σ H1 (Itz K ad bd) (zipD ds es) := by
  have hl := RepL.length _ _ r
  have hl' := RepL.length _ _ r'
  refine ⟨fun H => SqL K H ad xs ∧ SqL K H bd ys, _, walk_zip (by rw [zipD_length, hl, hl']), h, fun i x Z' H' H'' k hi zh y => ?_⟩
  obtain ⟨T, u, v, y1, y2, y3, y4, y5⟩ := y
  subst y1 y3
  obtain ⟨d, q1, q2⟩ := RepL.at _ _ (RepL.mono k _ _ r) i u y4
  obtain ⟨e, q3, q4⟩ := RepL.at _ _ (RepL.mono k _ _ r') i v y5
  exact ⟨Ex.new y2, _, zipD_get ds es i d e q1 q3, pair_new zh y2 q2 q4⟩
/-! for -/
theorem S_for {b : C} (hks : G.ks = Γ.ks) (h : PS X st (tFor (rdI Γ XW G c) (rdG Γ a) (rdSt Γ fr XW G b))) : PS X st (rdSt Γ fr XW G (.fr a c b)) := PSimp h fun D σ H q => by
  obtain ⟨F, e, E, w⟩ := q
  simp only [exec, hks] at w
  refine ⟨F, e, E, (WtS_outB w).imp (fun d e1 w1 => ?_) fun _ _ q => q⟩
  obtain ⟨ds, q1, w1⟩ := rdS_bind w1
  refine ⟨ds, q1, fun J H1 k1 E1 it => ?_⟩
  obtain ⟨Gd, Y, wk, hG, hY⟩ := it
  refine for_it wk (fun i σ' H' => ∃ e', ER Γ F H' σ' e' ∧ Stp Γ F σ σ' H1 H' ∧ rdS' Γ fr XW F D σ' H' (forE (asgT Γ.ks a) (fun e => exec b G e) (ds.drop i) e')) ⟨e1, E1, Stp.refl, by rw [List.drop_zero]; exact w1.mono k1.stp⟩ (fun i σ' H' hi ⟨e', E', k', w'⟩ => hG _ _ H' k'.kp k'.ko.so) ?_ ?_
  · rintro i x σ' H' H'' hi ⟨e', E', k', w'⟩ y
    obtain ⟨x1, d, q2, r⟩ := hY i x _ H' H'' k'.kp hi E'.ztH y
    have hlt := lt_of_get q2
    have ed : ds.drop i = d :: ds.drop (i + 1) := by
      rw [List.drop_eq_getElem_cons hlt]
      congr 1
      rw [List.getElem?_eq_getElem hlt] at q2
      exact Option.some.inj q2
    rw [ed] at w'
    simp only [forE] at w'
    obtain ⟨e2, q3, w'⟩ := rdS_bind w'
    have s1 : Stp Γ F σ' σ' H' H'' := (x1.sp (Γ := Γ) (F := F) (σ := σ')).stp
    refine ⟨F, e', d, e2, E'.ext x1, r, q3, fun σ2 E2 z2 _ => ⟨F, e2, E2, ?_⟩⟩
    have s2 : Stp Γ F σ' σ2 H' H'' := stp_same (x1.sp (Γ := Γ) (F := F) (σ := σ')) z2
    have w2 := w'.mono s2
    cases qb : exec b G e2 with
    | none => rw [qb] at w2; exact w2
    | some o =>
      rw [qb] at w2
      cases o with
      | nx e3 => exact fun σ3 H3 k3 E3 => ⟨e3, E3, (k'.trans s2).trans k3, w2.mono k3⟩
      | ct e3 => exact fun σ3 H3 k3 E3 => ⟨e3, E3, (k'.trans s2).trans k3, w2.mono k3⟩
      | bk e3 => exact w2
      | _ => exact w2
  · rintro σ' H' ⟨e', E', k', w'⟩
    rw [List.drop_length] at w'
    exact w' σ' H' Stp.refl E'
theorem S_whl {b : C} (h : PS X st (tWhile (rdT Γ XW G c) (rdSt Γ fr XW G b))) : PS X st (rdSt Γ fr XW G (.whl c b)) := PSimp h fun D σ H q => by
  obtain ⟨F, e, E, w⟩ := q
  simp only [exec] at w
  refine ⟨fun m σ' H' => ∃ e', ER Γ F H' σ' e' ∧ rdS' Γ fr XW F D σ' H' (whileE (fun e => ev c G e) (finT c) (fun e => exec b G e) m e'), ⟨G.wf, e, E, w⟩, ?_⟩
  rintro m σ' H' ⟨e', E', w'⟩
  cases m with
  | zero => exact w'.elim
  | succ n =>
    simp only [whileE] at w'
    refine rd_stepT E' (WtS_outB w') fun d e1 w1 => ?_
    obtain ⟨t, ht, w1⟩ := rdS_bind w1
    refine ⟨t, ht, fun H1 k1 E1 => ?_⟩
    cases t with
    | false => exact (w1.mono k1.stp) σ' H1 Stp.refl E1
    | true =>
      refine ⟨fun σ2 H2 => ∃ e2, ER Γ F H2 σ2 e2 ∧ rdS' Γ fr XW F D σ2 H2 (whileE (fun e => ev c G e) (finT c) (fun e => exec b G e) n e2), fun σ2 H2 q => ⟨n, by omega, q⟩, F, e1, E1, ?_⟩
      have w2 := w1.mono k1.stp
      simp only [if_true] at w2
      cases qb : exec b G e1 with
      | none => rw [qb] at w2; exact w2
      | some o =>
        rw [qb] at w2
        cases o with
        | nx e3 => exact fun σ3 H3 k3 E3 => ⟨e3, E3, w2.mono k3⟩
        | ct e3 => exact fun σ3 H3 k3 E3 => ⟨e3, E3, w2.mono k3⟩
        | bk e3 => exact w2
        | _ => exact w2
end
end PB
set_option maxHeartbeats 4000000
/-! Il: comprehensions. -/
namespace PB
open PySem PySem.Spec PyProof.Rows L2
theorem getw {α : Type} (f : Nat → Option α) (g : List (Option α) → List Nat → List (Option α)) (hn : ∀ l, g l [] = l) (hc : ∀ l v vs, g l (v :: vs) = (g l vs).set v (f v)) :
    ∀ (vs : List Nat) (l : List (Option α)) (i : Nat), (g l vs).length = l.length ∧ (g l vs)[i]? = if i ∈ vs ∧ i < l.length then some (f i) else l[i]?
  | [], l, i => by rw [hn]; simp
  | v :: vs, l, i => by
    obtain ⟨h1, h2⟩ := getw f g hn hc vs l i
    rw [hc]
    refine ⟨by rw [List.length_set]; exact h1, ?_⟩
    by_cases hv : i = v
    · subst hv
      by_cases hl : i < l.length
      · rw [List.getElem?_set_self (by rw [h1]; exact hl), if_pos ⟨List.mem_cons_self, hl⟩]
      · rw [if_neg (fun z => hl z.2), List.getElem?_eq_none (by rw [List.length_set, h1]; omega), List.getElem?_eq_none (by omega)]
    · rw [get_set hv, h2]
      by_cases hm : i ∈ vs ∧ i < l.length
      · rw [if_pos hm, if_pos ⟨List.mem_cons_of_mem _ hm.1, hm.2⟩]
      · rw [if_neg hm, if_neg (fun z => hm ⟨(List.mem_cons.mp z.1).resolve_left hv, z.2⟩)]
theorem wipe_get (vs : List Nat) (l : L2.St) (i : Nat) : (wipe l vs).length = l.length ∧ (wipe l vs)[i]? = if i ∈ vs ∧ i < l.length then some none else l[i]? := getw (fun _ => none) wipe (fun _ => rfl) (fun _ _ _ => rfl) vs l i
theorem wipeE_get (vs : List Nat) (l : En) (i : Nat) : (wipeE l vs).length = l.length ∧ (wipeE l vs)[i]? = if i ∈ vs ∧ i < l.length then some none else l[i]? := getw (fun _ => none) wipeE (fun _ => rfl) (fun _ _ _ => rfl) vs l i
theorem restE_get (e0 : En) (vs : List Nat) (l : En) (i : Nat) : (restE e0 l vs).length = l.length ∧ (restE e0 l vs)[i]? = if i ∈ vs ∧ i < l.length then some (rdS e0 i) else l[i]? := getw (rdS e0) (restE e0) (fun _ => rfl) (fun _ _ _ => rfl) vs l i
section
variable {Γ : Gm} {F : Fm} {H H1 : Hp} {σ : L2.St} {e e1 : En} {vs : List Nat}
/-- the block's own slots -/
def vsOk (Γ : Gm) (vs : List Nat) : Prop := ∀ i ∈ vs, Γ.ks[i]? = some Kd.shr ∧ Fre Γ i
theorem vsOk.not (h : vsOk Γ vs) {i : Nat} {k : Kd} (q : Γ.ks[i]? = some k) (n : k ≠ .shr) : i ∉ vs := fun z => by
  rw [(h i z).1] at q
  exact n (Option.some.inj q).symm
theorem wipe_not {i : Nat} (h : i ∉ vs) : (wipe σ vs)[i]? = σ[i]? := by rw [(wipe_get vs σ i).2, if_neg (fun z => h z.1)]
theorem wipeE_not {i : Nat} (h : i ∉ vs) : (wipeE e vs)[i]? = e[i]? := by rw [(wipeE_get vs e i).2, if_neg (fun z => h z.1)]
theorem osS_wipe (hv : vsOk Γ vs) : OsS Γ.ks (wipe σ vs) = OsS Γ.ks σ := funext fun a => propext ⟨fun ⟨i, h1, h2⟩ => ⟨i, h1, by rw [← wipe_not (hv.not h1 (by decide))]; exact h2⟩, fun ⟨i, h1, h2⟩ => ⟨i, h1, by rw [wipe_not (hv.not h1 (by decide))]; exact h2⟩⟩
theorem zt_wipe (hv : vsOk Γ vs) : zt Γ F (wipe σ vs) = zt Γ F σ := by unfold zt; rw [osS_wipe hv]
theorem zo_wipe (hv : vsOk Γ vs) : zo Γ F (wipe σ vs) = zo Γ F σ := by unfold zo; rw [osS_wipe hv]
theorem zs_wipe (hv : vsOk Γ vs) : zs Γ F (wipe σ vs) = zs Γ F σ := by unfold zs; rw [osS_wipe hv]
theorem ER.wiped (E : ER Γ F H σ e) (hv : vsOk Γ vs) : ER Γ F H (wipe σ vs) (wipeE e vs) := by
  refine ⟨(wipeE_get vs e 0).1.trans E.le, (wipe_get vs σ 0).1.trans E.lσ, fun i d h1 h2 => ?_, fun i d h1 h2 => ?_, fun i d h1 h2 => ?_, fun i v h1 h2 => ?_, fun i d h1 h2 => ?_, fun i v h0 h1 h2 => ?_, fun i j a h1 h2 h3 h4 => ?_, E.base, E.dom, E.zh, E.tabs, fun i a dx ds h => ?_, fun f c q h => ?_⟩
  · rw [zt_wipe hv]
    by_cases hi : i ∈ vs
    · rw [(wipeE_get vs e i).2, if_pos ⟨hi, by rw [E.le]; exact lt_of_get h1⟩] at h2
      cases h2
    · rw [wipeE_not hi] at h2
      rw [wipe_not hi]
      exact E.shr i d h1 h2
  · have hi := hv.not h1 (by decide)
    rw [wipeE_not hi] at h2
    rw [wipe_not hi, zt_wipe hv, zo_wipe hv]
    exact E.brw i d h1 h2
  · have hi := hv.not h1 (by decide)
    rw [wipeE_not hi] at h2
    rw [wipe_not hi]
    exact E.frz i d h1 h2
  · have hi := hv.not h1 (by decide)
    rw [wipe_not hi] at h2
    rw [wipeE_not hi, zt_wipe hv]
    exact E.own i v h1 h2
  · have hi := hv.not h1 (by decide)
    rw [wipeE_not hi] at h2
    rw [wipe_not hi]
    exact E.ownE i d h1 h2
  · rw [wipe_not (hv.not h1 (by decide))]
    exact E.par i v h0 h1 h2
  · rw [wipe_not (hv.not h1 (by decide))] at h3
    rw [wipe_not (hv.not h2 (by decide))] at h4
    exact E.inj i j a h1 h2 h3 h4
  · obtain ⟨q1, q2, q3⟩ := E.exo i a dx ds h
    have hi : i ∉ vs := fun z => (hv i z).2.1 a dx ds h
    rw [wipe_not hi, zt_wipe hv]
    exact ⟨q1, q2, q3⟩
  · have hi : 0 ∉ vs := fun z => by rw [(hv 0 z).2.2 rfl] at h; cases h
    rw [wipe_not hi]
    exact E.lam f c q h
/-- behind a block -/
theorem ER.rest (E : ER Γ F H (wipe σ vs) (wipeE e vs)) (E1 : ER Γ F H1 σ e1) (k : Kp (zt Γ F σ) (zt Γ F σ) H1 H) (hv : vsOk Γ vs) : ER Γ F H σ (restE e1 e vs) := by
  have le : e.length = Γ.ks.length := (wipeE_get vs e 0).1.symm.trans E.le
  have rn : ∀ {i : Nat}, i ∉ vs → (restE e1 e vs)[i]? = e[i]? := fun {i} h => by rw [(restE_get e1 vs e i).2, if_neg (fun z => h z.1)]
  refine ⟨(restE_get e1 vs e 0).1.trans le, E1.lσ, fun i d h1 h2 => ?_, fun i d h1 h2 => ?_, fun i d h1 h2 => ?_, fun i v h1 h2 => ?_, fun i d h1 h2 => ?_, E1.par, E1.inj, E.base, E.dom, E.zh, E.tabs, fun i a dx ds h => ?_, fun f c q h => ?_⟩
  · by_cases hi : i ∈ vs
    · rw [(restE_get e1 vs e i).2, if_pos ⟨hi, by rw [le]; exact lt_of_get h1⟩] at h2
      obtain ⟨v, q1, q2⟩ := E1.shr i d h1 (rdS_some (Option.some.inj h2))
      exact ⟨v, q1, Rep.mono k _ _ q2⟩
    · rw [rn hi] at h2
      obtain ⟨v, q1, q2⟩ := E.shr i d h1 (by rw [wipeE_not hi]; exact h2)
      rw [wipe_not hi] at q1
      rw [zt_wipe hv] at q2
      exact ⟨v, q1, q2⟩
  · have hi := hv.not h1 (by decide)
    rw [rn hi] at h2
    obtain ⟨v, q1, q2⟩ := E.brw i d h1 (by rw [wipeE_not hi]; exact h2)
    rw [wipe_not hi] at q1
    rw [zt_wipe hv, zo_wipe hv] at q2
    exact ⟨v, q1, q2⟩
  · have hi := hv.not h1 (by decide)
    rw [rn hi] at h2
    have q := E.frz i d h1 (by rw [wipeE_not hi]; exact h2)
    rw [wipe_not hi] at q
    exact q
  · have hi := hv.not h1 (by decide)
    have q := E.own i v h1 (by rw [wipe_not hi]; exact h2)
    rw [wipeE_not hi, zt_wipe hv] at q
    rw [rn hi]
    exact q
  · have hi := hv.not h1 (by decide)
    rw [rn hi] at h2
    have q := E.ownE i d h1 (by rw [wipeE_not hi]; exact h2)
    rw [wipe_not hi] at q
    exact q
  · obtain ⟨q1, q2, q3⟩ := E.exo i a dx ds h
    have hi : i ∉ vs := fun z => (hv i z).2.1 a dx ds h
    rw [wipe_not hi] at q1
    rw [zt_wipe hv] at q3
    exact ⟨q1, q2, q3⟩
  · have hi : 0 ∉ vs := fun z => by rw [(hv 0 z).2.2 rfl] at h; cases h
    have q1 := E.lam f c q h
    rw [wipe_not hi] at q1
    exact q1
end
theorem RepL.monoZ {Z Z' : AS} {H : Hp} {ds : List PB.D} {xs : List V} (h : RepL Z H ds xs) (q : ∀ a, Z' a → Z a) : RepL Z' H ds xs := RepL.mono (Kp.sub q) _ _ h
theorem bnd0_ok {α β : Type} {m : Option (R α)} {f : α → En → Option (R β)} {y : R β} (h : bnd0 m f = some y) : ∃ a e, m = some (.ok a e) ∧ f a e = some y := by
  unfold bnd0 at h
  cases m with
  | none => cases h
  | some r => cases r with
    | ok a e => exact ⟨a, e, rfl, h⟩
    | xc x e => cases h
theorem Wt_bnd0 {α β : Type} {m : Option (R α)} {f : α → En → Option (R β)} {P : β → En → Prop} {Xc : Exn → En → Prop} (h : Wt (bnd0 m f) P Xc) : ∃ a e, m = some (.ok a e) ∧ Wt (f a e) P Xc := by
  unfold bnd0 at h
  cases m with
  | none => exact h.elim
  | some r => cases r with
    | ok a e => exact ⟨a, e, rfl, h⟩
    | xc x e => exact h.elim
/-- nothing is raised within a block -/
def noX : WX := fun _ _ _ _ => False
section
variable {X : Cx} {Γ : Gm} {fq : Nat → Bool} {XW : WX} {G : Gx} {a b c elt : C} {tg ex : Expr} {vs : List Nat}
theorem fresh_ne {H : Hp} {D a : Addr} {o : HO} (hD : H D = none) (h : H a = some o) : a ≠ D := fun z => by rw [z, hD] at h; cases h
theorem lc_read (hks : G.ks = Γ.ks) (hv : vsOk Γ vs) (ht : ∀ i ∈ slotsG a, i ∈ vs) {σ : L2.St} {H : Hp} {Q : VK} (q : rdE Γ fq XW G (.lc vs a c b elt) σ H Q) : tLc (rdI Γ XW G c) (rdG Γ a) (rdT Γ noX G b) (rdE Γ fq noX G elt) vs σ H Q := by
  obtain ⟨F, e, E, w⟩ := q
  simp only [ev, hks] at w
  refine ⟨F, e, E, (Wt_bnd w).imp (fun d e1 w1 => ?_) fun _ _ q => q⟩
  obtain ⟨ds, q1, w1⟩ := Wt_bind w1
  refine ⟨ds, q1, fun J H1 k1 E1 it D hD => ?_⟩
  obtain ⟨Gd, Y, wk, hG, hY⟩ := it
  obtain ⟨L, eL, hloop, w2⟩ := Wt_bnd0 w1
  obtain ⟨hlim, w2⟩ := Wt_ite w2
  generalize hstep : (fun (x : PB.D) (e2 : En) => (asgT Γ.ks a x (wipeE e2 vs)).bind fun e3 => bnd0 (ev b G e3) fun t e4 => (finT b t e4).bind fun t => if t = true then bnd0 (ev elt G e4) fun y e5 => if isLoc elt = true then none else some (R.ok (some y) e5) else some (R.ok (none : Option PB.D) e4)) = step at hloop
  have D0 : F.H0 D = none := E1.h0 hD
  have Dz : ¬ zt Γ F σ D := fun z => (E1.ztH D z).1 hD
  have Ds : ∀ {σ : L2.St}, ¬ zt Γ F σ D → ¬ zs Γ (F.add D) σ D := fun {σ} n z => by
    rcases z with z | z
    · exact n (.inr z)
    · exact z.2 (.inr rfl)
  have x0 : Ex H1 (upd H1 D (.lst [])) := Ex.new hD
  have E0 : ER Γ (F.add D) (upd H1 D (.lst [])) σ e1 := E1.extZ x0 fun q hq => by
    rcases hq with hq | hq
    · exact .inl hq
    · subst hq
      exact .inr ⟨hD, (by intro z; rw [upd_same] at z; cases z), (by intro _ z; rw [upd_same] at z; cases z), (by intro _ z; rw [upd_same] at z; cases z)⟩
  have kz0 : Kp (zt Γ F σ) (zt Γ (F.add D) σ) H1 (upd H1 D (.lst [])) := kp_of (fun q o hq _ _ => x0 q o hq) fun q hq => hq.imp id fun (z : q = D) => by rw [z]; exact hD
  have ks0 : Kp (zs Γ F σ) (zs Γ F σ) H1 (upd H1 D (.lst [])) := x0.kp
  refine lc_it wk (fun i H' => ∃ e' acc accV l, ER Γ (F.add D) H' (wipe σ vs) (wipeE e' vs) ∧ Kp (zt Γ F σ) (zt Γ (F.add D) σ) H1 H' ∧ Kp (zs Γ F σ) (zs Γ F σ) H1 H' ∧ (∀ q, H1 q ≠ none → H' q ≠ none) ∧ H' D = some (.lst accV) ∧ RepL (zt Γ (F.add D) σ) H' acc accV ∧
    lcLoop step (ds.drop i) e' = some (.ok l eL) ∧ acc ++ l = L) ⟨e1, [], [], L, E0.wiped hv, kz0, ks0, fun q hq => upd_dom q hq, upd_same, rfl, by rw [List.drop_zero]; exact hloop, rfl⟩ ?_ ?_ ?_
  · rintro i H' hi ⟨e', acc, accV, l, E', kz, kk, dm, _⟩
    exact hG _ _ H' kz kk.so
  · rintro i x H' H'' hi ⟨e', acc, accV, l, E', kz, kk, dm, hDD, rA, hl, hL⟩ y
    have zw := zt_wipe (F := F.add D) (σ := σ) hv
    have zw0 := zt_wipe (F := F) (σ := σ) hv
    have sw := zs_wipe (F := F.add D) (σ := σ) hv
    obtain ⟨x1, d, q2, r⟩ := hY i x _ H' H'' kz hi (by rw [← zw]; exact E'.ztH) y
    have hlt := lt_of_get q2
    have ed : ds.drop i = d :: ds.drop (i + 1) := by
      rw [List.drop_eq_getElem_cons hlt]
      congr 1
      rw [List.getElem?_eq_getElem hlt] at q2
      exact Option.some.inj q2
    rw [ed] at hl
    simp only [lcLoop] at hl
    obtain ⟨o, e6, hst, hl⟩ := bnd0_ok hl
    obtain ⟨l', e7, hl2, hl3⟩ := bnd0_ok hl
    cases hl3
    rw [← hstep] at hst
    obtain ⟨e3, q3, hst⟩ := Option.bind_eq_some_iff.mp hst
    obtain ⟨t, e4, q4, hst⟩ := bnd0_ok hst
    obtain ⟨tt, q5, hst⟩ := Option.bind_eq_some_iff.mp hst
    have s1 : Sp Γ (F.add D) (wipe σ vs) H' H'' := x1.sp
    refine ⟨F.add D, wipeE e' vs, d, e3, E'.ext x1, by rw [zw]; exact r, q3, fun σ2 E2 z2 y2 => ⟨?_, ?_⟩⟩
    · rw [y2 vs ht]
      have : ∀ us : List Nat, (∀ i ∈ us, i ∈ vs) → wipe (wipe σ vs) us = wipe σ vs := by
        intro us
        induction us with
        | nil => intro _; rfl
        | cons u us ih =>
          intro hu
          show (wipe (wipe σ vs) us).set u none = wipe σ vs
          rw [ih fun i hi => hu i (List.mem_cons_of_mem _ hi)]
          have hm := hu u List.mem_cons_self
          apply List.ext_getElem?
          intro j
          by_cases hj : j = u
          · subst hj
            by_cases hlt : j < σ.length
            · rw [List.getElem?_set_self (by rw [(wipe_get vs σ 0).1]; exact hlt), (wipe_get vs σ j).2, if_pos ⟨hm, hlt⟩]
            · rw [List.getElem?_eq_none (by rw [List.length_set, (wipe_get vs σ 0).1]; omega), List.getElem?_eq_none (by rw [(wipe_get vs σ 0).1]; omega)]
          · rw [get_set hj]
      exact this vs fun _ q => q
    have zz : zt Γ (F.add D) σ2 = zt Γ (F.add D) σ := by unfold zt; rw [z2, osS_wipe hv]
    have zz0 : zt Γ F σ2 = zt Γ F σ := by unfold zt; rw [z2, osS_wipe hv]
    have zzs : zs Γ (F.add D) σ2 = zs Γ (F.add D) σ := by unfold zs; rw [z2, osS_wipe hv]
    have wp2 : wipe σ2 vs = wipe σ vs := by
      rw [y2 vs ht]
      apply List.ext_getElem?
      intro j
      rw [(wipe_get vs (wipe σ vs) j).2, (wipe_get vs σ j).2, (wipe_get vs σ 0).1]
      split <;> rfl
    have Dn : ¬ zs Γ (F.add D) σ D := Ds Dz
    have keepD : ∀ {Ha Hb : Hp}, Sp Γ (F.add D) σ2 Ha Hb → Ha D = some (.lst accV) → Hb D = some (.lst accV) := fun k h => by
      have ko := k.ko
      rw [zzs] at ko
      exact (ko D _ h (fun ps z => by cases z) Dn).1
    have sub : ∀ {Ha Hb : Hp}, Sp Γ (F.add D) σ2 Ha Hb → (Ha D = some (.lst accV)) → Kp (zt Γ F σ) (zt Γ (F.add D) σ) H1 Ha → Kp (zs Γ F σ) (zs Γ F σ) H1 Ha → (∀ q, H1 q ≠ none → Ha q ≠ none) → Kp (zt Γ F σ) (zt Γ (F.add D) σ) H1 Hb ∧ Kp (zs Γ F σ) (zs Γ F σ) H1 Hb ∧ ∀ q, H1 q ≠ none → Hb q ≠ none := fun {Ha Hb} k _ a1 a2 a3 => by
      have kp := k.kp
      have ko := k.ko
      rw [zz] at kp
      rw [zzs] at ko
      refine ⟨a1.trans kp, fun q o hq hn hz => ?_, fun q hq => k.dom q (a3 q hq)⟩
      have b1 := a2 q o hq hn hz
      refine ⟨(ko q o b1.1 hn fun z => hz ?_).1, hz⟩
      rcases z with z | z
      · exact .inl z
      · exact .inr ⟨z.1, fun y => z.2 (.inl y)⟩
    have c0 : Kp (zt Γ F σ) (zt Γ (F.add D) σ) H1 H'' ∧ Kp (zs Γ F σ) (zs Γ F σ) H1 H'' ∧ ∀ q, H1 q ≠ none → H'' q ≠ none := ⟨kz.trans x1.kp, kk.trans x1.kp, fun q hq => (x1.sp (Γ := Γ) (F := F) (σ := σ)).dom q (dm q hq)⟩
    have hD2 : H'' D = some (.lst accV) := x1 D _ hDD
    have rA2 : RepL (zt Γ (F.add D) σ) H'' acc accV := RepL.mono x1.kp _ _ rA
    refine ⟨F.add D, e3, E2, Wt.ifs ?_ q4.symm⟩
    refine ⟨tt, q5, fun H3 k3 E3 => ?_⟩
    have c3 := sub k3 hD2 c0.1 c0.2.1 c0.2.2
    have hD3 := keepD k3 hD2
    have kz3 := k3.kp
    rw [zz] at kz3
    have rA3 : RepL (zt Γ (F.add D) σ) H3 acc accV := RepL.mono kz3 _ _ rA2
    cases tt with
    | false =>
      cases hst
      exact ⟨_, acc, accV, l', by rw [← wp2]; exact E3.wiped hv, c3.1, c3.2.1, c3.2.2, hD3, rA3, hl2, hL⟩
    | true =>
      obtain ⟨yv, e5, q6, hst⟩ := bnd0_ok hst
      split at hst
      · cases hst
      · rename_i hloc
        cases hst
        refine ⟨F.add D, e4, E3, Wt.ifs ?_ q6.symm⟩
        intro v H4 k4 E4 r4
        have rv := r4.1.rep (by simpa using hloc)
        rw [zz] at rv
        have c4 := sub k4 hD3 c3.1 c3.2.1 c3.2.2
        have hD4 := keepD k4 hD3
        have kz4 := k4.kp
        rw [zz] at kz4
        have rA4 : RepL (zt Γ (F.add D) σ) H4 acc accV := RepL.mono kz4 _ _ rA3
        have hlen := RepL.length _ _ rA4
        have dz : zt Γ (F.add D) σ D := .inl (.inr rfl)
        have kD : Kp (zt Γ (F.add D) σ) (zt Γ (F.add D) σ) H4 (upd H4 D (.lst (accV ++ [v]))) := fun q o hq _ hz => ⟨by rw [upd_ne (fun z => hz (by rw [z]; exact dz))]; exact hq, hz⟩
        refine ⟨accV, hD4, ?_, e6, acc ++ [yv], accV ++ [v], l', ?_, c4.1.trans kD, ?_, fun q hq => upd_dom q (c4.2.2 q hq), upd_same, RepL.mono kD _ _ (RepL.append _ _ _ _ rA4 ⟨v, [], rfl, rv, rfl⟩), hl2, by rw [List.append_assoc]; exact hL⟩
        · have h1 : acc.length ≤ L.length := by rw [← hL]; simp
          have := sizeLine_eq
          unfold lim at hlim
          omega
        · rw [← wp2]
          exact (E4.wrZ hD4 (.inr rfl) D0).wiped hv
        · intro q o hq hn hz
          have b1 := c4.2.1 q o hq hn hz
          exact ⟨by rw [upd_ne (fresh_ne hD hq)]; exact b1.1, hz⟩
  · rintro H' ⟨e', acc, accV, l, E', kz, kk, dm, hDD, rA, hl, hL⟩
    rw [List.drop_length] at hl
    cases hl
    rw [List.append_nil] at hL
    subst hL
    have Ef : ER Γ F H' σ (restE e1 eL vs) := E'.unadd.rest E1 (fun q o hq hn hz => ⟨(kz q o hq hn hz).1, hz⟩) hv
    have EfD : ER Γ (F.add D) H' σ (restE e1 eL vs) := E'.rest E0 (fun q o hq hn hz => by
      by_cases hqD : q = D
      · subst hqD; exact absurd (.inl (.inr rfl)) hz
      · rw [upd_ne hqD] at hq
        exact ⟨(kz q o hq hn fun z => hz (z.imp .inl id)).1, hz⟩) hv
    have own : Own (addZ (zt Γ F σ) D) H' D (.lst acc) := ⟨accV, hDD, rA.monoZ fun q hq => by
      rcases hq with (hq | hq) | hq
      · exact .inl (.inl hq)
      · exact .inr hq
      · exact .inl (.inr hq)⟩
    refine w2 (.ref D) H' (k1.trans ⟨fun q o hq hn hz => ⟨(kz q o hq hn hz).1, hz⟩, kk, dm⟩) Ef ⟨⟨D, accV, rfl, ⟨Dz, hDD⟩, rA.monoZ fun q hq => ?_⟩, fun _ _ => ⟨D, rfl, ?_, D0, Dz, EfD, own⟩⟩
    · exact hq.imp .inl id
    · cases qa : H D with
      | none => rfl
      | some o => exact absurd hD (k1.dom D (by rw [qa]; exact fun z => nomatch z))
theorem E_lc (hks : G.ks = Γ.ks) (hv : vsOk Γ vs) (ht : ∀ i ∈ slotsG a, i ∈ vs) (h : PE X ex (tLc (rdI Γ XW G c) (rdG Γ a) (rdT Γ noX G b) (rdE Γ fq noX G elt) vs)) : PE X ex (rdE Γ fq XW G (.lc vs a c b elt)) := PEimp h fun _ _ _ q => lc_read hks hv ht q
theorem S_asgLc {fr : Bool} {st : Stmt} (hks : G.ks = Γ.ks) (hv : vsOk Γ vs) (ht : ∀ i ∈ slotsG a, i ∈ vs) {i : Nat} (hx : Fre Γ i) (h : PS X st (tAsg (tLc (rdI Γ XW G c) (rdG Γ a) (rdT Γ noX G b) (rdE Γ fq noX G elt) vs) (gName i))) :
    PS X st (rdSt Γ fr XW G (.asg (.var i) (.lc vs a c b elt))) := PSimp h fun D σ H q => lc_read hks hv ht (rdE_imp (asg_read hks (fun i z => by cases z) q) fun v H1 q => var_read hx q)
theorem S_asgLcO {fr : Bool} {st : Stmt} (hks : G.ks = Γ.ks) (hv : vsOk Γ vs) (ht : ∀ i ∈ slotsG a, i ∈ vs) {i : Nat} (hn : Γ.np ≤ i) (h : PS X st (tAsg (tLc (rdI Γ XW G c) (rdG Γ a) (rdT Γ noX G b) (rdE Γ fq noX G elt) vs) (gName i))) :
    PS X st (rdSt Γ fr XW G (.asg (.loc i) (.lc vs a c b elt))) := PSimp h fun D σ H q => lc_read hks hv ht (asgO_read hks hn rfl q)
end
end PB
set_option maxHeartbeats 4000000
/-! Im: calls of one's own defs: what is handed over, what comes back. -/
namespace PB
open PySem PySem.Spec PyProof.Rows L2

/-- the n-th argument -/
def argC : C → Nat → Option C
  | .cons c _, 0 => some c
  | .cons _ b, i + 1 => argC b i
  | _, _ => none
def lentV (kk : List Kd) (vs : List V) : AS := fun a => ∃ i : Nat, kk[i]? = some Kd.own ∧ vs[i]? = some (V.ref a)
/-- the arguments of a call: Z, what the caller's side owns -/
structure ArgR (T : List (Addr × Str)) (K : PySem.W.Frag) (kk : List Kd) (Z : AS) (H : Hp) (ds : List PB.D) (vs : List V) : Prop where
  lv : vs.length = kk.length
  ld : ds.length = kk.length
  shr : ∀ (i : Nat) d v, kk[i]? = some Kd.shr → ds[i]? = some d → vs[i]? = some v → Rep Z H d v
  own : ∀ (i : Nat) d v, kk[i]? = some Kd.own → ds[i]? = some d → vs[i]? = some v → ∃ a, v = .ref a ∧ Z a ∧ Own Z H a d
  brw : ∀ (i : Nat) d v, kk[i]? = some Kd.brw → ds[i]? = some d → vs[i]? = some v → RepO (lentV kk vs) Z H d v
  frz : ∀ (i : Nat) d v, kk[i]? = some Kd.frz → ds[i]? = some d → vs[i]? = some v → ∃ (a : Addr) (l : List Int), v = .ref a ∧ d = .lst (l.map PB.D.int) ∧ SqF K H a l
  inj : ∀ (i j : Nat) a, kk[i]? = some Kd.own → kk[j]? = some Kd.own → vs[i]? = some (V.ref a) → vs[j]? = some (V.ref a) → i = j
  zh : ∀ a, Z a → H a ≠ none ∧ (∀ xs, H a ≠ some (.tup xs)) ∧ ∀ ps, H a ≠ some (.tbl ps)
  tabs : LamX.Tabs T H
/-- behind a call -/
structure AftB (T : List (Addr × Str)) (kk : List Kd) (Z : AS) (vs : List V) (H H' : Hp) (o : En) : Prop where
  keep : ∀ a u, H a = some u → (∀ ps, u ≠ .tbl ps) → ¬ lentV kk vs a → H' a = some u
  dom : ∀ a, H a ≠ none → H' a ≠ none
  tabs : LamX.Tabs T H'
  lo : o.length = kk.length
  outs : ∀ (i : Nat) a, kk[i]? = some Kd.own → vs[i]? = some (V.ref a) → ∃ d, o[i]? = some (some d) ∧ Own Z H' a d
def AftC (T : List (Addr × Str)) (kk : List Kd) (fr : Bool) (Z : AS) (vs : List V) (H H' : Hp) (o : En) (d : PB.D) (v : V) : Prop :=
  AftB T kk Z vs H H' o ∧ Rep Z H' d v ∧ (fr = true → isHp d = true → ∃ p, v = .ref p ∧ H p = none ∧ Own (addZ Z p) H' p d ∧ ∀ (i : Nat) a e, kk[i]? = some Kd.own → vs[i]? = some (V.ref a) → o[i]? = some (some e) → Own (addZ Z p) H' a e)
def ExR (cA : Nat → Option Addr) (Z : AS) (H : Hp) (x : Exn) (cls : Value) (od : Option Addr) : Prop :=
  ∃ C, cA x.cls = some C ∧ cls = .ref C ∧ ∃ dx fs, od = some dx ∧ H dx = some (.xd fs) ∧ ∀ f d, x.flds.lookup f = some d → ∃ v, fs.lookup f = some v ∧ Rep Z H d v
/-- the promise of a def of the table -/
structure Ctx where
  T : Tb
  K : PySem.W.Frag
  tb : List (Addr × Str)
  cA : Nat → Option Addr
  fq : Nat → Bool
def Ctx.kk (Δ : Ctx) (f : Nat) : List Kd := match Δ.T.defs[f]? with
  | some d => d.ks.take d.np
  | none => []
def outC (Δ : Ctx) (f : Nat) (Z : AS) (vs : List V) (H : Hp) (Q : VK) (E : XK) : Option CO → Prop
  | none => False
  | some (.ok d o) => ∀ v H', AftC Δ.tb (Δ.kk f) (Δ.fq f) Z vs H H' o d v → Q v H'
  | some (.xc x o) => ∀ cls od H', AftB Δ.tb (Δ.kk f) Z vs H H' o → ExR Δ.cA Z H' x cls od → E cls od H'
def spI (Δ : Ctx) (n f : Nat) : L2.Sp := fun vs H Q E => ∃ Z ds, ArgR Δ.tb Δ.K (Δ.kk f) Z H ds vs ∧ outC Δ f Z vs H Q E (callN Δ.T n f none ds)

/-! ### the caller's side -/
/-- one argument -/
def ItemR (Γ : Gm) (F : Fm) (H : Hp) (σ : L2.St) (e : En) (k : Kd) (c : C) (d : PB.D) (v : V) : Prop := match k with
  | .shr => Rep (zt Γ F σ) H d v
  | .own => ∃ j, c = .loc j ∧ Γ.ks[j]? = some Kd.own ∧ rdS e j = some d ∧ σ[j]? = some (some v)
  | .brw => (∃ j, c = .loc j ∧ (Γ.ks[j]? = some Kd.own ∨ Γ.ks[j]? = some Kd.brw) ∧ rdS e j = some d ∧ σ[j]? = some (some v)) ∨ ((∀ j, c ≠ .loc j) ∧ Rep (zt Γ F σ) H d v)
  | .frz => ∃ j, c = .scr j ∧ Γ.ks[j]? = some Kd.frz ∧ rdS e j = some d ∧ σ[j]? = some (some v)
section
variable {Γ : Gm} {F : Fm} {H H1 : Hp} {σ : L2.St} {e : En}
theorem argL_items : ∀ {kk : List Kd} {a : C} {l ds : List PB.D} {vs : List V}, VRs Γ F H σ a l vs → argL Γ.ks kk a l e = some ds →
    ds.length = kk.length ∧ vs.length = kk.length ∧ ∀ (i : Nat) k d v, kk[i]? = some k → ds[i]? = some d → vs[i]? = some v → ∃ c, argC a i = some c ∧ ItemR Γ F H σ e k c d v
  | [], a, l, ds, vs, h, q => by
    cases a <;> cases l <;> simp only [argL] at q <;> first | cases q | skip
    cases h
    exact ⟨rfl, rfl, fun i k d v h => by simp at h⟩
  | k :: kk, a, l, ds, vs, h, q => by
    cases a <;> cases l <;> first | (simp only [argL] at q; cases q; done) | skip
    rename_i c b d0 l
    simp only [argL] at q
    obtain ⟨x, q1, q2⟩ := Option.bind_eq_some_iff.mp q
    obtain ⟨ds', q3, rfl⟩ := Option.map_eq_some_iff.mp q2
    obtain ⟨v0, r, rfl, h1, h2⟩ := h
    obtain ⟨i1, i2, i3⟩ := argL_items h2 q3
    refine ⟨by simp [i1], by simp [i2], fun i k' d v e1 e2 e3 => ?_⟩
    cases i with
    | succ i => exact i3 i k' d v (by simpa using e1) (by simpa using e2) (by simpa using e3)
    | zero =>
      simp at e1 e2 e3
      subst e1 e2 e3
      refine ⟨c, rfl, ?_⟩
      cases c with
      | loc j =>
        cases k <;> dsimp only at q1 <;> first | (cases q1; done) | skip
        · split at q1
          · exact ⟨j, rfl, by assumption, q1, h1⟩
          · cases q1
        · split at q1
          · exact .inl ⟨j, rfl, by assumption, q1, h1⟩
          · cases q1
      | scr j =>
        cases k <;> dsimp only at q1 <;> first | (cases q1; done) | skip
        split at q1
        · exact ⟨j, rfl, by assumption, q1, h1⟩
        · cases q1
      | _ =>
        cases k <;> dsimp only at q1 <;> first | (cases q1; done) | skip
        · cases q1; exact h1
        · cases q1; exact .inr ⟨(fun j z => by cases z), h1⟩
/-- no owned thing is handed over twice -/
def sepOk (kk : List Kd) (a : C) : Bool :=
  (List.range kk.length).all fun i => (List.range kk.length).all fun i' => match kk[i]?, argC a i, argC a i' with
    | some .own, some (.loc j), some (.loc j') => decide (i = i') || decide (j ≠ j')
    | _, _, _ => true
theorem sep_of {kk : List Kd} {a : C} (h : sepOk kk a = true) {i i' j : Nat} (hi : i < kk.length) (hi' : i' < kk.length) (h1 : kk[i]? = some Kd.own) (h2 : argC a i = some (.loc j)) (h3 : argC a i' = some (.loc j)) : i = i' := by
  unfold sepOk at h
  simp only [List.all_eq_true, List.mem_range] at h
  have q := h i hi i' hi'
  rw [h1, h2, h3] at q
  simpa using q
theorem argR_of {Ta : List (Addr × Str)} {Ka : PySem.W.Frag} (hT : Γ.T = Ta) (hK : Γ.K = Ka) (E : ER Γ F H σ e) {kk : List Kd} {a : C} {l ds : List PB.D} {vs : List V} (hs : sepOk kk a = true) (h : VRs Γ F H σ a l vs) (q : argL Γ.ks kk a l e = some ds) : ArgR Ta Ka kk (zt Γ F σ) H ds vs := by
  obtain ⟨ld, lv, it⟩ := argL_items h q
  have gd : ∀ {i : Nat} {k : Kd}, kk[i]? = some k → ∃ d v, ds[i]? = some d ∧ vs[i]? = some v := fun {i k} h => by
    have hi := lt_of_get h
    exact ⟨ds[i]'(by omega), vs[i]'(by omega), by simp, by simp⟩
  have lentO : ∀ ad, lentV kk vs ad → OsS Γ.ks σ ad := fun ad ⟨i, h1, h2⟩ => by
    obtain ⟨d, v, g1, g2⟩ := gd h1
    obtain ⟨c, _, j, _, j2, _, j4⟩ := it i _ d _ h1 g1 h2
    exact ⟨j, j2, j4⟩
  refine ⟨lv, ld, fun i d v h1 h2 h3 => ?_, fun i d v h1 h2 h3 => ?_, fun i d v h1 h2 h3 => ?_, fun i d v h1 h2 h3 => ?_, fun i j ad h1 h2 h3 h4 => ?_, fun ad h => ?_, hT ▸ E.tabs⟩
  · obtain ⟨c, _, r⟩ := it i _ d v h1 h2 h3
    exact r
  · obtain ⟨c, _, j, _, j2, j3, j4⟩ := it i _ d v h1 h2 h3
    obtain ⟨ad, r1, r2⟩ := E.own' j2 j4 (rdS_some j3)
    exact ⟨ad, r1, .inr ⟨j, j2, r1 ▸ j4⟩, r2⟩
  · obtain ⟨c, hc, r⟩ := it i _ d v h1 h2 h3
    rcases r with ⟨j, rfl, j2, j3, j4⟩ | ⟨_, r⟩
    · rcases j2 with j2 | j2
      · obtain ⟨ad, r1, r2⟩ := E.own' j2 j4 (rdS_some j3)
        subst r1
        have nl : ¬ lentV kk vs ad := fun ⟨i', g1, g2⟩ => by
          obtain ⟨d', v', g3, g4⟩ := gd g1
          obtain ⟨c', hc', j', rfl, p2, p3, p4⟩ := it i' _ d' _ g1 g3 g2
          have ej : j' = j := E.inj j' j ad p2 j2 p4 j4
          subst ej
          have ei := sep_of hs (lt_of_get g1) (lt_of_get h1) g1 hc' hc
          subst ei
          rw [g1] at h1
          cases h1
        have rb := Own.toB r2
        cases d with
        | lst xs => obtain ⟨a', ys, e1, e2, e3⟩ := rb; cases e1; exact ⟨_, ys, rfl, ⟨nl, e2.2⟩, e3⟩
        | dic t xs => obtain ⟨a', e1, e2, e3⟩ := rb; cases e1; exact ⟨_, rfl, nl, e3⟩
        | _ => exact r2.elim
      · obtain ⟨w, r1, r2⟩ := E.brw j d j2 (rdS_some j3)
        rw [j4] at r1
        cases r1
        exact RepO.mono (Kp.sub fun ad z => .inl (lentO ad z)) Kp.refl _ _ r2
    · exact Rep.toO (fun ad z => .inr (lentO ad z)) _ _ r
  · obtain ⟨c, _, j, _, j2, j3, j4⟩ := it i _ d v h1 h2 h3
    obtain ⟨ad, li, r1, rfl, r3, r4⟩ := E.frz j d j2 (rdS_some j3)
    rw [j4] at r1
    cases r1
    exact ⟨ad, li, rfl, rfl, hK ▸ E.sq r3 r4⟩
  · obtain ⟨d1, v1, g1, g2⟩ := gd h1
    obtain ⟨d2, v2, g3, g4⟩ := gd h2
    obtain ⟨c1, hc1, j1, rfl, p2, p3, p4⟩ := it i _ d1 _ h1 g1 h3
    obtain ⟨c2, hc2, j2, rfl, s2, s3, s4⟩ := it j _ d2 _ h2 g3 h4
    have ej : j1 = j2 := E.inj j1 j2 ad p2 s2 p4 s4
    subst ej
    exact sep_of hs (lt_of_get h1) (lt_of_get h2) h1 hc1 hc2
  · rcases h with h | ⟨j, h1, h2⟩
    · exact E.zh ad h
    · obtain ⟨a', d, q1, _, _, _, _, o⟩ := E.own j _ h1 h2
      cases q1
      exact ⟨o.there, o.notTup, o.notTbl⟩
/-- what comes back into the owned slots -/
theorem backL_get : ∀ {kk : List Kd} {a : C} {o e e2 : En}, backL kk a o e = some e2 → e2.length = e.length ∧
    (∀ j, (∀ i : Nat, kk[i]? = some Kd.own → argC a i ≠ some (.loc j)) → e2[j]? = e[j]?) ∧
    (∀ i j : Nat, kk[i]? = some Kd.own → argC a i = some (.loc j) → (∀ i' : Nat, kk[i']? = some Kd.own → argC a i' = some (.loc j) → i' = i) → j < e.length → ∃ d, o[i]? = some (some d) ∧ e2[j]? = some (some d))
  | [], a, o, e, e2, h => by
    cases a <;> simp only [backL] at h <;> first | cases h | skip
    exact ⟨rfl, fun j _ => rfl, fun i j h => by simp at h⟩
  | k :: kk, a, o, e, e2, h => by
    cases a <;> first | (simp only [backL] at h; cases h; done) | skip
    rename_i c b
    cases o with
    | nil => simp [backL] at h
    | cons o0 o =>
      simp only [backL] at h
      obtain ⟨e1, h1, h2⟩ := Option.bind_eq_some_iff.mp h
      obtain ⟨r1, r2, r3⟩ := backL_get h2
      by_cases hk : k = .own
      · subst hk
        have : ∃ j0 d0, c = .loc j0 ∧ o0 = some d0 ∧ e1 = e.set j0 (some d0) := by
          cases c <;> cases o0 <;> first | (cases h1; done) | skip
          cases h1
          exact ⟨_, _, rfl, rfl, rfl⟩
        obtain ⟨j0, d0, rfl, rfl, rfl⟩ := this
        refine ⟨r1.trans (List.length_set ..), fun j hj => ?_, fun i j e3 e4 hu hl => ?_⟩
        · have n0 : j ≠ j0 := fun z => hj 0 rfl (by rw [z]; rfl)
          rw [r2 j fun i hi => hj (i + 1) (by simpa using hi), get_set n0]
        · cases i with
          | zero =>
            cases e4
            refine ⟨d0, rfl, ?_⟩
            rw [r2 j0 fun i hi hc => by have := hu (i + 1) (by simpa using hi) hc; omega, List.getElem?_set_self hl]
          | succ i =>
            have e3' : kk[i]? = some Kd.own := by simpa using e3
            obtain ⟨d, s1, s2⟩ := r3 i j e3' e4 (fun i' q1 q2 => by have := hu (i' + 1) (by simpa using q1) q2; omega) (by rw [List.length_set]; exact hl)
            exact ⟨d, by simpa using s1, s2⟩
      · have : e1 = e := by
          cases k <;> first | exact absurd rfl hk | (simp at h1; exact h1.symm)
        subst this
        refine ⟨r1, fun j hj => r2 j fun i hi => hj (i + 1) (by simpa using hi), fun i j e3 e4 hu hl => ?_⟩
        cases i with
        | zero => simp at e3; exact absurd e3 hk
        | succ i =>
          have e3' : kk[i]? = some Kd.own := by simpa using e3
          obtain ⟨d, s1, s2⟩ := r3 i j e3' e4 (fun i' q1 q2 => by have := hu (i' + 1) (by simpa using q1) q2; omega) hl
          exact ⟨d, by simpa using s1, s2⟩
/-- the caller's state behind the call; Z', what is others' then -/
theorem ER.aft {Ta : List (Addr × Str)} (hT : Γ.T = Ta) (E : ER Γ F H σ e) {kk : List Kd} {a : C} {l ds : List PB.D} {vs : List V} (hs : sepOk kk a = true) (h : VRs Γ F H σ a l vs) (q : argL Γ.ks kk a l e = some ds) {o e2 : En} {Z' : AS}
    (A : AftB Ta kk (zt Γ F σ) vs H H1 o) (hb : backL kk a o e = some e2) (hZ : ∀ ad, Z' ad → F.Z ad ∨ (H ad = none ∧ H1 ad ≠ none ∧ (∀ xs, H1 ad ≠ some (.tup xs)) ∧ ∀ ps, H1 ad ≠ some (.tbl ps)))
    (ho : ∀ (i : Nat) ad d, kk[i]? = some Kd.own → vs[i]? = some (V.ref ad) → o[i]? = some (some d) → Own (zt Γ (F.wz Z') σ) H1 ad d) : ER Γ (F.wz Z') H1 σ e2 := by
  obtain ⟨ld, lv, it⟩ := argL_items h q
  have gd : ∀ {i : Nat} {k : Kd}, kk[i]? = some k → ∃ d v, ds[i]? = some d ∧ vs[i]? = some v := fun {i k} h => by
    have hi := lt_of_get h
    exact ⟨ds[i]'(by omega), vs[i]'(by omega), by simp, by simp⟩
  have lentO : ∀ ad, lentV kk vs ad → OsS Γ.ks σ ad := fun ad ⟨i, h1, h2⟩ => by
    obtain ⟨d, v, g1, g2⟩ := gd h1
    obtain ⟨c, _, j, _, j2, _, j4⟩ := it i _ d _ h1 g1 h2
    exact ⟨j, j2, j4⟩
  obtain ⟨b1, b2, b3⟩ := backL_get hb
  have k : ∀ ad u, H ad = some u → (∀ ps, u ≠ .tbl ps) → ¬ OsS Γ.ks σ ad → H1 ad = some u := fun ad u hu n z => A.keep ad u hu n fun y => z (lentO ad y)
  have kp : Kp (zt Γ F σ) (zt Γ (F.wz Z') σ) H H1 := kp_of k fun ad q => (hZ ad q).imp id fun q => q.1
  have cases' : ∀ j, (∃ i : Nat, kk[i]? = some Kd.own ∧ argC a i = some (.loc j)) ∨ ∀ i : Nat, kk[i]? = some Kd.own → argC a i ≠ some (.loc j) := fun j => by
    by_cases hx : ∃ i : Nat, kk[i]? = some Kd.own ∧ argC a i = some (.loc j)
    · exact .inl hx
    · exact .inr fun i h1 h2 => hx ⟨i, h1, h2⟩
  have slot : ∀ {i j : Nat}, kk[i]? = some Kd.own → argC a i = some (.loc j) → Γ.ks[j]? = some Kd.own ∧ ∃ v, vs[i]? = some v ∧ σ[j]? = some (some v) := fun {i j} h1 h2 => by
    obtain ⟨d, v, g1, g2⟩ := gd h1
    obtain ⟨c, hc, j', rfl, p2, p3, p4⟩ := it i _ d v h1 g1 g2
    rw [h2] at hc
    cases hc
    exact ⟨p2, v, g2, p4⟩
  refine E.next k hZ b1 (fun j hj => b2 j fun i h1 h2 => hj (slot h1 h2).1) A.dom (hT ▸ A.tabs) (fun j ad h1 h2 => ?_) (fun j d h1 h2 => ?_)
  · rcases cases' j with ⟨i, c1, c2⟩ | hn
    · obtain ⟨_, v, s1, s2⟩ := slot c1 c2
      rw [h2] at s2
      cases s2
      obtain ⟨d, t1, t2⟩ := b3 i j c1 c2 (fun i' q1 q2 => (sep_of hs (lt_of_get c1) (lt_of_get q1) c1 c2 q2).symm) (by rw [E.le]; exact lt_of_get h1)
      exact ⟨d, t2, ho i ad d c1 s1 t1⟩
    · obtain ⟨a', d0, r1, _, _, _, r5, r6⟩ := E.own j _ h1 h2
      cases r1
      have nl : ¬ lentV kk vs ad := fun ⟨i, g1, g2⟩ => by
        obtain ⟨d, v, g3, g4⟩ := gd g1
        obtain ⟨c, hc, j', rfl, p2, p3, p4⟩ := it i _ d _ g1 g3 g2
        have ej : j' = j := E.inj j' j ad p2 h1 p4 h2
        exact hn i g1 (ej ▸ hc)
      exact ⟨d0, (b2 j hn).trans r5, r6.mono (fun u hu => A.keep ad u hu (fun ps z => r6.notTbl ps (by rw [hu, z])) nl) kp⟩
  · rcases cases' j with ⟨i, c1, c2⟩ | hn
    · obtain ⟨_, v, s1, s2⟩ := slot c1 c2
      exact ⟨v, s2⟩
    · rw [b2 j hn] at h2
      exact E.ownE j d h1 h2
theorem aft_sp {Ta : List (Addr × Str)} {kk : List Kd} {a : C} {l ds : List PB.D} {vs : List V} (h : VRs Γ F H σ a l vs) (q : argL Γ.ks kk a l e = some ds) {o : En} {Z : AS} (A : AftB Ta kk Z vs H H1 o) : Sp Γ F σ H H1 := by
  obtain ⟨ld, lv, it⟩ := argL_items h q
  refine sp_of (fun ad u hu n z => A.keep ad u hu n fun ⟨i, h1, h2⟩ => z ?_) A.dom
  have hi := lt_of_get h1
  obtain ⟨c, _, j, _, j2, _, j4⟩ := it i _ (ds[i]'(by omega)) _ h1 (by simp) h2
  exact ⟨j, j2, j4⟩
end
/-- a call's reading -/
def tCallG (sp : L2.Sp) (XW : WX) (t : TA) : TE := fun σ H Q => t σ H fun vs H1 => sp vs H1 Q fun cls d H2 => XW cls d σ H2
theorem E_call {X : Cx} {Γ : Gm} {XW : WX} {G : Gx} {a : C} {ex : Expr} {Δ : Ctx} {n f : Nat} (hT : Γ.T = Δ.tb) (hKK : Γ.K = Δ.K) (hc : Γ.cA = Δ.cA) (hks : G.ks = Γ.ks) (hcf : G.cf = callN Δ.T n) (hinf : G.info f = Δ.kk f) (hs : sepOk (Δ.kk f) a = true)
    (h : PE X ex (tCallG (spI Δ n f) XW (rdA Γ XW G a))) : PE X ex (rdE Γ Δ.fq XW G (.call f a)) := PEimp h fun σ H Q q => by
  obtain ⟨F, e, E, w⟩ := q
  simp only [ev, hks, hcf, hinf] at w
  refine ⟨F, e, E, (Wt_bnd w).imp (fun d1 e1 w1 => ?_) fun _ _ q => q⟩
  cases d1 with
  | lst l =>
    obtain ⟨ds, q1, w1⟩ := Wt_bind w1
    refine ⟨l, rfl, fun vs H1 k1 E1 rs => ⟨zt Γ F σ, ds, argR_of hT hKK E1 hs rs q1, ?_⟩⟩
    cases qc : callN Δ.T n f none ds with
    | none => rw [qc] at w1; exact w1.elim
    | some co =>
      rw [qc] at w1
      cases co with
      | ok d o =>
        dsimp only at w1
        cases qb : backL (Δ.kk f) a o e1 with
        | none => rw [qb] at w1; exact w1.elim
        | some e2 =>
          rw [qb] at w1
          intro v H2 ⟨A, r, fr⟩
          have k2 : Sp Γ F σ H1 H2 := aft_sp rs q1 A
          have E2 : ER Γ F H2 σ e2 := E1.aft (Z' := F.Z) hT hs rs q1 A qb (fun _ z => .inl z) fun i ad d' h1 h2 h3 => by
            obtain ⟨d2, t1, t2⟩ := A.outs i ad h1 h2
            rw [h3] at t1
            cases t1
            exact t2
          refine w1 v H2 (k1.trans k2) E2 ⟨r, fun hf => ?_⟩
          intro hd
          obtain ⟨p, e1', hp, op, os⟩ := fr hf hd
          refine ⟨p, e1', ?_, E1.h0 hp, fun z => (E1.ztH p z).1 hp, ?_, op⟩
          · cases qa : H p with
            | none => rfl
            | some u => exact absurd hp (k1.dom p (by rw [qa]; exact fun z => nomatch z))
          · refine E1.aft (Z' := addZ F.Z p) hT hs rs q1 A qb (fun ad z => ?_) fun i ad d' h1 h2 h3 => (os i ad d' h1 h2 h3).ofZ fun b z => ?_
            · rcases z with z | z
              · exact .inl z
              · subst z
                exact .inr ⟨hp, op.there, op.notTup, op.notTbl⟩
            · rcases z with (z | z) | z
              · exact .inl (.inl z)
              · exact .inr z
              · exact .inl (.inr z)
      | xc x o =>
        dsimp only at w1
        cases qb : backL (Δ.kk f) a o e1 with
        | none => rw [qb] at w1; exact w1.elim
        | some e2 =>
          rw [qb] at w1
          intro cls od H2 A r
          have k2 : Sp Γ F σ H1 H2 := aft_sp rs q1 A
          have E2 : ER Γ F H2 σ e2 := E1.aft (Z' := F.Z) hT hs rs q1 A qb (fun _ z => .inl z) fun i ad d' h1 h2 h3 => by
            obtain ⟨d2, t1, t2⟩ := A.outs i ad h1 h2
            rw [h3] at t1
            cases t1
            exact t2
          exact w1 cls od H2 (k1.trans k2) E2 (by unfold XR; rw [hc]; exact r)
  | _ => exact w1.elim
end PB
set_option maxHeartbeats 4000000
/-! In: a def's body and its promise. -/
namespace PB
open PySem PySem.Spec PyProof.Rows L2

/-- a def keeps its promise wherever no repr stands around -/
structure FnG (P : Program) (w : World) (K : PySem.W.Frag) (mg : Str → Option Value) (base : Heap) (gd : Bool) (k : Nat) (f : Addr) (fd : FuncData) (ps : List Str) (sp : L2.Sp) : Prop where
  len : ∀ vs H Q E, sp vs H Q E → vs.length = ps.length
  run : ∀ (A : Around) (outer : List Env) (s : Shared) (H : Hp) (args : Args) (us : List Value) (vs : List V) (Q : VK) (E : XK), (gd = true → A.guards = some []) → Room k A → Env0 P w K mg base A outer s H → BindsTo s fd args (ps.zip us) → Vals vs us →
    sp vs H Q E → codeAny (model P w) A (.call (.ref f) args) (CR (L2.CX P w) outer P w H s Q E) s
theorem FnG.mono {P : Program} {w : World} {K : PySem.W.Frag} {mg : Str → Option Value} {base : Heap} {gd : Bool} {j k : Nat} {f : Addr} {fd : FuncData} {ps : List Str} {sp : L2.Sp} (F : FnG P w K mg base gd j f fd ps sp) (h : j ≤ k) : FnG P w K mg base gd k f fd ps sp :=
  ⟨F.len, fun A outer s H args us vs Q E hg hr => F.run A outer s H args us vs Q E hg (hr.mono h)⟩
section
variable {P : Program} {w : World} {K : PySem.W.Frag} {mg : Str → Option Value} {base : Heap} {gd : Bool} {k : Nat} {f : Addr} {name qual : Str} {params : Arguments} {body : List Stmt} {scope : Scope} {dV kV doc pm cdv ct oc : Value} {an od : Option Addr}
  {osl : Array (Option Value)} {N ps : List Str} {sp : L2.Sp}
/-- a def, by its body's reading -/
theorem fnG_of (lk : K.lookup f = some ⟨oc, od, .func (PySem.W.fnOf name qual params body scope dV kV doc pm an cdv ct), osl⟩) (hcd : PySem.W.codeIn K cdv qual = true) (S : FnScope N ps scope) (hlen : ∀ vs H Q E, sp vs H Q E → vs.length = ps.length)
    (hb : ∀ (A : Around) (outer : List Env) (s : Shared) (H : Hp) (vs : List V) (Q : VK) (E : XK), (gd = true → A.guards = some []) → Room (k + 1) A → sp vs H Q E →
      ∃ t, PSs (cxOf (L2.CX P w) P w K mg base N qual scope f cdv A outer s H E) body t ∧ t { nx := fun _ H' => Q .non H', rt := Q } (L2.start N vs) H) :
    FnG P w K mg base gd (k + 1) f (PySem.W.fnOf name qual params body scope dV kV doc pm an cdv ct) ps sp := by
  refine ⟨hlen, ?_⟩
  intro A outer s H args us vs Q E gds room e0 bd rel pr
  have ev0 : vs.length = ps.length := hlen vs H Q E pr
  have inK : K.In s.heap := e0.mod.kin.keeps (fun q u z => (e0.bs q u z).1)
  have nolim : s.heap.NoLimit := e0.mod.nolimit.keeps (fun q u z => (e0.bs q u z).1)
  have kinds : ∀ q ∈ ps.zip us, scope.names.lookup q.1 = some .local ∨ (scope.names.lookup q.1 = some .cell ∧ ((cellsFrom (s.heap.objs.size + 1) scope.names []).lookup q.1).isSome = true) := by
    rintro ⟨z, u⟩ hz
    have hm := (List.of_mem_zip hz).1
    cases S.par z hm with
    | inl q => exact Or.inl q
    | inr q => exact Or.inr ⟨q, PySem.W.cellsFrom_some _ _ _ (Or.inl q)⟩
  refine codeAny_call_function room.depth (inK _ _ lk) rfl S.co S.gen rfl (PySem.W.codeRec_of inK hcd) (bd _ _ _ _ ?_)
  apply wpAny_newFunctionEnv_cells S.kind kinds
  intro env ee s1 st
  subst ee
  refine ⟨nolim.keeps st.toInCall.keep, codeAny_func ?_⟩
  obtain ⟨t, pt, qt⟩ := hb A outer s H vs Q E gds room pr
  have J : Inv (cxOf (L2.CX P w) P w K mg base N qual scope f cdv A outer s H E) [] (L2.start N vs) H s1 := inv_start S room.hd e0 ev0 rel st
  refine wpAny_mono (pt.run [] s1 (L2.start N vs) H _ J qt) ?_ (fun e s' z => z)
  intro fl s' z
  have out : ∀ {σ' : L2.St} {H' : Hp} {v : V} {u : Value}, Inv (cxOf (L2.CX P w) P w K mg base N qual scope f cdv A outer s H E) [] σ' H' s' → RelV v u → Q v H' → CE outer P w H s Q u s' := by
    intro σ' H' v u J' rv q
    exact ⟨v, H', J'.os, J'.bare, J'.base, J'.hok, rv, q⟩
  match fl, z with
  | .ret u, ⟨v, σ', H', J', rv, q⟩ => exact out J' rv q
  | .next, ⟨σ', H', J', q⟩ => exact out (v := .non) (u := .none) J' rfl q
  | .brk, ⟨_, _, _, q⟩ => exact q.elim
  | .cont, ⟨_, _, _, q⟩ => exact q.elim
end
section
variable {X : Cx} {gd : Bool} {k : Nat} {f : Addr} {fd : FuncData} {ps : List Str} {sp : L2.Sp} {XW : WX} {x : Str} {p pos : Pos} {e : Expr} {es : List Expr} {t : TA}
theorem run_fnG {pins : List (Addr × Obj)} {σ : L2.St} {H : Hp} {s : Shared} {Q : VK} {us : List Value} {vs : List V} (F : FnG X.prog X.w X.K X.mg X.base gd k f fd ps sp) (hgd : gd = true → X.A.guards = some []) (hr : Room k X.A) (hb : Binds X.K fd ps []) (tk : Takes X XW)
    (I : Inv X pins σ H s) (r : Vals vs us) (h : sp vs H Q (fun cls d H2 => XW cls d σ H2)) : wpAny (model X.prog X.w) X.A (call (.ref f) us) (EP X pins σ Q) X.xe s := by
  have hn : us.length = ps.length := (Paired.length r).symm.trans (F.len vs H Q _ h)
  have bd := hb s us I.kIn (by rw [List.append_nil]; exact hn)
  rw [List.append_nil] at bd
  refine wpAny_call (codeAny_mono (F.run X.A X.stack s H ⟨us, []⟩ us vs Q _ hgd hr I.env0 bd r h) ?_)
  intro res s' z
  match res, z with
  | .error ev, z => exact passAt tk σ pins H s ev s' I z
  | .ok (.ret u), z => exact I.after z
  | .ok .next, z => exact z.elim
  | .ok .brk, z => exact z.elim
  | .ok .cont, z => exact z.elim
theorem pe_callG (F : FnG X.prog X.w X.K X.mg X.base gd k f fd ps sp) (hgd : gd = true → X.A.guards = some []) (hr : Room k X.A) (hg : Gl X x) (hm : X.mg x = some (.ref f)) (hk : PySem.W.keepIn X.K (.ref f) = true) (hb : Binds X.K fd ps []) (tk : Takes X XW)
    (ha : PA X (e :: es) t) (hdb : (x == ("__debug__" : Str)) = false) (he : starEach (e :: es) X.env = (false, eval e X.env) :: starEach es X.env) (hpl : (backTo pos (starEach es X.env)).any (·.1) = false) :
    PE X (.Call (.Name x p) (e :: es) [] pos) (tCallG sp XW t) := ⟨by
  intro pins s σ H Q I h
  refine wpAny_Call_Name_kw (ld_glob I hg hm (PySem.W.callWith_K (h₀ := X.base) I.ok.mod.kin hk (thn (ha.run pos pins s σ H _ I h) ?_) he hpl) hdb)
  rintro us s1 ⟨vs, H1, I1, r, q⟩
  exact ⟨I1.kIn, run_fnG F hgd hr hb tk I1 r q⟩⟩
theorem pe_callG0 (F : FnG X.prog X.w X.K X.mg X.base gd k f fd ps sp) (hgd : gd = true → X.A.guards = some []) (hr : Room k X.A) (hg : Gl X x) (hm : X.mg x = some (.ref f)) (hk : PySem.W.keepIn X.K (.ref f) = true) (hb : Binds X.K fd ps []) (tk : Takes X XW)
    (hdb : (x == ("__debug__" : Str)) = false) : PE X (.Call (.Name x p) [] [] pos) (tCallG sp XW tNil) := ⟨by
  intro pins s σ H Q I h
  refine wpAny_Call_Name_kw (ld_glob I hg hm (PySem.W.callWith_K0 I.kIn hk ?_) hdb)
  exact run_fnG (us := []) F hgd hr hb tk I .nil h⟩
end

/-! ### the callee's side -/
theorem start_get {N : List Str} {vs : List V} (hl : vs.length ≤ N.length) (i : Nat) : (L2.start N vs)[i]? = if i < vs.length then some (vs[i]?) else if i < N.length then some none else none := by
  unfold L2.start
  by_cases h : i < vs.length
  · rw [if_pos h, List.getElem?_append_left (by simpa using h), List.getElem?_map, List.getElem?_eq_getElem h]
    rfl
  · rw [if_neg h, List.getElem?_append_right (by simpa using h), List.getElem?_replicate, List.length_map]
    by_cases h2 : i < N.length
    · rw [if_pos h2, if_pos (by omega)]
    · rw [if_neg h2, if_neg (by omega)]
theorem e0_get {n : Nat} {ds : List PB.D} (hl : ds.length ≤ n) (i : Nat) : (ds.map some ++ List.replicate (n - ds.length) none)[i]? = if i < ds.length then some (ds[i]?) else if i < n then some none else none := by
  by_cases h : i < ds.length
  · rw [if_pos h, List.getElem?_append_left (by simpa using h), List.getElem?_map, List.getElem?_eq_getElem h]
    rfl
  · rw [if_neg h, List.getElem?_append_right (by simpa using h), List.getElem?_replicate, List.length_map]
    by_cases h2 : i < n
    · rw [if_pos h2, if_pos (by omega)]
    · rw [if_neg h2, if_neg (by omega)]
theorem take_get {ks : List Kd} {np i : Nat} {k : Kd} : (ks.take np)[i]? = some k ↔ i < np ∧ ks[i]? = some k := by
  rw [List.getElem?_take]
  split
  · exact ⟨fun h => ⟨by assumption, h⟩, fun h => h.2⟩
  · exact ⟨(fun h => by cases h), fun h => absurd h.1 (by assumption)⟩
section
variable {Γ : Gm} {H : Hp} {N : List Str} {Z : AS} {ds : List PB.D} {vs : List V}
theorem ER.start (hx : Γ.xo = none) (hlm : Γ.lam = none) (hN : N.length = Γ.ks.length) (hnp : Γ.np ≤ Γ.ks.length) (A : ArgR Γ.T Γ.K (Γ.ks.take Γ.np) Z H ds vs) :
    ER Γ ⟨fun a => Z a ∧ ¬ lentV (Γ.ks.take Γ.np) vs a, H, L2.start N vs⟩ H (L2.start N vs) (ds.map some ++ List.replicate (Γ.ks.length - ds.length) none) ∧ (∀ a, OsS Γ.ks (L2.start N vs) a ↔ lentV (Γ.ks.take Γ.np) vs a) ∧ (∀ a, LsS Γ.ks Γ.np (L2.start N vs) a ↔ lentV (Γ.ks.take Γ.np) vs a) ∧
      vs.length = Γ.np ∧ ds.length = Γ.np := by
  have tl : (Γ.ks.take Γ.np).length = Γ.np := by rw [List.length_take]; omega
  have lv : vs.length = Γ.np := A.lv.trans tl
  have ld : ds.length = Γ.np := A.ld.trans tl
  have sg : ∀ {i : Nat} {v : V}, (L2.start N vs)[i]? = some (some v) → i < Γ.np ∧ vs[i]? = some v := fun {i v} h => by
    rw [start_get (by omega)] at h
    split at h
    · exact ⟨by omega, Option.some.inj h⟩
    · split at h <;> cases h
  have gs : ∀ {i : Nat} {v : V}, vs[i]? = some v → (L2.start N vs)[i]? = some (some v) := fun {i v} h => by
    rw [start_get (by omega), if_pos (lt_of_get h), h]
  have eg : ∀ {i : Nat} {d : PB.D}, (ds.map some ++ List.replicate (Γ.ks.length - ds.length) none)[i]? = some (some d) → i < Γ.np ∧ ds[i]? = some d := fun {i d} h => by
    rw [e0_get (by omega)] at h
    split at h
    · exact ⟨by omega, Option.some.inj h⟩
    · split at h <;> cases h
  have ge : ∀ {i : Nat} {d : PB.D}, ds[i]? = some d → (ds.map some ++ List.replicate (Γ.ks.length - ds.length) none)[i]? = some (some d) := fun {i d} h => by
    rw [e0_get (by omega), if_pos (lt_of_get h), h]
  have vex : ∀ {i : Nat}, i < Γ.np → ∃ v, vs[i]? = some v := fun {i} h => ⟨vs[i]'(by omega), by simp⟩
  have dex : ∀ {i : Nat}, i < Γ.np → ∃ v, ds[i]? = some v := fun {i} h => ⟨ds[i]'(by omega), by simp⟩
  have hO : ∀ a, OsS Γ.ks (L2.start N vs) a ↔ lentV (Γ.ks.take Γ.np) vs a := fun a => by
    constructor
    · rintro ⟨i, h1, h2⟩
      obtain ⟨h3, h4⟩ := sg h2
      exact ⟨i, take_get.mpr ⟨h3, h1⟩, h4⟩
    · rintro ⟨i, h1, h2⟩
      exact ⟨i, (take_get.mp h1).2, gs h2⟩
  have hL : ∀ a, LsS Γ.ks Γ.np (L2.start N vs) a ↔ lentV (Γ.ks.take Γ.np) vs a := fun a => by
    constructor
    · rintro ⟨i, h0, h1, h2⟩
      exact ⟨i, take_get.mpr ⟨h0, h1⟩, (sg h2).2⟩
    · rintro ⟨i, h1, h2⟩
      exact ⟨i, (take_get.mp h1).1, (take_get.mp h1).2, gs h2⟩
  have lz : ∀ a, lentV (Γ.ks.take Γ.np) vs a → Z a ∧ ∃ d, Own Z H a d := fun a ⟨i, h1, h2⟩ => by
    obtain ⟨d, hd⟩ := dex (take_get.mp h1).1
    obtain ⟨a', e, z, o⟩ := A.own i d _ h1 hd h2
    cases e
    exact ⟨z, d, o⟩
  have zz : ∀ a, zt Γ ⟨fun a => Z a ∧ ¬ lentV (Γ.ks.take Γ.np) vs a, H, L2.start N vs⟩ (L2.start N vs) a → Z a := fun a h => by
    rcases h with h | h
    · exact h.1
    · exact (lz a ((hO a).mp h)).1
  refine ⟨⟨?_, ?_, fun i d h1 h2 => ?_, fun i d h1 h2 => ?_, fun i d h1 h2 => ?_, fun i v h1 h2 => ?_, fun i d h1 h2 => ?_, fun i v _ _ h => h, fun i j a h1 h2 h3 h4 => ?_, fun a o h _ _ => h, fun a h => h, fun a h => A.zh a h.1, A.tabs, fun i a dx ds h => ?_, fun f c q h => ?_⟩, hO, hL, lv, ld⟩
  · simp; omega
  · unfold L2.start; simp; omega
  · obtain ⟨h3, h4⟩ := eg h2
    obtain ⟨v, hv⟩ := vex h3
    exact ⟨v, gs hv, (A.shr i d v (take_get.mpr ⟨h3, h1⟩) h4 hv).ofZ zz⟩
  · obtain ⟨h3, h4⟩ := eg h2
    obtain ⟨v, hv⟩ := vex h3
    refine ⟨v, gs hv, RepO.mono (fun a o ho _ n => ⟨ho, fun z => ?_⟩) (Kp.sub zz) _ _ (A.brw i d v (take_get.mpr ⟨h3, h1⟩) h4 hv)⟩
    rcases z with z | z
    · exact n ((hO a).mp z)
    · rw [show H a = none from z] at ho; cases ho
  · obtain ⟨h3, h4⟩ := eg h2
    obtain ⟨v, hv⟩ := vex h3
    obtain ⟨a, l, e1, e2, e3⟩ := A.frz i d v (take_get.mpr ⟨h3, h1⟩) h4 hv
    refine ⟨a, l, by rw [gs hv, e1], e2, e3, fun o u h z => ?_⟩
    obtain ⟨_, d', o'⟩ := lz a ((hL a).mp z)
    exact o'.notFrz _ _ h
  · obtain ⟨h3, h4⟩ := sg h2
    obtain ⟨d, hd⟩ := dex h3
    obtain ⟨a, e1, z, o⟩ := A.own i d v (take_get.mpr ⟨h3, h1⟩) hd h4
    refine ⟨a, d, e1, fun q => q.2 ⟨i, take_get.mpr ⟨h3, h1⟩, e1 ▸ h4⟩, fun _ => by rw [← e1]; exact h2, fun q => by omega, ge hd, o.ofZ zz⟩
  · obtain ⟨h3, h4⟩ := eg h2
    obtain ⟨v, hv⟩ := vex h3
    exact ⟨v, gs hv⟩
  · obtain ⟨g1, g2⟩ := sg h3
    obtain ⟨g3, g4⟩ := sg h4
    exact A.inj i j a (take_get.mpr ⟨g1, h1⟩) (take_get.mpr ⟨g3, h2⟩) g2 g4
  · rw [hx] at h; cases h
  · rw [hlm] at h; cases h
/-- the frame of a call -/
abbrev frm (Γ : Gm) (Z : AS) (H : Hp) (N : List Str) (vs : List V) : Fm := ⟨fun a => Z a ∧ ¬ lentV (Γ.ks.take Γ.np) vs a, H, L2.start N vs⟩
theorem outs_get {ks : List Kd} {np : Nat} {e : En} {i : Nat} (hi : i < np) (h : ks[i]? = some Kd.own) : (outsOf ks np e)[i]? = some (rdS e i) := by
  unfold outsOf
  rw [List.getElem?_map, List.getElem?_range hi]
  simp [h]
theorem aft_of {H' : Hp} {σ' : L2.St} {e : En} (hnp : Γ.np ≤ Γ.ks.length) (hN : N.length = Γ.ks.length) (hlv : vs.length = Γ.np) (hL : ∀ a, LsS Γ.ks Γ.np (L2.start N vs) a ↔ lentV (Γ.ks.take Γ.np) vs a)
    (E : ER Γ (frm Γ Z H N vs) H' σ' e) : AftB Γ.T (Γ.ks.take Γ.np) Z vs H H' (outsOf Γ.ks Γ.np e) ∧ (∀ a, Z a → zt Γ (frm Γ Z H N vs) σ' a) := by
  have par : ∀ {i : Nat} {v : V}, (Γ.ks.take Γ.np)[i]? = some Kd.own → vs[i]? = some v → σ'[i]? = some (some v) := fun {i v} h1 h2 => by
    obtain ⟨g1, g2⟩ := take_get.mp h1
    refine E.par i v g1 g2 ?_
    show (L2.start N vs)[i]? = _
    rw [start_get (by omega), if_pos (by omega), h2]
  have zz : ∀ a, Z a → zt Γ (frm Γ Z H N vs) σ' a := fun a h => by
    by_cases hl : lentV (Γ.ks.take Γ.np) vs a
    · obtain ⟨i, h1, h2⟩ := hl
      exact .inr ⟨i, (take_get.mp h1).2, par h1 h2⟩
    · exact .inl ⟨h, hl⟩
  refine ⟨⟨fun a u h1 h2 h3 => E.base a u h1 h2 fun z => h3 ((hL a).mp z), E.dom, E.tabs, by unfold outsOf; simp; omega, fun i a h1 h2 => ?_⟩, zz⟩
  obtain ⟨g1, g2⟩ := take_get.mp h1
  obtain ⟨a', d, r1, r2, r3, r4, r5, r6⟩ := E.own i _ g2 (par h1 h2)
  cases r1
  exact ⟨d, by rw [outs_get g1 g2, rdS_of r5], r6.ofZ zz⟩
theorem ret_aft {H' : Hp} {e : En} {fr : Bool} {d : PB.D} {v : V} (hnp : Γ.np ≤ Γ.ks.length) (hN : N.length = Γ.ks.length) (hlv : vs.length = Γ.np) (hL : ∀ a, LsS Γ.ks Γ.np (L2.start N vs) a ↔ lentV (Γ.ks.take Γ.np) vs a)
    (h : RetR Γ fr (frm Γ Z H N vs) H' e d v) : AftC Γ.T (Γ.ks.take Γ.np) fr Z vs H H' (outsOf Γ.ks Γ.np e) d v := by
  rcases h with ⟨σ', E, r, f⟩ | ⟨σ', i, a, e0, E, rfl, h1, h2, h3, h4, rfl⟩
  · obtain ⟨A, zz⟩ := aft_of hnp hN hlv hL E
    refine ⟨A, r.ofZ zz, fun hf hd => ?_⟩
    obtain ⟨p, e1, e2, e3, E2, o⟩ := f hf hd
    refine ⟨p, e1, e2, o.ofZ fun a q => q.imp (zz a) id, fun i a d' q1 q2 q3 => ?_⟩
    obtain ⟨g1, g2⟩ := take_get.mp q1
    have hσ : σ'[i]? = some (some (V.ref a)) := by
      refine E.par i _ g1 g2 ?_
      show (L2.start N vs)[i]? = _
      rw [start_get (by omega), if_pos (by omega), q2]
    obtain ⟨a', d2, r1, _, _, _, r5, r6⟩ := E2.own i _ g2 hσ
    cases r1
    rw [outs_get g1 g2, rdS_of r5] at q3
    cases q3
    exact r6.ofZ fun b q => by
      rcases q with q | q
      · rcases zz b q with z | z
        · exact .inl (.inl z)
        · exact .inr z
      · exact .inl (.inr q)
  · obtain ⟨A, zz⟩ := aft_of hnp hN hlv hL E
    have eo : outsOf Γ.ks Γ.np (e0.set i none) = outsOf Γ.ks Γ.np e0 := by
      unfold outsOf
      apply List.map_congr_left
      intro j hj
      have : j < Γ.np := List.mem_range.mp hj
      unfold rdS
      rw [get_set (show j ≠ i by omega)]
    rw [eo]
    obtain ⟨a', d2, r1, r2, _, r4, r5, r6⟩ := E.own i _ h1 h3
    cases r1
    rw [rdS_of r5] at h4
    cases h4
    have na : ¬ Z a := fun z => by
      by_cases hl : lentV (Γ.ks.take Γ.np) vs a
      · obtain ⟨i', q1, q2⟩ := hl
        obtain ⟨g1, g2⟩ := take_get.mp q1
        have hσ : σ'[i']? = some (some (V.ref a)) := by
          refine E.par i' _ g1 g2 ?_
          show (L2.start N vs)[i']? = _
          rw [start_get (by omega), if_pos (by omega), q2]
        have := E.inj i' i a g2 h1 hσ h3
        omega
      · exact r2 ⟨z, hl⟩
    have az : zt Γ (frm Γ Z H N vs) σ' a := .inr ⟨i, h1, h3⟩
    refine ⟨A, r6.toRep na (Kp.sub zz), fun _ _ => ⟨a, rfl, r4 h2, r6.ofZ fun b q => ?_, fun j b d' q1 q2 q3 => ?_⟩⟩
    · rcases q with q | q
      · exact zz b q
      · exact q ▸ az
    · obtain ⟨d2, s1, s2⟩ := A.outs j b q1 q2
      rw [q3] at s1
      cases s1
      obtain ⟨g1, g2⟩ := take_get.mp q1
      have hσ : σ'[j]? = some (some (V.ref b)) := by
        refine E.par j _ g1 g2 ?_
        show (L2.start N vs)[j]? = _
        rw [start_get (by omega), if_pos (by omega), q2]
      obtain ⟨a', d3, t1, _, _, _, t5, t6⟩ := E.own j _ g2 hσ
      cases t1
      rw [outs_get g1 g2, rdS_of t5] at q3
      cases q3
      exact t6.ofZ fun c q => by
        rcases q with q | q
        · exact zz c q
        · exact q ▸ az
end
/-- what a body runs with -/
def gOf (Δ : Ctx) (n : Nat) (d : DefI) (act : Act) : Gx := { ks := d.ks, cf := callN Δ.T n, info := Δ.kk, sub := Δ.T.sub, xin := Δ.T.xin, wf := Δ.T.wf, act := act, ex := none }
def gmOf (Δ : Ctx) (d : DefI) : Gm := { T := Δ.tb, K := Δ.K, cA := Δ.cA, ks := d.ks, np := d.np, xo := none, lam := none }
theorem callN_eq {Δ : Ctx} {n f : Nat} {d : DefI} (hd : Δ.T.defs[f]? = some d) {ds : List PB.D} (hl : ds.length = d.np) : callN Δ.T (n + 1) f none ds = match exec d.code (gOf Δ n d none) (ds.map some ++ List.replicate (d.ks.length - ds.length) none) with
      | some (.nx e) => some (.ok .non (outsOf d.ks d.np e))
      | some (.rt v e) => some (.ok v (outsOf d.ks d.np e))
      | some (.xc x e) => some (.xc x (outsOf d.ks d.np e))
      | _ => none := by
  have hk : (fun g => match Δ.T.defs[g]? with | some d => d.ks.take d.np | none => []) = Δ.kk := by
    funext g
    rfl
  rw [callN]
  simp only [hd, Option.isNone_none, Bool.true_and, hl, ne_eq, not_true_eq_false, decide_false, Bool.false_eq_true, if_false]
  rfl
/-- a body that is read as its code keeps the promise -/
theorem body_spec {Δ : Ctx} {n f : Nat} {d : DefI} (hd : Δ.T.defs[f]? = some d) (hnp : d.np ≤ d.ks.length) {N : List Str} (hN : N.length = d.ks.length) {vs : List V} {H : Hp} {Q : VK} {E : XK} (h : spI Δ (n + 1) f vs H Q E) :
    rdSt (gmOf Δ d) (Δ.fq f) (fun cls od _ H' => E cls od H') (gOf Δ n d none) d.code { nx := fun _ H' => Q .non H', rt := Q } (L2.start N vs) H := by
  obtain ⟨Z, ds, A, out⟩ := h
  have hkk : Δ.kk f = d.ks.take d.np := by unfold Ctx.kk; rw [hd]
  rw [hkk] at A
  obtain ⟨ES, hO, hL, hlv, hld⟩ := ER.start (Γ := gmOf Δ d) rfl rfl hN hnp A
  rw [callN_eq hd hld] at out
  refine ⟨_, _, ES, ?_⟩
  show rdS' _ _ _ (frm (gmOf Δ d) Z H N vs) _ _ _ (exec d.code (gOf Δ n d none) (ds.map some ++ List.replicate (d.ks.length - ds.length) none))
  revert out
  cases exec d.code (gOf Δ n d none) (ds.map some ++ List.replicate (d.ks.length - ds.length) none) with
  | none => exact fun z => z.elim
  | some o =>
    intro out
    cases o with
    | nx e =>
      intro σ' H' k E'
      refine out .non H' ?_
      rw [hkk]
      exact ret_aft (Γ := gmOf Δ d) hnp hN hlv hL (.inl ⟨σ', E', rfl, fun _ z => by cases z⟩)
    | rt v e =>
      intro w H' r
      refine out w H' ?_
      rw [hkk]
      exact ret_aft (Γ := gmOf Δ d) hnp hN hlv hL r
    | bk e => exact out.elim
    | ct e => exact out.elim
    | xc x e =>
      intro cls od σ' H' k E' r
      obtain ⟨AB, zz⟩ := aft_of (Γ := gmOf Δ d) hnp hN hlv hL E'
      refine out cls od H' (by rw [hkk]; exact AB) ?_
      obtain ⟨C, e1, e2, dx, fs, e3, e4, e5⟩ := r
      refine ⟨C, e1, e2, dx, fs, e3, e4, fun f' d' hf => ?_⟩
      obtain ⟨v, s1, s2⟩ := e5 f' d' hf
      exact ⟨v, s1, s2.ofZ zz⟩
end PB
set_option maxHeartbeats 4000000
/-! Is: enumerate over a tuple. -/
namespace PySem
open Sem (wp)
open AutoSeq1 (wpAny_loadPart')
theorem pb_enum_newT (l : Addr) (items : Array Value) (n : Nat) (dct : Option Addr) (sl : Array (Option Value)) :
    Meets (Builtin.«enumerate.__new__» ⟨[.type "enumerate", .ref l], []⟩) (fun _ R s => s.heap.get? l = some { cls := .type "tuple", dict := dct, data := .seq items n, slots := sl } ∧
      R (.ok (.ret (.ref (s.heap.push { cls := .type "tuple_iterator", data := .fields #[.ref l, .int 0 0] }).objs.size)))
        { s with heap := (s.heap.push { cls := .type "tuple_iterator", data := .fields #[.ref l, .int 0 0] }).push { cls := .type "enumerate", data := .fields #[.none, .bool false, .ref s.heap.objs.size, rawInt 0, .none, .none] } }) :=
  .of_wp fun prog w A R s h => by
    obtain ⟨hp, g, d, tk, os⟩ := s
    obtain ⟨hl, h⟩ := h
    have hsub := sub_enumerate
    have hL : Heap.IsTuple (Shared.heap ⟨hp, g, d, tk, os⟩) l items := ⟨_, hl, rfl, n, rfl⟩
    wp_walk using wpAny_loadPart' hl
    refine wpAny_stack_any fun st => wpAny_pure ?_
    split
    · rename_i c _ _ _ _ _
      cases (c == Value.type "enumerate")
      · wp_walk using wpAny_loadPart' hl, wpAny_pyIter_tuple hL
        exact ⟨_, rfl, h⟩
      · wp_walk using wpAny_loadPart' hl, wpAny_pyIter_tuple hL
        exact ⟨_, rfl, h⟩
    · wp_walk using wpAny_loadPart' hl, wpAny_pyIter_tuple hL
      exact ⟨_, rfl, h⟩
end PySem
namespace PySem
section
variable {prog : Program} {w : World} {A : Around} {E : Value → Shared → Prop} {s : Shared}
theorem pb_call_enumT {l : Addr} {items : Array Value} {Q : Value → Shared → Prop} (hL : s.heap.IsTuple l items)
    (h : ∀ h', IsEnum h' (s.heap.objs.size + 1) s.heap.objs.size 0 .none → h'.IsTupleIter s.heap.objs.size l 0 → (∀ b o, s.heap.get? b = some o → h'.get? b = some o) → Q (.ref (s.heap.objs.size + 1)) { s with heap := h' }) :
    wpAny (model prog w) A (call (.type "enumerate") [.ref l]) Q E s := by
  obtain ⟨⟨c, dct, dt, sl⟩, hl, hc, n, hd⟩ := hL
  cases (show c = .type "tuple" from hc)
  cases (show dt = .seq items n from hd)
  refine callType_new F.called_enumerate (by decide) (F.typeCall_enumerate_1 _) (F.newCall_enumerate_1 _) (fun obj => F.args_object_init_2 obj _) F.entry_enumerate_new (pb_enum_newT l items n dct sl) ⟨hl, ?_⟩
  generalize h1 : s.heap.push { cls := .type "tuple_iterator", data := .fields #[.ref l, .int 0 0] } = g1
  have z1 : g1.objs.size = s.heap.objs.size + 1 := by rw [← h1]; exact Heap.size_push ..
  generalize h2 : g1.push { cls := .type "enumerate", data := .fields #[.none, .bool false, .ref s.heap.objs.size, rawInt 0, .none, .none] } = g2
  have k1 : ∀ b o, s.heap.get? b = some o → g1.get? b = some o := fun b o e => by rw [← h1]; exact Heap.get?_push_of_some _ e
  have k2 : ∀ b o, g1.get? b = some o → g2.get? b = some o := fun b o e => by rw [← h2]; exact Heap.get?_push_of_some _ e
  have a1 : g1.get? s.heap.objs.size = some { cls := .type "tuple_iterator", data := .fields #[.ref l, .int 0 0] } := by rw [← h1]; exact Heap.get?_push_size _ rfl
  have a2 : g2.get? g1.objs.size = some { cls := .type "enumerate", data := .fields #[.none, .bool false, .ref s.heap.objs.size, rawInt 0, .none, .none] } := by rw [← h2]; exact Heap.get?_push_size _ rfl
  show _ ∧ _
  rw [z1] at a2 ⊢
  exact ⟨⟨_, a2, rfl⟩, h _ a2 ⟨_, k2 _ _ a1, rfl, rfl⟩ fun b o e => k2 _ _ (k1 _ _ e)⟩
theorem pb_enum_endT {e it l : Addr} {i : Nat} {items : Array Value} {old : Value} {Q : Option Value → Shared → Prop} (hh : A.handled = none) (he : IsEnum s.heap e it i old) (hit : s.heap.IsTupleIter it l i) (hl : s.heap.IsTuple l items) (hx : items[i]? = none)
    (hQ : ∀ h', Heap.ExtBut it s.heap h' → Q none { s with heap := h' }) : wpAny (model prog w) A (pyNext (.ref e)) Q E s := by
  have ty : s.TypeIs (.ref e) "enumerate" := ⟨_, he, rfl⟩
  unfold pyNext
  refine wpAny_bind (wpAny_attempt ?_)
  refine wpAny_callSpecial?_slot (name := Str.ofString "__next__") ty F.slot_enumerate_next ?_
  refine wpAny_call_entry F.slot_enumerate_next ty F.entry_enumerate_next ?_ (F.args_enumerate_next_1 _)
  show wpAny _ _ (field (.ref e) 2 >>= _) _ _ s
  refine wpAny_bind (wpAny_field he rfl (x := .ref it) rfl (wpAny_bind ?_))
  refine wpAny_nextOf_tuple_end (show A.in1.handled = none from hh) hit hl hx ?_
  rintro h' x eb ⟨o, ho, hc⟩
  refine wpAny_bind (wpAny_isInstance (T := "StopIteration") (b := true) ⟨o, ho, hc⟩ isSubtype_stop ?_)
  exact wpAny_pure (hQ h' eb)
end
end PySem
namespace PB
open RZ (ItzT iZipA pi_zipA)
open PySem PySem.Spec PyProof.Rows L2
def IteT (K : PySem.W.Frag) (a : Addr) : It :=
  ⟨fun i H => ∃ (xs : List V) (x : V), SqT K H a xs ∧ xs[i]? = some x, fun i H v H' => ∃ T x, v = .ref T ∧ H T = none ∧ H' = upd H T (.tup [.int (i : Nat), x]) ∧ ∀ xs, SqT K H a xs → xs[i]? = some x, fun i H => ∃ xs : List V, SqT K H a xs ∧ xs.length ≤ i⟩
theorem turn_enumT {P : Program} {w : World} {K : PySem.W.Frag} {elts : List Expr} {kk : Nat} {tpos : Pos} (a e it : Addr) (hai : a ≠ it) (hae : a ≠ e) :
    Turn P w K (.Tuple elts kk tpos) (IteT K a) [e, it] e (fun i h => (∃ old, IsEnum h e it ((i : Nat) : Int) old) ∧ h.IsTupleIter it a i ∧ e ≠ it) where
  mem := List.mem_cons_self
  obj := by
    rintro i h ⟨⟨old, he⟩, ⟨o, ho, hc, hd⟩, _⟩ b hb
    rcases List.mem_cons.mp hb with z | z
    · exact z ▸ ⟨_, he, fun v q => nomatch q⟩
    · cases List.mem_singleton.mp z
      exact ⟨o, ho, fun v q => by rw [hd] at q; cases q⟩
  keep := by
    rintro i h h' ⟨⟨old, he⟩, hi, hne⟩ k
    exact ⟨⟨old, k e List.mem_cons_self _ he⟩, hi.at fun o q => k it (List.mem_cons_of_mem _ List.mem_cons_self) o q, hne⟩
  item := by
    intro X hP hw hK hc i pins s σ H E I hf st hg
    cases hP
    cases hw
    cases hK
    obtain ⟨⟨old, he⟩, hit, hne⟩ := st
    obtain ⟨xs, x, hq, hx⟩ := hg
    obtain ⟨its, rv, p, hz⟩ := I.tuple hq
    obtain ⟨u, hu, ru⟩ := rv.get hx
    have p' : s.heap.IsTuple a its.toArray := p
    have hel : e < s.heap.objs.size := Heap.lt_size he
    have hil : it < s.heap.objs.size := by obtain ⟨_, q, _⟩ := hit; exact Heap.lt_size q
    have hin : i < its.toArray.size := by
      rw [List.size_toArray]
      exact (List.getElem?_eq_some_iff.mp hu).1
    refine wpAny_pyNext_enum_itemD (Draws.tuple (A := X.A.in1) (I.ok.hd hc) it a hai its.toArray) he ⟨hit, p'⟩ hin hne (fun q => ?_) fun x' h' tk hP' ho hs' hT hsz hk => ?_
    · rcases List.mem_cons.mp q with z | z
      · exact hne z
      · exact hae (List.mem_singleton.mp z).symm
    have ex : x' = u := by
      have h1 : its[i]? = some x' := by simpa using hP'
      rw [hu] at h1
      exact (Option.some.inj h1).symm
    subst ex
    refine ⟨_, rfl, wpAny_letOwnedTupleGo_enum (s := { s with heap := h', toks := tk + 1 }) ho fun h'' he' sb => ?_⟩
    have hT2 : h''.get? s.heap.objs.size = some { cls := .type "tuple", data := .seq #[.int i tk, x'] } := (sb.2 _ (Nat.ne_of_gt hel)).trans hT
    have new : ObjOk X.prog X.w (upd H s.heap.objs.size (.tup [.int (i : Nat), x])) h'' s.heap.objs.size (.tup [.int (i : Nat), x]) := by
      refine ⟨?_, [.int i tk, x'], .cons ⟨_, rfl⟩ (.cons ru .nil), ⟨_, hT2, rfl, _, rfl⟩⟩
      show 2 ≤ sizeLine
      decide
    have J : Inv X pins σ (upd H s.heap.objs.size (.tup [.int (i : Nat), x])) { s with heap := h'', toks := tk + 1 } := by
      refine I.turnedNew (ch := [e, it]) (fun b ob hb q => ?_) hf (Nat.le_refl _) new
      have be : b ≠ e := fun z => hb (z ▸ List.mem_cons_self)
      have bi : b ≠ it := fun z => hb (z ▸ List.mem_cons_of_mem _ List.mem_cons_self)
      exact (sb.2 b be).trans (hk b ob be bi q)
    refine ⟨.ref s.heap.objs.size, _, J, rfl, ⟨_, x, rfl, I.hok.fresh (Nat.le_refl _), rfl, fun ys hy => by rw [I.tuple_inj hy hq]; exact hx⟩, ⟨⟨x', ?_⟩, ?_, hne⟩, fun b hb => ?_⟩
    · rw [show ((i + 1 : Nat) : Int) = (i : Int) + 1 by omega]
      exact he'
    · exact hs'.1.at fun o q => (sb.2 it (Ne.symm hne)).trans q
    · have hb' : b < s.heap.objs.size := by
        rcases List.mem_cons.mp hb with z | z
        · exact z ▸ hel
        · exact (List.mem_singleton.mp z) ▸ hil
      rw [upd_ne (Nat.ne_of_lt hb')]
      exact (hf b hb).1
  done := by
    intro X hP hw hK hc i pins s σ H E I hf st hg
    cases hP
    cases hw
    cases hK
    obtain ⟨⟨old, he⟩, hit, hne⟩ := st
    obtain ⟨xs, hq, hx⟩ := hg
    obtain ⟨its, rv, p, hz⟩ := I.tuple hq
    obtain ⟨f0, f1, f2, f3, f4, f5⟩ := hf it (List.mem_cons_of_mem _ List.mem_cons_self)
    have hl := rv.length
    refine pb_enum_endT (I.ok.hd hc) he hit p (by simp; omega) fun h' eb => ⟨rfl, ?_⟩
    exact I.turned (t' := s.toks) (fun b o hb q => eb b o hb q) f0 f1 f3 f4 f5
  self := by
    rintro A i s Q E ⟨⟨_, he⟩, _⟩ h
    exact wpAny_pyIter_enum he h
/-- enumerate(e) of a list or a tuple -/
def iEnumS (K : PySem.W.Frag) (ta : TA) : TI := fun σ H R => ta σ H fun vs H1 => ∃ a, vs = [.ref a] ∧ (((∃ xs, SqL K H1 a xs) ∧ R (Ite K a) H1) ∨ ((∃ xs, SqT K H1 a xs) ∧ R (IteT K a) H1))
theorem pi_enumS {X : Cx} {e : Expr} {ta : TA} {p pos tpos : Pos} {elts : List Expr} {kk : Nat} (hg : Gl X "enumerate") (hm : X.mg "enumerate" = none) (ha : PA X [e] ta) (hs : starEach [e] X.env = (false, eval e X.env) :: starEach [] X.env) :
    PI X (.Tuple elts kk tpos) (.Call (.Name "enumerate" p) [e] [] pos) (iEnumS X.K ta) := by
  refine ⟨fun pins s σ H R I h => ?_⟩
  have step := ha.run pos pins s σ H _ I h
  refine Call_ (ld_blt I hg hm boot_enumerate (PyProof.Rows.callWith_type1 (thn step ?_) hs rfl))
  rintro us s1 ⟨vs, H1, J, rs, a, rfl, q⟩
  obtain ⟨u, rfl, ru⟩ := vals1 rs
  cases ru
  have fp : ∀ b ∈ [s1.heap.objs.size + 1, s1.heap.objs.size], FpOk X pins H1 b := fun b hb => by
    have hle : s1.heap.objs.size ≤ b := by
      rcases List.mem_cons.mp hb with z | z
      · exact z ▸ Nat.le_succ _
      · exact (List.mem_singleton.mp z) ▸ Nat.le_refl _
    exact J.fpOk hle (J.hok.fresh hle)
  rcases q with ⟨⟨xs, sq⟩, q⟩ | ⟨⟨xs, sq⟩, q⟩
  · obtain ⟨its, rv, pl, hz⟩ := J.list sq
    refine call_enumerate_list pl.isList fun h' he hit hsz hk => wpAny_pyIter_enum he ?_
    exact ⟨s1.heap.objs.size + 1, [s1.heap.objs.size + 1, s1.heap.objs.size], _, _, H1, rfl, J.kept (t' := s1.toks) hk, turn_enum a _ _, ⟨⟨.none, he⟩, hit, Nat.succ_ne_self _⟩, fp, q⟩
  · obtain ⟨its, rv, pl, hz⟩ := J.tuple sq
    have hlt : a < s1.heap.objs.size := pl.lt
    refine pb_call_enumT (show s1.heap.IsTuple a its.toArray from pl) fun h' he hit hk => wpAny_pyIter_enum he ?_
    exact ⟨s1.heap.objs.size + 1, [s1.heap.objs.size + 1, s1.heap.objs.size], _, _, H1, rfl, J.kept (t' := s1.toks) hk, turn_enumT a _ _ (Nat.ne_of_lt hlt) (Nat.ne_of_lt (Nat.lt_succ_of_lt hlt)), ⟨⟨.none, he⟩, hit, Nat.succ_ne_self _⟩, fp, q⟩
theorem walk_enumT {K : PySem.W.Frag} {a : Addr} {xs : List V} : Walk (IteT K a) xs.length (fun H => SqT K H a xs) (YPair (fun i => some (.int (i : Nat))) (fun i => xs[i]?)) := by
  refine ⟨fun i _ hi q => ⟨xs, xs[i], q, List.getElem?_eq_getElem hi⟩, fun _ q => ⟨xs, q, Nat.le_refl _⟩, ?_⟩
  rintro i H v H' _ q ⟨T, x, h1, h2, h3, h4⟩
  exact ⟨T, .int (i : Nat), x, h1, h2, h3, rfl, h4 xs q⟩
section
variable {Γ : Gm}
theorem itEnumT {F : Fm} {σ : L2.St} {H1 : Hp} {ad : Addr} {xs : List V} {ds : List PB.D} {K : PySem.W.Frag} (h : ∀ Z' Zo' H', Kp (zt Γ F σ) Z' H1 H' → Kp (zo Γ F σ) Zo' H1 H' → SqT K H' ad xs) (r : RepL (zt Γ F σ) H1 ds xs) : ItOk Γ F σ H1 (IteT K ad) (enumD 0 ds) := by
  have hl := RepL.length _ _ r
  refine ⟨fun H => SqT K H ad xs, _, by rw [enumD_length, ← hl]; exact walk_enumT, h, fun i x Z' H' H'' k hi zh y => ?_⟩
  obtain ⟨T, u, v, y1, y2, y3, y4, y5⟩ := y
  subst y1 y3
  cases y4
  obtain ⟨d, q1, q2⟩ := RepL.at _ _ (RepL.mono k _ _ r) i v y5
  refine ⟨Ex.new y2, _, enumD_get ds 0 i d q1, ?_⟩
  rw [Nat.zero_add]
  exact pair_new zh y2 rfl q2
variable {X : Cx} {XW : WX} {G : Gx} {a : C} {tg ex : Expr}
theorem finL_noLocs : ∀ {a : C} {l ds : List PB.D} {e : En}, noLocs a = true → finL a l e = some ds → ds = l := by
  intro a
  induction a with
  | nil => intro l ds e _ h; cases l with
    | nil => cases h; rfl
    | cons d l => cases h
  | cons a b iha ihb => intro l ds e hn h; cases l with
    | nil => cases h
    | cons d l =>
      simp only [noLocs, Bool.and_eq_true, Bool.not_eq_true'] at hn
      simp only [finL] at h
      obtain ⟨x, g1, g2⟩ := Option.bind_eq_some_iff.mp h
      obtain ⟨y, g3, g4⟩ := Option.map_eq_some_iff.mp g2
      cases g4
      rw [ihb hn.2 g3]
      have : x = d := by cases a <;> first | (cases g1; rfl) | (have := hn.1; cases this)
      rw [this]
  | _ => intro l ds e _ h; cases l <;> cases h
theorem rep1 {Z : AS} {H : Hp} {d : PB.D} {vs : List V} (h : RepL Z H [d] vs) : ∃ v, vs = [v] ∧ Rep Z H d v := by
  obtain ⟨v, r, e, h1, h2⟩ := h
  cases h2
  exact ⟨v, e, h1⟩
theorem rep2 {Z : AS} {H : Hp} {d e : PB.D} {vs : List V} (h : RepL Z H [d, e] vs) : ∃ v w, vs = [v, w] ∧ Rep Z H d v ∧ Rep Z H e w := by
  obtain ⟨v, r, q, h1, h2⟩ := h
  obtain ⟨w, q2, h3⟩ := rep1 h2
  subst q2
  exact ⟨v, w, q, h1, h3⟩
theorem I_enum (hb : noLocs a = true) (hn : lenG a = 1) (h : PI X tg ex (iEnumS X.K (rdA Γ XW G a))) : PI X tg ex (rdI Γ XW G (.blt .enum a)) := PIimp h fun σ H R q => by
  obtain ⟨F, e, E, w⟩ := q
  refine rd_stepA E (bltI w) fun d e1 w1 => ?_
  obtain ⟨l, ds, z, zs', rfl, f1, q1, q2, k⟩ := w1
  cases finL_noLocs hb f1
  refine ⟨_, rfl, fun vs H1 k1 E1 rs => ?_⟩
  have rl := VRs.repL hb rs
  obtain ⟨d, rfl⟩ := len1 ((RepL.length _ _ rl).symm.trans (rs.len.trans hn))
  obtain ⟨v, rfl, r⟩ := rep1 rl
  simp only [bi, Option.map_eq_some_iff] at q1
  obtain ⟨m, q3, rfl⟩ := q1
  cases q2
  cases d <;> simp only [seqOf] at q3 <;> first | cases q3 | skip
  · obtain ⟨ad, xs, rfl, ⟨h1, h2⟩, rl⟩ := r
    exact ⟨ad, rfl, .inr ⟨⟨xs, .of h2⟩, k _ H1 k1 E1 (itEnumT (fun Z' Zo' H' kk _ => .of (kk ad _ h2 (fun ps z => by cases z) h1).1) rl)⟩⟩
  · obtain ⟨ad, xs, rfl, ⟨h1, h2⟩, rl⟩ := r
    exact ⟨ad, rfl, .inl ⟨⟨xs, .of h2⟩, k _ H1 k1 E1 (itEnum (fun Z' Zo' H' kk _ => .of (kk ad _ h2 (fun ps z => by cases z) h1).1) rl)⟩⟩
theorem itZipT {F : Fm} {σ : L2.St} {H1 : Hp} {ad bd : Addr} {xs ys : List V} {ds es : List PB.D} {K : PySem.W.Frag} (h : ∀ Z' Zo' H', Kp (zt Γ F σ) Z' H1 H' → Kp (zo Γ F σ) Zo' H1 H' → SqT K H' ad xs ∧ SqT K H' bd ys) (r : RepL (zt Γ F σ) H1 ds xs) (r' : RepL (zt Γ F σ) H1 es ys) : ItOk Γ F σ H1 (ItzT K ad bd) (zipD ds es) := by
  have hl := RepL.length _ _ r
  have hl' := RepL.length _ _ r'
  refine ⟨fun H => SqT K H ad xs ∧ SqT K H bd ys, YPair (fun i => xs[i]?) (fun i => ys[i]?), ⟨fun i H hi q => ?_, fun H q => ⟨xs, ys, q.1, q.2, ?_⟩, ?_⟩, h, fun i x Z' H' H'' k hi zh y => ?_⟩
  · rw [zipD_length] at hi
    have h1 : i < xs.length := by omega
    have h2 : i < ys.length := by omega
    exact ⟨xs, ys, xs[i], ys[i], q.1, q.2, List.getElem?_eq_getElem h1, List.getElem?_eq_getElem h2⟩
  · rw [zipD_length]
    omega
  · rintro i H v H' _ q ⟨T, x, z, h1, h2, h3, h4, h5⟩
    exact ⟨T, x, z, h1, h2, h3, h4 xs q.1, h5 ys q.2⟩
  · obtain ⟨T, u, v, y1, y2, y3, y4, y5⟩ := y
    subst y1 y3
    obtain ⟨d, q1, q2⟩ := RepL.at _ _ (RepL.mono k _ _ r) i u y4
    obtain ⟨e, q3, q4⟩ := RepL.at _ _ (RepL.mono k _ _ r') i v y5
    exact ⟨Ex.new y2, _, zipD_get ds es i d e q1 q3, pair_new zh y2 q2 q4⟩
def isLsX : PB.D → Bool
  | .lst _ => true
  | _ => false
/-- zip of two lists, of two tuples -/
theorem I_zip (hb : noLocs a = true) (hn : lenG a = 2) (h : PI X tg ex (iZipA X.K (rdA Γ XW G a))) : PI X tg ex (rdI Γ XW G (.blt .zip a)) := PIimp h fun σ H R q => by
  obtain ⟨F, e, E, w⟩ := q
  refine rd_stepA E (bltI w) fun d e1 w1 => ?_
  obtain ⟨l, ds, z, zs', rfl, f1, q1, q2, k⟩ := w1
  cases finL_noLocs hb f1
  refine ⟨_, rfl, fun vs H1 k1 E1 rs => ?_⟩
  have rl := VRs.repL hb rs
  obtain ⟨d, e, rfl⟩ := len2 ((RepL.length _ _ rl).symm.trans (rs.len.trans hn))
  obtain ⟨v, w, rfl, r, r'⟩ := rep2 rl
  simp only [bi] at q1
  split at q1
  · rename_i hsame
    obtain ⟨m, q3, q1⟩ := Option.bind_eq_some_iff.mp q1
    obtain ⟨m', q4, q5⟩ := Option.map_eq_some_iff.mp q1
    subst q5
    cases q2
    cases d <;> simp only [seqOf] at q3 <;> first | cases q3 | skip
    · cases e <;> simp only [seqOf] at q4 <;> first | cases q4 | skip
      · obtain ⟨ad, xs, rfl, ⟨h1, h2⟩, rl1⟩ := r
        obtain ⟨bd, ys, rfl, ⟨h3, h4⟩, rl2⟩ := r'
        exact ⟨ad, bd, xs, ys, rfl, .inr ⟨.of h2, .of h4, k _ H1 k1 E1 (itZipT (fun Z' Zo' H' kk _ => ⟨.of (kk ad _ h2 (fun ps z => by cases z) h1).1, .of (kk bd _ h4 (fun ps z => by cases z) h3).1⟩) rl1 rl2)⟩⟩
      · cases hsame
    · cases e <;> simp only [seqOf] at q4 <;> first | cases q4 | skip
      · cases hsame
      · obtain ⟨ad, xs, rfl, ⟨h1, h2⟩, rl1⟩ := r
        obtain ⟨bd, ys, rfl, ⟨h3, h4⟩, rl2⟩ := r'
        exact ⟨ad, bd, xs, ys, rfl, .inl ⟨.of h2, .of h4, k _ H1 k1 E1 (itZip (fun Z' Zo' H' kk _ => ⟨.of (kk ad _ h2 (fun ps z => by cases z) h1).1, .of (kk bd _ h4 (fun ps z => by cases z) h3).1⟩) rl1 rl2)⟩⟩
  · cases q1
theorem bi_r3 {x y z r : PB.D} (h : bi .range [x, y, z] = some r) : ∃ i j : Int, x = .int i ∧ y = .int j ∧ z = .int (-1) ∧ (-(2 ^ 62) ≤ i ∧ i < 2 ^ 62 ∧ -(2 ^ 62) ≤ j ∧ j < 2 ^ 62) ∧ r = .lst (rangeC i (-1) (i - j).toNat) := by
  unfold bi at h
  split at h <;> first | (cases h; done) | skip
  all_goals (first | (rename_i heq; cases heq; done) | skip)
  rename_i i j heq1 heq2
  cases heq2
  split at h
  · rename_i hj
    cases h
    simp only [Bool.and_eq_true, decide_eq_true_eq] at hj
    exact ⟨i, j, rfl, rfl, rfl, ⟨hj.1.1.1, hj.1.1.2, hj.1.2, hj.2⟩, rfl⟩
  · cases h
theorem I_range3 (la : lcsOk Γ.ks a = true) (hn : lenG a = 3) (h : PI X tg ex (iRng3 (rdA Γ XW G a))) : PI X tg ex (rdI Γ XW G (.blt .range a)) := PIimp h fun σ H R q => by
  obtain ⟨F, e, E, w⟩ := q
  refine rd_stepA E (bltI w) fun d e1 w1 => ?_
  obtain ⟨l, ds, z, zs', rfl, f1, q1, q2, k⟩ := w1
  refine ⟨l, rfl, fun vs H1 k1 E1 rs => ?_⟩
  have rb := rs.fin E1 la f1
  obtain ⟨x, y, z', rfl⟩ := len3 (rb.len.symm.trans (rs.len.trans hn))
  obtain ⟨i, j, rfl, rfl, rfl, hj, rfl⟩ := bi_r3 q1
  cases q2
  obtain ⟨v, u, t, rfl, rv, ru, rt⟩ := rb.three
  cases rv
  cases ru
  cases rt
  exact ⟨i, j, -1, (i - j).toNat, rfl, RgC.neg hj.1 hj.2.1 hj.2.2.1 hj.2.2.2, k _ H1 k1 E1 itRangeC⟩
end
end PB
set_option maxHeartbeats 4000000
/-! Ip: isinstance; list(range(..)); a, b = x, y with owned slots. -/
namespace PB
open PySem PySem.Spec PyProof.Rows L2
section
variable {X : Cx} {Γ : Gm} {fq : Nat → Bool} {fr : Bool} {XW : WX} {G : Gx} {a b : C} {ex : Expr} {st : Stmt}
/-! isinstance -/
def tyNm : PB.D → String
  | .non => "NoneType"
  | .bl _ => "bool"
  | .int _ => "int"
  | .str _ => "str"
  | .tup _ => "tuple"
  | .lst _ => "list"
  | .dic _ _ => "dict"
theorem tyX_of {K : PySem.W.Frag} {Z : AS} {H : Hp} {d : PB.D} {v : V} (h : RepB Z H d v) : TyX K H v (.type (tyNm d)) := by
  cases d with
  | non => cases h; exact .base .non
  | bl b => cases h; exact .base (.bl b)
  | int i => cases h; exact .base (.int i)
  | str x => cases h; exact .base (.str x)
  | tup ds => obtain ⟨ad, xs, rfl, q, _⟩ := RepO.tup h; exact .base (.tup q)
  | lst ds => obtain ⟨ad, xs, rfl, q, _⟩ := RepO.lst h; exact .base (.lst q)
  | dic t ds =>
    obtain ⟨ad, rfl, _, ⟨_, kvs, q, _⟩ | ⟨_, kvs, q, _⟩⟩ := h
    · exact .base (.dK q)
    · exact .base (.dT q)
def isiTy : Bi → Option String
  | .isinstTuple => some "tuple"
  | .isinstList => some "list"
  | .isinstInt => some "int"
  | .isinstBool => some "bool"
  | .isinstStr => some "str"
  | _ => none
theorem isi_kit {f : Bi} {T : String} (h : isiTy f = some T) (d : PB.D) (K : PySem.W.Frag) : bi f [d] = some (.bl (isTag f d)) ∧ PySem.W.kitOne K (.type (tyNm d)) (.type T) = some (isTag f d) := by
  cases f <;> simp only [isiTy] at h <;> first | (cases h; done) | skip
  all_goals (cases h; refine ⟨by simp [bi], kit_ty ?_⟩; cases d <;> simp only [tyNm, isTag] <;> decide +kernel)
theorem E_isi {f : Bi} {T : String} (h0 : isiTy f = some T) (la : lcOk Γ.ks a = true) (h : PE X ex (tCB (rIsi X.K) (tCons (rdE Γ fq XW G a) (tCons (tC (.ty T)) tNil)))) : PE X ex (rdE Γ fq XW G (.isi f a)) := PEimp h fun σ H Q q => by
  obtain ⟨F, e, E, w⟩ := q
  simp only [ev] at w
  refine rd_step E (Wt_bnd w) fun d1 e1 v H1 w1 k1 E1 r1 => ?_
  obtain ⟨d, f1, w1⟩ := Wt_bind w1
  obtain ⟨q1, q2⟩ := isi_kit h0 d X.K
  rw [q1] at w1
  exact ⟨v, .ty T, _, _, _, rfl, .ty T, tyX_of (r1.1.fin E1 la f1), q2, w1 _ H1 k1 E1 ⟨rfl, fun z => by cases z⟩⟩
/-! list(range(..)) -/
theorem rgV_D {Z : AS} {H : Hp} : ∀ (n : Nat) (lo : Int), RepL Z H (rangeD lo n) ((List.range n).map fun i => V.int (lo + (i : Nat)))
  | 0, _ => rfl
  | n + 1, lo => by
    rw [List.range_succ_eq_map, List.map_cons, List.map_map]
    refine ⟨_, _, rfl, by show _ = _; simp, ?_⟩
    have := rgV_D (Z := Z) (H := H) n (lo + 1)
    have e : ((fun i : Nat => V.int (lo + (i : Nat))) ∘ Nat.succ) = fun i : Nat => V.int (lo + 1 + (i : Nat)) := by
      funext i
      show V.int (lo + ((i + 1 : Nat) : Int)) = _
      congr 1
      omega
    rw [e]
    exact this
def rdRg (Γ : Gm) (XW : WX) (G : Gx) (a : C) : L2.St → Hp → (Int → Int → Hp → Prop) → Prop := fun σ H Q => ∃ F e, ER Γ F H σ e ∧ Wt (ev a G e) (fun d e1 => ∃ l p, d = .lst l ∧ noLocs a = true ∧ rngOf l = some p ∧ ∀ H1, Sp Γ F σ H H1 → ER Γ F H1 σ e1 → Q p.1 p.2 H1) (XF Γ XW F σ H)
theorem PRgimp {t t' : L2.St → Hp → (Int → Int → Hp → Prop) → Prop} (h : PRg X ex t) (i : ∀ σ H Q, t' σ H Q → t σ H Q) : PRg X ex t' := fun pins s σ H Q I q => h pins s σ H Q I (i σ H Q q)
/-- range(e, ..) by its arguments -/
def tRgA (ta : TA) : L2.St → Hp → (Int → Int → Hp → Prop) → Prop := fun σ H Q => ta σ H fun vs H1 => ∃ lo hi, ((vs = [.int hi] ∧ lo = 0) ∨ vs = [.int lo, .int hi]) ∧ Q lo hi H1
theorem prg_A {e : Expr} {es : List Expr} {ta : TA} {p pos : Pos} (hg : Gl X "range") (hm : X.mg "range" = none) (ha : PA X (e :: es) ta) (he : starEach (e :: es) X.env = (false, eval e X.env) :: starEach es X.env) (hpl : (backTo pos (starEach es X.env)).any (·.1) = false) :
    PRg X (.Call (.Name "range" p) (e :: es) [] pos) (tRgA ta) := by
  intro pins s σ H Q I h
  have step := ha.run pos pins s σ H _ I h
  refine Call_ (ld_blt I hg hm boot_range (PyProof.Rows.callWith_type1 (thn step ?_) he hpl))
  rintro us s1 ⟨vs, H1, J, rs, lo, hi, hv, q⟩
  rcases hv with ⟨rfl, rfl⟩ | rfl
  · obtain ⟨u, rfl, ru⟩ := vals1 rs
    obtain ⟨t, rfl⟩ := ru
    exact call_range_1 ⟨_, 0, hi, _, _, _, H1, rfl, IsRange.new _ _ _ _ _ _ _, J.kept fun b u e => Heap.get?_push_of_some _ e, q⟩
  · obtain ⟨u, w, rfl, ru, rw'⟩ := vals2 rs
    obtain ⟨t, rfl⟩ := ru
    obtain ⟨t', rfl⟩ := rw'
    exact call_range_2 ⟨_, lo, hi, _, _, _, H1, rfl, IsRange.new _ _ _ _ _ _ _, J.kept fun b u e => Heap.get?_push_of_some _ e, q⟩
theorem R_A (h : PRg X ex (tRgA (rdA Γ XW G a))) : PRg X ex (rdRg Γ XW G a) := PRgimp h fun σ H Q q => by
  obtain ⟨F, e, E, w⟩ := q
  refine rd_stepA E w fun d e1 w1 => ?_
  obtain ⟨l, p, rfl, hn, hr, k⟩ := w1
  refine ⟨l, rfl, fun vs H1 k1 E1 rs => ?_⟩
  have rl := VRs.repL hn rs
  unfold rngOf at hr
  split at hr
  · split at hr
    · cases hr
      obtain ⟨v, r, rfl, h1, h2⟩ := rl
      cases h2
      cases h1
      exact ⟨_, _, .inl ⟨rfl, rfl⟩, k H1 k1 E1⟩
    · cases hr
  · split at hr
    · cases hr
      obtain ⟨v, r, rfl, h1, h2⟩ := rl
      obtain ⟨v2, r2, rfl, h3, h4⟩ := h2
      cases h4
      cases h1
      cases h3
      exact ⟨_, _, .inr rfl, k H1 k1 E1⟩
    · cases hr
  · cases hr
theorem rng_small {l : List PB.D} {p : Int × Int} (h : rngOf l = some p) : (-(2 ^ 62) ≤ p.1 ∧ p.1 < 2 ^ 62) ∧ -(2 ^ 62) ≤ p.2 ∧ p.2 < 2 ^ 62 := by
  unfold rngOf at h
  split at h
  · split at h
    · rename_i hs
      cases h
      unfold smallI at hs
      simp only [Bool.and_eq_true, decide_eq_true_eq] at hs
      exact ⟨⟨by omega, by omega⟩, hs⟩
    · cases h
  · split at h
    · rename_i hs
      cases h
      unfold smallI at hs
      simp only [Bool.and_eq_true, decide_eq_true_eq] at hs
      exact hs
    · cases h
  · cases h
theorem E_lrngL (h : PE X ex (tLstRg (rdRg Γ XW G a))) : PE X ex (rdE Γ fq XW G (.lrng false a)) := PEimp h fun σ H Q q => by
  obtain ⟨F, e, E, w⟩ := q
  simp only [ev] at w
  refine ⟨F, e, E, (Wt_bnd w).imp (fun d1 e1 w1 => ?_) fun x e' q => q⟩
  cases d1 with
  | lst l =>
    obtain ⟨hn, w1⟩ := Wt_ite w1
    obtain ⟨p, hp, w1⟩ := Wt_bind w1
    obtain ⟨hl, w1⟩ := Wt_ite w1
    refine ⟨l, p, rfl, hn, hp, fun H1 k1 E1 => ⟨?_, fun q hq => ?_⟩⟩
    · obtain ⟨s1, s2⟩ := rng_small hp
      unfold lim at hl
      exact ⟨s1.1, s1.2, s2.1, s2.2, by omega⟩
    · exact Res.lst (res_of (e := e1) E1 fun v' H' k E' r fr => w1 v' H' (k1.trans k) E' ⟨r, fun _ => fr.back k1⟩) E1.ztH (rgV_D _ _) hq
  | _ => exact w1.elim
theorem E_lrngT (h : PE X ex (tTupRg (rdRg Γ XW G a))) : PE X ex (rdE Γ fq XW G (.lrng true a)) := PEimp h fun σ H Q q => by
  obtain ⟨F, e, E, w⟩ := q
  simp only [ev] at w
  refine ⟨F, e, E, (Wt_bnd w).imp (fun d1 e1 w1 => ?_) fun x e' q => q⟩
  cases d1 with
  | lst l =>
    obtain ⟨hn, w1⟩ := Wt_ite w1
    obtain ⟨p, hp, w1⟩ := Wt_bind w1
    obtain ⟨hl, w1⟩ := Wt_ite w1
    refine ⟨l, p, rfl, hn, hp, fun H1 k1 E1 => ⟨?_, fun q hq => ?_⟩⟩
    · obtain ⟨s1, s2⟩ := rng_small hp
      unfold lim at hl
      exact ⟨s1.1, s1.2, s2.1, s2.2, by omega⟩
    · exact Res.tup (res_of (e := e1) E1 fun v' H' k E' r fr => w1 v' H' (k1.trans k) E' ⟨r, fun _ => fr.back k1⟩) E1.ztH (rgV_D _ _) hq
  | _ => exact w1.elim
/-! a, b = x, y: shared or owned slots -/
theorem Sp.unadd {F : Fm} {σ : L2.St} {H H' : Hp} {p : Addr} (k : Sp Γ (F.add p) σ H H') (hO : ¬ OsS Γ.ks σ p) : Sp Γ F σ H H' := by
  have np : ¬ zs Γ (F.add p) σ p := fun z => by
    rcases z with z | z
    · exact hO z
    · exact z.2 (.inr rfl)
  refine ⟨fun a o h n z => ⟨?_, z⟩, fun a o h n z => ⟨(k.ko a o h n fun y => z ?_).1, z⟩, k.dom⟩
  · by_cases ha : a = p
    · rw [ha] at h ⊢
      exact (k.ko p o h n np).1
    · exact (k.kp a o h n fun y => z (by
        rcases y with (y | y) | y
        · exact .inl y
        · exact absurd y ha
        · exact .inr y)).1
  · rcases y with y | y
    · exact .inl y
    · exact .inr ⟨y.1, fun q => y.2 (.inl q)⟩
theorem XR.unadd {F : Fm} {σ : L2.St} {H : Hp} {p : Addr} {x : Exn} {cls : Value} {od : Option Addr} (h : XR Γ (F.add p) σ H x cls od) : XR Γ F σ H x cls od := by
  obtain ⟨C, e1, e2, dx, fs, e3, e4, e5⟩ := h
  refine ⟨C, e1, e2, dx, fs, e3, e4, fun f d hf => ?_⟩
  obtain ⟨v, s1, s2⟩ := e5 f d hf
  exact ⟨v, s1, s2.ofZ fun a q => q.imp .inl id⟩
theorem XF.add {F : Fm} {σ : L2.St} {H : Hp} {p : Addr} {x : Exn} {e' : En} (h : XF Γ XW F σ H x e') (hO : ¬ OsS Γ.ks σ p) : XF Γ XW (F.add p) σ H x e' := fun cls od H' k E r => h cls od H' (k.unadd hO) E.unadd r.unadd
/-- how a slot takes a value: shared, or owned and new -/
def tkOk (Γ : Gm) (fq : Nat → Bool) (i : Nat) (c : C) : Prop := (Γ.ks[i]? = some Kd.shr ∧ Fre Γ i) ∨ (Γ.ks[i]? = some Kd.own ∧ Γ.np ≤ i ∧ frC fq c = true)
theorem setComm {α : Type} {l : List α} {i j : Nat} {x y : α} (h : i ≠ j) : (l.set i x).set j y = (l.set j y).set i x := List.set_comm _ _ h
theorem par_read (hks : G.ks = Γ.ks) {i j : Nat} (hij : i ≠ j) (ti : tkOk Γ fq i a) (tj : tkOk Γ fq j b) {D : Ends} {σ : L2.St} {H : Hp} (q : rdSt Γ fr XW G (.par i j a b) D σ H) : tPar i j (tCons (rdE Γ fq XW G a) (tCons (rdE Γ fq XW G b) tNil)) D σ H := by
  obtain ⟨F, e, E, w⟩ := q
  simp only [exec, hks] at w
  refine rd_step E (WtS_outB w) fun d e1 v H1 w1 k1 E1 r1 => ?_
  rcases ti with ⟨hi, fi⟩ | ⟨hi, ni, ci⟩
  · -- the first is shared
    refine rd_step E1 ((WtS_outB w1).imp (fun _ _ q => q) fun x e' q => XF.mono q k1) fun q e2 y H2 w2 k2 E2 r2 => ?_
    obtain ⟨hll, w2⟩ := rdS_ite' w2
    obtain ⟨la, lb⟩ := loc2 hll
    have rv : Rep (zt Γ F σ) H1 d v := r1.1.rep la
    obtain ⟨e3, q3, w2⟩ := rdS_bind w2
    obtain ⟨e4, q4, w2⟩ := rdS_map w2
    cases setK_shr hi q3
    have no : Γ.ks[i]? ≠ some Kd.own := by rw [hi]; exact fun z => nomatch z
    refine ⟨v, y, rfl, ?_⟩
    rcases tj with ⟨hj, fj⟩ | ⟨hj, nj, cj⟩
    · cases setK_shr hj q4
      have no' : Γ.ks[j]? ≠ some Kd.own := by rw [hj]; exact fun z => nomatch z
      exact w2 _ H2 (stp_same (k1.trans k2) (by rw [osS_set' no', osS_set' no])) ((E2.setShr hi fi (Rep.mono k2.kp _ _ rv)).setShr hj fj (by rw [zt_set no]; exact r2.1.rep lb))
    · obtain ⟨hd, rfl⟩ := setK_own hj q4
      obtain ⟨p, rfl, hs, h0, hz, E3, o⟩ := (r2.2 cj).back k1 hd
      have rv' : Rep (zt Γ (F.add p) σ) H2 d v := by
        refine Rep.mono (fun c u hc hn hzc => ⟨(k2.kp c u hc hn hzc).1, fun z => ?_⟩) _ _ rv
        rcases z with (z | z) | z
        · exact hzc (.inl z)
        · have h1p : H1 p = none := by
            obtain ⟨p', e', hs', _⟩ := r2.2 cj hd
            cases e'
            exact hs'
          rw [show c = p from z, h1p] at hc
          cases hc
        · exact hzc (.inr z)
      have E4 := (E3.setShr hi fi rv').setOwn hj nj h0 (by rw [zt_set no]; exact hz) (by rw [zt_set no]; exact o)
      refine w2 _ H2 ?_ E4
      have s1 := Stp.own (i := j) (k1.trans k2) hs
      refine ⟨?_, ?_, s1.dom⟩
      · rw [setComm hij, zt_set no]; exact s1.kp
      · have e2 : zs Γ F ((σ.set i (some v)).set j (some (V.ref p))) = zs Γ F (σ.set j (some (V.ref p))) := by
          rw [setComm hij]
          unfold zs
          rw [osS_set' no]
        rw [e2]
        exact s1.ko
  · -- the first is a new object
    by_cases hd1 : isHp d = true
    · obtain ⟨p, rfl, hs, h0, hz, Ep, o⟩ := r1.2 ci hd1
      have hO : ¬ OsS Γ.ks σ p := fun z => hz (.inr z)
      have np : ¬ zs Γ (F.add p) σ p := fun z => by
        rcases z with z | z
        · exact hO z
        · exact z.2 (.inr rfl)
      refine rd_step Ep ((WtS_outB w1).imp (fun _ _ q => q) fun x e' q => (XF.mono q k1).add hO) fun q e2 y H2 w2 k2 E2 r2 => ?_
      have k2' : Sp Γ F σ H1 H2 := k2.unadd hO
      obtain ⟨hll, w2⟩ := rdS_ite' w2
      obtain ⟨la, lb⟩ := loc2 hll
      obtain ⟨e3, q3, w2⟩ := rdS_bind w2
      obtain ⟨e4, q4, w2⟩ := rdS_map w2
      obtain ⟨_, rfl⟩ := setK_own hi q3
      have hp1 : ∃ u, H1 p = some u ∧ (∀ ps, u ≠ .tbl ps) := by
        cases qa : H1 p with
        | none => exact absurd qa o.there
        | some u => exact ⟨u, rfl, fun ps z => o.notTbl ps (by rw [qa, z])⟩
      obtain ⟨u, hu, hnt⟩ := hp1
      have hp2 : H2 p = some u := (k2.ko p u hu hnt np).1
      have eZ : ∀ c, zt Γ (F.add p) σ c → addZ (zt Γ F σ) p c := fun c z => by
        rcases z with (z | z) | z
        · exact .inl (.inl z)
        · exact .inr z
        · exact .inl (.inr z)
      have Ze : ∀ c, addZ (zt Γ F σ) p c → zt Γ (F.add p) σ c := fun c z => by
        rcases z with (z | z) | z
        · exact .inl (.inl z)
        · exact .inr z
        · exact .inl (.inr z)
      have o1 : Own (zt Γ (F.add p) σ) H1 p d := o.ofZ eZ
      refine ⟨_, y, rfl, ?_⟩
      rcases tj with ⟨hj, fj⟩ | ⟨hj, nj, cj⟩
      · cases setK_shr hj q4
        have no' : Γ.ks[j]? ≠ some Kd.own := by rw [hj]; exact fun z => nomatch z
        have o2 : Own (zt Γ (F.add p) σ) H2 p d := o1.mono (fun o q => by rw [hu] at q; cases q; exact hp2) k2.kp
        have E4 := (E2.setShr hj fj (r2.1.rep lb))
        have E5 := ER.setOwn E4 hi ni h0 (by rw [zt_set no']; exact hz) (by rw [zt_set no']; exact o2.ofZ Ze)
        rw [setComm (Ne.symm hij), setComm (Ne.symm hij)] at E5
        refine w2 _ H2 ?_ E5
        have s1 := Stp.own (i := i) (k1.trans k2') hs
        refine ⟨?_, ?_, s1.dom⟩
        · rw [zt_set no']; exact s1.kp
        · have e2 : zs Γ F ((σ.set i (some (V.ref p))).set j (some y)) = zs Γ F (σ.set i (some (V.ref p))) := by
            unfold zs
            rw [osS_set' no']
          rw [e2]
          exact s1.ko
      · obtain ⟨hd2, rfl⟩ := setK_own hj q4
        obtain ⟨p', rfl, hs', h0', hz', E3, o'⟩ := r2.2 cj hd2
        have npp : p ≠ p' := fun z => by rw [z] at hu; rw [hs'] at hu; cases hu
        have o2 : Own (zt Γ ((F.add p).add p') σ) H2 p d := by
          refine o1.mono (fun o q => by rw [hu] at q; cases q; exact hp2) fun c u' hc hn hzc => ⟨(k2.kp c u' hc hn hzc).1, fun z => ?_⟩
          rcases z with (z | z) | z
          · exact hzc (.inl z)
          · rw [show c = p' from z, hs'] at hc; cases hc
          · exact hzc (.inr z)
        have E4 : ER Γ (F.add p) H2 (σ.set j (some (.ref p'))) (e2.set j (some q)) := ER.setOwn E3 hj nj h0' hz' o'
        have sub : ∀ c, zt Γ (F.add p) (σ.set j (some (V.ref p'))) c → zt Γ ((F.add p).add p') σ c := fun c z => by
          rcases z with z | ⟨m, z1, z2⟩
          · exact .inl (.inl z)
          · by_cases hm : m = j
            · subst hm
              by_cases hlt : m < σ.length
              · rw [List.getElem?_set_self hlt] at z2
                cases z2
                exact .inl (.inr rfl)
              · rw [List.getElem?_eq_none (by simpa using hlt)] at z2
                cases z2
            · rw [get_set hm] at z2
              exact .inr ⟨m, z1, z2⟩
        have hzp : ¬ zt Γ F (σ.set j (some (V.ref p'))) p := fun z => by
          rcases z with z | ⟨m, z1, z2⟩
          · exact hz (.inl z)
          · by_cases hm : m = j
            · subst hm
              by_cases hlt : m < σ.length
              · rw [List.getElem?_set_self hlt] at z2
                cases z2
                exact npp rfl
              · rw [List.getElem?_eq_none (by simpa using hlt)] at z2
                cases z2
            · rw [get_set hm] at z2
              exact hO ⟨m, z1, z2⟩
        have E5 := ER.setOwn E4 hi ni h0 hzp (o2.ofZ fun c z => sub c (by
          rcases z with (z | z) | z
          · exact .inl (.inl z)
          · exact .inr z
          · exact .inl (.inr z)))
        rw [setComm (Ne.symm hij), setComm (Ne.symm hij)] at E5
        refine w2 _ H2 ?_ E5
        have hsP : H p' = none := by
          cases qa : H p' with
          | none => rfl
          | some o => exact absurd hs' (k1.dom p' (by rw [qa]; exact fun z => nomatch z))
        have s0 : Sp Γ F σ H H2 := k1.trans k2'
        have sO : ∀ c u', H c = some u' → ¬ OsS Γ.ks σ c → ¬ OsS Γ.ks ((σ.set i (some (V.ref p))).set j (some (V.ref p'))) c := fun c u' hc hn ⟨m, z1, z2⟩ => by
          by_cases hm : m = j
          · subst hm
            by_cases hlt : m < (σ.set i (some (V.ref p))).length
            · rw [List.getElem?_set_self hlt] at z2
              cases z2
              rw [hsP] at hc
              cases hc
            · rw [List.getElem?_eq_none (by simpa using hlt)] at z2
              cases z2
          · rw [get_set hm] at z2
            by_cases hm2 : m = i
            · subst hm2
              by_cases hlt : m < σ.length
              · rw [List.getElem?_set_self hlt] at z2
                cases z2
                rw [hs] at hc
                cases hc
              · rw [List.getElem?_eq_none (by simpa using hlt)] at z2
                cases z2
            · rw [get_set hm2] at z2
              exact hn ⟨m, z1, z2⟩
        refine ⟨fun c u' hc hn hzc => ⟨(s0.kp c u' hc hn hzc).1, fun z => ?_⟩, fun c u' hc hn hzc => ⟨(s0.ko c u' hc hn hzc).1, fun z => ?_⟩, s0.dom⟩
        · rcases z with z | z
          · exact hzc (.inl z)
          · exact sO c u' hc (fun y => hzc (.inr y)) z
        · rcases z with z | z
          · exact sO c u' hc (fun y => hzc (.inl y)) z
          · exact hzc (.inr z)
    · refine rd_step E1 ((WtS_outB w1).imp (fun _ _ q => q) fun x e' q => XF.mono q k1) fun q e2 y H2 w2 k2 E2 r2 => ?_
      obtain ⟨hll, w2⟩ := rdS_ite' w2
      obtain ⟨e3, q3, w2⟩ := rdS_bind w2
      exact absurd (setK_own hi q3).1 hd1
/-- .. where the pair itself is laid, and left -/
abbrev exN (D : Ends) : Ends := { D with nx := fun σ' H' => ∀ p o, H' p = none → D.nx σ' (upd H' p o) }
theorem rdS_ex {F : Fm} {D : Ends} {σ : L2.St} {H : Hp} {o : Option Out} (h : rdS' Γ fr XW F D σ H o) : rdS' Γ fr XW F (exN D) σ H o := by
  refine h.imp (fun e q σ' H' k E p u hp => ?_) (fun _ q => q) (fun _ q => q) (fun _ _ q => q) fun _ _ q => q
  have x : Ex H' (upd H' p u) := Ex.new hp
  exact q σ' _ (k.trans (x.sp (Γ := Γ) (F := F) (σ := σ')).stp) (E.ext x)
theorem rdSt_ex {D : Ends} {σ : L2.St} {H : Hp} {c : C} (h : rdSt Γ fr XW G c D σ H) : rdSt Γ fr XW G c (exN D) σ H := by
  obtain ⟨F, e, E, w⟩ := h
  exact ⟨F, e, E, rdS_ex w⟩
/-! three shared slots -/
theorem par3_read {c : C} (hks : G.ks = Γ.ks) {i j l : Nat} (hi : Γ.ks[i]? = some Kd.shr) (hj : Γ.ks[j]? = some Kd.shr) (hl : Γ.ks[l]? = some Kd.shr) (fi : Fre Γ i) (fj : Fre Γ j) (fl : Fre Γ l) {D : Ends} {σ : L2.St} {H : Hp}
    (q : rdSt Γ fr XW G (.par3 i j l a b c) D σ H) : L2.tPar3 i j l (tCons (rdE Γ fq XW G a) (tCons (rdE Γ fq XW G b) (tCons (rdE Γ fq XW G c) tNil))) D σ H := by
  obtain ⟨F, e, E, w⟩ := q
  simp only [exec, hks] at w
  refine rd_step E (WtS_outB w) fun d e1 v H1 w1 k1 E1 r1 => ?_
  refine rd_step E1 ((WtS_outB w1).imp (fun _ _ q => q) fun x e' q => XF.mono q k1) fun d2 e2 v2 H2 w2 k2 E2 r2 => ?_
  refine rd_step E2 ((WtS_outB w2).imp (fun _ _ q => q) fun x e' q => XF.mono q (k1.trans k2)) fun d3 e3 v3 H3 w3 k3 E3 r3 => ?_
  obtain ⟨hll, w3⟩ := rdS_ite' w3
  have h3 : isLoc a = false ∧ isLoc b = false ∧ isLoc c = false := by
    revert hll
    cases isLoc a <;> cases isLoc b <;> cases isLoc c <;> simp
  obtain ⟨e4, q4, w3⟩ := rdS_bind w3
  obtain ⟨e5, q5, w3⟩ := rdS_bind w3
  obtain ⟨e6, q6, w3⟩ := rdS_map w3
  cases setK_shr hi q4
  cases setK_shr hj q5
  cases setK_shr hl q6
  have ni : Γ.ks[i]? ≠ some Kd.own := by rw [hi]; exact fun z => nomatch z
  have nj : Γ.ks[j]? ≠ some Kd.own := by rw [hj]; exact fun z => nomatch z
  have nl : Γ.ks[l]? ≠ some Kd.own := by rw [hl]; exact fun z => nomatch z
  have g1 : Rep (zt Γ F σ) H3 d v := Rep.mono (k2.trans k3).kp _ _ (r1.1.rep h3.1)
  have g2 : Rep (zt Γ F σ) H3 d2 v2 := Rep.mono k3.kp _ _ (r2.1.rep h3.2.1)
  have g3 : Rep (zt Γ F σ) H3 d3 v3 := r3.1.rep h3.2.2
  have E6 := ((E3.setShr hi fi g1).setShr hj fj (by rw [zt_set ni]; exact g2)).setShr hl fl (by rw [zt_set nj, zt_set ni]; exact g3)
  exact ⟨v, v2, v3, rfl, w3 _ H3 (stp_same ((k1.trans k2).trans k3) (by rw [osS_set' nl, osS_set' nj, osS_set' ni])) E6⟩
end
end PB
set_option maxHeartbeats 4000000
/-! Iw: when a, b = x, y is stored at once. -/
namespace PB
open PySem PySem.Spec PyProof.Rows L2
def isStar : Expr → Bool
  | .Starred _ _ => true
  | _ => false
section
variable {env : Env} {x y z : Str} {px py pz p p2 : Pos} {k k2 : Nat} {a b c : Expr}
theorem star_eq : (match a with | .Starred .. => true | _ => false) = isStar a := by cases a <;> rfl
theorem sw_two (hk : env.scope.kind = .function) (hx : env.scope.names.lookup x = some .local) (hy : env.scope.names.lookup y = some .local) (hl : (py.line == px.line) = true) (hxy : x ≠ y) (na : isStar a = false) (nb : isStar b = false)
    (hf : (foldedForSure 8 a && foldedForSure 8 b) = false) (hc : (constantsAlone 8 a && constantsAlone 8 b) = false) :
    swappedStores [.Tuple [.Name x px, .Name y py] k p] (.Tuple [a, b] k2 p2) env = pure (some [x, y]) := by
  have kx : env.kindOf x = some .local := hx
  have ky : env.kindOf y = some .local := hy
  have hb : env.blockKind = .function := by unfold Env.blockKind; rw [hk]; rfl
  have e2 : (y == x) = false := by simpa using (Ne.symm hxy)
  have sa := (star_eq (a := a)).trans na
  have sb := (star_eq (a := b)).trans nb
  have h1 : ¬ (foldedForSure 8 a = true ∧ foldedForSure 8 b = true) := fun q => by rw [q.1, q.2] at hf; cases hf
  have h2 : ¬ (constantsAlone 8 a = true ∧ constantsAlone 8 b = true) := fun q => by rw [q.1, q.2] at hc; cases hc
  unfold swappedStores
  simp [hb, kx, ky, hl, Expr.pos, List.filterMap, List.eraseDups, List.eraseDupsBy, List.eraseDupsBy.loop, e2]
  rw [if_neg (fun q => by
    rcases q with q | q
    · exact Bool.false_ne_true (sa.symm.trans q)
    · exact Bool.false_ne_true (sb.symm.trans q)), if_neg h1, if_neg h2]
theorem sw_three (hk : env.scope.kind = .function) (hx : env.scope.names.lookup x = some .local) (hy : env.scope.names.lookup y = some .local) (hz : env.scope.names.lookup z = some .local) (hl : (py.line == px.line) = true) (hl2 : (pz.line == px.line) = true) (hxy : x ≠ y) (hxz : x ≠ z) (hyz : y ≠ z) (na : isStar a = false) (nb : isStar b = false) (nc : isStar c = false)
    (hf : (foldedForSure 8 a && foldedForSure 8 b && foldedForSure 8 c) = false) (hc : (constantsAlone 8 a && constantsAlone 8 b && constantsAlone 8 c) = false) :
    swappedStores [.Tuple [.Name x px, .Name y py, .Name z pz] k p] (.Tuple [a, b, c] k2 p2) env = pure (some [x, y, z]) := by
  have kx : env.kindOf x = some .local := hx
  have ky : env.kindOf y = some .local := hy
  have kz : env.kindOf z = some .local := hz
  have hb : env.blockKind = .function := by unfold Env.blockKind; rw [hk]; rfl
  have e2 : (y == x) = false := by simpa using (Ne.symm hxy)
  have e3 : (z == x) = false := by simpa using (Ne.symm hxz)
  have e4 : (z == y) = false := by simpa using (Ne.symm hyz)
  have sa := (star_eq (a := a)).trans na
  have sb := (star_eq (a := b)).trans nb
  have sc := (star_eq (a := c)).trans nc
  have h1 : ¬ (foldedForSure 8 a = true ∧ foldedForSure 8 b = true ∧ foldedForSure 8 c = true) := fun q => by rw [q.1, q.2.1, q.2.2] at hf; cases hf
  have h2 : ¬ (constantsAlone 8 a = true ∧ constantsAlone 8 b = true ∧ constantsAlone 8 c = true) := fun q => by rw [q.1, q.2.1, q.2.2] at hc; cases hc
  unfold swappedStores
  simp [hb, kx, ky, kz, hl, hl2, Expr.pos, List.filterMap, List.eraseDups, List.eraseDupsBy, List.eraseDupsBy.loop, e2, e3, e4]
  rw [if_neg (fun q => by
    rcases q with q | q | q
    · exact Bool.false_ne_true (sa.symm.trans q)
    · exact Bool.false_ne_true (sb.symm.trans q)
    · exact Bool.false_ne_true (sc.symm.trans q)), if_neg h1, if_neg h2]
def plainB (sc : Scope) (line : Nat) (x : Str) (p : Pos) : Bool := decide (sc.names.lookup x = some .local) && (p.line == line)
theorem sw_none2 {ts vs : List Expr} (h : ((ts.filterMap fun
      | .Name id pos => if env.kindOf id == some .local && pos.line == (ts.head?.map (·.pos.line)).getD 0 then some id else none
      | _ => none).length != ts.length) = true ∨ vs.all (foldedForSure 8) = true) : swappedStores [.Tuple ts k p] (.Tuple vs k2 p2) env = pure none := by
  unfold swappedStores
  dsimp only [pure_bind, bind_pure]
  by_cases c1 : ((!(ts.length == 2 || ts.length == 3) || vs.length != ts.length || env.blockKind != .function) = true)
  · simp only [c1, if_true, pure_bind]
  · simp only [c1, if_false, pure_bind]
    rw [if_neg Bool.false_ne_true]
    split
    · rfl
    · rcases h with h | h
      · exact if_pos ((Bool.or_eq_true _ _).mpr (.inl h))
      · simp only [h, if_true]
        exact ite_self _
end
end PB
set_option maxHeartbeats 4000000
/-! Ix: {k: v, ..} with text keys. -/
namespace PB
open PySem PySem.Spec PyProof.Rows L2
def keyE : Str → Option Expr → Bool
  | k, some (.Constant (.str x) _ _) => decide (k = x)
  | _, _ => false
/-- the pairs' readings, keys known -/
def trsOf (ks : List Str) (ts : List TE) : List (TE × TE) := (ks.map fun k => tC (.str k)).zip ts
section
variable {X : Cx} {Γ : Gm} {fq : Nat → Bool} {XW : WX} {G : Gx} {a b : C} {ex : Expr}
/-- the values' readings, one after the other -/
def rdD (Γ : Gm) (fq : Nat → Bool) (XW : WX) (G : Gx) : C → List TE
  | .cons a b => rdE Γ fq XW G a :: rdD Γ fq XW G b
  | _ => []
theorem zipLen {ks : List Str} {ds : List PB.D} {kvs : List (Str × PB.D)} (h : flds0 ks ds = some kvs) : ds.length = ks.length ∧ kvs = ks.zip ds := by
  induction ks generalizing ds kvs with
  | nil => cases ds with
    | nil => cases h; exact ⟨rfl, rfl⟩
    | cons d ds => cases h
  | cons k ks ih => cases ds with
    | nil => cases h
    | cons d ds =>
      simp only [flds0] at h
      obtain ⟨l, h1, h2⟩ := Option.map_eq_some_iff.mp h
      cases h2
      obtain ⟨i1, i2⟩ := ih h1
      subst i2
      exact ⟨by simp [i1], rfl⟩
def consN0 : C → Nat
  | .cons _ b => consN0 b + 1
  | _ => 0
/-- the pairs, by the values' code -/
theorem pairs_read {F : Fm} {σ : L2.St} : ∀ {c : C} {ks : List Str} {e : En} {H : Hp} {Q : List (V × V) → Hp → Prop}, ER Γ F H σ e → isTgs c = true → consN0 c = ks.length → noLocs c = true →
    Wt (ev c G e) (fun d e1 => ∀ vs H1, Sp Γ F σ H H1 → ER Γ F H1 σ e1 → (∃ l, d = .lst l ∧ RepL (zt Γ F σ) H1 l vs) → Q ((ks.map V.str).zip vs) H1) (XF Γ XW F σ H) → tPairs (trsOf ks (rdD Γ fq XW G c)) σ H Q := by
  intro c
  induction c with
  | nil =>
    intro ks e H Q E _ hn _ w
    cases ks with
    | nil =>
      simp only [ev] at w
      exact w [] H Sp.refl E ⟨[], rfl, rfl⟩
    | cons k ks => simp [consN0] at hn
  | cons a b iha ihb =>
    intro ks e H Q E ht hn hl w
    cases ks with
    | nil => simp [consN0] at hn
    | cons k ks =>
      simp only [noLocs, Bool.and_eq_true, Bool.not_eq_true'] at hl
      simp only [ev] at w
      show rdE Γ fq XW G a σ H (fun y H2 => tPairs (trsOf ks (rdD Γ fq XW G b)) σ H2 fun ps H3 => Q ((V.str k, y) :: ps) H3)
      refine rd_step E (Wt_bnd w) fun d1 e1 v H1 w1 k1 E1 r1 => ?_
      refine ihb E1 ht (by simpa [consN0] using hn) hl.2 ((Wt_bnd w1).imp (fun d2 e2 w2 => ?_) fun x e' q => XF.mono q k1)
      rintro vs H3 k3 E3 ⟨l, rfl, rl⟩
      exact w2 (v :: vs) H3 (k1.trans k3) E3 ⟨d1 :: l, rfl, v, vs, rfl, Rep.mono k3.kp _ _ (r1.1.rep hl.1), rl⟩
  | _ => intro ks e H Q E ht; cases ht
theorem merge_new : ∀ {l acc : List (Key × V)}, (∀ p ∈ l, ∀ q ∈ acc, q.1 ≠ p.1) → (l.map (·.1)).Nodup → mergeK acc l = acc ++ l
  | [], acc, _, _ => by simp [mergeK]
  | p :: l, acc, h, nd => by
    have h1 : putK acc p.1 p.2 = acc ++ [p] := by
      unfold putK
      rw [if_neg]
      intro z
      obtain ⟨q, hq, e⟩ := List.any_eq_true.mp z
      exact h p List.mem_cons_self q hq (of_decide_eq_true e)
    show mergeK (putK acc p.1 p.2) l = _
    have nd' : (p.1 :: l.map (·.1)).Nodup := nd
    rw [h1, merge_new ?_ (List.nodup_cons.mp nd').2]
    · simp
    · intro q hq r hr
      rcases List.mem_append.mp hr with hr | hr
      · exact h q (List.mem_cons_of_mem _ hq) r hr
      · rw [List.mem_singleton.mp hr]
        intro z
        have := (List.nodup_cons.mp nd').1
        exact this (by rw [z]; exact List.mem_map.mpr ⟨q, hq, rfl⟩)
theorem repK_zip {Z : AS} {H : Hp} : ∀ {ks : List Str} {l : List PB.D} {vs : List V}, l.length = ks.length → RepL Z H l vs → RepK Z H ((ks.zip l).map fun p => (PB.D.str p.1, p.2)) ((ks.map fun k => (Sum.inr k : Key)).zip vs)
  | [], [], _, _, h => by cases h; rfl
  | k :: ks, d :: l, _, hl, h => by
    obtain ⟨v, r, rfl, h1, h2⟩ := h
    exact ⟨.inr k, v, _, rfl, rfl, h1, repK_zip (by simpa using hl) h2⟩
  | [], _ :: _, _, hl, _ => by simp at hl
  | _ :: _, [], _, hl, _ => by simp at hl
theorem zip_keys : ∀ (ks : List Str) (vs : List V), (ks.map V.str).zip vs = ((ks.map fun k => (Sum.inr k : Key)).zip vs).map fun kv => (kV kv.1, kv.2)
  | [], _ => rfl
  | _ :: _, [] => rfl
  | k :: ks, v :: vs => by simp [zip_keys ks vs, kV]
theorem zip_fst : ∀ (ks : List Str) (vs : List V), vs.length = ks.length → ((ks.map fun k => (Sum.inr k : Key)).zip vs).map (·.1) = ks.map fun k => (Sum.inr k : Key)
  | [], [], _ => rfl
  | [], _ :: _, h => by simp at h
  | _ :: _, [], h => by simp at h
  | k :: ks, v :: vs, h => by simp [zip_fst ks vs (by simpa using h)]
theorem E_disp {ks : List Str} (hn : consN0 a = ks.length) (ht : isTgs a = true) (hl : noLocs a = true) (nd : ks.Nodup) (h15 : ks.length ≤ 15) (h : PE X ex (tDisp (trsOf ks (rdD Γ fq XW G a)))) : PE X ex (rdE Γ fq XW G (.disp ks a)) := PEimp h fun σ H Q q p hp => by
  obtain ⟨F, e, E, w⟩ := q
  simp only [ev] at w
  have p0 : F.H0 p = none := E.h0 hp
  have pz : ¬ zt Γ F σ p := fun z => (E.ztH p z).1 hp
  have hO : ¬ OsS Γ.ks σ p := fun z => pz (.inr z)
  have x0 : Ex H (upd H p (.dK [])) := Ex.new hp
  have E0 : ER Γ (F.add p) (upd H p (.dK [])) σ e := E.extZ x0 fun q hq => by
    rcases hq with hq | hq
    · exact .inl hq
    · subst hq
      exact .inr ⟨hp, (by intro z; rw [upd_same] at z; cases z), (by intro _ z; rw [upd_same] at z; cases z), (by intro _ z; rw [upd_same] at z; cases z)⟩
  have np : ¬ zs Γ (F.add p) σ p := fun z => by
    rcases z with z | z
    · exact hO z
    · exact z.2 (.inr rfl)
  refine pairs_read E0 ht hn hl ((Wt_bnd w).imp (fun d e1 w1 => ?_) fun x e' q => (XF.mono q (x0.sp (Γ := Γ) (F := F) (σ := σ))).add hO)
  rintro vs H1 k1 E1 ⟨l, rfl, rl⟩
  obtain ⟨_, w1⟩ := Wt_ite w1
  have hp1 : H1 p = some (.dK []) := (k1.ko p _ upd_same (fun ps z => by cases z) np).1
  cases hf : flds0 ks l with
  | none => rw [hf] at w1; exact w1.elim
  | some kvs =>
    rw [hf] at w1
    obtain ⟨ll, rfl⟩ := zipLen hf
    have lv := RepL.length _ _ rl
    have hm : mergeK [] ((ks.map fun k => (Sum.inr k : Key)).zip vs) = (ks.map fun k => (Sum.inr k : Key)).zip vs := by
      rw [merge_new (fun _ _ _ q => by cases q) ?_]
      · rfl
      · rw [zip_fst ks vs (by omega)]
        exact List.Pairwise.map _ (fun a b hab e => hab (Sum.inr.inj e)) nd
    refine ⟨hp1, (ks.map fun k => (Sum.inr k : Key)).zip vs, zip_keys ks vs, by simp; omega, ?_⟩
    rw [hm]
    have k1' : Sp Γ F σ (upd H p (.dK [])) H1 := k1.unadd hO
    have EA : ER Γ (F.add p) (upd H1 p (.dK ((ks.map fun k => (Sum.inr k : Key)).zip vs))) σ e1 := E1.wrO hp1 (fun _ z => by cases z) (fun _ z => by unfold LamX.CodeO at z; cases z) (fun _ z => by cases z) (fun _ z => by cases z) (fun _ z => by cases z) (.inr rfl) p0
    have dz : zt Γ (F.add p) σ p := .inl (.inr rfl)
    have kz : Kp (zt Γ (F.add p) σ) (zt Γ (F.add p) σ) H1 (upd H1 p (.dK ((ks.map fun k => (Sum.inr k : Key)).zip vs))) := fun c u hc _ hz => ⟨by rw [upd_ne (fun z => hz (by rw [z]; exact dz))]; exact hc, hz⟩
    have rK : RepK (zt Γ (F.add p) σ) (upd H1 p (.dK ((ks.map fun k => (Sum.inr k : Key)).zip vs))) ((ks.zip l).map fun p => (PB.D.str p.1, p.2)) ((ks.map fun k => (Sum.inr k : Key)).zip vs) := repK_zip ll (RepL.mono kz _ _ rl)
    have old : ∀ c u, H c = some u → upd H1 p (.dK ((ks.map fun k => (Sum.inr k : Key)).zip vs)) c = H1 c := fun c u hc => upd_ne fun z => by rw [z, hp] at hc; cases hc
    refine w1 (.ref p) _ ⟨fun c u hc hn' hz => ⟨?_, hz⟩, fun c u hc hn' hz => ⟨?_, hz⟩, fun c hc => upd_dom c (k1'.dom c (upd_dom c hc))⟩ EA.unadd ⟨⟨p, rfl, pz, .inl ⟨rfl, _, upd_same, ?_⟩⟩, fun _ _ => ⟨p, rfl, hp, p0, pz, EA, .inl ⟨rfl, _, upd_same, ?_⟩⟩⟩
    · rw [old c u hc]; exact (k1'.kp c u (x0 c u hc) hn' hz).1
    · rw [old c u hc]; exact (k1'.ko c u (x0 c u hc) hn' hz).1
    · exact RepK.mono (Kp.sub fun c z => z.imp .inl id) _ _ rK
    · exact RepK.mono (Kp.sub fun c z => by
        rcases z with (z | z) | z
        · exact .inl (.inl z)
        · exact .inr z
        · exact .inl (.inr z)) _ _ rK
end
end PB
set_option maxHeartbeats 4000000
/-! Iy: sorted, min, max over plain values. -/
namespace PB
open PySem PySem.Spec PyProof.Rows L2

mutual
theorem alike_py : ∀ (x y : D), PySem.W.alike (toPy x) (toPy y) = alikeD x y
  | .non, y => by cases y <;> simp [toPy, PySem.W.alike, alikeD]
  | .bl b, y => by cases y <;> simp [toPy, PySem.W.alike, alikeD]
  | .int i, y => by cases y <;> simp [toPy, PySem.W.alike, alikeD]
  | .str x, y => by cases y <;> simp [toPy, PySem.W.alike, alikeD]
  | .tup xs, y => by
    cases y with
    | tup ys => simp only [toPy, PySem.W.alike, alikeD]; exact alike_pyL xs ys
    | _ => simp [toPy, PySem.W.alike, alikeD]
  | .lst xs, y => by
    cases y with
    | lst ys => simp only [toPy, PySem.W.alike, alikeD]; exact alike_pyL xs ys
    | _ => simp [toPy, PySem.W.alike, alikeD]
  | .dic _ _, y => by cases y <;> simp [toPy, PySem.W.alike, alikeD]
theorem alike_pyL : ∀ (xs ys : List D), PySem.W.alikeAll (toPyL xs) (toPyL ys) = alikeL xs ys
  | [], ys => by simp [toPyL, PySem.W.alikeAll, alikeL]
  | x :: xs, [] => by simp [toPyL, PySem.W.alikeAll, alikeL]
  | x :: xs, y :: ys => by simp only [toPyL, PySem.W.alikeAll, alikeL, alike_py x y, alike_pyL xs ys]
end
mutual
theorem lt_py : ∀ (x y : D), alikeD x y = true → PySem.W.dataLt (toPy x) (toPy y) = ltT x y
  | .non, y, h => by
    cases y <;> simp [alikeD] at h
    simp [toPy, ltT, PySem.W.dataLt, PySem.W.keyToks, PyProof.Rows.lexLt]
  | .bl b, y, h => by
    cases y <;> simp [alikeD] at h
    rename_i c
    simp only [toPy, ltT, PySem.W.dataLt_bool]
    cases b <;> cases c <;> decide
  | .int i, y, h => by
    cases y <;> simp [alikeD] at h
    simp only [toPy, ltT, PySem.W.dataLt_int]
  | .str x, y, h => by
    cases y <;> simp [alikeD] at h
    simp only [toPy, ltT, PySem.W.dataLt_str]
  | .tup xs, y, h => by
    cases y <;> simp [alikeD] at h
    rename_i ys
    simp only [toPy, ltT, PySem.W.dataLt_tuple]
    exact lt_pyL xs ys h
  | .lst xs, y, h => by
    cases y <;> simp [alikeD] at h
    rename_i ys
    simp only [toPy, ltT, PySem.W.dataLt_list]
    exact lt_pyL xs ys h
  | .dic _ _, y, h => by cases y <;> simp [alikeD] at h
theorem lt_pyL : ∀ (xs ys : List D), alikeL xs ys = true → PyProof.Rows.lexLt PyProof.Rows.itemOrd (PySem.W.keyToksAll (toPyL xs)) (PySem.W.keyToksAll (toPyL ys)) = ltTL xs ys
  | [], [], h => by
    simp only [toPyL, ltTL]
    exact PyProof.Rows.lex_irrefl _
  | [], y :: ys, h => by
    simp only [toPyL, ltTL, PySem.W.keyToksAll, PyProof.Rows.lexLt]
    rfl
  | x :: xs, [], h => by
    simp only [toPyL, ltTL, PySem.W.keyToksAll, PyProof.Rows.lexLt]
    rfl
  | x :: xs, y :: ys, h => by
    simp only [alikeL, Bool.and_eq_true] at h
    simp only [toPyL, ltTL]
    rw [PySem.W.dataLt_cons (by rw [alike_py]; exact h.1), eqv_py, lt_py x y h.1, lt_pyL xs ys h.2]
end
theorem alikeL_ints : ∀ {xs ys : List D}, xs.all isIntD = true → ys.all isIntD = true → alikeL xs ys = true
  | [], _, _, _ => by simp [alikeL]
  | _ :: _, [], _, _ => by simp [alikeL]
  | x :: xs, y :: ys, h, h' => by
    simp only [List.all_cons, Bool.and_eq_true] at h h'
    have hx : alikeD x y = true := by
      cases x <;> simp [isIntD] at h
      cases y <;> simp [isIntD] at h'
      simp [alikeD]
    simp only [alikeL, hx, alikeL_ints h.2 h'.2, Bool.and_self]
theorem allAlike_of {l : List D} (h : allAlike l = true) : ∀ x ∈ l, ∀ y ∈ l, alikeD x y = true := by
  intro x hx y hy
  unfold allAlike at h
  rcases (Bool.or_eq_true _ _).mp h with h | h
  · rcases (Bool.or_eq_true _ _).mp h with h | h
    · have h1 := List.all_eq_true.mp h x hx
      have h2 := List.all_eq_true.mp h y hy
      cases x <;> simp [isIntD] at h1
      cases y <;> simp [isIntD] at h2
      simp [alikeD]
    · have h1 := List.all_eq_true.mp h x hx
      have h2 := List.all_eq_true.mp h y hy
      cases x <;> simp only [isIntT] at h1 <;> try cases h1
      cases y <;> simp only [isIntT] at h2 <;> try cases h2
      simp only [alikeD]
      exact alikeL_ints h1 h2
  · exact List.all_eq_true.mp (List.all_eq_true.mp h x hx) y hy
theorem mem_py {l : List D} {p : PyData} (h : p ∈ toPyL l) : ∃ d ∈ l, p = toPy d := by
  induction l with
  | nil => simp [toPyL] at h
  | cons x r ih =>
    simp only [toPyL, List.mem_cons] at h
    rcases h with rfl | h
    · exact ⟨x, List.mem_cons_self, rfl⟩
    · obtain ⟨d, hd, e⟩ := ih h
      exact ⟨d, List.mem_cons_of_mem _ hd, e⟩
theorem toPyL_map (l : List D) : toPyL l = l.map toPy := by
  induction l with
  | nil => simp [toPyL]
  | cons x r ih => simp [toPyL, ih]
/-- insertion from behind is the stable sort -/
theorem insT_sorted {le : D → D → Bool} {x : D} {l₁ l₂ : List D} (hle : ∀ y ∈ l₁ ++ l₂, le x y = !ltT y x) (h1 : ∀ b ∈ l₁, (!le x b) = true) (h2 : ∀ b ∈ l₂, le x b = true) : insT x (l₁ ++ l₂) = l₁ ++ x :: l₂ := by
  induction l₁ with
  | nil =>
    cases l₂ with
    | nil => rfl
    | cons y r =>
      have := h2 y List.mem_cons_self
      rw [hle y (by simp)] at this
      simp only [List.nil_append, insT]
      rw [if_neg (by simpa using this)]
  | cons y r ih =>
    have := h1 y List.mem_cons_self
    rw [hle y (by simp)] at this
    simp only [List.cons_append, insT]
    rw [if_pos (by simpa using this), ih (fun z hz => hle z (by simp only [List.cons_append]; exact List.mem_cons_of_mem _ hz)) fun b hb => h1 b (List.mem_cons_of_mem _ hb)]
theorem sortT_merge {le : D → D → Bool} (T : PySem.W.TotalLe le) : ∀ {l : List D}, (∀ x ∈ l, ∀ y ∈ l, le x y = !ltT y x) → sortT l = l.mergeSort le
  | [], _ => by simp [sortT]
  | a :: l, h => by
    have tr : ∀ a b c : D, le a b = true → le b c = true → le a c = true := T.trans
    have to : ∀ a b : D, (le a b || le b a) = true := fun a b => by
      rcases T.total a b with q | q <;> simp [q]
    obtain ⟨l₁, l₂, e1, e2, h1⟩ := List.mergeSort_cons tr to a l
    have ih := sortT_merge T (l := l) fun x hx y hy => h x (List.mem_cons_of_mem _ hx) y (List.mem_cons_of_mem _ hy)
    have pw := List.pairwise_mergeSort tr to (a :: l)
    rw [e1] at pw
    have h2 : ∀ b ∈ l₂, le a b = true := fun b hb => (List.pairwise_cons.mp (List.pairwise_append.mp pw).2.1).1 b hb
    show insT a (sortT l) = _
    rw [ih, e2, e1]
    refine insT_sorted (fun y hy => ?_) h1 h2
    rw [← e2] at hy
    exact h a List.mem_cons_self y (List.mem_cons_of_mem _ ((List.mergeSort_perm _ _).mem_iff.mp hy))
/-! sorting tuples of which the first is empty -/
section
open PySem.W PySem.SeqAt
variable {prog : Program} {w : World} {A : Around} {s : Shared}
theorem call_tuple_lt {E : Value → Shared → Prop} {Q : Value → Shared → Prop} {l b : Addr} {items items2 : Array Value} {e r : Nat → Bool} (hl : s.heap.IsTuple l items) (hb : s.heap.IsTuple b items2)
    (he : ∀ j (h1 : j < items.size) (h2 : j < items2.size), EqAt A.in1 s items[j] items2[j] (e j)) (hr : ∀ j (h1 : j < items.size) (h2 : j < items2.size), e j = false → RcLt A.in1 s items[j] items2[j] (r j))
    (h : Q (.bool (firstLt e r (decide (items.size < items2.size)) (List.range (min items.size items2.size)))) s) : wpAny (model prog w) A (call (.builtin "tuple.__lt__") [.ref l, .ref b]) Q E s := by
  obtain ⟨⟨cls, dd, data, sl⟩, ho, hc, n, hd⟩ := id hl
  obtain ⟨⟨cls2, dd2, data2, sl2⟩, ho2, hc2, n2, hd2⟩ := id hb
  simp only at hc hd hc2 hd2
  subst hc hd hc2 hd2
  exact PySem.call_meets F.slot_tuple_lt ⟨_, ho, rfl⟩ F.entry_tuple_lt (F.args_tuple_lt_2 _ _) (tuple_ltAt l b items items2 n n2 dd dd2 sl sl2 e r) ⟨ho, ho2, he, hr, h⟩
theorem oneLt_tup {E : Value → Shared → Prop} {xs ys : List PyData} {a b : Value} {as bs : List Addr} {Q : Bool → Shared → Prop} (ra : Reads s.heap a (.tuple xs) as) (rb : Reads s.heap b (.tuple ys) bs) (h : alike (.tuple xs) (.tuple ys) = true)
    (hu : A.units + min (PyData.tuple xs).depth (PyData.tuple ys).depth < cLine) (hq : Q (dataLt (.tuple xs) (.tuple ys)) s) : wpAny (model prog w) A (oneLt' true a b) Q E s := by
  have hal : alikeAll xs ys = true := by simpa [alike] using h
  cases ra with
  | @tuple l o vs n _ as₁ h1 h2 h3 h4 =>
    cases rb with
    | @tuple l' o' vs' n' _ bs₁ k1 k2 k3 k4 =>
      have n1 : vs.size = xs.length := by simpa using ReadsAll.length _ _ _ h4
      have n2 : vs'.size = ys.length := by simpa using ReadsAll.length _ _ _ k4
      rw [dataLt_tuple, ← firstLt_toks xs ys hal, ← n1, ← n2] at hq
      rw [oneLt'_eq]
      simp only [if_true]
      refine wpAny_bind (wpAny_cRoomFor (room_here hu) ?_)
      refine wpAny_bind (wpAny_callSpecialIfBound?_slot (T := "tuple") ⟨_, h1, h2⟩ F.slot_tuple_lt (call_tuple_lt (e := pairEq xs ys) (r := fun j => dataLt (xs.getD j .none) (ys.getD j .none)) ⟨_, h1, h2, _, h3⟩ ⟨_, k1, k2, _, k3⟩ (fun j j1 j2 => ?_) (fun j j1 j2 hj => ?_) ?_))
      · have := eqAt_alikeAll xs ys A.in1 s vs.toList vs'.toList _ _ h4 k4 hal (room_in hu) j (by simpa using j1) (by simpa using j2)
        simpa using this
      · have := rcLt_alikeAll xs ys A.in1 s vs.toList vs'.toList _ _ h4 k4 hal (room_in hu) j (by simpa using j1) (by simpa using j2) hj
        simpa using this
      · exact wpAny_truthy_bool hq
/-- what stands first in a tuple, if it is one -/
theorem first_of {M : Model} {E : Value → Shared → Prop} {v : Value} {xs : List PyData} {as : List Addr} (r : Reads s.heap v (.tuple xs) as) {Q : Option Value → Shared → Prop} (h : ∀ o, (xs = [] → o = none) → Q o s) : wpAny M A (firstOfTuple' v) Q E s := by
  rw [kas_first_eq]
  cases r with
  | @tuple a o vs n _ _ ho hc hd hr =>
    refine wpAny_bind (Looks.here (show Looks M s.heap (typeOf (.ref a)) o.cls from (Looks.ld ho).andThen .now) ?_)
    rw [hc, if_neg (by first | decide | simp)]
    refine wpAny_bind (listItems_at ho hd (wpAny_pure (h _ fun e => ?_)))
    subst e
    have : vs.toList = [] := by
      have := ReadsAll.length _ _ _ hr
      exact List.eq_nil_of_length_eq_zero (by simpa using this)
    have : vs = #[] := by simpa using this
    subst this
    rfl
theorem firsts_any {M : Model} {E : Value → Shared → Prop} : ∀ {vs : List Value} {ds : List PyData}, EachIs (fun v d => ∃ as, Reads s.heap v d as) vs ds → (∀ d ∈ ds, ∃ xs, d = .tuple xs) → ∀ {Q : List (Option Value) → Shared → Prop}, (∀ os, os.length = vs.length → Q os s) → wpAny M A (vs.mapM firstOfTuple') Q E s
  | _, _, .nil, _, Q, h => by rw [List.mapM_nil]; exact wpAny_pure (h [] rfl)
  | _, _, .cons (b := d) ⟨as, r⟩ t, ht, Q, h => by
    obtain ⟨xs, rfl⟩ := ht d List.mem_cons_self
    rw [List.mapM_cons]
    refine wpAny_bind (first_of r fun o _ => ?_)
    exact wpAny_bind (firsts_any t (fun d hd => ht d (List.mem_cons_of_mem _ hd)) fun os hos => wpAny_pure (h (o :: os) (by simp [hos])))
/-- the kind of keys: tuples, the first of them empty -/
theorem kind_tup0 {M : Model} {E : Value → Shared → Prop} {vs : List Value} {ds : List PyData} (e : EachIs (fun v d => ∃ as, Reads s.heap v d as) vs (.tuple [] :: ds)) (ht : ∀ d ∈ ds, ∃ xs, d = .tuple xs) {Q : SortKind → Shared → Prop} (h : Q oneType' s) : wpAny M A (keyKind' vs.toArray) Q E s := by
  cases e with
  | @cons v₁ _ vs' _ h1 t =>
    obtain ⟨as, r⟩ := h1
    rw [kat_kind_eq, List.mapM_toArray, map_eq_pure_bind]
    refine wpAny_bind (wpAny_bind ?_)
    rw [List.mapM_cons]
    refine wpAny_bind (first_of r fun o ho => ?_)
    rw [ho rfl]
    refine wpAny_bind (firsts_any t ht fun os hos => wpAny_pure (wpAny_pure ?_))
    have hall : ((none :: os).toArray.all fun x : Option Value => x.isSome) = false := by simp
    rw [if_neg (by rw [hall]; simp)]
    have hf : ((none :: os).toArray[0]?.bind id : Option Value).isSome = false := by simp
    rw [if_neg (by rw [hf]; simp)]
    rw [oneTypeOnly'_eq, List.mapM_toArray, map_eq_pure_bind]
    refine wpAny_bind (wpAny_bind (wpAny_bind (kas_mapM (r := Value.type "tuple") _ (fun v hv Q' hq => ?_) (wpAny_pure ?_))))
    · have hv' : ∃ d ∈ (PyData.tuple [] :: ds), ∃ as, Reads s.heap v d as := (EachIs.cons ⟨as, r⟩ t).left v hv
      obtain ⟨d, hd, as, rd⟩ := hv'
      have hdt : ∃ xs, d = .tuple xs := by
        rcases List.mem_cons.mp hd with rfl | hd
        · exact ⟨_, rfl⟩
        · exact ht d hd
      obtain ⟨xs, rfl⟩ := hdt
      exact (looks_reads rd).here hq
    · have hall2 : ((List.map (fun _ => Value.type "tuple") (v₁ :: vs')).toArray.all fun x => x == Value.type "tuple") = true := by
        simp only [List.all_toArray, List.all_map, List.all_eq_true]
        intro _ _
        exact beq_self_eq_true _
      have h0 : (List.map (fun _ => Value.type "tuple") (v₁ :: vs')).toArray[0]? = some (Value.type "tuple") := by simp
      rw [h0]
      simp only [hall2, if_true]
      exact wpAny_pure (wpAny_pure h)
theorem SortsAt.tup0 {vs : List Value} {ds : List PyData} (e : EachIs (fun v d => ∃ as, Reads s.heap v d as) vs (.tuple [] :: ds)) (hal : AllAlike (.tuple [] :: ds)) (ht : ∀ d ∈ ds, ∃ xs, d = .tuple xs) (hu : ∀ d, d ∈ (PyData.tuple [] :: ds) → A.units + d.depth < cLine) :
    SortsAt prog w A s (dataKind s.heap (.tuple [] :: ds)) vs := by
  refine ⟨fun v hv => ?_, oneType', ?_, fun h2 E Q hq => kind_tup0 e ht hq⟩
  · obtain ⟨d, hd, as, r⟩ := e.left v hv
    exact ⟨_, dataKind_some hal hd r⟩
  · intro E x y a b Q ha hb hq
    obtain ⟨d, as, hd, ra, rfl⟩ := dataKind_inv ha
    obtain ⟨d', as', hd', rb, rfl⟩ := dataKind_inv hb
    have tp : ∀ d, d ∈ (PyData.tuple [] :: ds) → ∃ xs, d = .tuple xs := fun d hd => by
      rcases List.mem_cons.mp hd with rfl | hd
      · exact ⟨_, rfl⟩
      · exact ht d hd
    obtain ⟨xs, rfl⟩ := tp d hd
    obtain ⟨ys, rfl⟩ := tp d' hd'
    rw [keyLt'_oneType]
    exact oneLt_tup ra rb (hal _ hd _ hd') (Nat.lt_of_le_of_lt (Nat.add_le_add_left (Nat.min_le_left _ _) _) (hu _ hd)) hq
/-- a list or a tuple, collected -/
theorem collect_seq {A : Around} {E : Value → Shared → Prop} {l : Addr} {o : Obj} {n : Nat} {vs : List Value} {Q : List Value → Shared → Prop} (ho : s.heap.get? l = some o) (hc : o.cls = .type "list" ∨ o.cls = .type "tuple") (hd : o.data = .seq vs.toArray n)
    (h : Q vs { s with heap := (s.heap.push (seqObj "list" #[] 0)).update s.heap.objs.size (Obj.mapSeq (· ++ vs.toArray)) }) (hsz : vs.length ≤ sizeLine) :
    wpAny (model prog w) A (collect (.ref l)) Q E s := by
  unfold collect
  refine wpAny_bind (wpAny_runValue (codeAny_builtin entry_proto_collect' ?_))
  show wpAny _ _ (do again (.builtin "list.__iadd__" ⟨[← newList [], .ref l], []⟩)) _ _ s
  refine wpAny_bind (wpAny_newList (wpAny_pure ⟨Code.quiet_builtin _ (by decide +kernel), codeAny_builtin entry_list_iadd' ?_⟩))
  show wpAny _ _ (Builtin.List.listExtendWith (.ref s.heap.objs.size) (.ref l) (.ref s.heap.objs.size)) _ _ { s with heap := s.heap.push (seqObj "list" #[] 0) }
  unfold Builtin.List.listExtendWith
  have ho' : (s.heap.push (seqObj "list" #[] 0)).get? l = some o := Heap.get?_push_of_some _ ho
  refine wpAny_bind (Looks.here (show Looks _ _ (typeOf (.ref l)) o.cls from (Looks.ld ho').andThen .now) ?_)
  have ht : (Builtin.List.listSameRef (.ref s.heap.objs.size) (.ref l) || o.cls == .type "list" || o.cls == .type "tuple") = true := by
    rcases hc with hc | hc <;> rw [hc]
    · rw [show (Value.type "list" == Value.type "list") = true from rfl]; simp
    · rw [show (Value.type "tuple" == Value.type "tuple") = true from rfl]; simp
  rw [if_pos ht]
  refine wpAny_bind (listItems_at ho' hd ?_)
  refine wpAny_bind (listItems_at (xs := #[]) (n := 0) (Heap.get?_push_size _ rfl) rfl ?_)
  rw [if_neg (by simp)]
  refine wpAny_bind (listUpdate_at (xs := #[]) (n := 0) (Heap.get?_push_size _ rfl) rfl ?_ (Nat.zero_le _) (by show (#[] ++ vs.toArray).size ≤ sizeLine + 1; simp only [Array.size_append, List.size_toArray, List.length_nil]; omega))
  refine wpAny_pure ?_
  show wpAny (model prog w) A (do
      let o ← load s.heap.objs.size
      match o.data with
      | .seq xs _ => pure xs.toList
      | _ => unsupported "internal:collect") Q E { s with heap := (s.heap.push (seqObj "list" #[] 0)).update s.heap.objs.size (Obj.mapSeq (· ++ vs.toArray)) }
  refine wpAny_bind (wpAny_load (get?_update_seq (Heap.get?_push_size _ rfl) _) ?_)
  show wpAny _ _ (pure ((#[] : Array Value) ++ vs.toArray).toList) Q E _
  rw [show ((#[] : Array Value) ++ vs.toArray).toList = vs by simp]
  exact wpAny_pure h
/-- sorted of a list or a tuple -/
theorem sorted_seq {A : Around} {E : Value → Shared → Prop} {κ : PyProof.Rows.KeyKind} {l : Addr} {o : Obj} {n : Nat} {vs : List Value} {Q : Value → Shared → Prop} (ho : s.heap.get? l = some o) (hc : o.cls = .type "list" ∨ o.cls = .type "tuple") (hd : o.data = .seq vs.toArray n)
    (S : SortsAt prog w A.in1.in1 { s with heap := sortingHeap (copyHeap s.heap vs) (s.heap.objs.size + 1) vs } κ vs) (hL : vs.length ≤ sizeLine)
    (h : Q (.ref (s.heap.objs.size + 1)) { s with heap := sortedAll s.heap vs (sortVals κ false vs vs).toArray }) : wpAny (model prog w) A (call (.builtin "sorted") [.ref l]) Q E s := by
  refine PyProof.Rows.call_function_entry_kw kind_sorted plain_sorted entry_sorted (args_sorted1 _) ?_
  unfold Builtin.«sorted»
  refine wpAny_bind (m := checkCount "sorted" 1 1 _) (wpAny_pure ?_)
  refine wpAny_bind (collect_seq ho hc hd ?_ hL)
  refine wpAny_bind (wpAny_newList ?_ hL)
  have hsz : ((s.heap.push (seqObj "list" #[] 0)).update s.heap.objs.size (Obj.mapSeq (· ++ vs.toArray))).objs.size = s.heap.objs.size + 1 := by
    rw [Heap.size_update, size_push']
  show wpAny _ _ _ _ _ { s with heap := copyHeap s.heap vs }
  rw [hsz]
  refine wpAny_bind (wpAny_holding (wpAny_call_entry_kw slot_list_sort ⟨_, copyHeap_at s.heap vs, rfl⟩ entry_list_sort ?body (args_list_sort _)))
  case body =>
    show wpAny (model prog w) A.in1.in1 (Builtin.«list.sort» ⟨[.ref (s.heap.objs.size + 1)], []⟩) _ _ _
    refine wpAny_mono (list_sort_vals (P := fun f s' => f = .done (.ret .none) ∧ Q (.ref (s.heap.objs.size + 1)) s') (s := { s with heap := copyHeap s.heap vs }) (copyHeap_at s.heap vs) S hL ⟨rfl, h⟩) (fun f s' hf => ?_) fun _ _ e => e
    obtain ⟨rfl, hq⟩ := hf
    exact ⟨_, rfl, wpAny_pure ⟨_, rfl, hq⟩⟩
end
section
variable {X : Cx} {Z : AS} {H : Hp}
theorem zip_rep : ∀ {ds : List D} {xs : List V}, RepL Z H ds xs → ∀ p ∈ ds.zip xs, Rep Z H p.1 p.2
  | [], xs, h, p, hp => by cases h; simp at hp
  | d :: ds, xs, h, p, hp => by
    obtain ⟨v, r, rfl, h1, h2⟩ := h
    rcases List.mem_cons.mp hp with rfl | hp
    · exact h1
    · exact zip_rep h2 p hp
theorem rep_pairs : ∀ (l : List (D × V)), (∀ p ∈ l, Rep Z H p.1 p.2) → RepL Z H (l.map (·.1)) (l.map (·.2))
  | [], _ => rfl
  | (d, v) :: l, h => ⟨v, l.map (·.2), rfl, h _ List.mem_cons_self, rep_pairs l fun p hp => h p (List.mem_cons_of_mem _ hp)⟩
theorem each_vals {vs : List V} {us : List Value} (r : Vals vs us) : ∀ {ds : List D}, ds.length = vs.length → PySem.W.EachIs (fun u p => RelV (Prod.snd p) u) us (ds.zip vs) := by
  induction r with
  | nil => intro ds h; cases ds <;> first | exact .nil | cases h
  | cons h t ih =>
    intro ds hd
    cases ds with
    | nil => cases hd
    | cons d ds => exact .cons h (ih (by simpa using hd))
theorem vals_each : ∀ {us : List Value} {l : List (D × V)}, PySem.W.EachIs (fun u p => RelV (Prod.snd p) u) us l → Vals (l.map (·.2)) us
  | _, _, .nil => .nil
  | _, _, .cons h t => .cons h (vals_each t)
theorem each_reads {h : Heap} : ∀ {us : List Value} {ds : List PyData} {as : List Addr}, ReadsAll h us ds as → PySem.W.EachIs (fun v d => ∃ as, Reads h v d as) us ds
  | _, _, _, .nil => .nil
  | _, _, _, .cons h1 h2 => .cons ⟨_, h1⟩ (each_reads h2)
theorem each_unmap {β : Type} {h : Heap} {enc : β → PyData} : ∀ {us : List Value} {bs : List β}, PySem.W.EachIs (fun v d => ∃ as, Reads h v d as) us (bs.map enc) → PySem.W.EachIs (fun v b => ∃ as, Reads h v (enc b) as) us bs
  | [], [], _ => .nil
  | u :: us, b :: bs, e => by
    cases e with
    | cons h1 h2 => exact .cons h1 (each_unmap h2)
theorem zip_py {l : List D} {ws : List V} (h : l.length = ws.length) : (l.zip ws).map (fun p => toPy p.1) = toPyL l := by
  rw [toPyL_map]
  conv => rhs; rw [← List.map_fst_zip (l₁ := l) (l₂ := ws) (by omega)]
  rw [List.map_map]
  rfl
theorem depth_py {n : Nat} {l : List D} (h : plainL n l = true) : ∀ d ∈ toPyL l, d.depth ≤ n := by
  intro d hd
  obtain ⟨x, hx, rfl⟩ := mem_py hd
  have : plainD n x = true := by
    clear hd
    induction l with
    | nil => cases hx
    | cons y r ih =>
      simp only [plainL, Bool.and_eq_true] at h
      rcases List.mem_cons.mp hx with rfl | hx
      · exact h.1
      · exact ih h.2 hx
  exact (plain_lay n x this).2
theorem alike_of {l : List D} (h : allAlike l = true) : PySem.W.AllAlike (toPyL l) := by
  intro d hd d' hd'
  obtain ⟨x, hx, rfl⟩ := mem_py hd
  obtain ⟨y, hy, rfl⟩ := mem_py hd'
  rw [alike_py]
  exact allAlike_of h x hx y hy
theorem sorts_at {prog : Program} {w : World} {A : Around} {s : Shared} {l : List D} {us : List Value} {as : List Addr} (h : srtOk l = true) (r : ReadsAll s.heap us (toPyL l) as) (hu : A.units + 40 < cLine) : PySem.W.SortsAt prog w A s (PySem.W.dataKind s.heap (toPyL l)) us := by
  unfold srtOk at h
  simp only [Bool.and_eq_true, decide_eq_true_eq] at h
  obtain ⟨⟨⟨h1, h2⟩, h3⟩, h4⟩ := h
  have hal := alike_of h3
  have hd : ∀ d ∈ toPyL l, A.units + d.depth < cLine := fun d q => by have := depth_py h2 d q; omega
  have e := each_reads r
  unfold srtShape at h4
  rcases (Bool.or_eq_true _ _).mp h4 with h4 | h4
  · rcases (Bool.or_eq_true _ _).mp h4 with h4 | h4
    · refine PySem.W.SortsAt.data e hal (.inl fun d q => ?_) hd
      obtain ⟨x, hx, rfl⟩ := mem_py q
      have := List.all_eq_true.mp h4 x hx
      cases x <;> simp only [isTupN] at this <;> try cases this
      rename_i xs
      cases xs with
      | nil => cases this
      | cons y ys => exact ⟨toPy y, toPyL ys, by simp [toPy, toPyL]⟩
    · refine PySem.W.SortsAt.data e hal (.inr fun d q => ?_) hd
      obtain ⟨x, hx, rfl⟩ := mem_py q
      have := List.all_eq_true.mp h4 x hx
      cases x <;> simp [isTupD, isNonD] at this <;> simp [toPy]
  · simp only [Bool.and_eq_true] at h4
    obtain ⟨h5, h6⟩ := h4
    cases l with
    | nil => cases h6
    | cons x r' =>
      cases x <;> try (cases h6; done)
      rename_i xs
      cases xs with
      | cons => cases h6
      | nil =>
        have e0 : toPyL (.tup [] :: r') = .tuple [] :: toPyL r' := by simp [toPyL, toPy]
        rw [e0] at e hal hd ⊢
        refine SortsAt.tup0 e hal (fun d q => ?_) hd
        obtain ⟨x, hx, rfl⟩ := mem_py q
        have := List.all_eq_true.mp h5 x (List.mem_cons_of_mem _ hx)
        cases x <;> simp only [isTupD] at this <;> try cases this
        exact ⟨_, by simp only [toPy]; rfl⟩
theorem seq_len {d : D} {l : List D} {ws : List V} (ra : RepL Z H l ws) : l.length = ws.length := (RepL.length _ _ ra).symm
theorem b_sorted (hu : X.A.units + 64 < cLine) : CallR X (.builtin "sorted") (rB .sorted) := by
  intro pins s σ H vs us Q I r h
  obtain ⟨Z, ds, z, fr, hz, hd, q, k⟩ := h
  match ds, q with
  | [d], q =>
    simp only [bi] at q
    obtain ⟨l, el, q⟩ := Option.bind_eq_some_iff.mp q
    split at q
    · rename_i hok
      cases q
      obtain ⟨v, rfl, hv⟩ := hd.one
      obtain ⟨a, ws, rfl, ha, ra⟩ := RepO.seq el hv
      have hok0 := hok
      unfold srtOk at hok0
      simp only [Bool.and_eq_true, decide_eq_true_eq] at hok0
      obtain ⟨⟨⟨hl1, hl2⟩, hl3⟩, hl4⟩ := hok0
      have ll := RepL.length _ _ ra
      obtain ⟨its, o, n, rv, ho, hc, hdat, hz2⟩ : ∃ (its : List Value) (o : Obj) (n : Nat), Vals ws its ∧ s.heap.get? a = some o ∧ (o.cls = .type "list" ∨ o.cls = .type "tuple") ∧ o.data = .seq its.toArray n ∧ ws.length ≤ sizeLine := by
        rcases ha with ⟨rfl, ha⟩ | ⟨rfl, ha⟩
        · obtain ⟨its, rv, ⟨o, n, ho, hc, _, hd⟩, hz2⟩ := I.list (.of ha)
          exact ⟨its, o, n, rv, ho, .inl hc, hd, hz2⟩
        · obtain ⟨its, rv, ⟨o, ho, hc, n, hd⟩, hz2⟩ := I.tuple (.of ha)
          exact ⟨its, o, n, rv, ho, .inr hc, hd, hz2⟩
      obtain ⟨u, rfl, ru⟩ := vals1 r
      obtain rfl : u = Value.ref a := ru
      obtain ⟨as, rd⟩ := Dp.readsAll I (toPyL l) ws its (RepL.dp 30 l ws hl2 ra) rv
      have rd' : ReadsAll (PySem.W.sortingHeap (PySem.W.copyHeap s.heap its) (s.heap.objs.size + 1) its) its (toPyL l) as := PyProof.Rows.ReadsAll.keeps (fun _ _ => PySem.W.sorting_copy_old) rd
      refine sorted_seq ho hc hdat (sorts_at (s := { s with heap := PySem.W.sortingHeap (PySem.W.copyHeap s.heap its) (s.heap.objs.size + 1) its }) hok rd' (by show X.A.units + 1 + 1 + 40 < cLine; omega)) (by rw [← rv.length]; exact hz2) ?_
      have er : PySem.W.EachIs (fun v b => ∃ as, Reads (PySem.W.sortingHeap (PySem.W.copyHeap s.heap its) (s.heap.objs.size + 1) its) v (toPy (Prod.fst b)) as) its (l.zip ws) := by
        have := each_reads rd'
        rw [← zip_py ll.symm] at this
        exact each_unmap this
      have out := PySem.W.sortVals_data (R := fun u p => RelV (Prod.snd p) u) (enc := fun p : D × V => toPy p.1) false (each_vals rv ll.symm) er (by rw [zip_py ll.symm]; exact alike_of hl3)
      rw [zip_py ll.symm] at out
      have ro := vals_each out
      have perm := List.mergeSort_perm (l.zip ws) (PySem.W.dataLe false fun p : D × V => toPy p.1)
      have rep := rep_pairs (Z := Z) (H := H) ((l.zip ws).mergeSort (PySem.W.dataLe false fun p : D × V => toPy p.1)) fun p hp => zip_rep ra p (perm.mem_iff.mp hp)
      have e1 : ((l.zip ws).mergeSort (PySem.W.dataLe false fun p : D × V => toPy p.1)).map (·.1) = sortT l := by
        rw [sortT_merge (le := PySem.W.dataLe false toPy) (PySem.W.sortLe_total _ _ _) fun x hx y hy => ?_]
        · refine (PySem.W.sort_maps (r := PySem.W.dataLe false fun p : D × V => toPy p.1) (s := PySem.W.dataLe false toPy) (fun p : D × V => p.1) (fun _ _ _ _ => rfl)).trans ?_
          rw [List.map_fst_zip (by omega)]
        · rw [← lt_py y x (allAlike_of hl3 y hy x hx)]
          rfl
      rw [e1] at rep
      obtain ⟨ep, he'⟩ := PyProof.Rows.sortedAll_at s.heap its (PySem.W.sortVals (PySem.W.dataKind (PySem.W.sortingHeap (PySem.W.copyHeap s.heap its) (s.heap.objs.size + 1) its) (toPyL l)) false its its).toArray
      refine ⟨.ref _, upd H (s.heap.objs.size + 1) (.lst (((l.zip ws).mergeSort (PySem.W.dataLe false fun p : D × V => toPy p.1)).map (·.2))), I.laid (t' := s.toks) (fun _ _ => PyProof.Rows.sortedAll_old) (Nat.le_succ _) ⟨?_, _, ep, ro, he'⟩, rfl, k.lst hz rep (I.hok.fresh (Nat.le_succ _))⟩
      rw [List.length_map, perm.length_eq, List.length_zip]
      omega
    · cases q
/-! min, max -/
mutual
theorem toPy_inj : ∀ (n : Nat) (x y : D), plainD n x = true → plainD n y = true → toPy x = toPy y → x = y
  | n, .non, y, _, p, h => by cases y <;> simp [toPy] at h <;> first | rfl | (cases n <;> simp [plainD] at p)
  | n, .bl b, y, _, p, h => by cases y <;> simp [toPy] at h; subst h; rfl
  | n, .int b, y, _, p, h => by cases y <;> simp [toPy] at h; subst h; rfl
  | n, .str b, y, _, p, h => by cases y <;> simp [toPy] at h; subst h; rfl
  | 0, .tup xs, y, p, _, h => by simp [plainD] at p
  | n + 1, .tup xs, y, p, p', h => by
    cases y <;> simp [toPy] at h
    rename_i ys
    rw [toPyL_inj n xs ys (by simpa [plainD] using p) (by simpa [plainD] using p') h]
  | 0, .lst xs, y, p, _, h => by simp [plainD] at p
  | n + 1, .lst xs, y, p, p', h => by
    cases y <;> simp [toPy] at h
    rename_i ys
    rw [toPyL_inj n xs ys (by simpa [plainD] using p) (by simpa [plainD] using p') h]
  | _, .dic _ _, y, p, _, h => by simp [plainD] at p
theorem toPyL_inj : ∀ (n : Nat) (x y : List D), plainL n x = true → plainL n y = true → toPyL x = toPyL y → x = y
  | _, [], [], _, _, _ => rfl
  | _, [], _ :: _, _, _, h => by simp [toPyL] at h
  | _, _ :: _, [], _, _, h => by simp [toPyL] at h
  | n, x :: xs, y :: ys, p, p', h => by
    simp only [toPyL, List.cons.injEq] at h
    simp only [plainL, Bool.and_eq_true] at p p'
    rw [toPy_inj n x y p.1 p'.1 h.1, toPyL_inj n xs ys p.2 p'.2 h.2]
end
theorem plain_mem {n : Nat} {l : List D} (h : plainL n l = true) {x : D} (hx : x ∈ l) : plainD n x = true := by
  induction l with
  | nil => cases hx
  | cons y r ih =>
    simp only [plainL, Bool.and_eq_true] at h
    rcases List.mem_cons.mp hx with rfl | hx
    · exact h.1
    · exact ih h.2 hx
theorem mm_of {l : List D} (h : mmOk l = true) : plainL 30 l = true ∧ PySem.W.AlikeAll (toPyL l) ∧ (∀ x ∈ l, isHp x = false) := by
  unfold mmOk at h
  simp only [Bool.and_eq_true] at h
  refine ⟨h.1.1, ⟨fun d hd d' hd' => alike_of h.1.2 d hd d' hd', fun d hd => ?_⟩, fun x hx => ?_⟩
  · obtain ⟨x, hx, rfl⟩ := mem_py hd
    have := List.all_eq_true.mp h.2 x hx
    cases x <;> simp [isNonD] at this <;> simp [toPy]
  · have := List.all_eq_true.mp h.2 x hx
    cases x <;> simp [isObD] at this <;> rfl
theorem depthAll_le {l : List D} (h : plainL 30 l = true) : PyData.depthAll (toPyL l) ≤ 30 := (plain_layL 30 l h).2
theorem minT_mem : ∀ (l : List D) (x : D), minT x l ∈ x :: l
  | [], x => List.mem_cons_self
  | y :: r, x => by
    have := minT_mem r (if ltT y x then y else x)
    simp only [minT]
    rcases List.mem_cons.mp this with e | e
    · rw [e]
      split <;> simp
    · exact List.mem_cons_of_mem _ (List.mem_cons_of_mem _ e)
theorem maxT_mem : ∀ (l : List D) (x : D), maxT x l ∈ x :: l
  | [], x => List.mem_cons_self
  | y :: r, x => by
    have := maxT_mem r (if ltT x y then y else x)
    simp only [maxT]
    rcases List.mem_cons.mp this with e | e
    · rw [e]
      split <;> simp
    · exact List.mem_cons_of_mem _ (List.mem_cons_of_mem _ e)
theorem min_py : ∀ (l : List D) (x : D), PySem.W.AlikeAll (toPyL (x :: l)) → toPy (minT x l) = PySem.W.minD (toPy x) (toPyL l)
  | [], x, _ => by simp [minT, PySem.W.minD, toPyL]
  | y :: r, x, h => by
    have hxy : alikeD y x = true := by rw [← alike_py]; exact h.1 _ (by simp [toPyL]) _ (by simp [toPyL])
    have h' : PySem.W.AlikeAll (toPyL ((if ltT y x then y else x) :: r)) := by
      refine ⟨fun d hd d' hd' => h.1 d ?_ d' ?_, fun d hd => h.2 d ?_⟩
      all_goals
        simp only [toPyL, List.mem_cons] at hd ⊢
        try simp only [toPyL, List.mem_cons] at hd'
      · rcases hd with rfl | hd
        · split <;> simp
        · exact .inr (.inr hd)
      · rcases hd' with rfl | hd
        · split <;> simp
        · exact .inr (.inr hd)
      · rcases hd with rfl | hd
        · split <;> simp
        · exact .inr (.inr hd)
    have ih := min_py r (if ltT y x then y else x) h'
    simp only [minT]
    rw [ih]
    unfold PySem.W.minD
    simp only [toPyL, List.foldl_cons]
    rw [lt_py y x hxy]
    congr 1
    split <;> rfl
theorem max_py : ∀ (l : List D) (x : D), PySem.W.AlikeAll (toPyL (x :: l)) → toPy (maxT x l) = PySem.W.maxD (toPy x) (toPyL l)
  | [], x, _ => by simp [maxT, PySem.W.maxD, toPyL]
  | y :: r, x, h => by
    have hxy : alikeD x y = true := by rw [← alike_py]; exact h.1 _ (by simp [toPyL]) _ (by simp [toPyL])
    have h' : PySem.W.AlikeAll (toPyL ((if ltT x y then y else x) :: r)) := by
      refine ⟨fun d hd d' hd' => h.1 d ?_ d' ?_, fun d hd => h.2 d ?_⟩
      all_goals
        simp only [toPyL, List.mem_cons] at hd ⊢
        try simp only [toPyL, List.mem_cons] at hd'
      · rcases hd with rfl | hd
        · split <;> simp
        · exact .inr (.inr hd)
      · rcases hd' with rfl | hd
        · split <;> simp
        · exact .inr (.inr hd)
      · rcases hd with rfl | hd
        · split <;> simp
        · exact .inr (.inr hd)
    have ih := max_py r (if ltT x y then y else x) h'
    simp only [maxT]
    rw [ih]
    unfold PySem.W.maxD
    simp only [toPyL, List.foldl_cons]
    rw [lt_py x y hxy]
    congr 1
    split <;> rfl
theorem mm_end {pins : List (Addr × Obj)} {σ : L2.St} {s : Shared} {l : List D} {ws : List V} {its : List Value} {h' : Heap} {v : Value} {i : Nat} {bs : List Addr} {m : D} (ra : RepL Z H l ws) (p : plainL 30 l = true) (al : PySem.W.AlikeAll (toPyL l)) (I : Inv X pins σ H s) (rv : Vals ws its)
    (hi : its[i]? = some v) (hk : ∀ b o, s.heap.get? b = some o → h'.get? b = some o) (hr : Reads h' v (toPy m) bs) (hm : m ∈ l) : ∃ y, Rep Z H m y ∧ RelV y v ∧ m = m := by
  have hlt : i < ws.length := by rw [rv.length]; exact (List.getElem?_eq_some_iff.mp hi).1
  obtain ⟨u, e1, r1⟩ := rv.get (i := i) (x := ws[i]) (by simp [hlt])
  rw [hi] at e1
  cases e1
  obtain ⟨d, hd, rd⟩ := RepL.at _ _ ra i ws[i] (by simp [hlt])
  have hdl : d ∈ l := List.mem_of_getElem? hd
  obtain ⟨as, rs⟩ := Dp.reads I (toPy d) ws[i] v (Rep.dp 30 d _ (plain_mem p hdl) rd) r1
  have rs' := PyProof.Rows.Reads.keeps hk rs
  have e := PySem.W.alike_unique (toPy d) (toPy m) v as bs (al.1 _ (by rw [toPyL_map]; exact List.mem_map.mpr ⟨d, hdl, rfl⟩) _ (by rw [toPyL_map]; exact List.mem_map.mpr ⟨m, hm, rfl⟩)) rs' hr
  have e' := toPy_inj 30 d m (plain_mem p hdl) (plain_mem p hm) e
  subst e'
  exact ⟨_, rd, r1, rfl⟩
theorem b_min (hc : X.calm = true) (hu : X.A.units + 64 < cLine) : CallR X (.builtin "min") (rB .min) := by
  intro pins s σ H vs us Q I r h
  obtain ⟨Z, ds, z, fr, hz, hd, q, k⟩ := h
  match ds, q with
  | [.int i, .int j], q =>
    cases q
    obtain ⟨v, w, rfl, hv, hw⟩ := hd.two
    cases hv
    cases hw
    exact call_min2 hc pins s σ H _ us Q I r ⟨_, _, rfl, k.flat rfl rfl⟩
  | [.lst (x :: xs)], q =>
    simp only [bi] at q
    split at q
    · rename_i hok
      cases q
      obtain ⟨v, rfl, hv⟩ := hd.one
      obtain ⟨a, ws, rfl, ha, ra⟩ := RepO.lst hv
      obtain ⟨its, rv, hl, _⟩ := I.list (.of ha)
      obtain ⟨p1, p2, p3⟩ := mm_of hok
      obtain ⟨as, rd⟩ := Dp.readsAll I (toPyL (x :: xs)) ws its (RepL.dp 30 _ ws p1 ra) rv
      rw [Vals.ref1 r]
      refine PySem.W.min_list_data (I.ok.hd hc) hl.isList (by simpa [toPyL] using rd) (by simpa [toPyL] using p2) (by have := depthAll_le p1; simp only [toPyL] at this; omega) fun i v h' tk bs hi hr hk => ?_
      obtain ⟨y, hy, ry, _⟩ := mm_end ra p1 p2 I rv (by simpa using hi) hk (by rw [min_py xs x p2]; exact hr) (minT_mem xs x)
      exact ⟨y, H, I.kept hk, ry, k.flat hy (p3 _ (minT_mem xs x))⟩
    · cases q
  | [.tup (x :: xs)], q =>
    simp only [bi] at q
    split at q
    · rename_i hok
      cases q
      obtain ⟨v, rfl, hv⟩ := hd.one
      obtain ⟨a, ws, rfl, ha, ra⟩ := RepO.tup hv
      obtain ⟨its, rv, hl, _⟩ := I.tuple (.of ha)
      obtain ⟨p1, p2, p3⟩ := mm_of hok
      obtain ⟨as, rd⟩ := Dp.readsAll I (toPyL (x :: xs)) ws its (RepL.dp 30 _ ws p1 ra) rv
      rw [Vals.ref1 r]
      refine PySem.W.min_tuple_data (I.ok.hd hc) hl (by simpa [toPyL] using rd) (by simpa [toPyL] using p2) (by have := depthAll_le p1; simp only [toPyL] at this; omega) fun i v h' tk bs hi hr hk => ?_
      obtain ⟨y, hy, ry, _⟩ := mm_end ra p1 p2 I rv (by simpa using hi) hk (by rw [min_py xs x p2]; exact hr) (minT_mem xs x)
      exact ⟨y, H, I.kept hk, ry, k.flat hy (p3 _ (minT_mem xs x))⟩
    · cases q
theorem b_max (hc : X.calm = true) (hu : X.A.units + 64 < cLine) : CallR X (.builtin "max") (rB .max) := by
  intro pins s σ H vs us Q I r h
  obtain ⟨Z, ds, z, fr, hz, hd, q, k⟩ := h
  match ds, q with
  | [.int i, .int j], q =>
    cases q
    obtain ⟨v, w, rfl, hv, hw⟩ := hd.two
    cases hv
    cases hw
    exact call_max2 hc pins s σ H _ us Q I r ⟨_, _, rfl, k.flat rfl rfl⟩
  | [.lst (x :: xs)], q =>
    simp only [bi] at q
    split at q
    · rename_i hok
      cases q
      obtain ⟨v, rfl, hv⟩ := hd.one
      obtain ⟨a, ws, rfl, ha, ra⟩ := RepO.lst hv
      obtain ⟨its, rv, hl, _⟩ := I.list (.of ha)
      obtain ⟨p1, p2, p3⟩ := mm_of hok
      obtain ⟨as, rd⟩ := Dp.readsAll I (toPyL (x :: xs)) ws its (RepL.dp 30 _ ws p1 ra) rv
      rw [Vals.ref1 r]
      refine PySem.W.max_list_data (I.ok.hd hc) hl.isList (by simpa [toPyL] using rd) (by simpa [toPyL] using p2) (by have := depthAll_le p1; simp only [toPyL] at this; omega) fun i v h' tk bs hi hr hk => ?_
      obtain ⟨y, hy, ry, _⟩ := mm_end ra p1 p2 I rv (by simpa using hi) hk (by rw [max_py xs x p2]; exact hr) (maxT_mem xs x)
      exact ⟨y, H, I.kept hk, ry, k.flat hy (p3 _ (maxT_mem xs x))⟩
    · cases q
  | [.tup (x :: xs)], q =>
    simp only [bi] at q
    split at q
    · rename_i hok
      cases q
      obtain ⟨v, rfl, hv⟩ := hd.one
      obtain ⟨a, ws, rfl, ha, ra⟩ := RepO.tup hv
      obtain ⟨its, rv, hl, _⟩ := I.tuple (.of ha)
      obtain ⟨p1, p2, p3⟩ := mm_of hok
      obtain ⟨as, rd⟩ := Dp.readsAll I (toPyL (x :: xs)) ws its (RepL.dp 30 _ ws p1 ra) rv
      rw [Vals.ref1 r]
      refine PySem.W.max_tuple_data (I.ok.hd hc) hl (by simpa [toPyL] using rd) (by simpa [toPyL] using p2) (by have := depthAll_le p1; simp only [toPyL] at this; omega) fun i v h' tk bs hi hr hk => ?_
      obtain ⟨y, hy, ry, _⟩ := mm_end ra p1 p2 I rv (by simpa using hi) hk (by rw [max_py xs x p2]; exact hr) (maxT_mem xs x)
      exact ⟨y, H, I.kept hk, ry, k.flat hy (p3 _ (maxT_mem xs x))⟩
    · cases q
end
end PB
set_option maxHeartbeats 4000000
/-! Iyd: dict of a list of pairs with tuple keys. -/
namespace PB
open PySem PySem.Spec PyProof.Rows L2
section
variable {X : Cx} {Z : AS} {H : Hp}
structure PrE where
  t : Addr
  k : List Key
  b : Addr
  v : V
  u : Value
/-- a list of pairs as it stands -/
inductive PrL (Z : AS) (H : Hp) (h : Heap) : List (D × D) → List V → List PrE → Prop
  | nil : PrL Z H h [] [] []
  | cons {ks : List D} {d : D} {e : PrE} {ps ws es} : H e.t = some (.tup [.ref e.b, e.v]) → H e.b = some (.tup (e.k.map kV)) → ¬ Z e.b → repKeys e.k ks → Rep Z H d e.v → RelV e.v e.u → IsTup h e.t #[.ref e.b, e.u] →
      PrL Z H h ps ws es → PrL Z H h ((.tup ks, d) :: ps) (.ref e.t :: ws) (e :: es)
theorem prL_of {pins : List (Addr × Obj)} {σ : L2.St} {s : Shared} (I : Inv X pins σ H s) : ∀ (xs : List D) (ws : List V) (ps : List (D × D)), RepL Z H xs ws → pairsOf xs = some ps → (ps.all fun p => isKey true p.1) = true → ∃ es, PrL Z H s.heap ps ws es
  | [], ws, ps, r, hp, ha => by
    cases r
    cases hp
    exact ⟨[], .nil⟩
  | x :: xs, ws, ps, r, hp, ha => by
    obtain ⟨v, rr, rfl, h1, h2⟩ := r
    cases x <;> try (cases hp; done)
    rename_i l
    match l, hp with
    | [k, d], hp =>
      simp only [pairsOf, Option.map_eq_some_iff] at hp
      obtain ⟨qs, hq, rfl⟩ := hp
      simp only [List.all_cons, Bool.and_eq_true] at ha
      obtain ⟨es, hes⟩ := prL_of I xs rr qs h2 hq ha.2
      obtain ⟨t, ys, rfl, ⟨nt, ht⟩, ry⟩ := h1
      obtain ⟨vk, r1, rfl, hk, r2⟩ := ry
      obtain ⟨vd, r3, rfl, hd, r4⟩ := r2
      cases r4
      cases k <;> try (cases ha.1; done)
      rename_i ks
      obtain ⟨b, xs', rfl, ⟨nb, hb⟩, rl⟩ := hk
      obtain ⟨kk, e1, rfl⟩ := keys_of1 ks xs' ha.1 rl
      obtain ⟨_, its, rv, it⟩ := (show ObjOk X.prog X.w H s.heap t (.tup [.ref b, vd]) from I.hok t _ ht)
      obtain ⟨u1, u2, rfl, ru1, ru2⟩ := rv.two
      obtain rfl : u1 = Value.ref b := ru1
      exact ⟨⟨t, kk, b, vd, u2⟩ :: es, .cons (e := ⟨t, kk, b, vd, u2⟩) ht hb nb e1 hd ru2 it hes⟩
theorem PrL.ws {h : Heap} : ∀ {ps ws es}, PrL Z H h ps ws es → ws = es.map fun e => V.ref e.t
  | _, _, _, .nil => rfl
  | _, _, _, .cons _ _ _ _ _ _ _ t => by rw [t.ws]; rfl
theorem PrL.len {h : Heap} : ∀ {ps ws es}, PrL Z H h ps ws es → es.length = ps.length ∧ ws.length = ps.length
  | _, _, _, .nil => ⟨rfl, rfl⟩
  | _, _, _, .cons _ _ _ _ _ _ _ t => by have := t.len; simp [this.1, this.2]
theorem PrL.mem {h : Heap} : ∀ {ps ws es}, PrL Z H h ps ws es → ∀ e ∈ es, IsTup h e.t #[.ref e.b, e.u] ∧ H e.b = some (.tup (e.k.map kV)) ∧ RelV e.v e.u
  | _, _, _, .nil, e, he => nomatch he
  | _, _, _, .cons h1 h2 h3 h4 h5 h6 h7 t, e, he => by
    rcases List.mem_cons.mp he with rfl | he
    · exact ⟨h7, h2, h6⟩
    · exact t.mem e he
abbrev PrE.p (e : PrE) : List Key × Addr × Value := (e.k, e.b, e.u)
theorem prL_kt {h : Heap} : ∀ {ps ws es}, PrL Z H h ps ws es → ∀ (acc : List (List Key × V)) (bcc : List (List Key × Addr × Value)), KT H acc bcc → KT H (es.foldl (fun a e => putK a e.k e.v) acc) (storedAllH bcc (es.map PrE.p))
  | _, _, _, .nil, acc, bcc, k => k
  | _, _, _, .cons (e := e) h1 h2 h3 h4 h5 h6 h7 t, acc, bcc, k => prL_kt t (putK acc e.k e.v) (storedH bcc e.k e.b e.u) (k.put e.k h2 h6)
theorem prL_rep {h : Heap} : ∀ {ps ws es}, PrL Z H h ps ws es → ∀ (ds : List (D × D)) (acc : List (List Key × V)), RepT Z H ds acc → RepT Z H (ps.foldl (fun a p => dPut a p.1 p.2) ds) (es.foldl (fun a e => putK a e.k e.v) acc)
  | _, _, _, .nil, ds, acc, r => r
  | _, _, _, .cons (ks := ks) (d := d) (e := e) h1 h2 h3 h4 h5 h6 h7 t, ds, acc, r => by
    refine prL_rep t (dPut ds (.tup ks) d) (putK acc e.k e.v) ?_
    obtain ⟨i1, i2, i3⟩ := repT_put h4 h5 ds acc r
    unfold dPut putK
    rw [i1]
    split
    · exact i2
    · exact i3
theorem prL_putlen : ∀ (es : List PrE) (acc : List (List Key × V)), (es.foldl (fun a e => putK a e.k e.v) acc).length ≤ acc.length + es.length
  | [], acc => Nat.le_refl _
  | e :: es, acc => by
    have h1 := prL_putlen es (putK acc e.k e.v)
    have h2 := length_putK acc e.k e.v
    simp only [List.foldl_cons, List.length_cons]
    omega
theorem vals_ts : ∀ (es : List PrE) (its : List Value), Vals (es.map fun e => V.ref e.t) its → its = es.map fun e => Value.ref e.t
  | [], _, r => by cases r; rfl
  | e :: es, _, r => by
    rw [List.map_cons] at r
    cases r with
    | @cons _ u _ us h1 h2 =>
      obtain rfl : u = Value.ref e.t := h1
      rw [vals_ts es us h2]
      rfl
theorem b_dict (hc : X.calm = true) (hu : X.A.units + 64 < cLine) : CallR X (.type "dict") (rB .dict) := by
  intro pins s σ H vs us Q I r h
  obtain ⟨Z, ds, z, fr, hz, hd, q, k⟩ := h
  match ds, q with
  | [.lst xs], q =>
    simp only [bi] at q
    obtain ⟨ps, hp, q⟩ := Option.bind_eq_some_iff.mp q
    split at q
    · rename_i hk
      cases q
      obtain ⟨v, rfl, hv⟩ := hd.one
      obtain ⟨a, ws, rfl, ha, ra⟩ := RepO.lst hv
      obtain ⟨es, pl⟩ := prL_of I xs ws ps ra hp hk
      obtain ⟨its, rv, ⟨o, n, ho, hcl, hdd, hdat⟩, hz2⟩ := I.list (.of ha)
      obtain ⟨u, rfl, ru⟩ := vals1 r
      obtain rfl : u = Value.ref a := ru
      have ews := pl.ws
      have hits : its = es.map fun e => Value.ref e.t := vals_ts es its (by rw [← ews]; exact rv)
      have hlen := pl.len
      have P := PairArg.list (prog := X.prog) (w := X.w) a its.toArray (fun j => (es[j]?.elim 0 (·.t))) (es.map fun e => (Value.ref e.b, e.u))
      have size : (es.map fun e => (Value.ref e.b, e.u)).length = es.length := by simp
      refine call_dict_pairsH (knd := tupleKind (mixKind X.prog X.w)) (ps := es.map PrE.p) P (I.ok.hd hc) (tupleKind_room_in1 (by show X.A.units + 1 + 1 < cLine; omega)) ⟨⟨o, n, ho, hcl, hdd, hdat⟩, ?_, ?_⟩ ⟨by simp, ?_⟩ ?_ (by rw [size]; rw [hlen.1, ← hlen.2]; exact hz2) fun h' tk hd' hkk => ?_
      · simp [hits]
      · intro j kk vv hj
        rw [List.getElem?_map] at hj
        obtain ⟨e, he, hj⟩ := Option.map_eq_some_iff.mp hj
        cases hj
        refine ⟨by simp [hits, he], .inl ?_⟩
        show s.heap.IsTuple (es[j]?.elim 0 (·.t)) _
        rw [he]
        exact (pl.mem e (List.mem_of_getElem? he)).1
      · intro i key vv hi
        have hi' : (es.map fun e => (Value.ref e.b, e.u))[i]? = some (key, vv) := hi
        rw [List.getElem?_map] at hi'
        obtain ⟨e, he, hj⟩ := Option.map_eq_some_iff.mp hi'
        cases hj
        exact ⟨e.k, e.b, by rw [List.getElem?_map, he]; rfl, rfl⟩
      · intro h'' hkeep x hx
        obtain ⟨e, he, rfl⟩ := List.mem_map.mp hx
        obtain ⟨o', its', n', g1, g2, g3, g4⟩ := key_of I.hok (pl.mem e he).2.1
        exact ⟨o', its', n', hkeep _ _ (Nat.ne_of_lt (Heap.lt_size g1)) (fun z => nomatch z) g1, g2, g3, g4⟩
      · have hm : (s.heap.objs.size == sysModules) = false := beq_eq_false_iff_ne.mpr (Nat.ne_of_gt I.big)
        have hnew := I.hok.fresh (Nat.le_refl s.heap.objs.size)
        have hl : (es.foldl (fun a e => putK a e.k e.v) []).length ≤ sizeLine := by
          have := prL_putlen es []
          rw [List.length_nil, Nat.zero_add] at this
          rw [hlen.2] at hz2
          omega
        have kt := prL_kt pl [] [] .nil
        have rt := prL_rep pl [] [] (by rfl)
        obtain ⟨o', es', ep', g1, g2, g3, g4, _, g5⟩ := hd'
        have kp : ∀ o, Kp Z Z H (upd H s.heap.objs.size o) := fun o b u hb n z => ⟨by rw [upd_ne (fun q => by rw [q, hnew] at hb; cases hb)]; exact hb, z⟩
        have ex : ∀ o, Ex H (upd H s.heap.objs.size o) := fun o => Ex.new hnew
        refine ⟨.ref s.heap.objs.size, upd H s.heap.objs.size (.dT (es.foldl (fun a e => putK a e.k e.v) [])), I.laid (t' := tk) (fun b o e => hkk b o (fun z => nomatch z) e) (Nat.le_refl _) ⟨hl, hm, _, kt.keeps fun b ys eb => ?_, o', es', ep', g1, g2, g3, g4, g5⟩, rfl, k _ _ (ex _) ⟨_, rfl, hz.free hnew, .inr ⟨rfl, _, upd_same, RepT.mono (kp _) _ _ rt⟩⟩ fun _ _ => ⟨_, rfl, hnew, .inr ⟨rfl, _, upd_same, RepT.mono ?_ _ _ rt⟩⟩⟩
        · rw [upd_ne (fun q => by rw [q, hnew] at eb; cases eb)]; exact eb
        · exact (ex _).kpZ hnew
    · cases q
end
end PB
set_option maxHeartbeats 4000000
/-! Iz: exceptions with fields, made and raised. -/
namespace PB
open PySem PySem.Spec PyProof.Rows L2
def noCX : CXT := fun _ _ _ _ _ _ => False
/-- the body of an __init__ that keeps its arguments -/
def iniB : List Str → List Stmt → Bool
  | [], [] => true
  | f :: fs, .Assign [.Attribute (.Name s _) g _] (.Name h _) _ :: r => decide (s = "self") && decide (g = f) && decide (h = f) && iniB fs r
  | _, _ => false
def nmB (sc : Scope) (x : Str) : Bool := (match sc.names.lookup x with
  | some .local => true
  | some .cell => true
  | some .free => true
  | _ => false) && !(x == ("__debug__" : Str)) && !(x == ("__classdict__" : Str))
def spIni (K : PySem.W.Frag) (C : Addr) (fs : List Str) : L2.Sp := fun vs H Q _ => ∃ a ws, vs = .ref a :: ws ∧ ws.length = fs.length ∧ H a = some (exo a C none) ∧
  ∀ d H' l, H d = none → d ≠ a → H' a = some (exo a C (some d)) → H' d = some (exd d l) → (∀ b, b ≠ a → b ≠ d → H' b = H b) → (∀ f v, (fs.zip ws).lookup f = some v → l.lookup f = some v) → Q .non H'
section
variable {X : Cx}
theorem nm_of {i : Nat} {x : Str} {pos : Pos} (hN : X.N[i]? = some x) (h : nmB X.env.scope x = true) : PE X (.Name x pos) (tVar i) := by
  unfold nmB at h
  simp only [Bool.and_eq_true, Bool.not_eq_true'] at h
  refine pe_var hN ?_ h.1.2 h.2
  unfold Vis
  have h1 := h.1.1
  split at h1
  · rename_i q; exact .inl q
  · rename_i q; exact .inr (.inl q)
  · rename_i q; exact .inr (.inr q)
  · cases h1
theorem lookup_ne {f g : Str} {y : V} {l : List (Str × V)} (h : g ≠ f) : ((f, y) :: l).lookup g = l.lookup g := by rw [lookup_put, if_neg h]
/-- the stores behind the first one -/
theorem ini_more {cA : Addr} (T : OexC X.K cA) (h0 : X.N[0]? = some ("self" : Str)) (s0 : nmB X.env.scope "self" = true) : ∀ (fs : List Str) (r : List Stmt) (j : Nat), iniB fs r = true → (∀ i f, fs[i]? = some f → X.N[j + i]? = some f) → (∀ f ∈ fs, nmB X.env.scope f = true ∧ PySem.W.findIn X.K (.ref cA) f = some none) → fs.Nodup →
    ∃ t, PSs X r t ∧ ∀ (D : Ends) (σ : L2.St) (H : Hp) (a d : Addr) (l : List (Str × V)) (ws : List V), σ[0]? = some (some (V.ref a)) → ws.length = fs.length → (∀ i v, ws[i]? = some v → σ[j + i]? = some (some v)) → H a = some (exo a cA (some d)) → H d = some (exd d l) → d ≠ a → l.length + fs.length ≤ 900 →
      (∀ H' l', H' a = some (exo a cA (some d)) → H' d = some (exd d l') → (∀ b, b ≠ d → H' b = H b) → (∀ f v, (fs.zip ws).lookup f = some v → l'.lookup f = some v) → (∀ f, f ∉ fs → l'.lookup f = l.lookup f) → D.nx σ H') → t D σ H
  | [], r, j, hb, _, _, _ => by
    cases r with
    | nil =>
      refine ⟨_, pss_nil, fun D σ H a d l ws _ hl _ ha hd _ _ k => k H l ha hd (fun _ _ => rfl) (fun f v q => ?_) fun _ _ => rfl⟩
      simp at q
    | cons _ _ => cases hb
  | f :: fs, r, j, hb, hN, hs, nd => by
    cases r with
    | nil => cases hb
    | cons st r =>
      unfold iniB at hb
      split at hb
      · cases ‹_ = []›
      · rename_i f' fs' s ps g pa h ph pp r' e1 e2
        obtain ⟨rfl, rfl⟩ := List.cons.inj e1
        obtain ⟨rfl, rfl⟩ := List.cons.inj e2
        simp only [Bool.and_eq_true, decide_eq_true_eq] at hb
        obtain ⟨⟨⟨rfl, e3⟩, e4⟩, hr⟩ := hb
        have e3 := e3.symm
        have e4 := e4.symm
        subst e3
        subst e4
        have hd := List.nodup_cons.mp nd
        obtain ⟨t, pt, qt⟩ := ini_more T h0 s0 fs r (j + 1) hr (fun i f q => by rw [show j + 1 + i = j + (i + 1) by omega]; exact hN (i + 1) f (by simpa using q)) (fun f q => hs f (List.mem_cons_of_mem _ q)) hd.2
        obtain ⟨hn, hno⟩ := hs f List.mem_cons_self
        have p1 : PS X (.Assign [.Attribute (.Name "self" ps) f pa] (.Name f ph) pp) (tOst X.K f (tVar 0) (tVar j)) := ps_ost (nm_of h0 s0) (nm_of (by simpa using hN 0 f rfl) hn)
        have fin : ∀ (D : Ends) (σ : L2.St) (H : Hp) (a d : Addr) (l : List (Str × V)) (w : V) (ws : List V), σ[0]? = some (some (V.ref a)) → ws.length = fs.length → (∀ i v, (w :: ws)[i]? = some v → σ[j + i]? = some (some v)) → H a = some (exo a cA (some d)) → H d = some (exd d l) → d ≠ a → l.length + (f :: fs).length ≤ 900 →
            (∀ H' l', H' a = some (exo a cA (some d)) → H' d = some (exd d l') → (∀ b, b ≠ d → H' b = H b) → (∀ g v, ((f :: fs).zip (w :: ws)).lookup g = some v → l'.lookup g = some v) → (∀ g, g ∉ f :: fs → l'.lookup g = l.lookup g) → D.nx σ H') → t D σ (upd H d (exd d ((f, w) :: l))) := by
          intro D σ H a d l w ws h1 hl h2 ha hd hne hz k
          refine qt D σ _ a d ((f, w) :: l) ws h1 hl (fun i v q => by rw [show j + 1 + i = j + (i + 1) by omega]; exact h2 (i + 1) v (by simpa using q)) (by rw [upd_ne (Ne.symm hne)]; exact ha) upd_same hne (by simp only [List.length_cons] at hz ⊢; omega) fun H' l' k1 k2 k3 k4 k5 => ?_
          refine k H' l' k1 k2 (fun b hb => by rw [k3 b hb, upd_ne hb]) (fun g v q => ?_) fun g q => ?_
          · simp only [List.zip_cons_cons] at q
            rw [lookup_put] at q
            split at q
            · rename_i e
              subst e
              cases q
              rw [k5 g hd.1, lookup_put, if_pos rfl]
            · exact k4 g v q
          · rw [k5 g (fun z => q (List.mem_cons_of_mem _ z)), lookup_ne fun z => q (by rw [z]; exact List.mem_cons_self)]
        have stp : ∀ (D : Ends) (σ : L2.St) (H : Hp) (a d : Addr) (l : List (Str × V)) (w : V) (ws : List V), σ[0]? = some (some (V.ref a)) → (∀ i v, (w :: ws)[i]? = some v → σ[j + i]? = some (some v)) → H a = some (exo a cA (some d)) → H d = some (exd d l) → l.length + (f :: fs).length ≤ 900 → D.nx σ (upd H d (exd d ((f, w) :: l))) → tOst X.K f (tVar 0) (tVar j) D σ H := fun D σ H a d l w ws h1 h2 ha hd hz q =>
          ⟨w, by simpa using h2 0 w rfl, _, h1, a, cA, rfl, T, hno, .inr ⟨d, l, ha, hd, by simp only [List.length_cons] at hz; omega, q⟩⟩
        cases r with
        | nil =>
          refine ⟨_, pss_one p1, fun D σ H a d l ws h1 hl h2 ha hd hne hz k => ?_⟩
          cases ws with
          | nil => cases hl
          | cons w ws =>
            refine stp D σ H a d l w ws h1 h2 ha hd hz ?_
            have hfs : fs = [] := by cases fs <;> first | rfl | cases hr
            subst hfs
            have hws : ws = [] := by simpa using hl
            subst hws
            refine k _ ((f, w) :: l) (by rw [upd_ne (Ne.symm hne)]; exact ha) upd_same (fun b hb => upd_ne hb) (fun g v q => ?_) fun g q => lookup_ne fun z => q (by rw [z]; exact List.mem_cons_self)
            simp only [List.zip_cons_cons, List.zip_nil_left] at q
            rw [lookup_put] at q ⊢
            split at q
            · rename_i e; rw [if_pos e]; exact q
            · cases q
        | cons st2 r =>
          refine ⟨_, pss_cons p1 pt, fun D σ H a d l ws h1 hl h2 ha hd hne hz k => ?_⟩
          cases ws with
          | nil => cases hl
          | cons w ws =>
            refine stp _ σ H a d l w ws h1 h2 ha hd hz ?_
            exact fin D σ H a d l w ws h1 (by simpa using hl) h2 ha hd hne hz k
      · cases hb
/-- the whole body -/
theorem ini_all {cA : Addr} (T : OexC X.K cA) (h0 : X.N[0]? = some ("self" : Str)) (s0 : nmB X.env.scope "self" = true) {f : Str} {fs : List Str} {st : Stmt} {r : List Stmt} (hb : iniB (f :: fs) (st :: r) = true) (hN : ∀ i g, (f :: fs)[i]? = some g → X.N[1 + i]? = some g)
    (hs : ∀ g ∈ f :: fs, nmB X.env.scope g = true ∧ PySem.W.findIn X.K (.ref cA) g = some none) (nd : (f :: fs).Nodup) (hz : (f :: fs).length ≤ 900) :
    ∃ t, PSs X (st :: r) t ∧ ∀ (D : Ends) (σ : L2.St) (H : Hp) (a : Addr) (ws : List V), σ[0]? = some (some (V.ref a)) → ws.length = (f :: fs).length → (∀ i v, ws[i]? = some v → σ[1 + i]? = some (some v)) → H a = some (exo a cA none) →
      (∀ d H' l, H d = none → d ≠ a → H' a = some (exo a cA (some d)) → H' d = some (exd d l) → (∀ b, b ≠ a → b ≠ d → H' b = H b) → (∀ g v, ((f :: fs).zip ws).lookup g = some v → l.lookup g = some v) → D.nx σ H') → t D σ H := by
  unfold iniB at hb
  split at hb
  · cases ‹_ = []›
  · rename_i f' fs' s ps g pa h ph pp r' e1 e2
    obtain ⟨rfl, rfl⟩ := List.cons.inj e1
    obtain ⟨rfl, rfl⟩ := List.cons.inj e2
    simp only [Bool.and_eq_true, decide_eq_true_eq] at hb
    obtain ⟨⟨⟨rfl, e3⟩, e4⟩, hr⟩ := hb
    have e3 := e3.symm
    have e4 := e4.symm
    subst e3
    subst e4
    have hd := List.nodup_cons.mp nd
    obtain ⟨hn, hno⟩ := hs _ List.mem_cons_self
    obtain ⟨t, pt, qt⟩ := ini_more T h0 s0 fs r 2 hr (fun i g q => by rw [show 2 + i = 1 + (i + 1) by omega]; exact hN (i + 1) g (by simpa using q)) (fun f q => hs f (List.mem_cons_of_mem _ q)) hd.2
    have p1 : PS X (.Assign [.Attribute (.Name "self" ps) f pa] (.Name f ph) pp) (tOst X.K f (tVar 0) (tVar 1)) := ps_ost (nm_of h0 s0) (nm_of (by simpa using hN 0 f rfl) hn)
    have stp : ∀ (D : Ends) (σ : L2.St) (H : Hp) (a : Addr) (w : V) (ws : List V), σ[0]? = some (some (V.ref a)) → (∀ i v, (w :: ws)[i]? = some v → σ[1 + i]? = some (some v)) → H a = some (exo a cA none) →
        (∀ d, H d = none → d ≠ a → D.nx σ (upd (upd H d (exd d [(f, w)])) a (exo a cA (some d)))) → tOst X.K f (tVar 0) (tVar 1) D σ H := fun D σ H a w ws h1 h2 ha q =>
      ⟨w, by simpa using h2 0 w rfl, _, h1, a, cA, rfl, T, hno, .inl ⟨ha, q⟩⟩
    cases r with
    | nil =>
      refine ⟨_, pss_one p1, fun D σ H a ws h1 hl h2 ha k => ?_⟩
      cases ws with
      | nil => cases hl
      | cons w ws =>
        refine stp D σ H a w ws h1 h2 ha fun d hd1 hd2 => ?_
        have hfs : fs = [] := by cases fs <;> first | rfl | cases hr
        subst hfs
        have hws : ws = [] := by simpa using hl
        subst hws
        refine k d _ [(f, w)] hd1 hd2 upd_same (by rw [upd_ne hd2]; exact upd_same) (fun b b1 b2 => by rw [upd_ne b1, upd_ne b2]) fun g v q => ?_
        simpa using q
    | cons st2 r =>
      refine ⟨_, pss_cons p1 pt, fun D σ H a ws h1 hl h2 ha k => ?_⟩
      cases ws with
      | nil => cases hl
      | cons w ws =>
        refine stp _ σ H a w ws h1 h2 ha fun d hd1 hd2 => ?_
        refine qt D σ _ a d [(f, w)] ws h1 (by simpa using hl) (fun i v q => by rw [show 2 + i = 1 + (i + 1) by omega]; exact h2 (i + 1) v (by simpa using q)) upd_same (by rw [upd_ne hd2]; exact upd_same) hd2 (by simp only [List.length_cons, List.length_nil] at hz ⊢; omega) fun H' l' k1 k2 k3 k4 k5 => ?_
        refine k d H' l' hd1 hd2 k1 k2 (fun b b1 b2 => by rw [k3 b b2, upd_ne b1, upd_ne b2]) fun g v q => ?_
        simp only [List.zip_cons_cons] at q
        rw [lookup_put] at q
        split at q
        · rename_i e
          subst e
          cases q
          rw [k5 g hd.1, lookup_put, if_pos rfl]
        · exact k4 g v q
  · cases hb
end
/-- a class of exceptions whose __init__ keeps its arguments -/
theorem ini_ok {P : Program} {w : World} {K : PySem.W.Frag} {mg : Str → Option Value} {base : Heap} {fI cA : Addr} {qual name : Str} {params : Arguments} {body : List Stmt} {scope : Scope} {dV kV doc pm cdv ct oc : Value} {an od : Option Addr} {osl : Array (Option Value)} {fs : List Str}
    (lk : K.lookup fI = some ⟨oc, od, .func (PySem.W.fnOf name qual params body scope dV kV doc pm an cdv ct), osl⟩) (hcd : PySem.W.codeIn K cdv qual = true) (S : FnScope ("self" :: fs) ("self" :: fs) scope) (T : OexC K cA) (hb : iniB fs body = true) (hne : fs ≠ [])
    (hs : ∀ g ∈ fs, nmB scope g = true ∧ PySem.W.findIn K (.ref cA) g = some none) (s0 : nmB scope "self" = true) (nd : fs.Nodup) (hz : fs.length ≤ 900) (k : Nat) :
    FnOk P w K mg base noCX (k + 1) fI (PySem.W.fnOf name qual params body scope dV kV doc pm an cdv ct) ("self" :: fs) (spIni K cA fs) := by
  refine fn_of lk hcd S (fun vs H Q E ⟨a, ws, e, hl, _⟩ => by rw [e]; simp [hl]) fun A outer s H vs Q E room h => ?_
  obtain ⟨a, ws, rfl, hl, ha, q⟩ := h
  cases fs with
  | nil => exact absurd rfl hne
  | cons f fs =>
    cases body with
    | nil => cases hb
    | cons st r =>
      obtain ⟨t, pt, qt⟩ := ini_all (X := cxOf noCX P w K mg base ("self" :: f :: fs) qual scope fI cdv A outer s H E) T rfl s0 hb (fun i g z => by rw [Nat.add_comm]; exact z) hs nd hz
      refine ⟨t, pt, qt _ _ H a ws ?_ hl (fun i v z => ?_) ha fun d H' l h1 h2 h3 h4 h5 h6 => q d H' l h1 h2 h3 h4 h5 h6⟩
      · rw [start_get (by simp [hl])]
        simp
      · have hi := lt_of_get z
        rw [start_get (by simp [hl])]
        simp only [List.length_cons]
        rw [if_pos (by omega), Nat.add_comm 1 i, List.getElem?_cons_succ, z]
section
variable {X : Cx} {Γ : Gm} {fq : Nat → Bool} {fr : Bool} {XW : WX} {G : Gx} {a : C} {st : Stmt}
theorem flds0_zip : ∀ {fs : List Str} {l : List PB.D} {z : List (Str × PB.D)}, flds0 fs l = some z → z = fs.zip l ∧ l.length = fs.length
  | [], [], z, h => by cases h; exact ⟨rfl, rfl⟩
  | [], _ :: _, z, h => by cases h
  | _ :: _, [], z, h => by cases h
  | f :: fs, d :: l, z, h => by
    simp only [flds0] at h
    obtain ⟨q, hq, rfl⟩ := Option.map_eq_some_iff.mp h
    obtain ⟨e1, e2⟩ := flds0_zip hq
    subst e1
    exact ⟨rfl, by simp [e2]⟩
theorem zip_lookup {Z : AS} {H : Hp} : ∀ {fs : List Str} {l : List PB.D} {vs : List V}, RepL Z H l vs → ∀ f d, (fs.zip l).lookup f = some d → ∃ v, (fs.zip vs).lookup f = some v ∧ Rep Z H d v
  | [], _, _, _, f, d, h => by simp at h
  | _ :: _, [], _, _, f, d, h => by simp at h
  | g :: fs, d0 :: l, vs, r, f, d, h => by
    obtain ⟨v, r', rfl, h1, h2⟩ := r
    simp only [List.zip_cons_cons, List.lookup_cons] at h ⊢
    split at h
    · cases h; exact ⟨v, rfl, h1⟩
    · exact zip_lookup h2 f d h
theorem S_raise {cls : Nat} {cA : Addr} {fs : List Str} (hxin : G.xin cls = fs) (hC : Γ.cA cls = some cA) (hln : ∀ l e e', ev a G e = some (.ok (.lst l) e') → l.length ≤ 1000)
    (h : PS X st (fun _ σ H => tMkO cA (spIni X.K cA fs) [] (rdA Γ XW G a) σ H fun cl d H' => XW cl d σ H')) : PS X st (rdSt Γ fr XW G (.raise cls a)) := PSimp h fun D σ H q => by
  obtain ⟨F, e, E, w⟩ := q
  simp only [exec] at w
  have w1 := WtS_outB w
  refine ⟨F, e, E, ?_⟩
  revert w1
  cases hev : ev a G e with
  | none => exact fun z => z
  | some r => cases r with
    | xc x e1 => exact fun z => z
    | ok xs e1 =>
      intro w1
      cases xs with
      | lst l =>
       have w2 : rdS' Γ fr XW F D σ H (if noLocs a then (flds0 (G.xin cls) l).map fun fs => Out.xc ⟨cls, fs⟩ e1 else none) := w1
       obtain ⟨hno, w3⟩ := rdS_ite w2
       cases hf : flds0 (G.xin cls) l with
       | none => rw [hf] at w3; exact w3.elim
       | some z =>
         rw [hf] at w3
         obtain ⟨rfl, hlen⟩ := flds0_zip hf
         rw [hxin] at hlen w3
         have w4 : XFS Γ XW F σ H ⟨cls, fs.zip l⟩ e1 := w3
         refine ⟨l, rfl, fun vs H1 k1 E1 rs => ?_⟩
         have rep := VRs.repL hno rs
         have lv := RepL.length _ _ rep
         refine ⟨by have := hln l e e1 hev; omega, fun o ho => ⟨o, vs, by simp, by omega, upd_same, fun d H' l' hd hne ha' hd' hk hl' => ⟨rfl, d, l', ha', hd', ?_, ?_⟩⟩⟩
         · rw [upd_ne hne] at hd; exact hd
         · have hd1 : H1 d = none := by rw [upd_ne hne] at hd; exact hd
           have ex : Ex H1 (upd (del H' o) d (.xd l')) := fun b u hb => by
             have b1 : b ≠ d := fun z => by rw [z, hd1] at hb; cases hb
             have b2 : b ≠ o := fun z => by rw [z, ho] at hb; cases hb
             rw [upd_ne b1, del_ne b2, hk b b2 b1, upd_ne b2]
             exact hb
           refine w4 (.ref cA) (some d) σ _ (k1.stp.trans (Ex.sp ex).stp) (E1.ext ex) ⟨cA, hC, rfl, d, l', rfl, upd_same, fun f dd hfd => ?_⟩
           obtain ⟨v, q1, q2⟩ := zip_lookup rep f dd hfd
           exact ⟨v, hl' f v q1, Rep.mono ex.kp _ _ q2⟩
      | _ => exact (show False from w1).elim
end
end PB
set_option maxHeartbeats 4000000
/-! Il2: comprehensions of two clauses. -/
namespace PB
open PySem PySem.Spec PyProof.Rows L2
/-- the inner walk of a comprehension -/
theorem lc_in {J : It} {n : Nat} {Gd : Hp → Prop} {Y : Nat → Hp → V → Hp → Prop} (w : Walk J n Gd Y) {g : TG} {tt : TT} {te : TE} {vs : List Nat} {σ : L2.St} {H1 : Hp} {D : Addr} {Nx : Hp → Prop} (Pv : Nat → Hp → Prop) (h0 : Pv 0 H1) (hG : ∀ i H, i ≤ n → Pv i H → Gd H)
    (hs : ∀ i x H H', i < n → Pv i H → Y i H x H' → g x (wipe σ vs) H' fun σ2 H2 => wipe σ2 vs = wipe σ vs ∧ tt σ2 H2 fun b H3 =>
      if b = true then te σ2 H3 fun y H4 => ∃ acc, H4 D = some (.lst acc) ∧ acc.length < sizeLine ∧ Pv (i + 1) (upd H4 D (.lst (acc ++ [y]))) else Pv (i + 1) H3) (hd : ∀ H, Pv n H → Nx H) :
    ∃ W : Nat → Nat → Hp → Prop, (∃ m, W 0 m H1) ∧ ∀ i m H, W i m H →
      (J.stop i H ∧ Nx H) ∨ (J.go i H ∧ ∃ Nx : Hp → Prop, (∀ H', Nx H' → ∃ m', m' < m ∧ W (i + 1) m' H') ∧ ∀ x H', J.yld i H x H' → g x (wipe σ vs) H' fun σ2 H2 => wipe σ2 vs = wipe σ vs ∧ tt σ2 H2 fun b H3 =>
        if b = true then te σ2 H3 fun y H4 => ∃ acc, H4 D = some (.lst acc) ∧ acc.length < sizeLine ∧ Nx (upd H4 D (.lst (acc ++ [y]))) else Nx H3) := by
  refine ⟨fun i m H => m = n - i ∧ i ≤ n ∧ Pv i H, ⟨n, by simp, Nat.zero_le _, h0⟩, ?_⟩
  rintro i m H ⟨rfl, hi, p⟩
  have q := hG i H hi p
  by_cases hlt : i < n
  · refine .inr ⟨w.goes i H hlt q, Pv (i + 1), fun H' p' => ⟨n - (i + 1), by omega, rfl, hlt, p'⟩, fun x H' y => hs i x H H' hlt p (w.yields i H x H' hlt q y)⟩
  · have e : i = n := by omega
    subst e
    exact .inl ⟨w.stops H q, hd H p⟩
/-- the outer walk -/
theorem lc_out {J : It} {n : Nat} {Gd : Hp → Prop} {Y : Nat → Hp → V → Hp → Prop} (w : Walk J n Gd Y) {g : TG} {T : L2.St → Hp → (Hp → Prop) → Prop} {vs : List Nat} {σ : L2.St} {H1 : Hp} {Qd : Hp → Prop} (Pv : Nat → Hp → Prop) (h0 : Pv 0 H1) (hG : ∀ i H, i ≤ n → Pv i H → Gd H)
    (hs : ∀ i x H H', i < n → Pv i H → Y i H x H' → g x (wipe σ vs) H' fun σ2 H2 => wipe σ2 vs = wipe σ vs ∧ T σ2 H2 (Pv (i + 1))) (hd : ∀ H, Pv n H → Qd H) :
    ∃ W : Nat → Nat → Hp → Prop, (∃ m, W 0 m H1) ∧ ∀ i m H, W i m H →
      (J.stop i H ∧ Qd H) ∨ (J.go i H ∧ ∃ Nx : Hp → Prop, (∀ H', Nx H' → ∃ m', m' < m ∧ W (i + 1) m' H') ∧ ∀ x H', J.yld i H x H' → g x (wipe σ vs) H' fun σ2 H2 => wipe σ2 vs = wipe σ vs ∧ T σ2 H2 Nx) := by
  refine ⟨fun i m H => m = n - i ∧ i ≤ n ∧ Pv i H, ⟨n, by simp, Nat.zero_le _, h0⟩, ?_⟩
  rintro i m H ⟨rfl, hi, p⟩
  have q := hG i H hi p
  by_cases hlt : i < n
  · refine .inr ⟨w.goes i H hlt q, Pv (i + 1), fun H' p' => ⟨n - (i + 1), by omega, rfl, hlt, p'⟩, fun x H' y => hs i x H H' hlt p (w.yields i H x H' hlt q y)⟩
  · have e : i = n := by omega
    subst e
    exact .inl ⟨w.stops H q, hd H p⟩
theorem wipe_wipe {vs us : List Nat} {σ : L2.St} (h : ∀ i ∈ us, i ∈ vs) : wipe (wipe σ us) vs = wipe σ vs := by
  apply List.ext_getElem?
  intro j
  rw [(wipe_get vs (wipe σ us) j).2, (wipe_get vs σ j).2, (wipe_get us σ 0).1]
  split
  · rfl
  · rename_i n
    by_cases hj : j < σ.length
    · exact wipe_not fun z => n ⟨h j z, hj⟩
    · rw [List.getElem?_eq_none (by rw [(wipe_get us σ 0).1]; omega), List.getElem?_eq_none (by omega)]
theorem wipeE_wipeE {vs us : List Nat} {e : En} (h : ∀ i ∈ us, i ∈ vs) : wipeE (wipeE e us) vs = wipeE e vs := by
  apply List.ext_getElem?
  intro j
  rw [(wipeE_get vs (wipeE e us) j).2, (wipeE_get vs e j).2, (wipeE_get us e 0).1]
  split
  · rfl
  · rename_i n
    by_cases hj : j < e.length
    · exact wipeE_not fun z => n ⟨h j z, hj⟩
    · rw [List.getElem?_eq_none (by rw [(wipeE_get us e 0).1]; omega), List.getElem?_eq_none (by omega)]
section
variable {X : Cx} {Γ : Gm} {fq : Nat → Bool} {XW : WX} {G : Gx} {a b c a1 b1 c1 elt : C} {tg ex : Expr} {vs vs1 : List Nat}
theorem lc2_read (hks : G.ks = Γ.ks) (hv : vsOk Γ vs) (ht : ∀ i ∈ slotsG a, i ∈ vs) (hv1 : ∀ i ∈ vs1, i ∈ vs) (ht1 : ∀ i ∈ slotsG a1, i ∈ vs1) {σ : L2.St} {H : Hp} {Q : VK} (q : rdE Γ fq XW G (.lc2 vs vs1 a c b a1 c1 b1 elt) σ H Q) :
    tLc2 (rdI Γ XW G c) (rdG Γ a) (rdT Γ noX G b) (rdI Γ noX G c1) (rdG Γ a1) (rdT Γ noX G b1) (rdE Γ fq noX G elt) vs vs1 σ H Q := by
  obtain ⟨F, e, E, w⟩ := q
  simp only [ev, hks] at w
  refine ⟨F, e, E, (Wt_bnd w).imp (fun d e1 w1 => ?_) fun _ _ q => q⟩
  obtain ⟨ds, q1, w1⟩ := Wt_bind w1
  refine ⟨ds, q1, fun J H1 k1 E1 it D hD => ?_⟩
  obtain ⟨Gd, Y, wk, hG, hY⟩ := it
  obtain ⟨L, eL, hloop, w2⟩ := Wt_bnd0 w1
  obtain ⟨hlim, w2⟩ := Wt_ite w2
  generalize hstep1 : (fun (x : PB.D) (e6 : En) => (asgT Γ.ks a1 x (wipeE e6 vs1)).bind fun e7 => bnd0 (ev b1 G e7) fun t e8 => (finT b1 t e8).bind fun t => if t = true then bnd0 (ev elt G e8) fun y e9 => if isLoc elt = true then none else some (R.ok (some y) e9) else some (R.ok (none : Option PB.D) e8)) = step1 at hloop
  generalize hstep : (fun (x : PB.D) (e2 : En) => (asgT Γ.ks a x (wipeE e2 vs)).bind fun e3 => bnd0 (ev b G e3) fun t e4 => (finT b t e4).bind fun t => if t = true then bnd0 (ev c1 G e4) fun d1 e5 => (itemsOf Γ.ks c1 d1 e5).bind fun ds1 => lcLoop step1 ds1 e5 else some (R.ok ([] : List PB.D) e4)) = step at hloop
  have hvs1 : vsOk Γ vs1 := fun i hi => hv i (hv1 i hi)
  have D0 : F.H0 D = none := E1.h0 hD
  have Dz : ¬ zt Γ F σ D := fun z => (E1.ztH D z).1 hD
  have Ds : ∀ {σ : L2.St}, ¬ zt Γ F σ D → ¬ zs Γ (F.add D) σ D := fun {σ} n z => by
    rcases z with z | z
    · exact n (.inr z)
    · exact z.2 (.inr rfl)
  have x0 : Ex H1 (upd H1 D (.lst [])) := Ex.new hD
  have E0 : ER Γ (F.add D) (upd H1 D (.lst [])) σ e1 := E1.extZ x0 fun q hq => by
    rcases hq with hq | hq
    · exact .inl hq
    · subst hq
      exact .inr ⟨hD, (by intro z; rw [upd_same] at z; cases z), (by intro _ z; rw [upd_same] at z; cases z), (by intro _ z; rw [upd_same] at z; cases z)⟩
  have kz0 : Kp (zt Γ F σ) (zt Γ (F.add D) σ) H1 (upd H1 D (.lst [])) := kp_of (fun q o hq _ _ => x0 q o hq) fun q hq => hq.imp id fun (z : q = D) => by rw [z]; exact hD
  have ks0 : Kp (zs Γ F σ) (zs Γ F σ) H1 (upd H1 D (.lst [])) := x0.kp
  have Dn : ¬ zs Γ (F.add D) σ D := Ds Dz
  have dz : zt Γ (F.add D) σ D := .inl (.inr rfl)
  have dzo : zo Γ (F.add D) σ D := .inr D0
  -- what holds of a heap in the block, σq having the own slots of σ
  have sub : ∀ {σ2 : L2.St} {accV : List V} {Ha Hb : Hp}, OsS Γ.ks σ2 = OsS Γ.ks σ → Sp Γ (F.add D) σ2 Ha Hb → Ha D = some (.lst accV) → Kp (zt Γ F σ) (zt Γ (F.add D) σ) H1 Ha ∧ Kp (zs Γ F σ) (zs Γ F σ) H1 Ha ∧ (∀ q, H1 q ≠ none → Ha q ≠ none) →
      (Kp (zt Γ F σ) (zt Γ (F.add D) σ) H1 Hb ∧ Kp (zs Γ F σ) (zs Γ F σ) H1 Hb ∧ ∀ q, H1 q ≠ none → Hb q ≠ none) ∧ Hb D = some (.lst accV) ∧ Kp (zt Γ (F.add D) σ) (zt Γ (F.add D) σ) Ha Hb ∧ Kp (zo Γ (F.add D) σ) (zo Γ (F.add D) σ) Ha Hb := fun {σ2 accV Ha Hb} ho k hh ⟨a1, a2, a3⟩ => by
    have zz : zt Γ (F.add D) σ2 = zt Γ (F.add D) σ := by unfold zt; rw [ho]
    have zzs : zs Γ (F.add D) σ2 = zs Γ (F.add D) σ := by unfold zs; rw [ho]
    have kp := k.kp
    have ko := k.ko
    rw [zz] at kp
    rw [zzs] at ko
    refine ⟨⟨a1.trans kp, fun q o hq hn hz => ?_, fun q hq => k.dom q (a3 q hq)⟩, (ko D _ hh (fun ps z => by cases z) Dn).1, kp, fun q o hq hn hz => ⟨(ko q o hq hn fun z => hz (z.imp id fun z => z.1)).1, hz⟩⟩
    have b1 := a2 q o hq hn hz
    refine ⟨(ko q o b1.1 hn fun z => hz ?_).1, hz⟩
    rcases z with z | z
    · exact .inl z
    · exact .inr ⟨z.1, fun y => z.2 (.inl y)⟩
  refine lc_out wk (g := rdG Γ a) (T := fun σ2 H2 Nx => rdT Γ noX G b σ2 H2 fun b H3 => if b = true then rdI Γ noX G c1 σ2 H3 fun J1 H4 => ∃ W1 : Nat → Nat → Hp → Prop, (∃ m, W1 0 m H4) ∧ ∀ j k H, W1 j k H →
      (J1.stop j H ∧ Nx H) ∨ (J1.go j H ∧ ∃ Nx1 : Hp → Prop, (∀ H', Nx1 H' → ∃ k', k' < k ∧ W1 (j + 1) k' H') ∧ ∀ x H', J1.yld j H x H' → rdG Γ a1 x (wipe σ2 vs1) H' fun σ3 H5 => wipe σ3 vs1 = wipe σ2 vs1 ∧ rdT Γ noX G b1 σ3 H5 fun b H6 =>
        if b = true then rdE Γ fq noX G elt σ3 H6 fun y H7 => ∃ acc, H7 D = some (.lst acc) ∧ acc.length < sizeLine ∧ Nx1 (upd H7 D (.lst (acc ++ [y]))) else Nx1 H6) else Nx H3)
    (fun i H' => ∃ e' acc accV l, ER Γ (F.add D) H' (wipe σ vs) (wipeE e' vs) ∧ Kp (zt Γ F σ) (zt Γ (F.add D) σ) H1 H' ∧ Kp (zs Γ F σ) (zs Γ F σ) H1 H' ∧ (∀ q, H1 q ≠ none → H' q ≠ none) ∧ H' D = some (.lst accV) ∧ RepL (zt Γ (F.add D) σ) H' acc accV ∧
    lcLoop2 step (ds.drop i) e' = some (.ok l eL) ∧ acc ++ l = L) ⟨e1, [], [], L, E0.wiped hv, kz0, ks0, fun q hq => upd_dom q hq, upd_same, rfl, by rw [List.drop_zero]; exact hloop, rfl⟩ ?_ ?_ ?_
  · rintro i H' hi ⟨e', acc, accV, l, E', kz, kk, dm, _⟩
    exact hG _ _ H' kz kk.so
  · rintro i x H' H'' hi ⟨e', acc, accV, l, E', kz, kk, dm, hDD, rA, hl, hL⟩ y
    have zw := zt_wipe (F := F.add D) (σ := σ) hv
    obtain ⟨x1, d, q2, r⟩ := hY i x _ H' H'' kz hi (by rw [← zw]; exact E'.ztH) y
    have hlt := lt_of_get q2
    have ed : ds.drop i = d :: ds.drop (i + 1) := by
      rw [List.drop_eq_getElem_cons hlt]
      congr 1
      rw [List.getElem?_eq_getElem hlt] at q2
      exact Option.some.inj q2
    rw [ed] at hl
    simp only [lcLoop2] at hl
    obtain ⟨o, e6, hst, hl⟩ := bnd0_ok hl
    obtain ⟨l', e7, hl2, hl3⟩ := bnd0_ok hl
    cases hl3
    rw [← hstep] at hst
    obtain ⟨e3, q3, hst⟩ := Option.bind_eq_some_iff.mp hst
    obtain ⟨t, e4, q4, hst⟩ := bnd0_ok hst
    obtain ⟨tt, q5, hst⟩ := Option.bind_eq_some_iff.mp hst
    refine ⟨F.add D, wipeE e' vs, d, e3, E'.ext x1, by rw [zw]; exact r, q3, fun σ2 E2 z2 y2 => ?_⟩
    have os2 : OsS Γ.ks σ2 = OsS Γ.ks σ := by rw [z2, osS_wipe hv]
    have zz : zt Γ (F.add D) σ2 = zt Γ (F.add D) σ := by unfold zt; rw [os2]
    have zzo : zo Γ (F.add D) σ2 = zo Γ (F.add D) σ := by unfold zo; rw [os2]
    have wp2 : wipe σ2 vs = wipe σ vs := by
      rw [y2 vs ht]
      exact wipe_wipe fun _ q => q
    refine ⟨wp2, ?_⟩
    have c0 : Kp (zt Γ F σ) (zt Γ (F.add D) σ) H1 H'' ∧ Kp (zs Γ F σ) (zs Γ F σ) H1 H'' ∧ ∀ q, H1 q ≠ none → H'' q ≠ none := ⟨kz.trans x1.kp, kk.trans x1.kp, fun q hq => (x1.sp (Γ := Γ) (F := F) (σ := σ)).dom q (dm q hq)⟩
    have hD2 : H'' D = some (.lst accV) := x1 D _ hDD
    have rA2 : RepL (zt Γ (F.add D) σ) H'' acc accV := RepL.mono x1.kp _ _ rA
    refine ⟨F.add D, e3, E2, Wt.ifs ?_ q4.symm⟩
    refine ⟨tt, q5, fun H3 k3 E3 => ?_⟩
    obtain ⟨c3, hD3, kz3, _⟩ := sub os2 k3 hD2 c0
    have rA3 : RepL (zt Γ (F.add D) σ) H3 acc accV := RepL.mono kz3 _ _ rA2
    cases tt with
    | false =>
      cases hst
      rw [if_neg Bool.false_ne_true]
      exact ⟨_, acc, accV, l', by rw [← wp2]; exact E3.wiped hv, c3.1, c3.2.1, c3.2.2, hD3, rA3, hl2, hL⟩
    | true =>
      rw [if_pos rfl] at hst ⊢
      obtain ⟨d1, e5, q6, hst⟩ := bnd0_ok hst
      obtain ⟨ds1, q7, hst⟩ := Option.bind_eq_some_iff.mp hst
      refine ⟨F.add D, e4, E3, Wt.ifs ?_ q6.symm⟩
      refine ⟨ds1, q7, fun J1 H4 k4 E4 it1 => ?_⟩
      obtain ⟨Gd1, Y1, wk1, hG1, hY1⟩ := it1
      rw [zz] at hG1 hY1
      rw [zzo] at hG1
      obtain ⟨c4, hD4, kz4, _⟩ := sub os2 k4 hD3 c3
      have rA4 : RepL (zt Γ (F.add D) σ) H4 acc accV := RepL.mono kz4 _ _ rA3
      refine lc_in wk1 (fun j H' => ∃ e' acc accV l1, ER Γ (F.add D) H' (wipe σ2 vs1) (wipeE e' vs1) ∧ (Kp (zt Γ (F.add D) σ) (zt Γ (F.add D) σ) H4 H' ∧ Kp (zo Γ (F.add D) σ) (zo Γ (F.add D) σ) H4 H') ∧ (Kp (zt Γ F σ) (zt Γ (F.add D) σ) H1 H' ∧ Kp (zs Γ F σ) (zs Γ F σ) H1 H' ∧ ∀ q, H1 q ≠ none → H' q ≠ none) ∧ H' D = some (.lst accV) ∧ RepL (zt Γ (F.add D) σ) H' acc accV ∧
        lcLoop step1 (ds1.drop j) e' = some (.ok l1 e6) ∧ acc ++ (l1 ++ l') = L) ⟨e5, acc, accV, o, E4.wiped hvs1, ⟨Kp.refl, Kp.refl⟩, c4, hD4, rA4, by rw [List.drop_zero]; exact hst, hL⟩ ?_ ?_ ?_
      · rintro j H' hj ⟨e', acc, accV, l1, E', ⟨ka, kb⟩, _⟩
        exact hG1 _ _ H' ka kb
      · rintro j x1 H5 H6 hj ⟨e', acc, accV, l1, E', ⟨ka, kb⟩, c5, hD5, rA5, hl1, hL1⟩ y1
        have zw1 : zt Γ (F.add D) (wipe σ2 vs1) = zt Γ (F.add D) σ := (zt_wipe hvs1).trans zz
        obtain ⟨xx, dd, q8, rr⟩ := hY1 j x1 _ H5 H6 ka hj (by rw [← zw1]; exact E'.ztH) y1
        have hlt1 := lt_of_get q8
        have ed1 : ds1.drop j = dd :: ds1.drop (j + 1) := by
          rw [List.drop_eq_getElem_cons hlt1]
          congr 1
          rw [List.getElem?_eq_getElem hlt1] at q8
          exact Option.some.inj q8
        rw [ed1] at hl1
        simp only [lcLoop] at hl1
        obtain ⟨o1, e8, hst1, hl1⟩ := bnd0_ok hl1
        obtain ⟨l2, e9, hl3, hl4⟩ := bnd0_ok hl1
        cases hl4
        rw [← hstep1] at hst1
        obtain ⟨e7, p3, hst1⟩ := Option.bind_eq_some_iff.mp hst1
        obtain ⟨t1, ea, p4, hst1⟩ := bnd0_ok hst1
        obtain ⟨tt1, p5, hst1⟩ := Option.bind_eq_some_iff.mp hst1
        refine ⟨F.add D, wipeE e' vs1, dd, e7, E'.ext xx, by rw [zw1]; exact rr, p3, fun σ3 E7 z3 y3 => ?_⟩
        have os3 : OsS Γ.ks σ3 = OsS Γ.ks σ := by rw [z3, osS_wipe hvs1, os2]
        have zz3 : zt Γ (F.add D) σ3 = zt Γ (F.add D) σ := by unfold zt; rw [os3]
        have wp3 : wipe σ3 vs1 = wipe σ2 vs1 := by
          rw [y3 vs1 ht1]
          exact wipe_wipe fun _ q => q
        refine ⟨wp3, ?_⟩
        have c6 : Kp (zt Γ F σ) (zt Γ (F.add D) σ) H1 H6 ∧ Kp (zs Γ F σ) (zs Γ F σ) H1 H6 ∧ ∀ q, H1 q ≠ none → H6 q ≠ none := ⟨c5.1.trans xx.kp, c5.2.1.trans xx.kp, fun q hq => (xx.sp (Γ := Γ) (F := F) (σ := σ)).dom q (c5.2.2 q hq)⟩
        have hD6 : H6 D = some (.lst accV) := xx D _ hD5
        have rA6 : RepL (zt Γ (F.add D) σ) H6 acc accV := RepL.mono xx.kp _ _ rA5
        refine ⟨F.add D, e7, E7, Wt.ifs ?_ p4.symm⟩
        refine ⟨tt1, p5, fun H7 k7 Ea => ?_⟩
        obtain ⟨c7, hD7, kz7, ko7⟩ := sub os3 k7 hD6 c6
        have rA7 : RepL (zt Γ (F.add D) σ) H7 acc accV := RepL.mono kz7 _ _ rA6
        have ka7 := (ka.trans xx.kp).trans kz7
        have kb7 := (kb.trans xx.kp).trans ko7
        cases tt1 with
        | false =>
          rw [if_neg Bool.false_ne_true] at hst1 ⊢
          cases hst1
          exact ⟨_, acc, accV, l2, by rw [← wp3]; exact Ea.wiped hvs1, ⟨ka7, kb7⟩, c7, hD7, rA7, hl3, hL1⟩
        | true =>
          rw [if_pos rfl] at hst1 ⊢
          obtain ⟨yv, eb, p6, hst1⟩ := bnd0_ok hst1
          split at hst1
          · cases hst1
          · rename_i hloc
            cases hst1
            refine ⟨F.add D, ea, Ea, Wt.ifs ?_ p6.symm⟩
            intro v H8 k8 Eb r8
            have rv := r8.1.rep (by simpa using hloc)
            rw [zz3] at rv
            obtain ⟨c8, hD8, kz8, ko8⟩ := sub os3 k8 hD7 c7
            have rA8 : RepL (zt Γ (F.add D) σ) H8 acc accV := RepL.mono kz8 _ _ rA7
            have hlen := RepL.length _ _ rA8
            have kD : Kp (zt Γ (F.add D) σ) (zt Γ (F.add D) σ) H8 (upd H8 D (.lst (accV ++ [v]))) := fun q o hq _ hz => ⟨by rw [upd_ne (fun z => hz (by rw [z]; exact dz))]; exact hq, hz⟩
            have kDo : Kp (zo Γ (F.add D) σ) (zo Γ (F.add D) σ) H8 (upd H8 D (.lst (accV ++ [v]))) := fun q o hq _ hz => ⟨by rw [upd_ne (fun z => hz (by rw [z]; exact dzo))]; exact hq, hz⟩
            refine ⟨accV, hD8, ?_, e8, acc ++ [yv], accV ++ [v], l2, ?_, ⟨(ka7.trans kz8).trans kD, (kb7.trans ko8).trans kDo⟩, ⟨c8.1.trans kD, ?_, fun q hq => upd_dom q (c8.2.2 q hq)⟩, upd_same, RepL.mono kD _ _ (RepL.append _ _ _ _ rA8 ⟨v, [], rfl, rv, rfl⟩), hl3, by rw [List.append_assoc]; exact hL1⟩
            · have h1 : acc.length ≤ L.length := by rw [← hL1]; simp
              have := sizeLine_eq
              unfold lim at hlim
              omega
            · rw [← wp3]
              exact (Eb.wrZ hD8 (.inr rfl) D0).wiped hvs1
            · intro q o hq hn hz
              have b1 := c8.2.1 q o hq hn hz
              exact ⟨by rw [upd_ne (fresh_ne hD hq)]; exact b1.1, hz⟩
      · rintro H' ⟨e', acc, accV, l1, E', _, c5, hD5, rA5, hl1, hL1⟩
        rw [List.drop_length] at hl1
        cases hl1
        refine ⟨e6, acc, accV, l', ?_, c5.1, c5.2.1, c5.2.2, hD5, rA5, hl2, hL1⟩
        have := E'.wiped hv
        rw [wipe_wipe hv1, wipeE_wipeE hv1, wp2] at this
        exact this
  · rintro H' ⟨e', acc, accV, l, E', kz, kk, dm, hDD, rA, hl, hL⟩
    rw [List.drop_length] at hl
    cases hl
    rw [List.append_nil] at hL
    subst hL
    have Ef : ER Γ F H' σ (restE e1 eL vs) := E'.unadd.rest E1 (fun q o hq hn hz => ⟨(kz q o hq hn hz).1, hz⟩) hv
    have EfD : ER Γ (F.add D) H' σ (restE e1 eL vs) := E'.rest E0 (fun q o hq hn hz => by
      by_cases hqD : q = D
      · subst hqD; exact absurd (.inl (.inr rfl)) hz
      · rw [upd_ne hqD] at hq
        exact ⟨(kz q o hq hn fun z => hz (z.imp .inl id)).1, hz⟩) hv
    have own : Own (addZ (zt Γ F σ) D) H' D (.lst acc) := ⟨accV, hDD, rA.monoZ fun q hq => by
      rcases hq with (hq | hq) | hq
      · exact .inl (.inl hq)
      · exact .inr hq
      · exact .inl (.inr hq)⟩
    refine w2 (.ref D) H' (k1.trans ⟨fun q o hq hn hz => ⟨(kz q o hq hn hz).1, hz⟩, kk, dm⟩) Ef ⟨⟨D, accV, rfl, ⟨Dz, hDD⟩, rA.monoZ fun q hq => ?_⟩, fun _ _ => ⟨D, rfl, ?_, D0, Dz, EfD, own⟩⟩
    · exact hq.imp .inl id
    · cases qa : H D with
      | none => rfl
      | some o => exact absurd hD (k1.dom D (by rw [qa]; exact fun z => nomatch z))
theorem E_lc2 (hks : G.ks = Γ.ks) (hv : vsOk Γ vs) (ht : ∀ i ∈ slotsG a, i ∈ vs) (hv1 : ∀ i ∈ vs1, i ∈ vs) (ht1 : ∀ i ∈ slotsG a1, i ∈ vs1) (h : PE X ex (tLc2 (rdI Γ XW G c) (rdG Γ a) (rdT Γ noX G b) (rdI Γ noX G c1) (rdG Γ a1) (rdT Γ noX G b1) (rdE Γ fq noX G elt) vs vs1)) : PE X ex (rdE Γ fq XW G (.lc2 vs vs1 a c b a1 c1 b1 elt)) := PEimp h fun _ _ _ q => lc2_read hks hv ht hv1 ht1 q
end
end PB
set_option maxHeartbeats 4000000
/-! Ilt: a try with several clauses that name the exception. -/
namespace PB
open PySem PySem.Spec PyProof.Rows L2 LamX
/-! the try -/
abbrev goneD (i : Nat) (D : Ends) : Ends := { nx := fun σ' H' => D.nx (σ'.set i none) H', rt := D.rt, bk := fun σ' H' => D.bk (σ'.set i none) H', ct := fun σ' H' => D.ct (σ'.set i none) H' }
/-- what clauses with names wish of an exception of the body; none is let out -/
def wA (K : PySem.W.Frag) (D : Ends) : List (Addr × Nat × (Addr → Value → Option Addr → TS)) → WX
  | [] => fun _ _ _ _ => False
  | (c, i, ts) :: r => fun cls d σ H => ∃ b, PySem.W.exmOne K cls (.ref c) = some b ∧ (b = true → ∀ a, H a = none → ts a cls d (goneD i D) (σ.set i (some (.ref a))) H) ∧ (b = false → wA K D r cls d σ H)
inductive HdA (X : Cx) : List ExceptHandler → List (Addr × Nat × (Addr → Value → Option Addr → TS)) → Prop
  | nil : HdA X [] []
  | cons {x n : Str} {c : Addr} {i : Nat} {ts : Addr → Value → Option Addr → TS} {b₀ : Stmt} {suite : List Stmt} {np pos' : Pos} {hds : List ExceptHandler} {l : List (Addr × Nat × (Addr → Value → Option Addr → TS))} (hc : Names X x (.ref c)) (hi : X.N[i]? = some n) (hl : X.env.kindOf n = some .local)
      (hsu : ∀ (a : Addr) (oe : Obj) (cls : Value) (d : Option Addr) (pn : List (Addr × Obj)), Zc cls d oe → (∃ vs, oe.data = .fields vs) → PSs (X.suite a ((a, oe) :: pn)) (b₀ :: suite) (ts a cls d)) (r : HdA X hds l) :
      HdA X (.ExceptHandler (some (.Name x np)) (some n) (b₀ :: suite) pos' :: hds) ((c, i, ts) :: l)
section
variable {X : Cx} {body : List Stmt} {h₀ : ExceptHandler} {hds : List ExceptHandler} {l : List (Addr × Nat × (Addr → Value → Option Addr → TS))} {pos : Pos} {tb : WX → TS}
theorem sp_ofTry {xe : Value → Shared → Prop} {pins : List (Addr × Obj)} {D : Ends} {f : Flow} {s1 : Shared} (ok : X.Ok) (h : SP (X.tr (X.pn ++ pins) xe) [] D f s1) : SP X pins D f s1 := by
  cases f with
  | next => obtain ⟨σ', H', J', q⟩ := h; exact ⟨σ', H', J'.ofTry ok, q⟩
  | brk => obtain ⟨σ', H', J', q⟩ := h; exact ⟨σ', H', J'.ofTry ok, q⟩
  | cont => obtain ⟨σ', H', J', q⟩ := h; exact ⟨σ', H', J'.ofTry ok, q⟩
  | ret u => obtain ⟨v, σ', H', J', r, q⟩ := h; exact ⟨v, σ', H', J'.ofTry ok, r, q⟩
theorem ps_tryA (hs : X.stack = X.env :: X.outer) (hf : X.env.frame = some X.env.locals) (hN : X.N.Nodup)
    (hb : ∀ (W : WX) (pn : List (Addr × Obj)) (xe : Value → Shared → Prop), Takes (X.tr pn xe) W → PassesOwn (model X.prog X.w) X.A X.env xe → PSs (X.tr pn xe) body (tb W))
    (hh : HdA X (h₀ :: hds) l) : PS X (.Try body (h₀ :: hds) [] [] pos) (fun D σ H => tb (wA X.K D l) D σ H) := ⟨by
  intro pins s σ H D I h
  have okX := I.ok
  have frX : X.A.frames = some (X.env :: X.outer) := by rw [okX.frames, hs]
  refine wpAny_Try_except ?_
  refine wpAny_mono ((hb (wA X.K D l) (X.pn ++ pins) (fun e s₁ => wpAny (model X.prog X.w) X.A (noteFrame e X.env) (fun _ s₂ => wpAny (model X.prog X.w) X.A (setFlight e none) (fun _ s₃ =>
    wpAny (model X.prog X.w) X.A (handleBy e X.env (h₀ :: hds)) (SP X pins D) X.xe s₃) X.xe s₂) X.xe s₁) ?_ PassesOwn.looking).run [] s σ H D (I.toTry _) h) ?_ (fun _ _ z => z)
  · rintro u s' ⟨ad, B, sI, pins', σ', H', cls, od, rfl, Jt, nb, up, sky, adn, os, bare, wish⟩
    have J : Inv X pins σ' H' sI := Jt.ofTry okX
    rw [show (X.tr (X.pn ++ pins) _).stack = X.env :: X.outer from hs] at sky
    show wpAny (model X.prog X.w) X.A (noteFrame (.ref ad) X.env) _ _ _
    refine Sky.land Zc.steady frX hf sky fun h3 fl3 up3 => ?_
    have I3 : Inv X pins σ' H' { s' with heap := h3 } := J.landed nb fl3.1 (up.trans up3) os bare
    obtain ⟨o3, fs3, g3, z3, d3⟩ := fl3.there
    have out : ad ∉ frs (X.env :: X.outer) := fun hm => by
      obtain ⟨_, o', q1, q2⟩ := fl3.2.2.1.mem hm
      rw [g3] at q1
      cases q1
      exact q2 _ d3
    have outL : ad ≠ X.env.locals := fun z => out (List.mem_filterMap.mpr ⟨X.env, List.mem_cons_self, by rw [hf, z]⟩)
    have outF : ad ∉ X.fs := fun hm => by
      obtain ⟨e, q1, q2⟩ := List.mem_filterMap.mp hm
      exact out (List.mem_filterMap.mpr ⟨e, List.mem_cons_of_mem _ q1, q2⟩)
    have I3s := I3.suite g3 d3 adn outL outF
    -- the clauses, one by one
    have walk : ∀ {hs' : List ExceptHandler} {l' : List (Addr × Nat × (Addr → Value → Option Addr → TS))}, HdA X hs' l' → wA X.K D l' cls od σ' H' → wpAny (model X.prog X.w) X.A (handleBy (.ref ad) X.env hs') (SP X pins D) X.xe { s' with heap := h3 } := by
      intro hs' l' k
      induction k with
      | nil => exact fun z => z.elim
      | @cons x n c i ts b₀ suite np pos' hs2 l2 hc hi hl hsu r ih =>
        rintro ⟨b, hm, yes, no⟩
        have ty : PySem.W.Looks (model X.prog X.w) h3 (typeOf (.ref ad)) cls := fun A Q E s k q => wpAny_typeOf_ref (k _ _ g3) (by rw [z3.1]; exact q)
        have mt := PySem.W.exm_one (M := model X.prog X.w) I3.kIn ty hm
        refine wpAny_handleBy_cons (codeAny_handlers_test ?_) (by intro q; cases q)
        have rd : ∀ {Q E : Value → Shared → Prop}, Q (.ref c) { s' with heap := h3 } → wpAny (model X.prog X.w) (X.A.mark (some (.ref ad))) (eval (.Name x np) X.env) Q E { s' with heap := h3 } := fun {Q E} q => by
          obtain ⟨q1, q2, q3 | ⟨q3, q4, q5⟩⟩ := hc
          · exact ld_glob (X := X.suite ad ((ad, o3) :: (X.pn ++ pins))) I3s q1 q3 q q2
          · exact ld_blt (X := X.suite ad ((ad, o3) :: (X.pn ++ pins))) I3s q1 q3 q4 q q5 q2
        refine rd (mt.here ?_)
        cases b with
        | false => exact ih (no rfl)
        | true =>
          refine codeAny_handlers_suite_as ?_
          refine HandSPX.lands_againZ fl3 fun h4 fl4 up4 => ?_
          have I4 : Inv X pins σ' H' { s' with heap := h4 } := J.landed nb fl4.1 ((up.trans up3).trans up4) os bare
          obtain ⟨o4, fs4, g4, z4, d4⟩ := fl4.there
          refine store_ok (X := X.suite ad ((ad, o4) :: (X.pn ++ pins))) (v := .ref ad) (I4.suite g4 d4 adn outL outF) hN hi (.inl hl) rfl (fun s5 I5 => ?_) (.inr hl)
          refine wpAny_mono ((hsu ad o4 cls od (X.pn ++ pins) z4 ⟨_, d4⟩).run [] s5 _ H' _ I5 (yes rfl ad adn)) (fun fl s6 sp => ?_) (fun _ _ z => z.elim)
          have done : ∀ {σ6 : L2.St} {H6 : Hp} {Q : Shared → Prop}, Inv (X.suite ad ((ad, o4) :: (X.pn ++ pins))) [] σ6 H6 s6 → (∀ s7, Inv X pins (σ6.set i none) H6 s7 → Q s7) →
              wpAny (model X.prog X.w) X.A (do bindName X.env n .none; unbindBehindTheSuite X.env n pos') (fun _ s7 => Q s7) X.xe s6 := fun {σ6 H6 Q} I6 q => gone_ok (I6.unsuite okX) hN hi hl q
          cases fl with
          | next => obtain ⟨σ6, H6, I6, q⟩ := sp; exact done I6 fun s7 I7 => ⟨_, _, I7, q⟩
          | brk => obtain ⟨σ6, H6, I6, q⟩ := sp; exact done I6 fun s7 I7 => ⟨_, _, I7, q⟩
          | cont => obtain ⟨σ6, H6, I6, q⟩ := sp; exact done I6 fun s7 I7 => ⟨_, _, I7, q⟩
          | ret u => obtain ⟨v, σ6, H6, I6, rv, q⟩ := sp; exact done I6 fun s7 I7 => ⟨_, _, _, I7, rv, q⟩
    exact walk hh wish
  · intro f s1 sp
    have sp' := sp_ofTry okX sp
    cases f with
    | next => exact wpAny_execs_nil sp'
    | _ => exact sp'⟩
end
end PB
set_option maxHeartbeats 4000000
/-! Ilm: a lambda handed to a def that calls it in a try with several clauses. -/
namespace PB
open PySem PySem.Spec PyProof.Rows L2 LamX
/-! the items of a clause's tuple -/
def consL : PB.C → Nat
  | .cons _ b => consL b + 1
  | _ => 0
theorem bnd_ok {α β : Type} {m : Option (R α)} {f : α → En → Option (R β)} {y : β} {e' : En} (h : bnd m f = some (.ok y e')) : ∃ a e, m = some (.ok a e) ∧ f a e = some (.ok y e') := by
  unfold bnd at h
  cases m with
  | none => cases h
  | some r => cases r with
    | ok a e => exact ⟨a, e, rfl, h⟩
    | xc x e => cases h
def mkL : List PB.C → PB.C
  | [] => .nil
  | a :: l => .cons a (mkL l)
def cL : PB.C → Option (List PB.C)
  | .nil => some []
  | .cons a b => (cL b).map (a :: ·)
  | _ => none
theorem cL_eq {c : PB.C} : ∀ {l : List PB.C}, cL c = some l → c = mkL l := by
  induction c with
  | nil => intro l h; simp only [cL] at h; cases h; rfl
  | cons a b _ ih =>
    intro l h
    simp only [cL] at h
    obtain ⟨l', h1, rfl⟩ := Option.map_eq_some_iff.mp h
    rw [ih h1]
    rfl
  | _ => intro l h; simp only [cL] at h; cases h
/-- an item: a text, or a field -/
def cIt : PB.C → Option (Str ⊕ (Nat × Str))
  | .cst (.str s) => some (.inl s)
  | .fld j f => some (.inr (j, f))
  | _ => none
def eIt : Expr → Option (Str ⊕ (Str × Str))
  | .Constant (.str s) _ _ => some (.inl s)
  | .Attribute (.Name x _) f _ => some (.inr (x, f))
  | _ => none
theorem cIt_inl {c : PB.C} {s : Str} (h : cIt c = some (.inl s)) : c = .cst (.str s) := by
  unfold cIt at h
  split at h <;> cases h
  rfl
theorem cIt_inr {c : PB.C} {j : Nat} {f : Str} (h : cIt c = some (.inr (j, f))) : c = .fld j f := by
  unfold cIt at h
  split at h <;> cases h
  rfl
theorem eIt_inl {e : Expr} {s : Str} (h : eIt e = some (.inl s)) : ∃ k p, e = .Constant (.str s) k p := by
  unfold eIt at h
  split at h <;> cases h
  exact ⟨_, _, rfl⟩
theorem eIt_inr {e : Expr} {x f : Str} (h : eIt e = some (.inr (x, f))) : ∃ p q, e = .Attribute (.Name x p) f q := by
  unfold eIt at h
  split at h <;> cases h
  exact ⟨_, _, rfl⟩
def itE (CS : Addr) (i : Nat) (a : Addr) (cls : Value) (od : Option Addr) (c : PB.C) : TE := match cIt c with
  | some (.inl s) => tC (.str s)
  | some (.inr (_, f)) => tXf a cls od CS f (tVar i)
  | none => fun _ _ _ => False
def itA (CS : Addr) (i : Nat) (a : Addr) (cls : Value) (od : Option Addr) : List PB.C → TA
  | x :: r => tCons (itE CS i a cls od x) (itA CS i a cls od r)
  | [] => tNil
def itB (i : Nat) (n : Str) (fs : List Str) (c : PB.C) (e : Expr) : Bool := match cIt c, eIt e with
  | some (.inl s), some (.inl s') => decide (s = s')
  | some (.inr (j, f)), some (.inr (x, f')) => decide (j = i) && decide (x = n) && decide (f = f') && fs.contains f
  | _, _ => false
theorem itB_cases {i : Nat} {n : Str} {fs : List Str} {c : PB.C} {e : Expr} (h : itB i n fs c e = true) : (∃ s k p, c = .cst (.str s) ∧ e = .Constant (.str s) k p) ∨ ∃ f p q, c = .fld i f ∧ e = .Attribute (.Name n p) f q ∧ f ∈ fs := by
  unfold itB at h
  split at h
  · rename_i s s' h1 h2
    obtain ⟨k, p, rfl⟩ := eIt_inl h2
    have e := of_decide_eq_true h
    subst e
    exact .inl ⟨s, k, p, cIt_inl h1, rfl⟩
  · rename_i j f x f' h1 h2
    obtain ⟨p, q, rfl⟩ := eIt_inr h2
    simp only [Bool.and_eq_true, decide_eq_true_eq] at h
    obtain ⟨⟨⟨rfl, rfl⟩, rfl⟩, h4⟩ := h
    exact .inr ⟨f, p, q, cIt_inr h1, rfl, List.contains_iff_mem.mp h4⟩
  · cases h
def itsB (i : Nat) (n : Str) (fs : List Str) : List PB.C → List Expr → Bool
  | [], [] => true
  | a :: b, e :: es => itB i n fs a e && itsB i n fs b es
  | _, _ => false
theorem itB_star {i : Nat} {n : Str} {fs : List Str} {a : PB.C} {e : Expr} {es : List Expr} {env : Env} (h : itB i n fs a e = true) : starEach (e :: es) env = (false, eval e env) :: starEach es env := by
  rcases itB_cases h with ⟨s, k, p, _, rfl⟩ | ⟨f, p, q, _, rfl, _⟩ <;> rfl
section
variable {X : Cx} {a CS : Addr} {oe : Obj} {cls : Value} {od : Option Addr} {pn : List (Addr × Obj)} {i : Nat} {n : Str} {fs : List Str}
theorem it_pe (T : XfC X.K CS) (hno : ∀ f ∈ fs, PySem.W.findIn X.K (.ref CS) f = some none) (hz : Zc cls od oe) (hf : ∃ vs, oe.data = .fields vs) (hN : X.N[i]? = some n) (hv : Vis X.env.scope n) (hd : (n == ("__debug__" : Str)) = false) (hcd : (n == ("__classdict__" : Str)) = false)
    {c : PB.C} {e : Expr} (h : itB i n fs c e = true) : PE (X.suite a ((a, oe) :: pn)) e (itE CS i a cls od c) := by
  rcases itB_cases h with ⟨s, k, p, rfl, rfl⟩ | ⟨f, p, q, rfl, rfl, hm⟩
  · exact pe_str
  · exact pe_xf T (hno f hm) hz hf (pe_var (X := X.suite a ((a, oe) :: pn)) hN hv hd hcd)
theorem its_pa (T : XfC X.K CS) (hno : ∀ f ∈ fs, PySem.W.findIn X.K (.ref CS) f = some none) (hz : Zc cls od oe) (hf : ∃ vs, oe.data = .fields vs) (hN : X.N[i]? = some n) (hv : Vis X.env.scope n) (hd : (n == ("__debug__" : Str)) = false) (hcd : (n == ("__classdict__" : Str)) = false) :
    ∀ {c : List PB.C} {es : List Expr}, itsB i n fs c es = true → PA (X.suite a ((a, oe) :: pn)) es (itA CS i a cls od c)
  | [], [], h => pa_nil
  | x :: r, e :: es, h => by
    obtain ⟨h1, h2⟩ := (Bool.and_eq_true _ _).mp (show (itB i n fs x e && itsB i n fs r es) = true from h)
    exact pa_cons (it_pe T hno hz hf hN hv hd hcd h1) (its_pa T hno hz hf hN hv hd hcd h2) (itB_star h1)
  | [], _ :: _, h => by cases h
  | _ :: _, [], h => by cases h
end
/-- the items' values -/
theorem its_ev {G : Gx} {i : Nat} {n : Str} {fn : List Str} {xf : List (Str × PB.D)} (hex : G.ex = some (i, xf)) {Z : AS} {H : Hp} {vf : List (Str × V)} {dd CS a : Addr} {σ : L2.St} (hdd : H dd = some (.xd vf)) (hσ : σ[i]? = some (some (V.ref a))) (hv : ∀ f d, xf.lookup f = some d → ∃ v, vf.lookup f = some v ∧ Rep Z H d v) :
    ∀ {c : List PB.C} {es : List Expr} {e e' : En} {x : PB.D}, itsB i n fn c es = true → ev (mkL c) G e = some (.ok x e') → noLocs (mkL c) = true ∧ e' = e ∧ ∃ ds, x = .lst ds ∧ ds.length = c.length ∧ ∀ K : List V → Hp → Prop, (∀ vs, RepL Z H ds vs → K vs H) → itA CS i a (.ref CS) (some dd) c σ H K
  | [], [], e, e', x, h, q => by
    simp only [mkL, ev] at q
    cases q
    exact ⟨rfl, rfl, [], rfl, rfl, fun K k => k [] rfl⟩
  | y :: r, ex :: es, e, e', x, h, q => by
    obtain ⟨h1, h2⟩ := (Bool.and_eq_true _ _).mp (show (itB i n fn y ex && itsB i n fn r es) = true from h)
    simp only [mkL, ev] at q
    obtain ⟨d1, e1, q1, q⟩ := bnd_ok q
    obtain ⟨d2, e2, q2, q⟩ := bnd_ok q
    obtain ⟨nl, he, ds, hx, hl, k2⟩ := its_ev hex hdd hσ hv h2 q2
    subst hx
    rw [he] at q
    have q : some (R.ok (PB.D.lst (d1 :: ds)) e1) = some (R.ok x e') := q
    obtain ⟨hx, he'⟩ := R.ok.inj (Option.some.inj q)
    subst hx
    have key : isLoc y = false ∧ e1 = e ∧ ∃ v, Rep Z H d1 v ∧ ∀ Q : VK, Q v H → itE CS i a (.ref CS) (some dd) y σ H Q := by
      rcases itB_cases h1 with ⟨s, k, p, rfl, rfl⟩ | ⟨f, p, q, rfl, rfl, hm⟩
      · simp only [ev, isCst, if_true] at q1
        cases q1
        exact ⟨rfl, rfl, .str s, rfl, fun Q q => q⟩
      · simp only [ev, hex, if_true] at q1
        obtain ⟨d, q4, q3⟩ := Option.map_eq_some_iff.mp q1
        cases q3
        obtain ⟨v, r1, r2⟩ := hv f _ q4
        exact ⟨rfl, rfl, v, r2, fun Q q => ⟨.ref a, hσ, rfl, rfl, dd, vf, v, rfl, hdd, r1, q⟩⟩
    obtain ⟨ny, he1, v, rv, kv⟩ := key
    refine ⟨by simp only [mkL, noLocs, ny, nl]; rfl, he'.symm.trans he1, d1 :: ds, rfl, by simp [hl], fun K k => ?_⟩
    exact kv _ (k2 _ fun vs rs => k (v :: vs) ⟨v, vs, rfl, rv, rs⟩)
  | [], _ :: _, _, _, _, h, _ => by cases h
  | _ :: _, [], _, _, _, h, _ => by cases h
end PB
set_option maxHeartbeats 4000000
/-! Ilm2: the clauses of a try, as code; the def that calls what it is given. -/
namespace PB
open PySem PySem.Spec PyProof.Rows L2 LamX
abbrev HC := Nat × Nat × List PB.C
def mkH : List HC → PB.C
  | [] => .hnil
  | (c, i, l) :: r => .hcons c i (.ret (.tup (mkL l))) (mkH r)
def tupOf : PB.C → Option PB.C
  | .ret (.tup a) => some a
  | _ => none
theorem tupOf_eq {c a : PB.C} (h : tupOf c = some a) : c = .ret (.tup a) := by
  unfold tupOf at h
  split at h <;> cases h
  rfl
def hC : PB.C → Option (List HC)
  | .hnil => some []
  | .hcons c i s r => (tupOf s).bind fun a => (cL a).bind fun l => (hC r).map ((c, i, l) :: ·)
  | _ => none
theorem hC_eq {c : PB.C} : ∀ {l : List HC}, hC c = some l → c = mkH l := by
  induction c with
  | hnil => intro l h; simp only [hC] at h; cases h; rfl
  | hcons c i s r _ ih =>
    intro l h
    simp only [hC] at h
    obtain ⟨a, h1, h⟩ := Option.bind_eq_some_iff.mp h
    obtain ⟨il, h2, h⟩ := Option.bind_eq_some_iff.mp h
    obtain ⟨l', h3, rfl⟩ := Option.map_eq_some_iff.mp h
    rw [tupOf_eq h1, cL_eq h2, ih h3]
    rfl
  | _ => intro l h; simp only [hC] at h; cases h
def hT : ExceptHandler → Option (Str × Str × List Expr)
  | .ExceptHandler (some (.Name x _)) (some n) [.Return (some (.Tuple es _ _)) _] _ => some (x, n, es)
  | _ => none
theorem hT_eq {e : ExceptHandler} {x n : Str} {es : List Expr} (h : hT e = some (x, n, es)) : ∃ np k p q p', e = .ExceptHandler (some (.Name x np)) (some n) [.Return (some (.Tuple es k p)) q] p' := by
  unfold hT at h
  split at h <;> cases h
  exact ⟨_, _, _, _, _, rfl⟩
structure HdOk (cls : List (Str × Nat)) (xin : Nat → List Str) (N : List Str) (sc : Scope) (c i : Nat) (l : List PB.C) (x n : Str) (es : List Expr) : Prop where
  cl : cls.lookup x = some c
  gx : sc.names.lookup x = some .globalImplicit
  dx : (x == ("__debug__" : Str)) = false
  ni : N[i]? = some n
  nl : sc.names.lookup n = some .local
  dn : (n == ("__debug__" : Str)) = false
  cn : (n == ("__classdict__" : Str)) = false
  it : itsB i n (xin c) l es = true
  ln : l.length ≤ 1000
def hdB1 (cls : List (Str × Nat)) (xin : Nat → List Str) (N : List Str) (sc : Scope) (c i : Nat) (l : List PB.C) (x n : Str) (es : List Expr) : Bool :=
  decide (cls.lookup x = some c) && decide (sc.names.lookup x = some .globalImplicit) && !(x == ("__debug__" : Str)) && decide (N[i]? = some n) && decide (sc.names.lookup n = some .local) && !(n == ("__debug__" : Str)) && !(n == ("__classdict__" : Str)) && itsB i n (xin c) l es && decide (l.length ≤ 1000)
theorem hdB1_ok {cls : List (Str × Nat)} {xin : Nat → List Str} {N : List Str} {sc : Scope} {c i : Nat} {l : List PB.C} {x n : Str} {es : List Expr} (h : hdB1 cls xin N sc c i l x n es = true) : HdOk cls xin N sc c i l x n es := by
  unfold hdB1 at h
  simp only [Bool.and_eq_true, decide_eq_true_eq, Bool.not_eq_true'] at h
  obtain ⟨⟨⟨⟨⟨⟨⟨⟨h1, h2⟩, h3⟩, h4⟩, h5⟩, h6⟩, h7⟩, h8⟩, h9⟩ := h
  exact ⟨h1, h2, h3, h4, h5, h6, h7, h8, h9⟩
def hdB (cls : List (Str × Nat)) (xin : Nat → List Str) (N : List Str) (sc : Scope) : List HC → List ExceptHandler → Bool
  | [], [] => true
  | (c, i, l) :: r, e :: es => (match hT e with | some (x, n, fs) => hdB1 cls xin N sc c i l x n fs | none => false) && hdB cls xin N sc r es
  | _, _ => false
theorem hdB_cons {cls : List (Str × Nat)} {xin : Nat → List Str} {N : List Str} {sc : Scope} {c i : Nat} {l : List PB.C} {r : List HC} {e : ExceptHandler} {es : List ExceptHandler} (h : hdB cls xin N sc ((c, i, l) :: r) (e :: es) = true) :
    (∃ x n fs, hT e = some (x, n, fs) ∧ HdOk cls xin N sc c i l x n fs) ∧ hdB cls xin N sc r es = true := by
  simp only [hdB] at h
  obtain ⟨h1, h2⟩ := (Bool.and_eq_true _ _).mp h
  split at h1
  · exact ⟨⟨_, _, _, by assumption, hdB1_ok h1⟩, h2⟩
  · cases h1
def hdL (cA : Nat → Addr) : List HC → List (Addr × Nat × (Addr → Value → Option Addr → TS))
  | [] => []
  | (c, i, l) :: r => (cA c, i, fun a cls od => tRet (tTup (itA (cA c) i a cls od l))) :: hdL cA r
/-- what is known of the classes -/
def ClsK (K : PySem.W.Frag) (mg : Str → Option Value) (cls : List (Str × Nat)) (xin : Nat → List Str) (cA : Nat → Addr) : Prop := ∀ x c, cls.lookup x = some c → mg x = some (.ref (cA c)) ∧ XfC K (cA c) ∧ ∀ g ∈ xin c, PySem.W.findIn K (.ref (cA c)) g = some none
theorem hdA_of {X : Cx} {cls : List (Str × Nat)} {xin : Nat → List Str} {cA : Nat → Addr} (k : ClsK X.K X.mg cls xin cA) : ∀ {l : List HC} {hds : List ExceptHandler}, hdB cls xin X.N X.env.scope l hds = true → HdA X hds (hdL cA l)
  | [], [], h => .nil
  | (c, i, its) :: r, e :: es, h => by
    obtain ⟨⟨x, n, fs, h1, H⟩, h2⟩ := hdB_cons h
    obtain ⟨np, kk, p, q, p', rfl⟩ := hT_eq h1
    obtain ⟨k1, k2, k3⟩ := k x c H.cl
    exact .cons ⟨H.gx, H.dx, .inl k1⟩ H.ni H.nl (fun a oe cl d pn hz hf => pss_one (ps_ret (pe_tup (its_pa k2 k3 hz hf H.ni (.inl H.nl) H.dn H.cn H.it)))) (hdA_of k h2)
  | [], _ :: _, h => by cases h
  | _ :: _, [], h => by cases h
/-- the clauses at an exception: what the code gives is what is wished -/
theorem chain {K : PySem.W.Frag} {cls : List (Str × Nat)} {xin : Nat → List Str} {N : List Str} {sc : Scope} {cA : Nat → Addr} {G : Gx} {x : Exn} (hact : G.act = some (.inl x)) {CS dd : Addr} {Z : AS} {H : Hp} {vf : List (Str × V)} {σ : L2.St} {D : Ends} (hCS : cA x.cls = CS)
    (hsub : ∀ y c, cls.lookup y = some c → PySem.W.exmOne K (.ref CS) (.ref (cA c)) = some (G.sub x.cls c)) (hσ : σ.length = N.length)
    (hdd : H dd = some (.xd vf)) (hv : ∀ f d, x.flds.lookup f = some d → ∃ v, vf.lookup f = some v ∧ Rep Z H d v) :
    ∀ {l : List HC} {hds : List ExceptHandler} {e : En} {o : Out}, (∀ q ∈ l, G.sub x.cls q.1 = true → x.cls = q.1) → hdB cls xin N sc l hds = true → exec (mkH l) G e = some o →
      (∃ y e2, o = .xc y e2) ∨ ∃ ds e2, o = .rt (.tup ds) e2 ∧ ((∀ p vs, H p = none → RepL Z H ds vs → D.rt (.ref p) (upd H p (.tup vs))) → wA K D (hdL cA l) (.ref CS) (some dd) σ H)
  | [], [], e, o, _, h, q => by
    simp only [mkH, exec, hact] at q
    cases q
    exact .inl ⟨_, _, rfl⟩
  | (c, i, its) :: r, eh :: es, e, o, hone, h, q => by
    obtain ⟨⟨xn, n, fs, h1, T⟩, h2⟩ := hdB_cons h
    simp only [mkH, exec, hact] at q
    have s1 := hsub xn c T.cl
    cases hb : G.sub x.cls c with
    | false =>
      rw [hb] at q s1
      rcases chain hact hCS hsub hσ hdd hv (fun q hq => hone q (List.mem_cons_of_mem _ hq)) h2 (show exec (mkH r) G e = some o from q) with z | ⟨ds, e2, z1, z2⟩
      · exact .inl z
      · exact .inr ⟨ds, e2, z1, fun k => ⟨false, s1, fun z => Bool.noConfusion z, fun _ => z2 k⟩⟩
    | true =>
      rw [hb] at q s1
      have ec : x.cls = c := hone _ List.mem_cons_self hb
      simp only [if_true, ev] at q
      cases hev : ev (mkL its) { G with ex := some (i, x.flds), act := none } (e.set i none) with
      | none => rw [hev] at q; cases q
      | some rr =>
        cases rr with
        | xc y ye =>
          rw [hev] at q
          cases q
          exact .inl ⟨_, _, rfl⟩
        | ok xs xe =>
          rw [hev] at q
          have hi : i < σ.length := by rw [hσ]; exact (List.getElem?_eq_some_iff.mp T.ni).1
          obtain ⟨nl, _, ds, hx, hl, _⟩ := its_ev (CS := CS) (a := 0) (i := i) (σ := σ.set i (some (V.ref 0))) rfl hdd (List.getElem?_set_self hi) hv T.it hev
          subst hx
          have q : outB (if noLocs (mkL its) = true then some (R.ok (PB.D.tup ds) xe) else none) (fun d e1 => if isLoc (PB.C.tup (mkL its)) = true then none else some (Out.rt d e1)) = some o := q
          rw [if_pos nl] at q
          have q : some (Out.rt (PB.D.tup ds) xe) = some o := q
          cases q
          refine .inr ⟨ds, xe, rfl, fun k => ⟨true, s1, fun _ a ha => ?_, fun z => Bool.noConfusion z⟩⟩
          have hσa : (σ.set i (some (V.ref a)))[i]? = some (some (V.ref a)) := List.getElem?_set_self hi
          obtain ⟨_, _, ds', hx', hl', kk⟩ := its_ev (CS := CS) (a := a) (i := i) (σ := σ.set i (some (V.ref a))) rfl hdd hσa hv T.it hev
          cases hx'
          rw [← ec, hCS]
          refine kk _ fun vs rs => ⟨?_, fun p hp => k p vs hp rs⟩
          have := RepL.length _ _ rs
          have := T.ln
          have := sizeLine_eq
          omega
  | [], _ :: _, _, _, _, h, _ => by cases h
  | _ :: _, [], _, _, _, h, _ => by cases h
/-- the def at a value: the value; at an exception: a clause's tuple -/
theorem met_ok {T : Tb} {n f : Nat} {d : DefI} {l : List HC} (hd : T.defs[f]? = some d) (hc : d.code = .tryx (.ret (.callv 0)) (mkH l)) {v r : PB.D} {o : List (Option PB.D)} (h : callN T n f (some (.inr v)) [] = some (.ok r o)) : r = v := by
  cases n with
  | zero => cases h
  | succ n =>
    rw [callN] at h
    simp only [hd, hc, Option.isNone_some, Bool.false_and, Bool.false_eq_true, if_false, exec, ev, outB, isLoc] at h
    cases h
    rfl
theorem met_xc {T : Tb} {n f : Nat} {d : DefI} {l : List HC} (hd : T.defs[f]? = some d) (hc : d.code = .tryx (.ret (.callv 0)) (mkH l)) {x : Exn} {r : PB.D} {o : List (Option PB.D)} (h : callN T n f (some (.inl x)) [] = some (.ok r o)) :
    ∃ G e ou, G.act = some (.inl x) ∧ G.sub = T.sub ∧ exec (mkH l) G e = some ou ∧ ((∃ e2, ou = .rt r e2) ∨ ∃ e2, ou = .nx e2) := by
  cases n with
  | zero => cases h
  | succ n =>
    rw [callN] at h
    simp only [hd, hc, Option.isNone_some, Bool.false_and, Bool.false_eq_true, if_false, exec, ev, outB, isLoc] at h
    revert h
    generalize hG : ({ ks := d.ks, cf := callN T n, info := fun g => match T.defs[g]? with | some d => d.ks.take d.np | none => [], sub := T.sub, xin := T.xin, wf := T.wf, act := some (.inl x), ex := some (0, x.flds) } : Gx) = G
    intro h
    refine ⟨G, (([] : List PB.D).map some ++ List.replicate (d.ks.length - ([] : List PB.D).length) none), ?_⟩
    revert h
    cases hx : exec (mkH l) G (([] : List PB.D).map some ++ List.replicate (d.ks.length - ([] : List PB.D).length) none) with
    | none => intro h; cases h
    | some ou =>
      intro h
      refine ⟨ou, by rw [← hG], by rw [← hG], rfl, ?_⟩
      cases ou with
      | rt v e => cases h; exact .inl ⟨e, rfl⟩
      | nx e => exact .inr ⟨e, rfl⟩
      | _ => cases h
/-- what the def makes of a lambda's reading -/
def TTm (K : PySem.W.Frag) (Ng : List Str) (l : List (Addr × Nat × (Addr → Value → Option Addr → TS))) : (XK → Hp → VK → Prop) → Hp → VK → Prop := fun tl H Q =>
  tl (fun cls d H' => ∀ σ' : L2.St, σ'.length = Ng.length → wA K { nx := fun _ H' => Q .non H', rt := Q } l cls d σ' H') H Q
theorem met_gives {X : Cx} {Ng : List Str} {x a q : Str} {sg : Scope} {g : Addr} {cdg : Value} {p1 p2 p3 p8 : Pos} {h0 : ExceptHandler} {hds : List ExceptHandler} {l : List (Addr × Nat × (Addr → Value → Option Addr → TS))} (hN : Ng.Nodup)
    (hf : ∀ f : Addr, (L2.start Ng [V.ref f])[0]? = some (some (V.ref f))) (hh : ∀ s H, HdA ((cxOf C8.CX0 X.prog X.w X.K X.mg X.base Ng x sg g cdg X.A X.stack s H C8.E0).nox) (h0 :: hds) l) :
    GivesTo X Ng x sg g cdg [.Try [.Return (some (.Call (.Name a p1) [] [] p2)) p3] (h0 :: hds) [] [] p8] a q (TTm X.K Ng l) := by
  intro f c' s H Q tl act hc h
  refine ⟨_, pss_one (ps_tryA (X := (cxOf C8.CX0 X.prog X.w X.K X.mg X.base Ng x sg g cdg X.A X.stack s H C8.E0).nox)
    (tb := fun W D σ H => ∃ Ech : XK, (∀ cls d (σ' : L2.St) H', Ech cls d H' → σ'.length = Ng.length → W cls d σ' H') ∧ σ[0]? = some (some (.ref f)) ∧ H c' = some (CodeO c' q) ∧ tl Ech H D.rt) rfl rfl hN (fun W pn xe tk _ => ?_) (hh s H)), ?_⟩
  · refine ⟨fun pins s' σ H' D I h' => ?_⟩
    obtain ⟨Ech, hW, h1, h2, h3⟩ := h'
    have tk' : Takes ((cxOf C8.CX0 X.prog X.w X.K X.mg X.base Ng x sg g cdg X.A X.stack s H C8.E0).tr pn xe) (fun cls d (σ' : L2.St) H' => σ'.length = Ng.length → W cls d σ' H') := fun u s' ⟨a, B, sI, pins, σ, H, cls, d, e, I, nb, up, sky, na, os, ag, w⟩ =>
      tk u s' ⟨a, B, sI, pins, σ, H, cls, d, e, I, nb, up, sky, na, os, ag, w I.len⟩
    have hp := act _ pn xe Ech p1 p2 tk' hW
    have hq := pss_one (ps_ret (pos := p3) hp)
    exact hq.run pins s' σ H' D I ⟨h1, h2, h3⟩
  · exact ⟨_, fun cls d σ' H' z hl => z σ' hl, hf f, hc, h⟩
end PB
set_option maxHeartbeats 4000000
/-! Ilm3: a lambda is made and handed over; its reading. -/
namespace PB
open PySem PySem.Spec PyProof.Rows L2 LamX
section
variable {X : Cx} {pins : List (Addr × Obj)} {σ : L2.St} {H : Hp} {s : Shared}
/-- all that is known stays known -/
def Dm (H H' : Hp) : Prop := ∀ a, H a ≠ none → H' a ≠ none
/-- a lambda is made: like LamX.lam_make2, and nothing known is lost -/
theorem lam_mk {T : List (Addr × Str)} {c P : Addr} {params : Arguments} {body : Expr} {scope : Scope} {pos : Pos} {E : Value → Shared → Prop} {Q : Value → Shared → Prop} (I : Inv X pins σ H s) (TB : TabB X.base X.mg c P) (hcode : X.env.code = .ref c)
    (hm : (P, X.env.qual ++ "<lambda>") ∈ T) (hu : ∀ p ∈ T, p.1 = P → p.2 = X.env.qual ++ "<lambda>") (hT : Tabs T H) (hdef : defaultsOf params X.env = ([], [])) (hfree : ∀ y ∈ scope.names, y.2 = .free → ∃ c, X.env.cells.lookup y.1 = some c)
    (h : ∀ (f c' : Addr) (pm ctv : Value) (H1 : Hp) (s' : Shared), Inv X pins σ H1 s' → ExtN H H1 → Dm H H1 → Tabs T H1 →
      s'.heap.get? f = some (PySem.W.kla_obj "<lambda>" (X.env.qual ++ "<lambda>") params body scope (cloFrom X.env.cells scope.names []) pm c' ctv) → H1 f = none → f ∉ frs X.stack → H1 c' = some (CodeO c' (X.env.qual ++ "<lambda>")) → Q (.ref f) s') :
    wpAny (model X.prog X.w) X.A (eval (.Lambda params body scope pos) X.env) Q E s := by
  obtain ⟨ps, tP, tr, am⟩ := hT _ hm
  have hb : s.heap.BuiltinsAt X.mg P := TB.bm.keeps I.bk
  have gP : s.heap.get? P = some { cls := .none, data := .fields ps } := I.hok P _ tP
  have far : ∀ f, s.heap.objs.size ≤ f → f ∉ frs X.stack := fun f hf z => by
    rcases List.mem_cons.mp (I.stkSub _ z) with e | e
    · have h1 := I.lt
      rw [← e] at h1
      exact Nat.lt_irrefl _ (Nat.lt_of_lt_of_le h1 hf)
    · exact I.nofs hf e
  refine PySem.W.kla_eval hdef ?_
  cases ca : codeAmong pos ps.toList with
  | some cv =>
    obtain ⟨c', rfl, kc⟩ := am pos cv ca
    refine PySem.W.kla_makeFunctionHit (mg := X.mg) (c := c) (P := P) (ps := ps) (closure_ok hfree) I.ok.glob (I.mod.glob.keeps I.bk) hcode (TB.code.keeps I.bk) gP tr ca hb fun ctv h' tk kp sz => ?_
    exact h _ c' _ ctv H _ (I.kept (t' := tk) fun b o e => Heap.get?_push_of_some _ (kp b o e)) (ExtN.refl H) (fun _ z => z) hT (Heap.get?_push_size _ rfl) (I.hok.fresh sz) (far _ sz) kc
  | none =>
    refine PySem.W.kla_makeFunction (mg := X.mg) (c := c) (P := P) (ps := ps) (closure_ok hfree) I.ok.glob (I.mod.glob.keeps I.bk) hcode (TB.code.keeps I.bk) gP tr ca TB.gP hb fun c' ctv h' tk kp ge lt rc tb => ?_
    obtain ⟨c2, oc, vs, t, e2, g2, d2, v2⟩ := rc
    cases e2
    have sz : s.heap.objs.size ≤ h'.objs.size := Nat.le_trans ge (Nat.le_of_lt lt)
    have n0 : H c' = none := I.hok.fresh ge
    have J := inv_table (t' := tk) (more := #[rawInt pos.line, rawInt pos.col, .ref c']) (h' := h'.push (PySem.W.kla_obj "<lambda>" (X.env.qual ++ "<lambda>") params body scope (cloFrom X.env.cells scope.names []) ((X.mg "__name__").getD .none) c' ctv)) I tP
      (fun b o q e => Heap.get?_push_of_some _ (kp b o q e)) (Heap.get?_push_of_some _ tb) ge ⟨oc, vs, t, Heap.get?_push_of_some _ g2, d2, v2⟩
    have n1 : h'.objs.size ≠ c' := Nat.ne_of_gt lt
    have n2 : h'.objs.size ≠ P := Nat.ne_of_gt (Nat.lt_of_lt_of_le (Heap.lt_size gP) sz)
    have ext : ExtN H (upd (upd H P (.tbl (ps ++ #[rawInt pos.line, rawInt pos.col, .ref c']))) c' (CodeO c' (X.env.qual ++ "<lambda>"))) := fun b o e nt => by
      have b1 : b ≠ c' := fun z => by rw [z, n0] at e; cases e
      have b2 : b ≠ P := fun z => nt ps (Option.some.inj (e.symm.trans (z ▸ tP)))
      rw [upd_ne b1, upd_ne b2]
      exact e
    have tl : (ps ++ #[rawInt pos.line, rawInt pos.col, .ref c']).toList = ps.toList ++ [rawInt pos.line, rawInt pos.col, .ref c'] := by simp
    have P1 : P ≠ c' := fun z => by rw [← z, tP] at n0; cases n0
    refine h h'.objs.size c' ((X.mg "__name__").getD .none) ctv _ _ J ext (fun a z => upd_dom a (upd_dom a z)) (fun p hp => ?_) (Heap.get?_push_size _ rfl) ?_ (far _ sz) upd_same
    · by_cases hP : p.1 = P
      · rw [hu p hp hP, hP]
        refine ⟨_, by rw [upd_ne P1, upd_same], by rw [tl]; exact PySem.TriplesOk_snoc _ _ _ _ tr, fun p' cv hcv => ?_⟩
        rw [tl] at hcv
        rcases among_app _ tr hcv with z | z
        · obtain ⟨c0, e1, e2⟩ := am p' cv z
          exact ⟨c0, e1, ext _ _ e2 codeO_ne⟩
        · exact ⟨c', z, upd_same⟩
      · obtain ⟨ps', q1, q2, q3⟩ := hT p hp
        have p1 : p.1 ≠ c' := fun z => by rw [z, n0] at q1; cases q1
        refine ⟨ps', by rw [upd_ne p1, upd_ne hP]; exact q1, q2, fun p' cv hcv => ?_⟩
        obtain ⟨c0, e1, e2⟩ := q3 p' cv hcv
        exact ⟨c0, e1, ext _ _ e2 codeO_ne⟩
    · rw [upd_ne n1, upd_ne n2]
      exact I.hok.fresh sz
def tLm (T : List (Addr × Str)) (TT : (XK → Hp → VK → Prop) → Hp → VK → Prop) (t : XK → TE) : TE := fun σ H Q => Tabs T H ∧ ∀ H1, ExtN H H1 → Dm H H1 → Tabs T H1 → TT (fun E H' Q' => t E σ H' Q') H1 Q
/-- x(lambda: body), where nothing known is lost -/
theorem pe_lam {T : List (Addr × Str)} {TT : (XK → Hp → VK → Prop) → Hp → VK → Prop} {x a : Str} {g c P : Addr} {k : Nat} {pg : Arguments} {bg : List Stmt} {sg : Scope} {dV kV doc pm cdv ct oc : Value} {an od : Option Addr} {osl : Array (Option Value)} {Ng : List Str}
    {params : Arguments} {body : Expr} {scope : Scope} {t : XK → TE} {p lpos pos : Pos} (hg : Gl X x) (hm : X.mg x = some (.ref g)) (hk : PySem.W.keepIn X.K (.ref g) = true)
    (lk : X.K.lookup g = some ⟨oc, od, .func (PySem.W.fnOf x x pg bg sg dV kV doc pm an cdv ct), osl⟩) (hcg : PySem.W.codeIn X.K cdv x = true) (hb : L2.Binds X.K (PySem.W.fnOf x x pg bg sg dV kV doc pm an cdv ct) [a] []) (Sg : FnScope Ng [a] sg) (hNg : Ng[0]? = some a) (hva : Vis sg a)
    (hG : GivesTo X Ng x sg g cdv bg a (X.env.qual ++ "<lambda>") TT)
    (TB : TabB X.base X.mg c P) (hcode : X.env.code = .ref c) (hmT : (P, X.env.qual ++ "<lambda>") ∈ T) (hu : ∀ p ∈ T, p.1 = P → p.2 = X.env.qual ++ "<lambda>") (hr : Room (k + 2) X.A) (L : LamS X.env.scope scope) (hdef : defaultsOf params X.env = ([], []))
    (hbind : ∀ (q : Str) (cl : List (Str × Addr)) (pm cv ctv : Value), bindArgs (PySem.W.kla_fn "<lambda>" q params body scope cl pm cv ctv) ⟨[], []⟩ = pure [])
    (hbody : ∀ (A : Around) (outer : List Env) (s : Shared) (H : Hp) (E : XK) (f c' : Addr), Room k (A.deeper (lamEnv X scope s.heap.objs.size f c')) → PE (lamCx X A outer s H E scope f c') body (t E))
    (hdb : (x == ("__debug__" : Str)) = false) (hd : (a == ("__debug__" : Str)) = false) (hcd : (a == ("__classdict__" : Str)) = false) :
    PE X (.Call (.Name x p) [.Lambda params body scope lpos] [] pos) (tLm T TT t) := ⟨by
  intro pins s σ H Q I h
  obtain ⟨hT, h⟩ := h
  refine wpAny_Call_Name_kw (ld_glob I hg hm (PySem.W.callWith_K (h₀ := X.base) I.ok.mod.kin hk ?_ (by rfl) (by rfl)) hdb)
  show wpAny _ _ (spliced ((false, eval (.Lambda params body scope lpos) X.env) :: backTo pos (starEach [] X.env))) _ _ s
  refine Calls.spliced_cons (lam_mk I TB hcode hmT hu hT hdef (L.has I.ok) fun f c' pm' ctv H1 s' I1 eN dm T1 hf hfn hfr hco => Calls.spliced_nil ⟨I1.kIn, ?_⟩)
  have run : codeAny (model X.prog X.w) X.A (.call (.ref g) ⟨[.ref f], []⟩) (CR C8.CX0 X.stack X.prog X.w H1 s' Q C8.E0) s' := by
    refine run_ofS (N := Ng) (ps := [a]) (us := [.ref f]) (vs := [.ref f]) lk hcg Sg hr I1.env0 (hb s' [.ref f] I1.kIn rfl) (.cons rfl .nil) rfl fun hr' => ?_
    obtain ⟨t', q1, q2⟩ := hG f c' s' H1 Q (fun E H' Q' => t E σ H' Q') (fun W pn xe E p1 p2 tk hW => pe_act (i := 0) I1 L hf hfn hfr (hbind _ _ _ _ _) tk hW hr' (fun A outer s H hr2 => hbody A outer s H E f c' hr2) hNg hva hd hcd) hco (h H1 eN dm T1)
    exact ⟨t', q1.nox, q2⟩
  refine wpAny_call (codeAny_mono run fun r s2 z => ?_)
  match r, z with
  | .error e, z => exact (show False from z).elim
  | .ok (.ret u), z => exact I1.after z
  | .ok .next, z => exact z.elim
  | .ok .brk, z => exact z.elim
  | .ok .cont, z => exact z.elim⟩
end
/-! the frame of the lambda's body -/
theorem brwd_get {ks : List Kd} {i : Nat} : (brwd ks)[i]? = (ks[i]?).map fun k => match k with | .own => .brw | k => k := by
  unfold brwd
  rw [List.getElem?_map]
  all_goals
    cases ks[i]? with
    | none => rfl
    | some k => cases k <;> rfl
theorem brwd_shr {ks : List Kd} {i : Nat} (h : (brwd ks)[i]? = some Kd.shr) : ks[i]? = some Kd.shr := by
  rw [brwd_get] at h
  cases q : ks[i]? with
  | none => rw [q] at h; cases h
  | some k => rw [q] at h; cases k <;> first | rfl | cases h
theorem brwd_frz {ks : List Kd} {i : Nat} (h : (brwd ks)[i]? = some Kd.frz) : ks[i]? = some Kd.frz := by
  rw [brwd_get] at h
  cases q : ks[i]? with
  | none => rw [q] at h; cases h
  | some k => rw [q] at h; cases k <;> first | rfl | cases h
theorem brwd_brw {ks : List Kd} {i : Nat} (h : (brwd ks)[i]? = some Kd.brw) : ks[i]? = some Kd.brw ∨ ks[i]? = some Kd.own := by
  rw [brwd_get] at h
  cases q : ks[i]? with
  | none => rw [q] at h; cases h
  | some k => rw [q] at h; cases k <;> first | exact .inl rfl | exact .inr rfl | cases h
theorem brwd_own {ks : List Kd} {i : Nat} (h : (brwd ks)[i]? = some Kd.own) : False := by
  rw [brwd_get] at h
  cases q : ks[i]? with
  | none => rw [q] at h; cases h
  | some k => rw [q] at h; cases k <;> cases h
abbrev lamG (Γ : Gm) : Gm := { Γ with ks := brwd Γ.ks, xo := none, lam := none }
abbrev lamF (Γ : Gm) (F : Fm) (σ : L2.St) (H : Hp) : Fm := ⟨zt Γ F σ, H, σ⟩
section
variable {Γ : Gm} {F : Fm} {H H1 H2 : Hp} {σ : L2.St} {e e2 : En}
theorem lamG_os : OsS (lamG Γ).ks σ = fun _ => False := funext fun a => propext ⟨fun ⟨i, h, _⟩ => brwd_own h, fun z => z.elim⟩
theorem lamG_zt : zt (lamG Γ) (lamF Γ F σ H) σ = zt Γ F σ := by
  unfold zt
  rw [lamG_os]
  funext a
  exact propext ⟨fun z => z.elim id fun z => z.elim, fun z => .inl z⟩
theorem ER.lend (E : ER Γ F H σ e) : ER (lamG Γ) (lamF Γ F σ H) H σ e := by
  have ln : (lamG Γ).ks.length = Γ.ks.length := List.length_map _
  have zo' : ∀ a, zo (lamG Γ) (lamF Γ F σ H) σ a → H a = none := fun a z => by
    rcases z with ⟨i, h, _⟩ | z
    · exact (brwd_own h).elim
    · exact z
  refine ⟨E.le.trans ln.symm, E.lσ.trans ln.symm, fun i d h1 h2 => ?_, fun i d h1 h2 => ?_, fun i d h1 h2 => ?_, fun i v h1 _ => (brwd_own h1).elim, fun i d h1 _ => (brwd_own h1).elim, fun i v _ h1 _ => (brwd_own h1).elim, fun i j a h1 _ _ _ => (brwd_own h1).elim, fun a o h _ _ => h, fun a h => h, fun a h => ?_, E.tabs, fun i a dx ds h => (by cases h), fun f c q h => (by cases h)⟩
  · obtain ⟨v, q1, q2⟩ := E.shr i d (brwd_shr h1) h2
    exact ⟨v, q1, by rw [lamG_zt]; exact q2⟩
  · rw [lamG_zt]
    rcases brwd_brw h1 with h1 | h1
    · obtain ⟨v, q1, q2⟩ := E.brw i d h1 h2
      exact ⟨v, q1, RepO.mono (fun a o h _ z => ⟨h, fun y => by rw [zo' a y] at h; cases h⟩) Kp.refl _ _ q2⟩
    · obtain ⟨v, q1⟩ := E.ownE i d h1 h2
      obtain ⟨a, q2, q3⟩ := E.own' h1 q1 h2
      subst q2
      refine ⟨_, q1, ?_⟩
      have ha : ∀ o, H a = some o → ¬ zo (lamG Γ) (lamF Γ F σ H) σ a := fun o h y => by rw [zo' a y] at h; cases h
      cases d with
      | lst ds => obtain ⟨xs, r1, r2⟩ := q3; exact ⟨a, xs, rfl, ⟨ha _ r1, r1⟩, r2⟩
      | dic t ds =>
        refine ⟨a, rfl, ?_, q3⟩
        rcases q3 with ⟨_, kvs, r1, _⟩ | ⟨_, kvs, r1, _⟩ <;> exact ha _ r1
      | _ => exact q3.elim
  · obtain ⟨a, l, q1, q2, q3, q4⟩ := E.frz i d (brwd_frz h1) h2
    exact ⟨a, l, q1, q2, E.sq q3 q4, fun o u _ ⟨j, _, h, _⟩ => brwd_own h⟩
  · refine ⟨(E.ztH a h).1, (E.ztH a h).2, fun ps z => ?_⟩
    rcases h with h | ⟨i, h1, h2⟩
    · exact (E.zh a h).2.2 ps z
    · obtain ⟨a', d, e1, _, _, _, _, o⟩ := E.own i _ h1 h2
      cases e1
      exact o.notTbl ps z
/-- what was there is there behind the body -/
theorem ER.lent (E2 : ER (lamG Γ) (lamF Γ F σ H) H2 σ e2) : (∀ a o, H a = some o → (∀ ps, o ≠ .tbl ps) → H2 a = some o) ∧ Dm H H2 ∧ Tabs Γ.T H2 :=
  ⟨fun a o h n => E2.base a o h n fun ⟨i, _, z, _⟩ => brwd_own z, E2.dom, E2.tabs⟩
/-- .. so the frame goes on -/
theorem ER.grow (E : ER Γ F H σ e) (k : ∀ a o, H a = some o → (∀ ps, o ≠ .tbl ps) → H1 a = some o) (d : Dm H H1) (t : Tabs Γ.T H1) : ER Γ F H1 σ e ∧ Sp Γ F σ H H1 := by
  refine ⟨E.next (Z' := F.Z) (fun a o h n _ => k a o h n) (fun a z => .inl z) rfl (fun _ _ => rfl) d t (fun i a h1 h2 => ?_) E.ownE, sp_of (fun a o h n _ => k a o h n) d⟩
  obtain ⟨a', dd, e1, _, _, _, q, o⟩ := E.own i _ h1 h2
  cases e1
  have sp : Sp Γ F σ H H1 := sp_of (fun a o h n _ => k a o h n) d
  exact ⟨dd, q, Own.mono o (fun o' h => k a o' h fun ps z => o.notTbl ps (by rw [h, z])) sp.kp⟩
end
section
variable {X : Cx} {Γ : Gm} {fq : Nat → Bool} {XW : WX} {G : Gx} {T : Tb} {n f : Nat} {d : DefI} {l : List HC} {b : PB.C} {K : PySem.W.Frag} {cls : List (Str × Nat)} {xin : Nat → List Str} {Ng : List Str} {sg : Scope} {hds : List ExceptHandler}
abbrev cAd (Γ : Gm) (c : Nat) : Addr := (Γ.cA c).getD 0
theorem lam_read (hcf : G.cf = callN T n) (hd : T.defs[f]? = some d) (hc : d.code = .tryx (.ret (.callv 0)) (mkH l)) (hB : hdB cls xin Ng sg l hds = true)
    (hsub : ∀ y c, cls.lookup y = some c → ∀ a Ca, Γ.cA a = some Ca → PySem.W.exmOne K (.ref Ca) (.ref (cAd Γ c)) = some (T.sub a c)) (hone : ∀ q ∈ l, ∀ a, T.sub a q.1 = true → a = q.1)
    {σ : L2.St} {H : Hp} {Q : VK} (q : rdE Γ fq XW G (.lamcall f b) σ H Q) : tLm Γ.T (TTm K Ng (hdL (cAd Γ) l)) (fun E => rdE (lamG Γ) fq (fun cls d _ H => E cls d H) { G with ks := brwd G.ks } b) σ H Q := by
  obtain ⟨F, e, E, w⟩ := q
  simp only [ev] at w
  refine ⟨E.tabs, fun H1 xN dm T1 => ?_⟩
  obtain ⟨E1, sp1⟩ := E.grow xN dm T1
  refine ⟨lamF Γ F σ H1, e, E1.lend, ?_⟩
  revert w
  cases hev : ev b { G with ks := brwd G.ks } e with
  | none => exact fun w => w.elim
  | some r =>
    intro w0
    obtain ⟨nloc, w⟩ := Wt_ite' w0
    clear w0
    have nloc : isLoc b = false := by simpa using nloc
    rw [hcf] at w
    have res : ∀ {dv : PB.D} {H2 : Hp} {v : V}, PF Γ fq F σ H (.lamcall f b) Q dv e → (∀ a o, H1 a = some o → (∀ ps, o ≠ .tbl ps) → H2 a = some o) → Dm H1 H2 → Tabs Γ.T H2 → Rep (zt Γ F σ) H2 dv v → Q v H2 := fun {dv H2 v} p k1 k2 k3 r => by
      obtain ⟨E3, sp2⟩ := E1.grow k1 k2 k3
      exact p v H2 (sp1.trans sp2) E3 ⟨r, fun z => by cases z⟩
    cases r with
    | ok dv e2 =>
      revert w
      cases hcl : callN T n f (some (.inr dv)) [] with
      | none => exact fun w => w.elim
      | some r2 => cases r2 with
        | xc x o => exact fun w => w.elim
        | ok d' o =>
          intro w0
          have wp : PF Γ fq F σ H (.lamcall f b) Q d' e := w0
          clear w0
          have ed := met_ok hd hc hcl
          subst ed
          intro v H2 k2 E2 r2
          obtain ⟨b1, b2, b3⟩ := E2.lent
          have rv := r2.1.rep nloc
          rw [lamG_zt] at rv
          exact res wp b1 b2 b3 rv
    | xc x e2 =>
      revert w
      cases hcl : callN T n f (some (.inl x)) [] with
      | none => exact fun w => w.elim
      | some r2 => cases r2 with
        | xc x o => exact fun w => w.elim
        | ok d' o =>
          intro w0
          have wp : PF Γ fq F σ H (.lamcall f b) Q d' e := w0
          clear w0
          intro cl od H2 k2 E2 r2
          obtain ⟨b1, b2, b3⟩ := E2.lent
          obtain ⟨CS, hCS, rfl, dd, vf, rfl, hdd, hv⟩ := r2
          rw [lamG_zt] at hv
          obtain ⟨G0, e0, ou, g1, g2, g3, g4⟩ := met_xc hd hc hcl
          intro σ' hl
          have zH : ZH (zt Γ F σ) H2 := (E1.grow b1 b2 b3).1.ztH
          rcases chain (K := K) (cA := cAd Γ) (D := { nx := fun _ H' => Q .non H', rt := Q }) g1 (show cAd Γ x.cls = CS by show (Γ.cA x.cls).getD 0 = CS; rw [show Γ.cA x.cls = some CS from hCS]; rfl) (fun y c hy => by rw [g2]; exact hsub y c hy _ _ hCS) hl hdd hv (fun q hq h => hone q hq _ (by rw [← g2]; exact h)) hB g3 with ⟨y, e2, z⟩ | ⟨ds, e2, z, k⟩
          · subst z
            rcases g4 with ⟨_, z⟩ | ⟨_, z⟩ <;> cases z
          · subst z
            rcases g4 with ⟨_, z⟩ | ⟨_, z⟩ <;> cases z
            refine k fun p vs hp rs => ?_
            have ex : Ex H2 (upd H2 p (.tup vs)) := Ex.new hp
            refine res wp (fun a o h n => ex a o (b1 a o h n)) (fun a h => upd_dom a (b2 a h)) (b3.ext ex) ⟨p, vs, rfl, ⟨zH.free hp, upd_same⟩, RepL.mono ex.kp _ _ rs⟩
end
end PB
set_option maxHeartbeats 4000000
/-! Iq: code and text held together. -/
namespace PB
open PySem PySem.Spec PyProof.Rows L2 LamX

inductive Md where
  | E (e : Expr) | N (x : Str) (p : Pos) (e : Expr) | T (e : Expr) | V (op : BoolOp) (es : List Expr) | W (op : BoolOp) (es : List Expr) | A (es : List Expr) | I (tg e : Expr) | G (e : Expr) | Gs (es : List Expr) | S (s : Stmt) | Ss (ss : List Stmt) | H (hs : List ExceptHandler) | D (ks : List Str) (keys : List (Option Expr)) (es : List Expr)
/-- what is known of a def's text -/
structure Sx where
  N : List Str
  ks : List Kd
  np : Nat
  sc : Scope
  fns : List (Str × Nat)
  cls : List (Str × Nat)
  xin : Nat → List Str
  mets : List (Str × Nat)
  lms : Bool
  cel : Str → Bool
  glb : List Str
  calm : Bool
  gd : Bool
  fq : Nat → Bool
  kk : Nat → List Kd
  gdf : Nat → Bool
  fr : Bool
  xo : Option Nat
  lam : Bool
  top : Bool
def visB (sc : Scope) (x : Str) : Bool := match sc.names.lookup x with
  | some .local => true
  | some .cell => true
  | some .free => true
  | _ => false
def glB (S : Sx) (x : Str) : Bool := decide (S.sc.names.lookup x = some .globalImplicit)
def bltB (S : Sx) (x : Str) : Bool := glB S x && S.glb.contains x
def nmOk (S : Sx) (i : Nat) (x : Str) : Bool := decide (S.N[i]? = some x) && visB S.sc x && !(x == ("__debug__" : Str)) && !(x == ("__classdict__" : Str))
def freB (S : Sx) (i : Nat) : Bool := decide (S.xo ≠ some i) && (!decide (i = 0) || !S.lam)
/-- a name that may be stored -/
def stOk (S : Sx) (i : Nat) (x : Str) : Bool := decide (S.N[i]? = some x) && freB S i && match S.sc.names.lookup x with
  | some .local => true
  | some .cell => S.cel x
  | _ => false
def notStar : Expr → Bool
  | .Starred _ _ => false
  | _ => true
def plainIx : Expr → Bool
  | .Slice _ _ _ _ => false
  | _ => true
def notTest : Expr → Bool
  | .UnaryOp _ _ _ => false
  | .BoolOp _ _ _ => false
  | .IfExp _ _ _ _ => false
  | .Compare _ _ _ _ => false
  | _ => true
def opE : O2 → Operator → Bool
  | .add, .Add => true | .sub, .Sub => true | .mul, .Mult => true | .fdiv, .FloorDiv => true | .mod, .Mod => true | .pow, .Pow => true | .shl, .LShift => true | .shr, .RShift => true
  | .band, .BitAnd => true | .bor, .BitOr => true | .bxor, .BitXor => true
  | _, _ => false
def opC : O2 → CmpOp → Bool
  | .lt, .Lt => true | .le, .LtE => true | .gt, .Gt => true | .ge, .GtE => true | .eq, .Eq => true | .ne, .NotEq => true | .isIn, .In => true | .notIn, .NotIn => true | .is, .Is => true | .isNot, .IsNot => true
  | _, _ => false
def consN : C → Nat
  | .cons _ b => consN b + 1
  | _ => 0
/-- the names of built-ins that are carried -/
def bltName : Bi → Option Str
  | .len => some "len" | .sum => some "sum" | .any => some "any" | .all => some "all" | .tuple => some "tuple" | .list => some "list" | .int => some "int" | .abs => some "abs" | .max => some "max" | .min => some "min" | .sorted => some "sorted" | .dict => some "dict" | .repr => some "repr"
  | _ => none
def isScr : C → Bool
  | .scr _ => true
  | _ => false

def isNoPart : C → Bool
  | .noPart => true
  | _ => false
def isNil : C → Bool
  | .nil => true
  | _ => false
def notSet : Expr → Bool
  | .Set _ _ _ => false
  | _ => true
def isYes : C → Bool
  | .cst (.bl true) => true
  | _ => false
/-- a block's own names, with their slots -/
def ownOf (S : Sx) (vs : List Nat) : List (Str × Nat) := vs.map fun v => ((S.N[v]?).getD "", v)
def lcHead (S : Sx) (vs : List Nat) (tg : C) (scope : Scope) (it : Expr) : Bool :=
  S.calm && blkC S.N S.sc scope (ownOf S vs) && vs.all (fun v => decide (S.ks[v]? = some Kd.shr) && freB S v) && (slotsG tg).all (fun i => vs.contains i) && notSet it
abbrev blkS (S : Sx) (scope : Scope) : Sx := { S with sc := relS scope S.sc, top := false, lms := false, mets := [], cel := fun x => scope.names.lookup x == some .cell }
/-- within a lambda -/
abbrev lamS (S : Sx) (scope : Scope) : Sx := { S with sc := scope, ks := brwd S.ks, gd := false, calm := true, top := false, lms := false, cel := fun _ => false, fr := false, xo := none, lam := false, cls := [], mets := [] }
abbrev noArgs : Arguments := ⟨[], [], none, [], [], none, []⟩
/-- x(lambda: body) -/
def lamM : Md → Option (Str × Expr × Scope)
  | .E (.Call (.Name x _) [.Lambda ⟨[], [], none, [], [], none, []⟩ body scope _] [] _) => some (x, body, scope)
  | _ => none
theorem lamM_eq {m : Md} {x : Str} {body : Expr} {scope : Scope} (h : lamM m = some (x, body, scope)) : ∃ p q r, m = .E (.Call (.Name x p) [.Lambda noArgs body scope q] [] r) := by
  unfold lamM at h
  split at h <;> cases h
  exact ⟨_, _, _, rfl⟩
/-- may a value of code c be walked over -/
def seqOk (S : Sx) (c : C) : Bool := lcOk S.ks c || isScr c
def isLc : C → Bool
  | .lc .. => true
  | .lc2 .. => true
  | _ => false
def isLcE : Expr → Bool
  | .ListComp .. => true
  | .SetComp .. => true
  | .DictComp .. => true
  | _ => false
def isLocI (i : Nat) : C → Bool
  | .loc j => decide (i = j)
  | _ => false
def isPass : C → Bool
  | .pass => true
  | _ => false
def isName : Expr → Bool
  | .Name _ _ => true
  | _ => false
def isTupE : Expr → Bool
  | .Tuple _ _ _ => true
  | .List _ _ => true
  | _ => false
def isTupT : Expr → Bool
  | .Tuple _ _ _ => true
  | _ => false
def tkB (S : Sx) (i : Nat) (c : C) : Bool := decide (S.ks[i]? = some Kd.shr) || (decide (S.ks[i]? = some Kd.own) && decide (S.np ≤ i) && frC S.fq c)
/-- no store at once: some target is no plain local name, or all values are constants -/
def swNo (S : Sx) (ts : List Expr) : Expr → Bool
  | .Tuple vs _ _ => ((ts.filterMap fun
      | .Name id pos => if S.sc.names.lookup id == some .local && pos.line == (ts.head?.map (·.pos.line)).getD 0 then some id else none
      | _ => none).length != ts.length) || vs.all (foldedForSure 8)
  | .List _ _ => false
  | _ => true
def opI : O2 → Operator → Bool
  | .add, .Add => true | .sub, .Sub => true | .mul, .Mult => true | .fdiv, .FloorDiv => true | .mod, .Mod => true | .shl, .LShift => true | .shr, .RShift => true
  | .band, .BitAnd => true | .bor, .BitOr => true | .bxor, .BitXor => true
  | _, _ => false
/-- a comprehension that is stored as it is made -/
def swapB (S : Sx) (scope : Scope) (t : Str) (p q : Pos) : Bool := decide (S.sc.names.lookup t = some .local) && (p.line == q.line) && !(scope.names.any fun (n, k) => n == t && (k == .local || k == .cell))
structure L2E where
  ee : Expr
  te : Expr
  ie : Expr
  i0 : Option Expr
  te1 : Expr
  ie1 : Expr
  i1 : Option Expr
  scope : Scope
  p : Pos
def ifOne : List Expr → Option (Option Expr)
  | [] => some none
  | [c] => some (some c)
  | _ => none
theorem ifOne_eq {l : List Expr} {o : Option Expr} (h : ifOne l = some o) : l = o.toList := by
  unfold ifOne at h
  split at h <;> first | (cases h; rfl) | cases h
/-- a comprehension of two clauses, taken apart -/
def lc2E : Expr → Option L2E
  | .ListComp ee [⟨te, ie, ifs, ia⟩, ⟨te1, ie1, ifs1, ia1⟩] scope p => if ia = 0 ∧ ia1 = 0 then (ifOne ifs).bind fun i0 => (ifOne ifs1).map fun i1 => ⟨ee, te, ie, i0, te1, ie1, i1, scope, p⟩ else none
  | _ => none
theorem lc2E_eq {e : Expr} {r : L2E} (h : lc2E e = some r) : e = .ListComp r.ee [⟨r.te, r.ie, r.i0.toList, 0⟩, ⟨r.te1, r.ie1, r.i1.toList, 0⟩] r.scope r.p := by
  unfold lc2E at h
  split at h
  · split at h
    · rename_i q
      obtain ⟨rfl, rfl⟩ := q
      obtain ⟨i0, h1, h⟩ := Option.bind_eq_some_iff.mp h
      obtain ⟨i1, h2, h⟩ := Option.map_eq_some_iff.mp h
      subst h
      rw [ifOne_eq h1, ifOne_eq h2]
    · cases h
  · cases h
def lc2M (S : Sx) : Md → Option (Bool × L2E)
  | .E e => (lc2E e).map fun r => (true, r)
  | .N x px e => (lc2E e).map fun r => (swapB S r.scope x px r.p || decide (S.sc.names.lookup x = some .cell), r)
  | _ => none
def chk : C → Sx → Md → Bool
  | .var i, S, m => match m with
    | .E (.Name x _) => nmOk S i x
    | .G (.Name x _) => stOk S i x
    | _ => false
  | .loc i, S, m => match m with
    | .E (.Name x _) => nmOk S i x
    | _ => false
  | .scr i, S, m => match m with
    | .E (.Name x _) => nmOk S i x
    | _ => false
  | .cst d, S, m => match m, d with
    | .E (.Constant (.int j) _ _), .int i => decide (i = j)
    | .E (.Constant (.bool j) _ _), .bl i => decide (i = j)
    | .E (.Constant (.str j) _ _), .str i => decide (i = j)
    | .E (.Constant .none _ _), .non => true
    | _, _ => false
  | .tup a, S, m => match m with
    | .E (.Tuple es _ _) => chk a S (.A es) && decide (consN a ≤ 1000)
    | .G (.Tuple es _ _) => chk a S (.Gs es) && isTgs a && S.calm && es.all notStar && decide (es.length = lenG a)
    | _ => false
  | .lst a, S, m => match m with
    | .E (.List es _) => chk a S (.A es) && decide (consN a ≤ 1000)
    | _ => false
  | .dnew _, S, m => match m with
    | .E (.Dict [] [] _) => true
    | _ => false
  | .disp ks a, S, m => match m with
    | .E (.Dict keys vals _) => chk a S (.D ks keys vals) && isTgs a && noLocs a && decide (ks.Nodup) && decide (ks.length ≤ 15) && !ks.isEmpty && keys.all (·.isSome) && decide (keys.length = ks.length) && decide (vals.length = ks.length) && decide (consN0 a = ks.length)
    | _ => false
  | .op o a b, S, m => match m with
    | .E (.BinOp ea o' eb _) => opE o o' && chk a S (.E ea) && chk b S (.E eb) && lcOk S.ks a && lcOk S.ks b
    | .E (.Compare ea [o'] [eb] _) => opC o o' && chk a S (.E ea) && chk b S (.E eb) && lcOk S.ks a && lcOk S.ks b && !behindInMarks o' eb
    | .T (.Compare ea [o'] [eb] _) => opC o o' && chk a S (.E ea) && chk b S (.E eb) && lcOk S.ks a && lcOk S.ks b && !behindInMarks o' eb
    | _ => false
  | .neg a, S, m => match m with
    | .E (.UnaryOp .USub ea _) => chk a S (.E ea) && !isLoc a
    | _ => false
  | .not a, S, m => match m with
    | .E (.UnaryOp .Not ea _) => chk a S (.E ea) && lcOk S.ks a
    | .T (.UnaryOp .Not ea _) => chk a S (.T ea) || (chk a S (.E ea) && notTest ea && lcOk S.ks a)
    | _ => false
  | .and a b, S, m => match m with
    | .E (.BoolOp .And (ea :: eb :: es) _) => chk a S (.E ea) && (match es with | [] => chk b S (.E eb) | e :: r => chk b S (.V .And (eb :: e :: r)))
    | .V .And (ea :: eb :: es) => chk a S (.E ea) && (match es with | [] => chk b S (.E eb) | e :: r => chk b S (.V .And (eb :: e :: r)))
    | .T (.BoolOp .And (ea :: eb :: es) _) => (chk a S (.T ea) || (chk a S (.E ea) && notTest ea && lcOk S.ks a)) && (match es with | [] => chk b S (.T eb) || (chk b S (.E eb) && notTest eb && lcOk S.ks b) | e :: r => chk b S (.W .And (eb :: e :: r)))
    | .W .And (ea :: eb :: es) => (chk a S (.T ea) || (chk a S (.E ea) && notTest ea && lcOk S.ks a)) && (match es with | [] => chk b S (.T eb) || (chk b S (.E eb) && notTest eb && lcOk S.ks b) | e :: r => chk b S (.W .And (eb :: e :: r)))
    | _ => false
  | .or a b, S, m => match m with
    | .E (.BoolOp .Or (ea :: eb :: es) _) => chk a S (.E ea) && (match es with | [] => chk b S (.E eb) | e :: r => chk b S (.V .Or (eb :: e :: r)))
    | .V .Or (ea :: eb :: es) => chk a S (.E ea) && (match es with | [] => chk b S (.E eb) | e :: r => chk b S (.V .Or (eb :: e :: r)))
    | .T (.BoolOp .Or (ea :: eb :: es) _) => (chk a S (.T ea) || (chk a S (.E ea) && notTest ea && lcOk S.ks a)) && (match es with | [] => chk b S (.T eb) || (chk b S (.E eb) && notTest eb && lcOk S.ks b) | e :: r => chk b S (.W .Or (eb :: e :: r)))
    | .W .Or (ea :: eb :: es) => (chk a S (.T ea) || (chk a S (.E ea) && notTest ea && lcOk S.ks a)) && (match es with | [] => chk b S (.T eb) || (chk b S (.E eb) && notTest eb && lcOk S.ks b) | e :: r => chk b S (.W .Or (eb :: e :: r)))
    | _ => false
  | .ite c a b, S, m => match m with
    | .E (.IfExp ec ea eb _) => (chk c S (.T ec) || (chk c S (.E ec) && notTest ec && lcOk S.ks c)) && chk a S (.E ea) && chk b S (.E eb)
    | _ => false
  | .idx a b, S, m => match m with
    | .E (.Subscript ea eb _) => chk a S (.E ea) && chk b S (.E eb) && lcOk S.ks a && plainIx eb
    | _ => false
  | .slc a lo hi, S, m => match m with
    | .E (.Subscript ea (.Slice el eh none _) _) => chk a S (.E ea) && lcOk S.ks a && (match el with | none => isNoPart lo | some e => chk lo S (.E e) && !isLoc lo) && (match eh with | none => isNoPart hi | some e => chk hi S (.E e) && !isLoc hi)
    | _ => false
  | .nil, S, m => match m with
    | .A [] => true
    | .Gs [] => true
    | .D [] [] [] => true
    | _ => false
  | .cons a b, S, m => match m with
    | .A (e :: es) => chk a S (.E e) && chk b S (.A es) && notStar e
    | .Gs (e :: es) => chk a S (.G e) && chk b S (.Gs es) && notStar e
    | .D (k :: ks) (ky :: kys) (e :: es) => keyE k ky && chk a S (.E e) && chk b S (.D ks kys es)
    | _ => false
  | .call f a, S, m => match m with
    | .E (.Call (.Name x _) es [] _) => decide (S.fns.lookup x = some f) && glB S x && S.calm && (S.gd || !S.gdf f) && sepOk (S.kk f) a && chk a S (.A es) && es.all notStar && !(x == ("__debug__" : Str))
    | _ => false
  | .blt f a, S, m => match m with
    | .E (.Call (.Name x _) (e :: es) [] _) => decide (bltName f = some x) && bltB S x && S.calm && (S.gd || !(match f with | .repr => true | _ => false)) && chk a S (.A (e :: es)) && lcsOk S.ks a && (e :: es).all notStar
    | .I tg (.Call (.Name x _) es [] _) => bltB S x && chk a S (.A es) && es.all notStar && lcsOk S.ks a && decide (lenG a = es.length) && (match f with
        | .range => decide (x = "range") && (decide (es.length = 1) || decide (es.length = 2) || decide (es.length = 3))
        | .enum => decide (x = "enumerate") && isTupT tg && noLocs a && decide (es.length = 1)
        | .zip => decide (x = "zip") && isTupT tg && noLocs a && decide (es.length = 2)
        | _ => false)
    | _ => false
  | .lc vs tg it cond elt, S, m => match m with
    | .E (.ListComp ee [⟨te, ie, ifs, ia⟩] scope _) => lcHead S vs tg scope ie && decide (ia = 0) && (chk it S (.I te ie) || (chk it S (.E ie) && seqOk S it)) && chk tg (blkS S scope) (.G te) &&
        (match ifs with | [] => isYes cond | [ce] => chk cond (blkS S scope) (.T ce) || (chk cond (blkS S scope) (.E ce) && notTest ce && lcOk S.ks cond) | _ => false) && chk elt (blkS S scope) (.E ee)
    | .N x px (.ListComp ee [⟨te, ie, ifs, ia⟩] scope p) => (swapB S scope x px p || decide (S.sc.names.lookup x = some .cell)) && lcHead S vs tg scope ie && decide (ia = 0) && (chk it S (.I te ie) || (chk it S (.E ie) && seqOk S it)) && chk tg (blkS S scope) (.G te) &&
        (match ifs with | [] => isYes cond | [ce] => chk cond (blkS S scope) (.T ce) || (chk cond (blkS S scope) (.E ce) && notTest ce && lcOk S.ks cond) | _ => false) && chk elt (blkS S scope) (.E ee)
    | _ => false
  | .lc2 vs vs1 tg it cond tg1 it1 cond1 elt, S, m => match lc2M S m with
    | some (w, r) => w && lcHead S vs tg r.scope r.ie && (chk it S (.I r.te r.ie) || (chk it S (.E r.ie) && seqOk S it)) && chk tg (blkS S r.scope) (.G r.te) &&
        (match r.i0 with | none => isYes cond | some ce => chk cond (blkS S r.scope) (.T ce) || (chk cond (blkS S r.scope) (.E ce) && notTest ce && lcOk S.ks cond)) && chk elt (blkS S r.scope) (.E r.ee) &&
        (vs1.all (fun i => vs.contains i) && (slotsG tg1).all (fun i => vs1.contains i) && notSet r.ie1) && (chk it1 (blkS S r.scope) (.I r.te1 r.ie1) || (chk it1 (blkS S r.scope) (.E r.ie1) && seqOk S it1)) && chk tg1 (blkS S r.scope) (.G r.te1) &&
        (match r.i1 with | none => isYes cond1 | some ce => chk cond1 (blkS S r.scope) (.T ce) || (chk cond1 (blkS S r.scope) (.E ce) && notTest ce && lcOk S.ks cond1))
    | none => false
  | .lamcall f b, S, m => match lamM m with
    | some (x, body, scope) => decide (S.mets.lookup x = some f) && glB S x && S.lms && S.top && S.calm && lamSB S.sc scope && chk b (lamS S scope) (.E body) && !(x == ("__debug__" : Str))
    | none => false
  | .isi f a, S, m => match m with
    | .E (.Call (.Name x _) [e, .Name t _] [] _) => decide (x = "isinstance") && decide ((isiTy f).map Str.ofString = some t) && bltB S x && bltB S t && lcOk S.ks a && chk a S (.E e) && notStar e
    | _ => false
  | .lrng t a, S, m => match m with
    | .E (.Call (.Name f _) [.Call (.Name x _) es [] _] [] _) => decide (f = if t then "tuple" else "list") && bltB S f && decide (x = "range") && bltB S x && S.calm && chk a S (.A es) && es.all notStar && !es.isEmpty
    | _ => false
  | .popAt i a, S, m => match m with
    | .E (.Call (.Attribute (.Name x _) mth apos) [e] [] cpos) => decide (mth = "pop") && nmOk S i x && decide (S.ks[i]? = some Kd.own) && (apos.endLine == cpos.line) && chk a S (.E e) && notStar e
    | _ => false
  | .popLast i, S, m => match m with
    | .E (.Call (.Attribute (.Name x _) mth apos) [] [] cpos) => decide (mth = "pop") && nmOk S i x && decide (S.ks[i]? = some Kd.own) && (apos.endLine == cpos.line)
    | _ => false
  | .scrLen i, S, m => match m with
    | .E (.Call (.Name f _) [.Name x _] [] _) => decide (f = "len") && bltB S f && nmOk S i x
    | _ => false
  | .scrList i, S, m => match m with
    | .E (.Call (.Name f _) [.Name x _] [] _) => decide (f = "list") && bltB S f && nmOk S i x && S.calm
    | _ => false
  | .seq a b, S, m => match m with
    | .Ss (s :: s2 :: r) => chk a S (.S s) && (match r with | [] => chk b S (.S s2) | s3 :: r3 => chk b S (.Ss (s2 :: s3 :: r3)))
    | _ => false
  | .pass, _, m => match m with
    | .S (.Pass _) => true
    | _ => false
  | .brk, _, m => match m with
    | .S (.Break _) => true
    | _ => false
  | .cnt, _, m => match m with
    | .S (.Continue _) => true
    | _ => false
  | .drop c, S, m => match m with
    | .S (.Expr e _) => chk c S (.E e) && !isLcE e
    | _ => false
  | .ret c, S, m => match m with
    | .S (.Return (some e) _) => chk c S (.E e) && (!S.fr || frC S.fq c)
    | _ => false
  | .retN, _, m => match m with
    | .S (.Return none _) => true
    | _ => false
  | .retO i, S, m => match m with
    | .S (.Return (some (.Name x _)) _) => nmOk S i x && decide (S.np ≤ i)
    | _ => false
  | .ife c a b, S, m => match m with
    | .S (.If ce sa sb _) => (chk c S (.T ce) || (chk c S (.E ce) && notTest ce && lcOk S.ks c)) && (match sa with | [s] => chk a S (.S s) | _ => chk a S (.Ss sa)) && (match sb with | [] => isPass b | [s] => chk b S (.S s) | _ => chk b S (.Ss sb))
    | _ => false
  | .whl c b, S, m => match m with
    | .S (.While ce sb [] _) => S.top && (chk c S (.T ce) || (chk c S (.E ce) && notTest ce && lcOk S.ks c)) && (match sb with | [s] => chk b S (.S s) | _ => chk b S (.Ss sb))
    | _ => false
  | .fr tg it b, S, m => match m with
    | .S (.For te ie sb [] _) => S.top && S.calm && (chk it S (.I te ie) || (chk it S (.E ie) && seqOk S it)) && chk tg S (.G te) && notSet ie && (match sb with | [s] => chk b S (.S s) | _ => chk b S (.Ss sb))
    | _ => false
  | .asg t c, S, m => match m with
    | .S (.Assign [.Name x px] e pos) => (match t with | .var i => stOk S i x && decide (S.ks[i]? = some Kd.shr) | .loc i => stOk S i x && decide (S.ks[i]? = some Kd.own) && decide (S.np ≤ i) && frC S.fq c | _ => false) &&
        (chk c S (.N x px e) || (chk c S (.E e) && !isLcE e))
    | .S (.Assign [.Tuple es k p] e pos) => (match t with | .tup _ => true | _ => false) && chk t S (.G (.Tuple es k p)) && chk c S (.E e) && swNo S es e && !isLcE e
    | _ => false
  | .par i j a b, S, m => match m with
    | .S (.Assign [.Tuple [.Name x px, .Name y py] _ _] (.Tuple [ea, eb] k2 p2) _) => stOk S i x && stOk S j y && decide (i ≠ j) && decide (x ≠ y) && tkB S i a && tkB S j b && chk a S (.E ea) && chk b S (.E eb) && notStar ea && notStar eb && S.calm &&
        ((plainB S.sc px.line x px && plainB S.sc px.line y py && !(foldedForSure 8 ea && foldedForSure 8 eb) && !(constantsAlone 8 ea && constantsAlone 8 eb)) || swNo S [.Name x px, .Name y py] (.Tuple [ea, eb] k2 p2))
    | _ => false
  | .par3 i j l a b c, S, m => match m with
    | .S (.Assign [.Tuple [.Name x px, .Name y py, .Name z pz] _ _] (.Tuple [ea, eb, ec] _ _) _) => (stOk S i x && stOk S j y && stOk S l z && decide (i ≠ j) && decide (i ≠ l) && decide (j ≠ l)) && (decide (x ≠ y) && decide (x ≠ z) && decide (y ≠ z)) &&
        (decide (S.ks[i]? = some Kd.shr) && decide (S.ks[j]? = some Kd.shr) && decide (S.ks[l]? = some Kd.shr)) && (chk a S (.E ea) && chk b S (.E eb) && chk c S (.E ec)) && (notStar ea && notStar eb && notStar ec) && S.calm &&
        (plainB S.sc px.line x px && plainB S.sc px.line y py && plainB S.sc px.line z pz) && !(foldedForSure 8 ea && foldedForSure 8 eb && foldedForSure 8 ec) && !(constantsAlone 8 ea && constantsAlone 8 eb && constantsAlone 8 ec)
    | _ => false
  | .raise cls a, S, m => match m with
    | .S (.Raise (some (.Call (.Name x _) (e :: es) [] _)) none _) => decide (S.cls.lookup x = some cls) && glB S x && S.calm && S.top && chk a S (.A (e :: es)) && (e :: es).all notStar && !(x == ("__debug__" : Str)) && decide (consN a ≤ 900)
    | _ => false
  | .app i c, S, m => match m with
    | .S (.Expr (.Call (.Attribute (.Name x _) mth apos) [e] [] cpos) pos) => decide (mth = "append") && nmOk S i x && decide (S.ks[i]? = some Kd.own) && (apos.endLine == cpos.line) && chk c S (.E e) && notStar e
    | _ => false
  | .stIx i k c, S, m => match m with
    | .S (.Assign [.Subscript (.Name x _) ke _] e pos) => nmOk S i x && decide (S.ks[i]? = some Kd.own) && chk k S (.E ke) && chk c S (.E e) && plainIx ke && !isLcE e
    | _ => false
  | .aug i o c, S, m => match m with
    | .S (.AugAssign (.Name x _) o' e _) => opI o o' && stOk S i x && chk c S (.E e)
    | _ => false
  | _, _, _ => false
end PB
set_option maxHeartbeats 4000000
/-! Ir: what the check says: expressions. -/
namespace PB
open PySem PySem.Spec PyProof.Rows L2

/-- a def that calls what it is given, in a try -/
inductive MetOk (Δ : Ctx) (X : Cx) (S : Sx) (x : Str) (f : Nat) : Prop
  | mk {g : Addr} {pg : Arguments} {sg : Scope} {dV kV doc pm cdv ct oc : Value} {an od : Option Addr} {osl : Array (Option Value)} {Ng : List Str} {a : Str} {p1 p2 p3 p8 : Pos} {h0 : ExceptHandler} {hds : List ExceptHandler} {d : DefI} {l : List HC}
      (hm : X.mg x = some (.ref g)) (hk : PySem.W.keepIn X.K (.ref g) = true) (lk : X.K.lookup g = some ⟨oc, od, .func (PySem.W.fnOf x x pg [.Try [.Return (some (.Call (.Name a p1) [] [] p2)) p3] (h0 :: hds) [] [] p8] sg dV kV doc pm an cdv ct), osl⟩) (hcg : PySem.W.codeIn X.K cdv x = true)
      (hb : L2.Binds X.K (PySem.W.fnOf x x pg [.Try [.Return (some (.Call (.Name a p1) [] [] p2)) p3] (h0 :: hds) [] [] p8] sg dV kV doc pm an cdv ct) [a] []) (Sg : FnScope Ng [a] sg) (hNg : Ng[0]? = some a) (hNd : Ng.Nodup) (hva : Vis sg a) (had : (a == ("__debug__" : Str)) = false) (hac : (a == ("__classdict__" : Str)) = false)
      (hd : Δ.T.defs[f]? = some d) (hc : d.code = .tryx (.ret (.callv 0)) (mkH l)) (hB : hdB S.cls S.xin Ng sg l (h0 :: hds) = true) (hone : ∀ q ∈ l, ∀ a, Δ.T.sub a q.1 = true → a = q.1) : MetOk Δ X S x f
/-- what a context is to be -/
structure Cok (Δ : Ctx) (n : Nat) (S : Sx) (Γ : Gm) (X : Cx) (XW : WX) (G : Gx) : Prop where
  hN : X.N = S.N
  nd : X.N.Nodup
  sc : X.env.scope = S.sc
  fn : ∀ x, S.cel x = true → X.fn x = true
  calm : S.calm = true → X.calm = true
  gd : S.gd = true → X.A.guards = some []
  hu : X.A.units + 100 < cLine
  room : S.calm = true → Room (3 * n) X.A
  roomT : S.top = true → S.calm = true → Room (3 * n + 2) X.A
  fns : ∀ x f, S.fns.lookup x = some f → ∃ ad fd ps, X.mg x = some (.ref ad) ∧ PySem.W.keepIn X.K (.ref ad) = true ∧ Binds X.K fd ps [] ∧ FnG X.prog X.w X.K X.mg X.base (S.gdf f) (3 * n) ad fd ps (spI Δ n f)
  cls : ∀ x c, S.cls.lookup x = some c → ∃ cA fI fd ps, Δ.cA c = some cA ∧ X.mg x = some (.ref cA) ∧ OexC X.K cA ∧ PySem.W.findIn X.K (.ref cA) "__init__" = some (some (.ref fI)) ∧ PySem.W.typeIn X.K (.ref fI) = some (.type "function") ∧ FnOk X.prog X.w X.K X.mg X.base noCX 1 fI fd ps (spIni X.K cA (S.xin c)) ∧ Binds X.K fd ps []
  gxin : G.xin = S.xin
  clsK : ClsK X.K X.mg S.cls S.xin (cAd Γ)
  csub : ∀ y c, S.cls.lookup y = some c → ∀ a Ca, Γ.cA a = some Ca → PySem.W.exmOne X.K (.ref Ca) (.ref (cAd Γ c)) = some (Δ.T.sub a c)
  mets : ∀ x f, S.mets.lookup x = some f → MetOk Δ X S x f
  lamT : S.lms = true → ∃ c P, LamX.TabB X.base X.mg c P ∧ X.env.code = .ref c ∧ (P, X.env.qual ++ "<lambda>") ∈ Γ.T ∧ ∀ p ∈ Γ.T, p.1 = P → p.2 = X.env.qual ++ "<lambda>"
  glb : ∀ x, S.glb.contains x = true → X.mg x = none
  gks : G.ks = S.ks
  Γks : Γ.ks = S.ks
  Γnp : Γ.np = S.np
  ΓT : Γ.T = Δ.tb
  ΓK : Γ.K = Δ.K
  ΔK : Δ.K = X.K
  ΓC : Γ.cA = Δ.cA
  gcf : G.cf = callN Δ.T n
  ginf : G.info = Δ.kk
  Δkk : Δ.kk = S.kk
  Δfq : Δ.fq = S.fq
  xo : ∀ i a dx ds, Γ.xo = some (i, a, dx, ds) → S.xo = some i
  lam : S.lam = false → Γ.lam = none
  tk : Takes X XW
/-- what is said of a piece of code at a piece of text -/
def Snd (Δ : Ctx) (S : Sx) (Γ : Gm) (X : Cx) (XW : WX) (G : Gx) (c : C) : Md → Prop
  | .E e => PE X e (rdE Γ Δ.fq XW G c)
  | .N x p e => ∀ (i : Nat) (pos : Pos), X.N[i]? = some x → Loc X.env.scope x → (X.fn x = true ∨ X.env.scope.names.lookup x = some .local) → PS X (.Assign [.Name x p] e pos) (tAsg (rdE Γ Δ.fq XW G c) (gName i))
  | .T e => PT X e (rdT Γ XW G c)
  | .V op es => ∀ pos, PE X (.BoolOp op es pos) (rdE Γ Δ.fq XW G c)
  | .W op es => ∀ pos, PW X (.BoolOp op es pos) (rdT Γ XW G c)
  | .A es => PA X es (rdA Γ XW G c)
  | .I tg e => PI X tg e (rdI Γ XW G c)
  | .G e => PG X e (rdG Γ c)
  | .Gs es => PGs X es (rdGs Γ c)
  | .S s => (S.top = true → PassesOwn (model X.prog X.w) X.A X.env X.xe) → PS X s (rdSt Γ S.fr XW G c)
  | .Ss ss => (S.top = true → PassesOwn (model X.prog X.w) X.A X.env X.xe) → PSs X ss (rdSt Γ S.fr XW G c)
  | .H _ => True
  | .D ks kys es => ∀ pos, PPs X pos kys es (trsOf ks (rdD Γ Δ.fq XW G c))
def Good (Δ : Ctx) (n : Nat) (c : C) : Prop := ∀ (S : Sx) (Γ : Gm) (X : Cx) (XW : WX) (G : Gx), Cok Δ n S Γ X XW G → ∀ m, chk c S m = true → Snd Δ S Γ X XW G c m
section
variable {Δ : Ctx} {n : Nat} {S : Sx} {Γ : Gm} {X : Cx} {XW : WX} {G : Gx}
theorem Cok.fre (K : Cok Δ n S Γ X XW G) {i : Nat} (h : freB S i = true) : Fre Γ i := by
  unfold freB at h
  simp only [Bool.and_eq_true, decide_eq_true_eq, Bool.or_eq_true, Bool.not_eq_true', decide_eq_false_iff_not] at h
  exact ⟨fun a dx ds q => h.1 (K.xo i a dx ds q), fun q => h.2.elim (fun z => absurd q z) K.lam⟩
theorem Cok.vis (K : Cok Δ n S Γ X XW G) {x : Str} (h : visB S.sc x = true) : Vis X.env.scope x := by
  rw [K.sc]
  unfold visB at h
  unfold Vis
  split at h
  · rename_i q; exact .inl q
  · rename_i q; exact .inr (.inl q)
  · rename_i q; exact .inr (.inr q)
  · cases h
theorem Cok.gl (K : Cok Δ n S Γ X XW G) {x : Str} (h : glB S x = true) : Gl X x := by
  unfold glB at h
  show X.env.scope.names.lookup x = _
  rw [K.sc]
  exact of_decide_eq_true h
theorem Cok.blt (K : Cok Δ n S Γ X XW G) {x : Str} (h : bltB S x = true) : Gl X x ∧ X.mg x = none := by
  unfold bltB at h
  simp only [Bool.and_eq_true, Bool.not_eq_true'] at h
  exact ⟨K.gl h.1, K.glb x h.2⟩
theorem Cok.name (K : Cok Δ n S Γ X XW G) {i : Nat} {x : Str} {pos : Pos} (h : nmOk S i x = true) : PE X (.Name x pos) (tVar i) := by
  unfold nmOk at h
  simp only [Bool.and_eq_true, decide_eq_true_eq, Bool.not_eq_true'] at h
  exact pe_var (by rw [K.hN]; exact h.1.1.1) (K.vis h.1.1.2) h.1.2 h.2
theorem Cok.store (K : Cok Δ n S Γ X XW G) {i : Nat} {x : Str} {pos : Pos} (h : stOk S i x = true) : PG X (.Name x pos) (gName i) ∧ Fre Γ i ∧ X.N[i]? = some x ∧ Loc X.env.scope x ∧ (X.fn x = true ∨ X.env.scope.names.lookup x = some .local) := by
  unfold stOk at h
  simp only [Bool.and_eq_true, decide_eq_true_eq] at h
  obtain ⟨⟨h1, h2⟩, h3⟩ := h
  have hN : X.N[i]? = some x := by rw [K.hN]; exact h1
  split at h3
  · rename_i q
    have l : X.env.scope.names.lookup x = some .local := by rw [K.sc]; exact q
    exact ⟨pg_name K.nd hN (.inl l) (.inr l), K.fre h2, hN, .inl l, .inr l⟩
  · rename_i q
    have l : X.env.scope.names.lookup x = some .cell := by rw [K.sc]; exact q
    exact ⟨pg_name K.nd hN (.inr l) (.inl (K.fn x h3)), K.fre h2, hN, .inr l, .inl (K.fn x h3)⟩
  · cases h3
theorem star1 {e : Expr} {es : List Expr} {env : Env} (h : notStar e = true) : starEach (e :: es) env = (false, eval e env) :: starEach es env := by
  cases e <;> first | rfl | cases h
theorem asg1 {e : Expr} {es : List Expr} {env : Env} (h : notStar e = true) : assignEach (e :: es) env = (false, assign e env) :: assignEach es env := by
  cases e <;> first | rfl | cases h
theorem starN {pos : Pos} {env : Env} : ∀ {es : List Expr}, es.all notStar = true → (backTo pos (starEach es env)).any (·.1) = false
  | [], _ => rfl
  | e :: es, h => by
    simp only [List.all_cons, Bool.and_eq_true] at h
    rw [star1 h.1]
    have := starN (pos := pos) (env := env) h.2
    unfold backTo at this ⊢
    simpa using this
theorem asgN {env : Env} : ∀ {es : List Expr}, es.all notStar = true → (assignEach es env).findIdx? (·.1) = none ∧ (assignEach es env).length = es.length
  | [], _ => ⟨rfl, rfl⟩
  | e :: es, h => by
    simp only [List.all_cons, Bool.and_eq_true] at h
    rw [asg1 h.1]
    obtain ⟨h1, h2⟩ := asgN (env := env) h.2
    refine ⟨?_, by simp [h2]⟩
    rw [List.findIdx?_cons]
    simp [h1]
theorem isTrue1 {e : Expr} {env : Env} (h : notTest e = true) : ∀ whole, isTrue e env whole = (do let v ← whole; standAt e.pos; holding [v] (truthy v)) := by
  intro whole
  cases e <;> first | rfl | cases h
/-- a test: by itself, or by its value -/
theorem Good.test {c : C} (g : Good Δ n c) (K : Cok Δ n S Γ X XW G) {e : Expr} (h : (chk c S (.T e) || (chk c S (.E e) && notTest e && lcOk S.ks c)) = true) : PT X e (rdT Γ XW G c) := by
  rcases (Bool.or_eq_true _ _).mp h with h | h
  · exact g S Γ X XW G K (.T e) h
  · simp only [Bool.and_eq_true] at h
    exact T_val (fq := Δ.fq) (by rw [K.Γks]; exact h.2) (pt_truth (g S Γ X XW G K (.E e) h.1.1) (isTrue1 h.1.2))
theorem ba2 {a b : Bool} (h : (a && b) = true) : a = true ∧ b = true := by simpa using h
end
section
variable {Δ : Ctx} {n : Nat}
theorem good_var (i : Nat) : Good Δ n (.var i) := by
  intro S Γ X XW G K m h
  simp only [chk] at h
  split at h
  · exact E_var (K.gks.trans K.Γks.symm) (K.name h)
  · obtain ⟨h1, h2, _⟩ := K.store (pos := _) h
    exact G_var h2 h1
  · cases h
theorem good_loc (i : Nat) : Good Δ n (.loc i) := by
  intro S Γ X XW G K m h
  simp only [chk] at h
  split at h
  · exact E_loc (K.gks.trans K.Γks.symm) (K.name h)
  · cases h
theorem good_scr (i : Nat) : Good Δ n (.scr i) := by
  intro S Γ X XW G K m h
  simp only [chk] at h
  split at h
  · exact E_scr (K.gks.trans K.Γks.symm) (K.name h)
  · cases h
theorem good_cst (d : PB.D) : Good Δ n (.cst d) := by
  intro S Γ X XW G K m h
  simp only [chk] at h
  split at h
  · cases of_decide_eq_true h; exact E_cst rfl pe_int
  · cases of_decide_eq_true h; exact E_cst rfl pe_bl
  · cases of_decide_eq_true h; exact E_cst rfl pe_str
  · exact E_cst rfl pe_non
  · cases h
theorem ev_cons_len {G : Gx} : ∀ {a : C} {e e' : En} {l : List PB.D}, ev a G e = some (.ok (.lst l) e') → isTgs a = true → l.length = consN a := by
  intro a
  induction a with
  | nil => intro e e' l h _; simp only [ev] at h; cases h; rfl
  | cons x y ihx ihy =>
    intro e e' l h ht
    simp only [ev] at h
    unfold bnd at h
    split at h
    · cases h
    · rename_i d1 e1 q1
      try dsimp only at h
      split at h
      · cases h
      · rename_i d2 e2 q2
        try dsimp only at h
        split at h
        · cases h
          simp only [List.length_cons, consN]
          rw [ihy q2 ht]
        · cases h
      · cases h
    · cases h
  | _ => intro e e' l h ht; cases ht
theorem chk_tgs : ∀ {a : C} {S : Sx} {es : List Expr}, chk a S (.A es) = true → isTgs a = true := by
  intro a
  induction a with
  | nil => intro S es h; rfl
  | cons x y ihx ihy =>
    intro S es h
    simp only [chk] at h
    split at h
    · rename_i q; cases q
      exact ihy (ba2 (ba2 h).1).2
    · rename_i q; cases q
    · rename_i q; cases q
    · cases h
  | var i => intro S es h; simp [chk] at h
  | loc i => intro S es h; simp [chk] at h
  | lc2 => intro S es h; simp [chk, lc2M] at h
  | lamcall => intro S es h; simp [chk, lamM] at h
  | scr i => intro S es h; simp [chk] at h
  | cst d => intro S es h; simp [chk] at h
  | _ => intro S es h; simp [chk] at h
theorem lnOk {G : Gx} {a : C} (h1 : isTgs a = true) (h2 : consN a ≤ 1000) : ∀ l e e', ev a G e = some (.ok (.lst l) e') → l.length ≤ sizeLine := fun l e e' q => by
  rw [ev_cons_len q h1]
  have := sizeLine_eq
  omega
theorem good_tup {a : C} (ga : Good Δ n a) : Good Δ n (.tup a) := by
  intro S Γ X XW G K m h
  simp only [chk] at h
  split at h
  · obtain ⟨h1, h2⟩ := ba2 h
    exact E_tup (es := []) (lnOk (chk_tgs h1) (of_decide_eq_true h2)) (pe_tup (ga S Γ X XW G K _ h1))
  · obtain ⟨h, h5⟩ := ba2 h
    obtain ⟨h, h4⟩ := ba2 h
    obtain ⟨h, h3⟩ := ba2 h
    obtain ⟨h1, h2⟩ := ba2 h
    obtain ⟨q1, q2⟩ := asgN (env := X.env) h4
    exact G_tup (fun l e e' q => asgT_len h2 q) (pg_tup (K.calm h3) (ga S Γ X XW G K _ h1) (q2.trans (of_decide_eq_true h5)) q1)
  · cases h
theorem good_lst {a : C} (ga : Good Δ n a) : Good Δ n (.lst a) := by
  intro S Γ X XW G K m h
  simp only [chk] at h
  split at h
  · obtain ⟨h1, h2⟩ := ba2 h
    exact E_lst (es := []) (lnOk (chk_tgs h1) (of_decide_eq_true h2)) (pe_lst (ga S Γ X XW G K _ h1))
  · cases h
theorem good_disp {ks : List Str} {a : C} (ga : Good Δ n a) : Good Δ n (.disp ks a) := by
  intro S Γ X XW G K m h
  simp only [chk] at h
  split at h
  · obtain ⟨h, h10⟩ := ba2 h
    obtain ⟨h, h9⟩ := ba2 h
    obtain ⟨h, h8⟩ := ba2 h
    obtain ⟨h, h7⟩ := ba2 h
    obtain ⟨h, h6⟩ := ba2 h
    obtain ⟨h, h5⟩ := ba2 h
    obtain ⟨h, h4⟩ := ba2 h
    obtain ⟨h, h3⟩ := ba2 h
    obtain ⟨h1, h2⟩ := ba2 h
    have e8 := of_decide_eq_true h8
    have e9 := of_decide_eq_true h9
    have e5 := of_decide_eq_true h5
    refine E_disp (of_decide_eq_true h10) h2 h3 (of_decide_eq_true h4) e5 (pe_disp (ga S Γ X XW G K _ h1 _) h7 (by rw [e8, e9]) (fun z => ?_) (by rw [e8]; exact e5))
    rw [z] at e8
    cases ks with
    | nil => cases h6
    | cons => cases e8
  · cases h
theorem good_dnew (t : Bool) : Good Δ n (.dnew t) := by
  intro S Γ X XW G K m h
  simp only [chk] at h
  split at h
  · cases t
    · exact E_dnewK pe_dnewK
    · exact E_dnewT pe_dnewT
  · cases h
theorem good_neg {a : C} (ga : Good Δ n a) : Good Δ n (.neg a) := by
  intro S Γ X XW G K m h
  simp only [chk] at h
  split at h
  · obtain ⟨h1, h2⟩ := ba2 h
    exact E_neg (by simpa using h2) (pe_un un_neg (ga S Γ X XW G K _ h1))
  · cases h
theorem good_not {a : C} (ga : Good Δ n a) : Good Δ n (.not a) := by
  intro S Γ X XW G K m h
  simp only [chk] at h
  split at h
  · obtain ⟨h1, h2⟩ := ba2 h
    exact E_not (by rw [K.Γks]; exact h2) (pe_notT (ga S Γ X XW G K _ h1))
  · exact T_not (pt_not (ga.test K h))
  · cases h
theorem good_and {a b : C} (ga : Good Δ n a) (gb : Good Δ n b) : Good Δ n (.and a b) := by
  intro S Γ X XW G K m h
  have V : ∀ {ea eb : Expr} {es : List Expr} {pos : Pos}, (chk a S (.E ea) && (match es with | [] => chk b S (.E eb) | e :: r => chk b S (.V .And (eb :: e :: r)))) = true → PE X (.BoolOp .And (ea :: eb :: es) pos) (rdE Γ Δ.fq XW G (.and a b)) := fun {ea eb es pos} h => by
    obtain ⟨h1, h2⟩ := ba2 h
    refine E_and (pe_andT (ga S Γ X XW G K _ h1) ?_)
    cases es with
    | nil => exact pe_one (gb S Γ X XW G K _ h2)
    | cons e r => exact gb S Γ X XW G K _ h2 pos
  have W : ∀ {ea eb : Expr} {es : List Expr} {pos : Pos}, ((chk a S (.T ea) || (chk a S (.E ea) && notTest ea && lcOk S.ks a)) && (match es with | [] => chk b S (.T eb) || (chk b S (.E eb) && notTest eb && lcOk S.ks b) | e :: r => chk b S (.W .And (eb :: e :: r)))) = true →
      PW X (.BoolOp .And (ea :: eb :: es) pos) (rdT Γ XW G (.and a b)) := fun {ea eb es pos} h => by
    obtain ⟨h1, h2⟩ := ba2 h
    refine T_and (pw_and (ga.test K h1) ?_)
    cases es with
    | nil => exact pw_and1 (gb.test K h2)
    | cons e r => exact gb S Γ X XW G K _ h2 pos
  simp only [chk] at h
  split at h
  · exact V h
  · exact fun pos => V h
  · exact (W h).pt
  · exact fun pos => W h
  · cases h
theorem good_or {a b : C} (ga : Good Δ n a) (gb : Good Δ n b) : Good Δ n (.or a b) := by
  intro S Γ X XW G K m h
  have V : ∀ {ea eb : Expr} {es : List Expr} {pos : Pos}, (chk a S (.E ea) && (match es with | [] => chk b S (.E eb) | e :: r => chk b S (.V .Or (eb :: e :: r)))) = true → PE X (.BoolOp .Or (ea :: eb :: es) pos) (rdE Γ Δ.fq XW G (.or a b)) := fun {ea eb es pos} h => by
    obtain ⟨h1, h2⟩ := ba2 h
    refine E_or (pe_orT (ga S Γ X XW G K _ h1) ?_)
    cases es with
    | nil => exact pe_one (gb S Γ X XW G K _ h2)
    | cons e r => exact gb S Γ X XW G K _ h2 pos
  have W : ∀ {ea eb : Expr} {es : List Expr} {pos : Pos}, ((chk a S (.T ea) || (chk a S (.E ea) && notTest ea && lcOk S.ks a)) && (match es with | [] => chk b S (.T eb) || (chk b S (.E eb) && notTest eb && lcOk S.ks b) | e :: r => chk b S (.W .Or (eb :: e :: r)))) = true →
      PW X (.BoolOp .Or (ea :: eb :: es) pos) (rdT Γ XW G (.or a b)) := fun {ea eb es pos} h => by
    obtain ⟨h1, h2⟩ := ba2 h
    refine T_or (pw_or (ga.test K h1) ?_)
    cases es with
    | nil => exact pw_or1 (gb.test K h2)
    | cons e r => exact gb S Γ X XW G K _ h2 pos
  simp only [chk] at h
  split at h
  · exact V h
  · exact fun pos => V h
  · exact (W h).pt
  · exact fun pos => W h
  · cases h
theorem good_ite {c a b : C} (gc : Good Δ n c) (ga : Good Δ n a) (gb : Good Δ n b) : Good Δ n (.ite c a b) := by
  intro S Γ X XW G K m h
  simp only [chk] at h
  split at h
  · obtain ⟨h, h3⟩ := ba2 h
    obtain ⟨h1, h2⟩ := ba2 h
    exact E_ite (pe_ifExp (gc.test K h1) (ga S Γ X XW G K _ h2) (gb S Γ X XW G K _ h3))
  · cases h
theorem good_idx {a b : C} (ga : Good Δ n a) (gb : Good Δ n b) : Good Δ n (.idx a b) := by
  intro S Γ X XW G K m h
  simp only [chk] at h
  split at h
  · rename_i ea eb pos
    obtain ⟨h, h4⟩ := ba2 h
    obtain ⟨h, h3⟩ := ba2 h
    obtain ⟨h1, h2⟩ := ba2 h
    have hp : PlainIx eb := fun o i => by
      cases eb <;> first | rfl | cases h4
    have := K.hu
    exact E_idx (by rw [K.Γks]; exact h3) (pe_ix (ix_plain (by omega)) (ga S Γ X XW G K _ h1) (gb S Γ X XW G K _ h2) hp)
  · cases h
theorem opR_of {o : O2} {o' : Operator} {X : Cx} (h : opE o o' = true) : OpR X (binaryOp o') (rO o) := by
  cases o <;> cases o' <;> first | cases h | skip
  · exact o_add
  · exact o_sub
  · exact o_mul
  · exact o_fdiv
  · exact o_mod
  · exact o_pow
  · exact o_shl
  · exact o_shr
  · exact o_band
  · exact o_bor
  · exact o_bxor
theorem cmR_of {o : O2} {o' : CmpOp} {X : Cx} (hu : X.A.units + 100 < cLine) (h : opC o o' = true) : OpR X (compareOp o') (rO o) := by
  cases o <;> cases o' <;> first | cases h | skip
  · exact o_lt
  · exact o_le
  · exact o_gt
  · exact o_ge
  · exact o_eq (by omega)
  · exact o_ne (by omega)
  · exact o_in (by omega)
  · exact o_notIn (by omega)
  · exact o_is
  · exact o_isNot
theorem cmp_bl {o : O2} {o' : CmpOp} {x y z : PB.D} (h : opC o o' = true) (q : op2 o x y = some z) : ∃ b, z = .bl b := by
  cases o <;> cases o' <;> first | cases h | skip
  all_goals (cases x <;> cases y <;> simp only [op2] at q <;> first | cases q | skip)
  all_goals first | exact ⟨_, rfl⟩ | (split at q <;> first | (cases q; exact ⟨_, rfl⟩) | cases q)
end
section
variable {X : Cx} {Γ : Gm} {fq : Nat → Bool} {XW : WX} {G : Gx} {a b : C} {ex : Expr}
theorem T_cmp {o : O2} (hb : ∀ x y z, op2 o x y = some z → ∃ k, z = .bl k) (la : lcOk Γ.ks a = true) (lb : lcOk Γ.ks b = true) (h : PT X ex (tTest (tOp (rO o) (rdE Γ fq XW G a) (rdE Γ fq XW G b)))) : PT X ex (rdT Γ XW G (.op o a b)) := PTimp h fun σ H Q q => by
  obtain ⟨F, e, E, w⟩ := q
  simp only [ev] at w
  refine rd_step E (Wt_bnd w) fun d1 e1 v H1 w1 k1 E1 r1 => ?_
  refine rd_step E1 ((Wt_bnd w1).imp (fun _ _ q => q) fun x e' q => XF.mono q k1) fun d2 e2 v2 H2 w2 k2 E2 r2 => ?_
  obtain ⟨x, f1, w2⟩ := Wt_bind w2
  obtain ⟨y, f2, w2⟩ := Wt_bind w2
  cases q : op2 o x y with
  | none => rw [q] at w2; exact w2.elim
  | some z =>
    rw [q] at w2
    obtain ⟨k, rfl⟩ := hb x y z q
    refine ⟨zt Γ F σ, x, y, .bl k, true, E2.ztH, (r1.1.mono k2).fin E2 la f1, r2.1.fin E2 lb f2, q, res_of E2 fun v H' kk E' r fr => ?_⟩
    obtain ⟨t, ht, w3⟩ := w2
    cases ht
    exact ⟨k, r, w3 H' ((k1.trans k2).trans kk) E'⟩
end
section
variable {Δ : Ctx} {n : Nat}
theorem good_op {o : O2} {a b : C} (ga : Good Δ n a) (gb : Good Δ n b) : Good Δ n (.op o a b) := by
  intro S Γ X XW G K m h
  simp only [chk] at h
  split at h
  · obtain ⟨h, h5⟩ := ba2 h
    obtain ⟨h, h4⟩ := ba2 h
    obtain ⟨h, h3⟩ := ba2 h
    obtain ⟨h1, h2⟩ := ba2 h
    exact E_op (f := fun _ _ => pure .none) (by rw [K.Γks]; exact h4) (by rw [K.Γks]; exact h5) (pe_op (opR_of h1) (ga S Γ X XW G K _ h2) (gb S Γ X XW G K _ h3))
  · obtain ⟨h, h6⟩ := ba2 h
    obtain ⟨h, h5⟩ := ba2 h
    obtain ⟨h, h4⟩ := ba2 h
    obtain ⟨h, h3⟩ := ba2 h
    obtain ⟨h1, h2⟩ := ba2 h
    exact E_op (f := fun _ _ => pure .none) (by rw [K.Γks]; exact h4) (by rw [K.Γks]; exact h5) (pe_cmpR (cmR_of K.hu h1) (ga S Γ X XW G K _ h2) (gb S Γ X XW G K _ h3) (by simpa using h6))
  · obtain ⟨h, h6⟩ := ba2 h
    obtain ⟨h, h5⟩ := ba2 h
    obtain ⟨h, h4⟩ := ba2 h
    obtain ⟨h, h3⟩ := ba2 h
    obtain ⟨h1, h2⟩ := ba2 h
    exact T_cmp (fq := Δ.fq) (fun x y z q => cmp_bl h1 q) (by rw [K.Γks]; exact h4) (by rw [K.Γks]; exact h5) (pt_cmpR (cmR_of K.hu h1) (ga S Γ X XW G K _ h2) (gb S Γ X XW G K _ h3) (by simpa using h6))
  · cases h
theorem good_slc {a lo hi : C} (ga : Good Δ n a) (gl : Good Δ n lo) (gh : Good Δ n hi) : Good Δ n (.slc a lo hi) := by
  intro S Γ X XW G K m h
  have part : ∀ {c : C} (gc : Good Δ n c) {o : Option Expr}, (match o with | none => isNoPart c | some e => chk c S (.E e) && !isLoc c) = true → PO X o (rdP Γ XW G c) := fun {c} gc {o} h => by
    cases o with
    | none =>
      cases c <;> first | exact PO_none | cases h
    | some e =>
      obtain ⟨h1, h2⟩ := ba2 h
      exact PO_some (fq := Δ.fq) (fun z => by subst z; simp [chk] at h1) (by simpa using h2) (gc S Γ X XW G K _ h1)
  simp only [chk] at h
  split at h
  · obtain ⟨h, h4⟩ := ba2 h
    obtain ⟨h, h3⟩ := ba2 h
    obtain ⟨h1, h2⟩ := ba2 h
    exact E_slc (by rw [K.Γks]; exact h2) (pe_slice sl_plain (ga S Γ X XW G K _ h1) (part gl h3) (part gh h4))
  · cases h
theorem good_nil : Good Δ n .nil := by
  intro S Γ X XW G K m h
  simp only [chk] at h
  split at h
  · exact A_nil pa_nil
  · exact Gs_nil pgs_nil
  · exact fun pos => pps_nil
  · cases h
theorem good_cons {a b : C} (ga : Good Δ n a) (gb : Good Δ n b) : Good Δ n (.cons a b) := by
  intro S Γ X XW G K m h
  simp only [chk] at h
  split at h
  · obtain ⟨h, h3⟩ := ba2 h
    obtain ⟨h1, h2⟩ := ba2 h
    exact A_cons (fq := Δ.fq) (pa_cons (ga S Γ X XW G K _ h1) (gb S Γ X XW G K _ h2) (star1 h3))
  · obtain ⟨h, h3⟩ := ba2 h
    obtain ⟨h1, h2⟩ := ba2 h
    exact Gs_cons (pgs_cons (ga S Γ X XW G K _ h1) (gb S Γ X XW G K _ h2) (by rw [asg1 h3] <;> rfl))
  · obtain ⟨h, h3⟩ := ba2 h
    obtain ⟨h1, h2⟩ := ba2 h
    refine fun pos => ?_
    unfold keyE at h1
    split at h1
    · cases of_decide_eq_true h1
      exact pps_cons pe_str (ga S Γ X XW G K _ h2) (gb S Γ X XW G K _ h3 pos)
    · cases h1
  · cases h
theorem good_call {f : Nat} {a : C} (ga : Good Δ n a) : Good Δ n (.call f a) := by
  intro S Γ X XW G K m h
  simp only [chk] at h
  split at h
  · rename_i x p es pos
    obtain ⟨h, h8⟩ := ba2 h
    obtain ⟨h, h7⟩ := ba2 h
    obtain ⟨h, h6⟩ := ba2 h
    obtain ⟨h, h5⟩ := ba2 h
    obtain ⟨h, h4⟩ := ba2 h
    obtain ⟨h, h3⟩ := ba2 h
    obtain ⟨h1, h2⟩ := ba2 h
    obtain ⟨ad, fd, ps, k1, k2, k3, k4⟩ := K.fns x f (of_decide_eq_true h1)
    have pa := ga S Γ X XW G K _ h6
    have gd : S.gdf f = true → X.A.guards = some [] := fun z => by
      rw [z] at h4
      exact K.gd (by simpa using h4)
    refine E_call K.ΓT K.ΓK K.ΓC (K.gks.trans K.Γks.symm) K.gcf (by rw [K.ginf]) (by rw [K.Δkk]; exact h5) ?_
    cases es with
    | nil =>
      have e0 : PE X (.Call (.Name x p) [] [] pos) (tCallG (spI Δ n f) XW tNil) := pe_callG0 k4 gd ((K.room h3).mono (by omega)) (K.gl h2) k1 k2 k3 K.tk (by simpa using h8)
      exact PEimp e0 fun σ H Q q => by
        have at' : isTgs a = true := chk_tgs h6
        cases a with
        | nil =>
          obtain ⟨F, e, E, w⟩ := q
          simp only [ev] at w
          obtain ⟨l, h1, h2⟩ := w
          cases h1
          exact h2 [] H Sp.refl E rfl
        | cons a b => simp [chk] at h6
        | _ => cases at'
    | cons e es =>
      simp only [List.all_cons, Bool.and_eq_true] at h7
      exact pe_callG k4 gd ((K.room h3).mono (by omega)) (K.gl h2) k1 k2 k3 K.tk pa (by simpa using h8) (star1 h7.1) (starN h7.2)
  · cases h
open RZ (ItzT iZipA pi_zipA) in
theorem good_bltI {f : Bi} {a : C} {S : Sx} {Γ : Gm} {X : Cx} {XW : WX} {G : Gx} (K : Cok Δ n S Γ X XW G) {tg : Expr} {x : Str} {p pos : Pos} {es : List Expr} (pa : PA X es (rdA Γ XW G a)) (hb : bltB S x = true) (h3 : es.all notStar = true) (h4 : lcsOk S.ks a = true) (h5 : lenG a = es.length)
    (h : (match f with
        | .range => decide (x = "range") && (decide (es.length = 1) || decide (es.length = 2) || decide (es.length = 3))
        | .enum => decide (x = "enumerate") && isTupT tg && noLocs a && decide (es.length = 1)
        | .zip => decide (x = "zip") && isTupT tg && noLocs a && decide (es.length = 2)
        | _ => false) = true) : PI X tg (.Call (.Name x p) es [] pos) (rdI Γ XW G (.blt f a)) := by
  obtain ⟨g1, g2⟩ := K.blt hb
  have hl : lcsOk Γ.ks a = true := by rw [K.Γks]; exact h4
  cases f <;> first | (cases h; done) | skip
  · obtain ⟨h1, h2⟩ := ba2 h
    cases of_decide_eq_true h1
    rcases (Bool.or_eq_true _ _).mp h2 with h2 | h2
    case inr =>
      obtain ⟨e, e2, e3, rfl⟩ := len3 (of_decide_eq_true h2)
      simp only [List.all_cons, Bool.and_eq_true] at h3
      exact I_range3 hl h5 (pi_range3 g1 g2 pa (star1 h3.1) (starN (es := [e2, e3]) (by simp [h3.2.1, h3.2.2.1])))
    rcases (Bool.or_eq_true _ _).mp h2 with h2 | h2
    · obtain ⟨e, rfl⟩ := len1 (of_decide_eq_true h2)
      simp only [List.all_cons, Bool.and_eq_true] at h3
      exact I_range1 hl h5 (pi_range1 g1 g2 pa (by rw [star1 h3.1] <;> rfl))
    · obtain ⟨e, e2, rfl⟩ := len2 (of_decide_eq_true h2)
      simp only [List.all_cons, Bool.and_eq_true] at h3
      exact I_range2 hl h5 (pi_range2 g1 g2 pa (by rw [star1 h3.1, star1 h3.2.1] <;> rfl) (by rw [star1 h3.2.1] <;> rfl))
  · obtain ⟨h, h4⟩ := ba2 h
    obtain ⟨h, h3'⟩ := ba2 h
    obtain ⟨h1, h2⟩ := ba2 h
    cases of_decide_eq_true h1
    obtain ⟨e, rfl⟩ := len1 (of_decide_eq_true h4)
    simp only [List.all_cons, Bool.and_eq_true] at h3
    cases tg <;> first | (cases h2; done) | skip
    exact I_enum h3' h5 (pi_enumS g1 g2 pa (star1 h3.1))
  · obtain ⟨h, h4⟩ := ba2 h
    obtain ⟨h, h3'⟩ := ba2 h
    obtain ⟨h1, h2⟩ := ba2 h
    cases of_decide_eq_true h1
    obtain ⟨e, e2, rfl⟩ := len2 (of_decide_eq_true h4)
    simp only [List.all_cons, Bool.and_eq_true] at h3
    cases tg <;> first | (cases h2; done) | skip
    exact I_zip h3' h5 (pi_zipA g1 g2 pa (star1 h3.1) (by rw [star1 h3.2.1] <;> rfl))
theorem good_blt {f : Bi} {a : C} (ga : Good Δ n a) : Good Δ n (.blt f a) := by
  intro S Γ X XW G K m h
  simp only [chk] at h
  split at h
  · rename_i x p e es pos
    obtain ⟨h, h7⟩ := ba2 h
    obtain ⟨h, h6⟩ := ba2 h
    obtain ⟨h, h5⟩ := ba2 h
    obtain ⟨h, h4⟩ := ba2 h
    obtain ⟨h, h3⟩ := ba2 h
    obtain ⟨h1, h2⟩ := ba2 h
    have pa := ga S Γ X XW G K _ h5
    obtain ⟨g1, g2⟩ := K.blt h2
    simp only [List.all_cons, Bool.and_eq_true] at h7
    have h1 := of_decide_eq_true h1
    have hc := K.calm h3
    refine E_blt (by rw [K.Γks]; exact h6) ?_
    cases f <;> simp only [bltName] at h1 <;> first | (cases h1; done) | skip
    all_goals (cases h1)
    · exact pe_callB b_len g1 g2 boot_len pa (by decide) (by decide) (star1 h7.1) (starN h7.2)
    · exact pe_callB (b_sum hc) g1 g2 boot_sum pa (by decide) (by decide) (star1 h7.1) (starN h7.2)
    · exact pe_callB (b_any hc) g1 g2 boot_any pa (by decide) (by decide) (star1 h7.1) (starN h7.2)
    · exact pe_callB (b_all hc) g1 g2 boot_all pa (by decide) (by decide) (star1 h7.1) (starN h7.2)
    · have := K.hu
      exact pe_callB (b_sorted (by omega)) g1 g2 boot_sorted pa (by decide) (by decide) (star1 h7.1) (starN h7.2)
    · exact pe_callTy b_tuple g1 g2 boot_tuple pa (by decide) (by decide) (star1 h7.1) (starN h7.2)
    · exact pe_callTy b_list g1 g2 boot_list pa (by decide) (by decide) (star1 h7.1) (starN h7.2)
    · exact pe_callTy b_int g1 g2 boot_int pa (by decide) (by decide) (star1 h7.1) (starN h7.2)
    · have := K.hu
      exact pe_callB (b_max hc (by omega)) g1 g2 boot_max pa (by decide) (by decide) (star1 h7.1) (starN h7.2)
    · have := K.hu
      exact pe_callB (b_min hc (by omega)) g1 g2 boot_min pa (by decide) (by decide) (star1 h7.1) (starN h7.2)
    · have hg := K.gd (by simpa using h4)
      have := K.hu
      exact pe_callB (b_repr hg (by omega)) g1 g2 boot_repr pa (by decide) (by decide) (star1 h7.1) (starN h7.2)
    · have := K.hu
      exact pe_callTy (b_dict hc (by omega)) g1 g2 boot_dict pa (by decide) (by decide) (star1 h7.1) (starN h7.2)
    · exact pe_callB b_abs g1 g2 boot_abs pa (by decide) (by decide) (star1 h7.1) (starN h7.2)
  · obtain ⟨h, h6⟩ := ba2 h
    obtain ⟨h, h5⟩ := ba2 h
    obtain ⟨h, h4⟩ := ba2 h
    obtain ⟨h, h3⟩ := ba2 h
    obtain ⟨h1, h2⟩ := ba2 h
    exact good_bltI K (ga S Γ X XW G K _ h2) h1 h3 h4 (of_decide_eq_true h5) h6
  · cases h
theorem good_raise {cls : Nat} {a : C} (ga : Good Δ n a) : Good Δ n (.raise cls a) := by
  intro S Γ X XW G K m h
  simp only [chk] at h
  split at h
  · rename_i x p e es pos pos2
    obtain ⟨h, h7⟩ := ba2 h
    obtain ⟨h, h6⟩ := ba2 h
    obtain ⟨h, h5⟩ := ba2 h
    obtain ⟨h, h4⟩ := ba2 h
    obtain ⟨h, htop⟩ := ba2 h
    obtain ⟨h, h3⟩ := ba2 h
    obtain ⟨h1, h2⟩ := ba2 h
    obtain ⟨cA, fI, fd, ps, k1, k2, k3, k4, k5, k6, k7⟩ := K.cls x cls (of_decide_eq_true h1)
    have pa := ga S Γ X XW G K _ h4
    simp only [List.all_cons, Bool.and_eq_true] at h5
    have tg := chk_tgs h4
    refine fun _ => S_raise (congrFun K.gxin cls) (by rw [K.ΓC]; exact k1) (fun l e e' q => by rw [ev_cons_len q tg]; have := of_decide_eq_true h7; omega) (ps_raise (K.calm h3) K.tk (pmk_oex k3 k4 k5 k6 ((K.roomT htop h3).mono (by omega)) k7 .nil (fun _ _ _ _ _ _ _ z => z.elim) (K.gl h2) k2 pa (by simpa using h6) (star1 h5.1) (starN h5.2)))
  · cases h
theorem good_isi {f : Bi} {a : C} (ga : Good Δ n a) : Good Δ n (.isi f a) := by
  intro S Γ X XW G K m h
  simp only [chk] at h
  split at h
  · rename_i x p e t pt pos
    obtain ⟨h, h7⟩ := ba2 h
    obtain ⟨h, h6⟩ := ba2 h
    obtain ⟨h, h5⟩ := ba2 h
    obtain ⟨h, h4⟩ := ba2 h
    obtain ⟨h, h3⟩ := ba2 h
    obtain ⟨h1, h2⟩ := ba2 h
    cases of_decide_eq_true h1
    obtain ⟨g1, g2⟩ := K.blt h3
    obtain ⟨g3, g4⟩ := K.blt h4
    obtain ⟨T, hT, rfl⟩ := Option.map_eq_some_iff.mp (of_decide_eq_true h2)
    have hb : bootBuiltins (Str.ofString T) = some (.type T) ∧ (Str.ofString T : Str) ≠ "__name__" ∧ ((Str.ofString T) == ("__debug__" : Str)) = false := by
      cases f <;> simp only [isiTy] at hT <;> first | (cases hT; done) | skip
      all_goals (cases hT; refine ⟨by decide +kernel, by decide +kernel, by decide +kernel⟩)
    have tT : PE X (.Name (Str.ofString T) pt) (tC (.ty T)) := pe_bltn g3 g4 hb.1 rfl hb.2.1 hb.2.2
    exact E_isi hT (by rw [K.Γks]; exact h5) (pe_callB call_isi g1 g2 boot_isinstance (pa_cons (ga S Γ X XW G K _ h6) (pa_cons tT pa_nil rfl) (star1 h7)) (by decide) (by decide) (star1 h7) rfl)
  · cases h
theorem good_lrng {t : Bool} {a : C} (ga : Good Δ n a) : Good Δ n (.lrng t a) := by
  intro S Γ X XW G K m h
  simp only [chk] at h
  split at h
  · rename_i f pf x px es p1 p2
    obtain ⟨h, h8⟩ := ba2 h
    obtain ⟨h, h7⟩ := ba2 h
    obtain ⟨h, h6⟩ := ba2 h
    obtain ⟨h, h5⟩ := ba2 h
    obtain ⟨h, h4⟩ := ba2 h
    obtain ⟨h, h3⟩ := ba2 h
    obtain ⟨h1, h2⟩ := ba2 h
    obtain ⟨g1, g2⟩ := K.blt h2
    obtain ⟨g3, g4⟩ := K.blt h4
    have pa := ga S Γ X XW G K _ h6
    have h1 := of_decide_eq_true h1
    cases of_decide_eq_true h3
    cases es with
    | nil =>
      cases h8
    | cons e es =>
      simp only [List.all_cons, Bool.and_eq_true] at h7
      have R := R_A (prg_A (p := px) (pos := p1) g3 g4 pa (star1 h7.1) (starN h7.2))
      cases t with
      | false => cases h1; exact E_lrngL (pe_listRg (K.calm h5) g1 g2 R rfl)
      | true => cases h1; exact E_lrngT (pe_tupRg (K.calm h5) g1 g2 R rfl)
  · cases h
end
end PB
set_option maxHeartbeats 4000000
/-! It: what the check says: comprehensions, walks, statements. -/
namespace PB
open PySem PySem.Spec PyProof.Rows L2
open RZ (ItzT iZipA pi_zipA)
theorem takes_noX {X : Cx} : Takes X noX := fun _ _ ⟨_, _, _, _, _, _, _, _, _, _, _, _, _, _, _, _, w⟩ => w.elim
section
variable {Δ : Ctx} {n : Nat} {S : Sx} {Γ : Gm} {X : Cx} {XW : WX} {G : Gx}
theorem Cok.blk (K : Cok Δ n S Γ X XW G) (s : Shared) (H : Hp) (scope : Scope) (cl : List (Str × Addr)) (ad : Addr) (fp : List Addr) : Cok Δ n (blkS S scope) Γ (X.blk s H scope (compEnvC scope cl ad X.env) fp) noX G where
  hN := K.hN
  nd := K.nd
  sc := by
    show relS scope X.env.scope = relS scope S.sc
    rw [K.sc]
  fn := fun x z => z
  calm := K.calm
  gd := K.gd
  hu := K.hu
  room := K.room
  roomT := fun z => by cases z
  cls := K.cls
  gxin := K.gxin
  clsK := K.clsK
  csub := K.csub
  mets := fun x f z => by cases z
  lamT := fun z => by cases z
  fns := K.fns
  glb := K.glb
  gks := K.gks
  Γks := K.Γks
  Γnp := K.Γnp
  ΓT := K.ΓT
  ΓK := K.ΓK
  ΔK := K.ΔK
  ΓC := K.ΓC
  gcf := K.gcf
  ginf := K.ginf
  Δkk := K.Δkk
  Δfq := K.Δfq
  xo := K.xo
  lam := K.lam
  tk := takes_noX
theorem ownOf_snd (S : Sx) (vs : List Nat) : (ownOf S vs).map (·.2) = vs := by
  unfold ownOf
  rw [List.map_map]
  exact List.map_id' vs
structure LcH (Γ : Gm) (X : Cx) (S : Sx) (vs : List Nat) (tg : C) (scope : Scope) (it : Expr) : Prop where
  calm : X.calm = true
  ok : BlkOk X.N X.env.scope scope (ownOf S vs)
  hv : vsOk Γ vs
  ht : ∀ i ∈ slotsG tg, i ∈ vs
  fold : ∀ x, foldedSetIterable it X.env x = pure x
theorem notSet_ok {it : Expr} {env : Env} (h : notSet it = true) : ∀ x, foldedSetIterable it env x = pure x := fun x => by
  cases it <;> first | rfl | cases h
theorem Cok.head (K : Cok Δ n S Γ X XW G) {vs : List Nat} {tg : C} {scope : Scope} {it : Expr} (h : lcHead S vs tg scope it = true) : LcH Γ X S vs tg scope it := by
  unfold lcHead at h
  obtain ⟨h, h5⟩ := ba2 h
  obtain ⟨h, h4⟩ := ba2 h
  obtain ⟨h, h3⟩ := ba2 h
  obtain ⟨h1, h2⟩ := ba2 h
  refine ⟨K.calm h1, by rw [K.hN, K.sc]; exact blkOk_by h2, fun i hi => ?_, fun i hi => ?_, notSet_ok h5⟩
  · obtain ⟨q1, q2⟩ := ba2 (List.all_eq_true.mp h3 i hi)
    exact ⟨by rw [K.Γks]; exact of_decide_eq_true q1, K.fre q2⟩
  · exact List.contains_iff_mem.mp (List.all_eq_true.mp h4 i hi)
theorem Good.iter {c : C} (g : Good Δ n c) (K : Cok Δ n S Γ X XW G) {tg e : Expr} (h : (chk c S (.I tg e) || (chk c S (.E e) && seqOk S c)) = true) : PI X tg e (rdI Γ XW G c) := by
  rcases (Bool.or_eq_true _ _).mp h with h | h
  · exact g S Γ X XW G K _ h
  · obtain ⟨h1, h2⟩ := ba2 h
    refine I_seq (fq := Δ.fq) (K.ΓK.trans K.ΔK) ?_ (g S Γ X XW G K _ h1)
    unfold seqOk at h2
    rcases (Bool.or_eq_true _ _).mp h2 with h2 | h2
    · exact .inl (by rw [K.Γks]; exact h2)
    · cases c <;> first | exact .inr ⟨_, rfl⟩ | cases h2
theorem rdT_yes {σ : L2.St} {H : Hp} {Q : Bool → Hp → Prop} (q : rdT Γ XW G (.cst (.bl true)) σ H Q) : Q true H := by
  obtain ⟨F, e, E, w⟩ := q
  simp only [ev] at w
  obtain ⟨t, h1, h2⟩ := w
  cases h1
  exact h2 H Sp.refl E
theorem PTsimp {ifs : List Expr} {t t' : TT} (h : PTs X ifs t) (i : ∀ σ H Q, t' σ H Q → t σ H Q) : PTs X ifs t' := ⟨fun pins s σ H Q I q => h.run pins s σ H Q I (i σ H Q q)⟩
theorem isYes_eq : ∀ {c : C}, isYes c = true → c = .cst (.bl true)
  | .cst (.bl true), _ => rfl
theorem Good.ifs {c : C} (g : Good Δ n c) (K : Cok Δ n S Γ X XW G) {ifs : List Expr} (h : (match ifs with | [] => isYes c | [ce] => chk c S (.T ce) || (chk c S (.E ce) && notTest ce && lcOk S.ks c) | _ => false) = true) : PTs X ifs (rdT Γ XW G c) := by
  match ifs, h with
  | [], h =>
    have := isYes_eq h
    subst this
    exact PTsimp pts_nil fun σ H Q q => rdT_yes q
  | [ce], h => exact pts_one (g.test K h)
end
section
variable {Δ : Ctx} {n : Nat}
theorem good_lc {vs : List Nat} {tg it cond elt : C} (gt : Good Δ n tg) (gi : Good Δ n it) (gc : Good Δ n cond) (ge : Good Δ n elt) : Good Δ n (.lc vs tg it cond elt) := by
  intro S Γ X XW G K m h
  simp only [chk] at h
  split at h
  · rename_i ee te ie ifs ia scope pos
    obtain ⟨h, h6⟩ := ba2 h
    obtain ⟨h, h5⟩ := ba2 h
    obtain ⟨h, h4⟩ := ba2 h
    obtain ⟨h, h3⟩ := ba2 h
    obtain ⟨h1, h2⟩ := ba2 h
    cases of_decide_eq_true h2
    have L := K.head h1
    have P := pe_lc (pos := pos) L.calm K.nd (gi.iter K h3) L.ok (fun s H ad cl fp => gt _ Γ _ noX G (K.blk s H scope cl ad fp) _ h4) (fun s H ad cl fp => gc.ifs (K.blk s H scope cl ad fp) h5)
      (fun s H ad cl fp => ge _ Γ _ noX G (K.blk s H scope cl ad fp) _ h6) L.fold
    rw [ownOf_snd] at P
    exact E_lc (K.gks.trans K.Γks.symm) L.hv L.ht P
  · rename_i x px ee te ie ifs ia scope p
    obtain ⟨h, h6⟩ := ba2 h
    obtain ⟨h, h5⟩ := ba2 h
    obtain ⟨h, h4⟩ := ba2 h
    obtain ⟨h, h3⟩ := ba2 h
    obtain ⟨h, h2⟩ := ba2 h
    obtain ⟨h0, h1⟩ := ba2 h
    cases of_decide_eq_true h2
    have L := K.head h1
    intro i pos hN hl hf
    rcases (Bool.or_eq_true _ _).mp h0 with h0 | h0
    · unfold swapB at h0
      obtain ⟨h0, q3⟩ := ba2 h0
      obtain ⟨q1, q2⟩ := ba2 h0
      have q1' : X.env.scope.names.lookup x = some .local := by rw [K.sc]; exact of_decide_eq_true q1
      refine ⟨fun pins s σ H D I hw => ?_⟩
      have P := ps_setLc (spos := pos) (py := px) L.calm K.nd hN q1' (sw_true I.ok.kind q1' q2 (by simpa using q3)) (gi.iter K h3) L.ok (fun s H ad cl fp => gt _ Γ _ noX G (K.blk s H scope cl ad fp) _ h4) (fun s H ad cl fp => gc.ifs (K.blk s H scope cl ad fp) h5)
        (fun s H ad cl fp => ge _ Γ _ noX G (K.blk s H scope cl ad fp) _ h6) L.fold
      rw [ownOf_snd] at P
      exact P.run pins s σ H D I (lc_read (K.gks.trans K.Γks.symm) L.hv L.ht hw)
    · have q1' : X.env.scope.names.lookup x = some .cell := by rw [K.sc]; exact of_decide_eq_true h0
      have P := pe_lc (pos := p) L.calm K.nd (gi.iter K h3) L.ok (fun s H ad cl fp => gt _ Γ _ noX G (K.blk s H scope cl ad fp) _ h4) (fun s H ad cl fp => gc.ifs (K.blk s H scope cl ad fp) h5)
        (fun s H ad cl fp => ge _ Γ _ noX G (K.blk s H scope cl ad fp) _ h6) L.fold
      rw [ownOf_snd] at P
      refine ps_set K.nd hN hl (E_lc (K.gks.trans K.Γks.symm) L.hv L.ht P) ?_ hf
      have kx : X.env.kindOf x = some .cell := q1'
      unfold swapsWith
      simp only [kx]
      cases (X.env.blockKind == ScopeKind.function) <;> rfl
  · cases h
structure Lc2H (vs vs1 : List Nat) (tg1 : C) (it1 : Expr) : Prop where
  hv1 : ∀ i ∈ vs1, i ∈ vs
  ht1 : ∀ i ∈ slotsG tg1, i ∈ vs1
  fold : ∀ env x, foldedSetIterable it1 env x = pure x
theorem lc2H {vs vs1 : List Nat} {tg1 : C} {it1 : Expr} (h : (vs1.all (fun i => vs.contains i) && (slotsG tg1).all (fun i => vs1.contains i) && notSet it1) = true) : Lc2H vs vs1 tg1 it1 := by
  obtain ⟨h, h3⟩ := ba2 h
  obtain ⟨h1, h2⟩ := ba2 h
  exact ⟨fun i hi => List.contains_iff_mem.mp (List.all_eq_true.mp h1 i hi), fun i hi => List.contains_iff_mem.mp (List.all_eq_true.mp h2 i hi), fun env => notSet_ok h3⟩
theorem Good.ifo {Δ : Ctx} {n : Nat} {S : Sx} {Γ : Gm} {X : Cx} {XW : WX} {G : Gx} {c : C} (g : Good Δ n c) (K : Cok Δ n S Γ X XW G) {o : Option Expr} (h : (match o with | none => isYes c | some ce => chk c S (.T ce) || (chk c S (.E ce) && notTest ce && lcOk S.ks c)) = true) : PTs X o.toList (rdT Γ XW G c) := by
  cases o with
  | none => exact g.ifs K (ifs := []) h
  | some ce => exact g.ifs K (ifs := [ce]) h
theorem good_lc2 {vs vs1 : List Nat} {tg it cond tg1 it1 cond1 elt : C} (gt : Good Δ n tg) (gi : Good Δ n it) (gc : Good Δ n cond) (gt1 : Good Δ n tg1) (gi1 : Good Δ n it1) (gc1 : Good Δ n cond1) (ge : Good Δ n elt) : Good Δ n (.lc2 vs vs1 tg it cond tg1 it1 cond1 elt) := by
  intro S Γ X XW G K m h
  simp only [chk] at h
  split at h
  · rename_i w r hm
    obtain ⟨h, r5⟩ := ba2 h
    obtain ⟨h, r4⟩ := ba2 h
    obtain ⟨h, r3⟩ := ba2 h
    obtain ⟨h, r1⟩ := ba2 h
    obtain ⟨h, h6⟩ := ba2 h
    obtain ⟨h, h5⟩ := ba2 h
    obtain ⟨h, h4⟩ := ba2 h
    obtain ⟨h, h3⟩ := ba2 h
    obtain ⟨h0, h1⟩ := ba2 h
    have L := K.head h1
    have L1 := lc2H r1
    have P := fun pos => pe_lc2 (vs1 := vs1) (pos := pos) L.calm K.nd (gi.iter K h3) L.ok (by rw [ownOf_snd]; exact L1.hv1) (fun s H ad cl fp => gt _ Γ _ noX G (K.blk s H r.scope cl ad fp) _ h4) (fun s H ad cl fp => gc.ifo (K.blk s H r.scope cl ad fp) h5)
      (fun s H ad cl fp => gi1.iter (K.blk s H r.scope cl ad fp) r3) (fun s H ad cl fp => gt1 _ Γ _ noX G (K.blk s H r.scope cl ad fp) _ r4) (fun s H ad cl fp => gc1.ifo (K.blk s H r.scope cl ad fp) r5)
      (fun s H ad cl fp => ge _ Γ _ noX G (K.blk s H r.scope cl ad fp) _ h6) L.fold L1.fold
    rw [ownOf_snd] at P
    cases m with
    | E e =>
      obtain ⟨r', q1, q2⟩ := Option.map_eq_some_iff.mp hm
      cases q2
      rw [lc2E_eq q1]
      exact E_lc2 (K.gks.trans K.Γks.symm) L.hv L.ht L1.hv1 L1.ht1 (P _)
    | N x px e =>
      obtain ⟨r', q1, q2⟩ := Option.map_eq_some_iff.mp hm
      cases q2
      rw [lc2E_eq q1]
      intro i pos hN hl hf
      rcases (Bool.or_eq_true _ _).mp h0 with h0 | h0
      · unfold swapB at h0
        obtain ⟨h0, q3⟩ := ba2 h0
        obtain ⟨q1, q2⟩ := ba2 h0
        have q1' : X.env.scope.names.lookup x = some .local := by rw [K.sc]; exact of_decide_eq_true q1
        refine ⟨fun pins s σ H D I hw => ?_⟩
        have P := ps_setLc2 (vs1 := vs1) (spos := pos) (py := px) L.calm K.nd hN q1' (sw_true I.ok.kind q1' q2 (by simpa using q3)) (gi.iter K h3) L.ok (by rw [ownOf_snd]; exact L1.hv1) (fun s H ad cl fp => gt _ Γ _ noX G (K.blk s H r.scope cl ad fp) _ h4) (fun s H ad cl fp => gc.ifo (K.blk s H r.scope cl ad fp) h5)
          (fun s H ad cl fp => gi1.iter (K.blk s H r.scope cl ad fp) r3) (fun s H ad cl fp => gt1 _ Γ _ noX G (K.blk s H r.scope cl ad fp) _ r4) (fun s H ad cl fp => gc1.ifo (K.blk s H r.scope cl ad fp) r5)
          (fun s H ad cl fp => ge _ Γ _ noX G (K.blk s H r.scope cl ad fp) _ h6) L.fold L1.fold
        rw [ownOf_snd] at P
        exact P.run pins s σ H D I (lc2_read (K.gks.trans K.Γks.symm) L.hv L.ht L1.hv1 L1.ht1 hw)
      · have q1' : X.env.scope.names.lookup x = some .cell := by rw [K.sc]; exact of_decide_eq_true h0
        refine ps_set K.nd hN hl (E_lc2 (K.gks.trans K.Γks.symm) L.hv L.ht L1.hv1 L1.ht1 (P _)) ?_ hf
        have kx : X.env.kindOf x = some .cell := q1'
        unfold swapsWith
        simp only [kx]
        cases (X.env.blockKind == ScopeKind.function) <;> rfl
    | _ => cases hm
  · cases h
theorem good_popAt {i : Nat} {a : C} (ga : Good Δ n a) : Good Δ n (.popAt i a) := by
  intro S Γ X XW G K m h
  simp only [chk] at h
  split at h
  · obtain ⟨h, h6⟩ := ba2 h
    obtain ⟨h, h5⟩ := ba2 h
    obtain ⟨h, h4⟩ := ba2 h
    obtain ⟨h, h3⟩ := ba2 h
    obtain ⟨h1, h2⟩ := ba2 h
    cases of_decide_eq_true h1
    refine E_popAt (K.gks.trans K.Γks.symm) (by rw [K.Γks]; exact of_decide_eq_true h3) ?_
    exact pe_bm PySem.F.plainAttrs_list PySem.F.slot_list_pop PySem.F.type_list_pop mt_popAt (K.name h2) (pa_cons (ga S Γ X XW G K _ h5) pa_nil (star1 h6)) rfl (by rw [star1 h6] <;> rfl) h4 (star1 h6) rfl
  · cases h
theorem good_popLast {i : Nat} : Good Δ n (.popLast i) := by
  intro S Γ X XW G K m h
  simp only [chk] at h
  split at h
  · obtain ⟨h, h4⟩ := ba2 h
    obtain ⟨h, h3⟩ := ba2 h
    obtain ⟨h1, h2⟩ := ba2 h
    cases of_decide_eq_true h1
    exact E_popLast (K.gks.trans K.Γks.symm) (by rw [K.Γks]; exact of_decide_eq_true h3) (pe_bm0 PySem.F.plainAttrs_list PySem.F.slot_list_pop PySem.F.type_list_pop mt_pop (K.name h2) rfl h4)
  · cases h
theorem good_scrLen {i : Nat} : Good Δ n (.scrLen i) := by
  intro S Γ X XW G K m h
  simp only [chk] at h
  split at h
  · obtain ⟨h, h3⟩ := ba2 h
    obtain ⟨h1, h2⟩ := ba2 h
    cases of_decide_eq_true h1
    obtain ⟨g1, g2⟩ := K.blt h2
    refine E_scrLen (K.ΓK.trans K.ΔK) (K.gks.trans K.Γks.symm) ?_
    refine PEimp (pe_callB call_len_seq g1 g2 boot_len (pa_cons (K.name h3) pa_nil) (by decide) (by decide) rfl rfl) fun σ H Q q => ?_
    obtain ⟨p, ys, e, sq, q⟩ := q
    exact ⟨_, e, p, ys, rfl, .inl sq, q⟩
  · cases h
theorem good_scrList {i : Nat} : Good Δ n (.scrList i) := by
  intro S Γ X XW G K m h
  simp only [chk] at h
  split at h
  · obtain ⟨h, h4⟩ := ba2 h
    obtain ⟨h, h3⟩ := ba2 h
    obtain ⟨h1, h2⟩ := ba2 h
    cases of_decide_eq_true h1
    obtain ⟨g1, g2⟩ := K.blt h2
    refine E_scrList (K.ΓK.trans K.ΔK) (K.gks.trans K.Γks.symm) ?_
    refine PEimp (pe_callTy call_list_of g1 g2 boot_list (pa_cons (K.name h3) pa_nil) (by decide) (by decide) rfl rfl) fun σ H Q q => ?_
    obtain ⟨p, ys, e, sq, q⟩ := q
    exact ⟨_, e, p, ys, rfl, .inl sq, q⟩
  · cases h
/-- the context of a lambda's body -/
theorem Cok.lmd (K : Cok Δ n S Γ X XW G) {scope : Scope} {A : Around} {outer : List Env} {s : Shared} {H : Hp} {E : XK} {f c' : Addr} (hr : Room (3 * n) (A.deeper (LamX.lamEnv X scope s.heap.objs.size f c'))) :
    Cok Δ n (lamS S scope) (lamG Γ) (LamX.lamCx X A outer s H E scope f c') (fun cls d _ H => E cls d H) { G with ks := brwd G.ks } where
  hN := K.hN
  nd := K.nd
  sc := rfl
  fn := fun x z => by cases z
  calm := fun _ => rfl
  gd := fun z => by cases z
  hu := by
    have := hr.un
    show (A.deeper (LamX.lamEnv X scope s.heap.objs.size f c')).units + 100 < cLine
    omega
  room := fun _ => hr
  roomT := fun z => by cases z
  cls := fun x c z => by cases z
  gxin := K.gxin
  clsK := fun x c z => by cases z
  csub := fun x c z => by cases z
  mets := fun x f z => by cases z
  lamT := fun z => by cases z
  fns := K.fns
  glb := K.glb
  gks := by
    show brwd G.ks = brwd S.ks
    rw [K.gks]
  Γks := by
    show brwd Γ.ks = brwd S.ks
    rw [K.Γks]
  Γnp := K.Γnp
  ΓT := K.ΓT
  ΓK := K.ΓK
  ΔK := K.ΔK
  ΓC := K.ΓC
  gcf := K.gcf
  ginf := K.ginf
  Δkk := K.Δkk
  Δfq := K.Δfq
  xo := fun i a dx ds z => by cases z
  lam := fun _ => rfl
  tk := takes_of rfl rfl rfl rfl
theorem good_lamcall {f : Nat} {b : C} (gb : Good Δ n b) : Good Δ n (.lamcall f b) := by
  intro S Γ X XW G K m h
  simp only [chk] at h
  split at h
  · rename_i x body scope hm
    obtain ⟨p, q, r, rfl⟩ := lamM_eq hm
    obtain ⟨h, h8⟩ := ba2 h
    obtain ⟨h, h7⟩ := ba2 h
    obtain ⟨h, h6⟩ := ba2 h
    obtain ⟨h, h5⟩ := ba2 h
    obtain ⟨h, h4⟩ := ba2 h
    obtain ⟨h, h3⟩ := ba2 h
    obtain ⟨h1, h2⟩ := ba2 h
    obtain ⟨hm, hk, lk, hcg, hb, Sg, hNg, hNd, hva, had, hac, hd, hc, hB, hone⟩ := K.mets x f (of_decide_eq_true h1)
    obtain ⟨c, P, TB, hcode, hmT, hu⟩ := K.lamT h3
    have L := LamX.lamS_by h6
    rw [← K.sc] at L
    refine PEimp (pe_lam (k := 3 * n) (T := Γ.T) (t := fun E => rdE (lamG Γ) Δ.fq (fun cls d _ H => E cls d H) { G with ks := brwd G.ks } b) (K.gl h2) hm hk lk hcg hb Sg hNg hva (met_gives hNd (fun f => rfl) fun s H => by refine hdA_of (cls := S.cls) (xin := S.xin) (cA := cAd Γ) ?_ ?_; exact K.clsK; exact hB) TB hcode hmT hu (K.roomT h4 h5) L rfl (fun _ _ _ _ _ => rfl)
      (fun A outer s H E f c' hr => gb _ _ _ _ _ (K.lmd hr) _ h7) (by simpa using h8) had hac) fun σ H Q q => lam_read K.gcf hd hc hB K.csub hone q
  · cases h
/-! statements -/
theorem good_body {c : C} (g : Good Δ n c) {S : Sx} {Γ : Gm} {X : Cx} {XW : WX} {G : Gx} (K : Cok Δ n S Γ X XW G) (hp : S.top = true → PassesOwn (model X.prog X.w) X.A X.env X.xe) {sts : List Stmt}
    (h : (match sts with | [s] => chk c S (.S s) | _ => chk c S (.Ss sts)) = true) : PSs X sts (rdSt Γ S.fr XW G c) := by
  match sts, h with
  | [s], h => exact pss_one (g S Γ X XW G K _ h hp)
  | [], h => exact g S Γ X XW G K (.Ss []) h hp
  | s :: s2 :: r, h => exact g S Γ X XW G K (.Ss (s :: s2 :: r)) h hp
theorem good_seq {a b : C} (ga : Good Δ n a) (gb : Good Δ n b) : Good Δ n (.seq a b) := by
  intro S Γ X XW G K m h
  simp only [chk] at h
  split at h
  · rename_i s s2 r
    obtain ⟨h1, h2⟩ := ba2 h
    intro hp
    refine S_seq (rest := []) (pss_cons (ga S Γ X XW G K _ h1 hp) ?_)
    cases r with
    | nil => exact pss_one (gb S Γ X XW G K _ h2 hp)
    | cons s3 r3 => exact gb S Γ X XW G K _ h2 hp
  · cases h
theorem good_pass : Good Δ n .pass := by
  intro S Γ X XW G K m h
  simp only [chk] at h
  split at h
  · exact fun _ => S_pass ps_pass
  · cases h
theorem good_brk : Good Δ n .brk := by
  intro S Γ X XW G K m h
  simp only [chk] at h
  split at h
  · exact fun _ => S_brk ps_break
  · cases h
theorem good_cnt : Good Δ n .cnt := by
  intro S Γ X XW G K m h
  simp only [chk] at h
  split at h
  · exact fun _ => S_cnt ps_continue
  · cases h
theorem sw_none {e : Expr} {l : Nat} {env : Env} {t : Option Expr} (h : isLcE e = false) : swapsWith e t l env = pure false := by
  cases e <;> first | rfl | cases h
theorem sw_sole {t e : Expr} {l : Nat} {env : Env} : swapsWithSole [t] e l env = swapsWith e (some t) l env := by
  simp only [swapsWithSole]
theorem good_drop {c : C} (gc : Good Δ n c) : Good Δ n (.drop c) := by
  intro S Γ X XW G K m h
  simp only [chk] at h
  split at h
  · obtain ⟨h1, h2⟩ := ba2 h
    exact fun _ => S_drop (fq := Δ.fq) (ps_expr (gc S Γ X XW G K _ h1) (sw_none (by simpa using h2)))
  · cases h
theorem good_ret {c : C} (gc : Good Δ n c) : Good Δ n (.ret c) := by
  intro S Γ X XW G K m h
  simp only [chk] at h
  split at h
  · obtain ⟨h1, h2⟩ := ba2 h
    exact fun _ => S_ret (fq := Δ.fq) (fun z => by rw [K.Δfq]; rw [z] at h2; simpa using h2) (ps_ret (gc S Γ X XW G K _ h1))
  · cases h
theorem good_retN : Good Δ n .retN := by
  intro S Γ X XW G K m h
  simp only [chk] at h
  split at h
  · exact fun _ => S_retN ps_retN
  · cases h
theorem good_retO {i : Nat} : Good Δ n (.retO i) := by
  intro S Γ X XW G K m h
  simp only [chk] at h
  split at h
  · obtain ⟨h1, h2⟩ := ba2 h
    exact fun _ => S_retO (K.gks.trans K.Γks.symm) (by rw [K.Γnp]; exact of_decide_eq_true h2) (ps_ret (K.name h1))
  · cases h
theorem good_ife {c a b : C} (gc : Good Δ n c) (ga : Good Δ n a) (gb : Good Δ n b) : Good Δ n (.ife c a b) := by
  intro S Γ X XW G K m h
  simp only [chk] at h
  split at h
  · rename_i ce sa sb pos
    obtain ⟨h, h3⟩ := ba2 h
    obtain ⟨h1, h2⟩ := ba2 h
    intro hp
    refine S_ife (ps_if (gc.test K h1) (good_body ga K hp h2) ?_)
    match sb, h3 with
    | [], h3 =>
      have : b = .pass := by
        cases b <;> first | rfl | cases h3
      subst this
      exact PSsimp pss_nil fun D σ H q => by
        obtain ⟨F, e, E, w⟩ := q
        exact w σ H Stp.refl E
    | [s], h3 => exact pss_one (gb S Γ X XW G K _ h3 hp)
    | s :: s2 :: r, h3 => exact gb S Γ X XW G K _ h3 hp
  · cases h
theorem good_whl {c b : C} (gc : Good Δ n c) (gb : Good Δ n b) : Good Δ n (.whl c b) := by
  intro S Γ X XW G K m h
  simp only [chk] at h
  split at h
  · obtain ⟨h, h3⟩ := ba2 h
    obtain ⟨h1, h2⟩ := ba2 h
    exact fun hp => S_whl (ps_while (hp h1) (gc.test K h2) (good_body gb K hp h3))
  · cases h
theorem good_fr {tg it b : C} (gt : Good Δ n tg) (gi : Good Δ n it) (gb : Good Δ n b) : Good Δ n (.fr tg it b) := by
  intro S Γ X XW G K m h
  simp only [chk] at h
  split at h
  · obtain ⟨h, h6⟩ := ba2 h
    obtain ⟨h, h5⟩ := ba2 h
    obtain ⟨h, h4⟩ := ba2 h
    obtain ⟨h, h3⟩ := ba2 h
    obtain ⟨h1, h2⟩ := ba2 h
    exact fun hp => S_for (K.gks.trans K.Γks.symm) (ps_for (hp h1) (K.calm h2) (gi.iter K h3) (gt S Γ X XW G K _ h4) (good_body gb K hp h6) (notSet_ok h5))
  · cases h
theorem sw_no {S : Sx} {Γ : Gm} {X : Cx} {XW : WX} {G : Gx} (K : Cok Δ n S Γ X XW G) {es : List Expr} {k : Nat} {p : Pos} {e : Expr} (h : swNo S es e = true) : swappedStores [.Tuple es k p] e X.env = pure none := by
  cases e <;> first | rfl | (cases h; done) | skip
  rename_i vs k2 p2
  refine sw_none2 ?_
  have ek : ∀ id, X.env.kindOf id = S.sc.names.lookup id := fun id => by rw [← K.sc]; rfl
  rcases (Bool.or_eq_true _ _).mp h with h | h
  · left
    simp only [ek]
    exact h
  · exact .inr h
theorem good_asg {t c : C} (gt : Good Δ n t) (gc : Good Δ n c) : Good Δ n (.asg t c) := by
  intro S Γ X XW G K m h
  simp only [chk] at h
  split at h
  · rename_i x px e pos
    obtain ⟨h1, h2⟩ := ba2 h
    have hks := K.gks.trans K.Γks.symm
    have st : ∀ {i : Nat}, stOk S i x = true → PS X (.Assign [.Name x px] e pos) (tAsg (rdE Γ Δ.fq XW G c) (gName i)) := fun {i} q => by
      obtain ⟨_, _, hN, hl, hf⟩ := K.store (pos := px) q
      rcases (Bool.or_eq_true _ _).mp h2 with h2 | h2
      · exact gc S Γ X XW G K _ h2 i pos hN hl hf
      · obtain ⟨h3, h4⟩ := ba2 h2
        exact ps_set K.nd hN hl (gc S Γ X XW G K _ h3) (sw_none (by simpa using h4)) hf
    intro hp
    split at h1
    · rename_i i
      obtain ⟨q1, q2⟩ := ba2 h1
      obtain ⟨_, fr, _⟩ := K.store (pos := px) q1
      exact PSimp (st q1) fun D σ H q => rdE_imp (asg_read hks (fun i z => by cases z) q) fun v H1 q => var_read fr q
    · rename_i i
      obtain ⟨q, q4⟩ := ba2 h1
      obtain ⟨q, q3⟩ := ba2 q
      obtain ⟨q1, q2⟩ := ba2 q
      exact PSimp (st q1) fun D σ H q => asgO_read hks (by rw [K.Γnp]; exact of_decide_eq_true q3) (by rw [K.Δfq]; exact q4) q
    · cases h1
  · rename_i es k p e pos
    obtain ⟨h, h5⟩ := ba2 h
    obtain ⟨h, h4⟩ := ba2 h
    obtain ⟨h, h3⟩ := ba2 h
    obtain ⟨h1, h2⟩ := ba2 h
    intro hp
    refine S_asg (fq := Δ.fq) (K.gks.trans K.Γks.symm) (fun i z => by subst z; cases h1) (ps_asg (gc S Γ X XW G K _ h3) (gt S Γ X XW G K _ h2) ?_ ?_ rfl)
    · rw [sw_sole]
      exact sw_none (by simpa using h5)
    · exact sw_no K h4
  · cases h
theorem TAimp {Δ : Ctx} {Γ : Gm} {XW : WX} {G : Gx} {a b : C} {σ : L2.St} {H : Hp} {Q Q' : List V → Hp → Prop} (h : tCons (rdE Γ Δ.fq XW G a) (tCons (rdE Γ Δ.fq XW G b) tNil) σ H Q) (i : ∀ vs H1, Q vs H1 → Q' vs H1) : tCons (rdE Γ Δ.fq XW G a) (tCons (rdE Γ Δ.fq XW G b) tNil) σ H Q' :=
  rdE_imp h fun v H1 q => rdE_imp q fun w H2 q2 => i _ _ q2
theorem nb13 {b : Bool} (h : (!b) = true) : b = false := by
  cases b <;> first | rfl | cases h
theorem good_par {i j : Nat} {a b : C} (ga : Good Δ n a) (gb : Good Δ n b) : Good Δ n (.par i j a b) := by
  intro S Γ X XW G K m h
  simp only [chk] at h
  split at h
  · rename_i x px y py k p ea eb k2 p2 pos
    obtain ⟨h, h12⟩ := ba2 h
    obtain ⟨h, h11⟩ := ba2 h
    obtain ⟨h, h10⟩ := ba2 h
    obtain ⟨h, h9⟩ := ba2 h
    obtain ⟨h, h8⟩ := ba2 h
    obtain ⟨h, h7⟩ := ba2 h
    obtain ⟨h, h6⟩ := ba2 h
    obtain ⟨h, h5⟩ := ba2 h
    obtain ⟨h, h4⟩ := ba2 h
    obtain ⟨h, h3⟩ := ba2 h
    obtain ⟨h1, h2⟩ := ba2 h
    obtain ⟨gi, fi, hNi, li, ni⟩ := K.store (pos := px) h1
    obtain ⟨gj, fj, hNj, lj, nj⟩ := K.store (pos := py) h2
    have tk : ∀ {i : Nat} {c : C}, Fre Γ i → tkB S i c = true → tkOk Γ Δ.fq i c := fun {i c} fi q => by
      unfold tkB at q
      rcases (Bool.or_eq_true _ _).mp q with q | q
      · exact .inl ⟨by rw [K.Γks]; exact of_decide_eq_true q, fi⟩
      · obtain ⟨q, q3⟩ := ba2 q
        obtain ⟨q1, q2⟩ := ba2 q
        exact .inr ⟨by rw [K.Γks]; exact of_decide_eq_true q1, by rw [K.Γnp]; exact of_decide_eq_true q2, by rw [K.Δfq]; exact q3⟩
    have st : ∀ e : Expr, notStar e = true → isStar e = false := fun e q => by cases e <;> first | rfl | cases q
    have pa : PA X [ea, eb] (tCons (rdE Γ Δ.fq XW G a) (tCons (rdE Γ Δ.fq XW G b) tNil)) := pa_cons (ga S Γ X XW G K _ h7) (pa_cons (gb S Γ X XW G K _ h8) pa_nil (star1 h10)) (star1 h9)
    have rd : ∀ {D : Ends} {σ : L2.St} {H : Hp}, rdSt Γ S.fr XW G (.par i j a b) D σ H → tPar i j (tCons (rdE Γ Δ.fq XW G a) (tCons (rdE Γ Δ.fq XW G b) tNil)) D σ H := fun q => par_read (K.gks.trans K.Γks.symm) (of_decide_eq_true h3) (tk fi h5) (tk fj h6) q
    intro hp
    rcases (Bool.or_eq_true _ _).mp h12 with h12 | h12
    · obtain ⟨h12, h14⟩ := ba2 h12
      obtain ⟨h12, h13⟩ := ba2 h12
      obtain ⟨h, h12⟩ := ba2 h12
      obtain ⟨q1, q2⟩ := ba2 h
      obtain ⟨q3, q4⟩ := ba2 h12
      have lx : X.env.scope.names.lookup x = some .local := by rw [K.sc]; exact of_decide_eq_true q1
      have ly : X.env.scope.names.lookup y = some .local := by rw [K.sc]; exact of_decide_eq_true q3
      refine ⟨fun pins s σ H D I hw => ?_⟩
      have P := ps_par (pos := pos) (pt := p) (kt := k) (k2 := k2) (pt2 := p2) (K.calm h11) K.nd hNi hNj (of_decide_eq_true h3) lx ly pa (sw_two I.ok.kind lx ly q4 (of_decide_eq_true h4) (st _ h9) (st _ h10) (nb13 h13) (nb13 h14)) (by rw [sw_sole] <;> rfl)
      exact P.run pins s σ H D I (rd hw)
    · have P : PS X (.Assign [.Tuple [.Name x px, .Name y py] k p] (.Tuple [ea, eb] k2 p2) pos) (tAsg (tTup (tCons (rdE Γ Δ.fq XW G a) (tCons (rdE Γ Δ.fq XW G b) tNil))) (gTup X.K 2 (gCons (gName i) (gCons (gName j) gNil)))) :=
        ps_asg (pe_tup pa) (pg_tup (K.calm h11) (pgs_cons gi (pgs_cons gj pgs_nil rfl) rfl) rfl rfl) (by rw [sw_sole] <;> rfl) (sw_no K h12) rfl
      refine PSimp P fun D σ H q => ?_
      have q2 := rd (rdSt_ex q)
      show tCons (rdE Γ Δ.fq XW G a) (tCons (rdE Γ Δ.fq XW G b) tNil) σ H (fun xs H1 => xs.length ≤ sizeLine ∧ ∀ p, H1 p = none → gTup X.K 2 (gCons (gName i) (gCons (gName j) gNil)) (.ref p) σ (upd H1 p (.tup xs)) D.nx)
      refine TAimp q2 fun vs H1 ⟨v, w, hv, hn⟩ => ?_
      subst hv
      refine ⟨(show 2 ≤ sizeLine by decide), fun q hq => ⟨q, [v, w], rfl, .of upd_same, rfl, v, [w], rfl, w, [], rfl, rfl, hn q _ hq⟩⟩
  · cases h
theorem good_par3 {i j l : Nat} {a b c : C} (ga : Good Δ n a) (gb : Good Δ n b) (gc : Good Δ n c) : Good Δ n (.par3 i j l a b c) := by
  intro S Γ X XW G K m h
  simp only [chk] at h
  split at h
  · rename_i x px y py z pz k p ea eb ec k2 p2 pos
    simp only [Bool.and_eq_true, decide_eq_true_eq] at h
    obtain ⟨⟨⟨⟨⟨⟨⟨⟨⟨⟨⟨⟨⟨s1, s2⟩, s3⟩, d1⟩, d2⟩, d3⟩, ⟨n1, n2⟩, n3⟩, ⟨k1, k2'⟩, k3⟩, ⟨c1, c2⟩, c3⟩, ⟨t1, t2⟩, t3⟩, hc⟩, ⟨p1, p2'⟩, p3⟩, f1⟩, f2⟩ := h
    obtain ⟨_, fi, hNi, _, _⟩ := K.store (pos := px) s1
    obtain ⟨_, fj, hNj, _, _⟩ := K.store (pos := py) s2
    obtain ⟨_, fl, hNl, _, _⟩ := K.store (pos := pz) s3
    obtain ⟨q1, q2⟩ := ba2 p1
    obtain ⟨q3, q4⟩ := ba2 p2'
    obtain ⟨q5, q6⟩ := ba2 p3
    have lx : X.env.scope.names.lookup x = some .local := by rw [K.sc]; exact of_decide_eq_true q1
    have ly : X.env.scope.names.lookup y = some .local := by rw [K.sc]; exact of_decide_eq_true q3
    have lz : X.env.scope.names.lookup z = some .local := by rw [K.sc]; exact of_decide_eq_true q5
    have st : ∀ e : Expr, notStar e = true → isStar e = false := fun e q => by cases e <;> first | rfl | cases q
    have pa : PA X [ea, eb, ec] (tCons (rdE Γ Δ.fq XW G a) (tCons (rdE Γ Δ.fq XW G b) (tCons (rdE Γ Δ.fq XW G c) tNil))) := pa_cons (ga S Γ X XW G K _ c1) (pa_cons (gb S Γ X XW G K _ c2) (pa_cons (gc S Γ X XW G K _ c3) pa_nil (star1 t3)) (star1 t2)) (star1 t1)
    intro hp
    refine ⟨fun pins s σ H D I hw => ?_⟩
    have P := ps_par3 (pos := pos) (pt := p) (kt := k) (k2 := k2) (pt2 := p2) (K.calm hc) K.nd hNi hNj hNl d1 d2 d3 lx ly lz pa (sw_three I.ok.kind lx ly lz q4 q6 n1 n2 n3 (st _ t1) (st _ t2) (st _ t3) (nb13 f1) (nb13 f2)) (by rw [sw_sole] <;> rfl)
    exact P.run pins s σ H D I (par3_read (K.gks.trans K.Γks.symm) (by rw [K.Γks]; exact k1) (by rw [K.Γks]; exact k2') (by rw [K.Γks]; exact k3) fi fj fl hw)
  · cases h
theorem good_app {i : Nat} {c : C} (gc : Good Δ n c) : Good Δ n (.app i c) := by
  intro S Γ X XW G K m h
  simp only [chk] at h
  split at h
  · obtain ⟨h, h6⟩ := ba2 h
    obtain ⟨h, h5⟩ := ba2 h
    obtain ⟨h, h4⟩ := ba2 h
    obtain ⟨h, h3⟩ := ba2 h
    obtain ⟨h1, h2⟩ := ba2 h
    cases of_decide_eq_true h1
    intro hp
    refine S_app (fq := Δ.fq) (K.gks.trans K.Γks.symm) (by rw [K.Γks]; exact of_decide_eq_true h3) ?_
    exact ps_expr (pe_bm PySem.F.plainAttrs_list PySem.F.slot_list_append PySem.F.type_list_append mt_append (K.name h2) (pa_cons (gc S Γ X XW G K _ h5) pa_nil (star1 h6)) rfl (by rw [star1 h6] <;> rfl) h4 (star1 h6) rfl) rfl
  · cases h
theorem good_stIx {i : Nat} {k c : C} (gk : Good Δ n k) (gc : Good Δ n c) : Good Δ n (.stIx i k c) := by
  intro S Γ X XW G K m h
  simp only [chk] at h
  split at h
  · rename_i x px ke ps e pos
    obtain ⟨h, h6⟩ := ba2 h
    obtain ⟨h, h5⟩ := ba2 h
    obtain ⟨h, h4⟩ := ba2 h
    obtain ⟨h, h3⟩ := ba2 h
    obtain ⟨h1, h2⟩ := ba2 h
    have hu : X.A.units + 1 < cLine := by have := K.hu; omega
    intro hp
    refine S_stIx (fq := Δ.fq) (K.gks.trans K.Γks.symm) (by rw [K.Γks]; exact of_decide_eq_true h2) ?_
    refine ps_asg (gc S Γ X XW G K _ h4) (pg_sub (K.name h1) (gk S Γ X XW G K _ h3) (set_any hu) ?_) ?_ rfl rfl
    · intro v
      cases ke <;> first | rfl | cases h5
    · rw [sw_sole]
      exact sw_none (by simpa using h6)
  · cases h
theorem opI_of {o : O2} {o' : Operator} {X : Cx} (h : opI o o' = true) : OpR X (inplaceOp o') (rOi o) := by
  cases o <;> cases o' <;> first | cases h | skip
  · exact i_add
  · exact i_sub
  · exact i_mul
  · exact i_fdiv
  · exact i_mod
  · exact i_shl
  · exact i_shr
  · exact i_and
  · exact i_or
  · exact i_xor
theorem good_aug {i : Nat} {o : O2} {c : C} (gc : Good Δ n c) : Good Δ n (.aug i o c) := by
  intro S Γ X XW G K m h
  simp only [chk] at h
  split at h
  · rename_i x px o' e pos
    obtain ⟨h, h3⟩ := ba2 h
    obtain ⟨h1, h2⟩ := ba2 h
    obtain ⟨_, fr, hN, hl, hf⟩ := K.store (pos := px) h2
    intro hp
    exact S_aug (fq := Δ.fq) (K.gks.trans K.Γks.symm) fr (ps_aug K.nd hN hl (gc S Γ X XW G K _ h3) (opI_of h1) hf)
  · cases h
theorem good_blt2 {f : Bi} {a : C} (ga : Good Δ n a) : Good Δ n (.blt f a) := good_blt ga
/-- every piece of code that the check passes is what the text says -/
theorem good : ∀ c : C, Good Δ n c := by
  intro c
  induction c with
  | var i => exact good_var i
  | loc i => exact good_loc i
  | cst d => exact good_cst d
  | scr i => exact good_scr i
  | scrLen i => exact good_scrLen
  | scrList i => exact good_scrList
  | nil => exact good_nil
  | cons a b ha hb => exact good_cons ha hb
  | tup a ha => exact good_tup ha
  | lst a ha => exact good_lst ha
  | dnew t => exact good_dnew t
  | disp ks a ha => exact good_disp ha
  | op o a b ha hb => exact good_op ha hb
  | neg a ha => exact good_neg ha
  | not a ha => exact good_not ha
  | and a b ha hb => exact good_and ha hb
  | or a b ha hb => exact good_or ha hb
  | ite c a b hc ha hb => exact good_ite hc ha hb
  | idx a b ha hb => exact good_idx ha hb
  | slc a b c ha hb hc => exact good_slc ha hb hc
  | call f a ha => exact good_call ha
  | blt f a ha => exact good_blt2 ha
  | isi f a ha => exact good_isi ha
  | lrng t a ha => exact good_lrng ha
  | par i j a b ha hb => exact good_par ha hb
  | par3 i j l a b c ha hb hc => exact good_par3 ha hb hc
  | popAt i a ha => exact good_popAt ha
  | popLast i => exact good_popLast
  | lc vs tg it cond elt h1 h2 h3 h4 => exact good_lc h1 h2 h3 h4
  | lc2 vs vs1 tg it cond tg1 it1 cond1 elt h1 h2 h3 h4 h5 h6 h7 => exact good_lc2 h1 h2 h3 h4 h5 h6 h7
  | seq a b ha hb => exact good_seq ha hb
  | pass => exact good_pass
  | asg t c ht hc => exact good_asg ht hc
  | drop c hc => exact good_drop hc
  | ret c hc => exact good_ret hc
  | retN => exact good_retN
  | retO i => exact good_retO
  | ife c a b hc ha hb => exact good_ife hc ha hb
  | whl c b hc hb => exact good_whl hc hb
  | fr t i b ht hi hb => exact good_fr ht hi hb
  | brk => exact good_brk
  | cnt => exact good_cnt
  | raise cls a ha => exact good_raise ha
  | lamcall f b hb => exact good_lamcall hb
  | app i c hc => exact good_app hc
  | stIx i k c hk hc => exact good_stIx hk hc
  | aug i o c hc => exact good_aug hc
  | _ => intro S Γ X XW G K m h; simp [chk] at h
end
end PB
set_option maxHeartbeats 4000000
/-! Iu: a program's defs by their places; the check of all of them. -/
namespace PB
open PySem
def defNm : Stmt → Str
  | .FunctionDef n _ _ _ _ _ _ _ _ _ => n
  | _ => ""
def defBd : Stmt → List Stmt
  | .FunctionDef _ _ b _ _ _ _ _ _ _ => b
  | _ => []
def defSc : Stmt → Scope
  | .FunctionDef _ _ _ _ _ _ s _ _ _ => s
  | _ => ⟨.module, [], false, false, []⟩
def defAr : Stmt → Arguments
  | .FunctionDef _ a _ _ _ _ _ _ _ _ => a
  | _ => ⟨[], [], none, [], [], none, []⟩
def isDef : Stmt → Bool
  | .FunctionDef .. => true
  | _ => false
def clsNm : Stmt → Option Str
  | .ClassDef n .. => some n
  | _ => none
/-- the names that a program's top binds -/
def topNm : Stmt → List Str
  | .FunctionDef n _ _ _ _ _ _ _ _ _ => [n]
  | .ClassDef n .. => [n]
  | .Assign [.Name n _] _ _ => [n]
  | _ => []
structure Pr where
  T : Tb
  nms : List (List Str)
  top : List Stmt
  fq : List Bool
  gdf : List Bool
  lms : List Bool := []
def Pr.dfs (p : Pr) : List Stmt := p.top.filter isDef
def Pr.code (p : Pr) (f : Nat) : C := (p.T.defs[f]?).elim .pass (·.code)
def isTry : C → Bool
  | .tryx _ _ => true
  | _ => false
def Pr.fns0 (p : Pr) : List (Str × Nat) := (p.dfs.map defNm).zip (List.range p.dfs.length)
def Pr.fns (p : Pr) : List (Str × Nat) := p.fns0.filter fun q => !isTry (p.code q.2)
/-- the defs that call what they are given -/
def Pr.mets (p : Pr) : List (Str × Nat) := p.fns0.filter fun q => isTry (p.code q.2)
def Pr.kk (p : Pr) (f : Nat) : List Kd := match p.T.defs[f]? with
  | some d => d.ks.take d.np
  | none => []
/-- a class's own __init__ -/
def iniOf : Stmt → Option Stmt
  | .ClassDef _ _ _ b _ _ _ _ _ _ _ => b.find? fun s => isDef s && decide (defNm s = "__init__")
  | _ => none
/-- the classes, in their order -/
def Pr.clsAll (p : Pr) : List Stmt := p.top.filter fun s => (clsNm s).isSome
def Pr.clsN (p : Pr) : List Str := p.clsAll.map fun s => (clsNm s).getD ""
/-- those that have an __init__ -/
def Pr.inis (p : Pr) : List (Str × Nat × Stmt) := (p.clsAll.zip (List.range p.clsAll.length)).filterMap fun q => (iniOf q.1).map fun s => ((clsNm q.1).getD "", q.2, s)
def Pr.cls (p : Pr) : List (Str × Nat) := p.inis.map fun q => (q.1, q.2.1)
/-- built-in names that the program's top does not bind -/
def Pr.free (p : Pr) : List Str := (["len", "sum", "any", "all", "tuple", "list", "int", "abs", "max", "min", "sorted", "dict", "repr", "range", "enumerate", "zip", "isinstance", "bool", "str"] : List Str).filter fun x => !(p.top.flatMap topNm).contains x
def Pr.sx (p : Pr) (f : Nat) : Sx :=
  { N := (p.nms[f]?).getD [], ks := (p.T.defs[f]?).elim [] (·.ks), np := (p.T.defs[f]?).elim 0 (·.np), sc := (p.dfs[f]?).elim ⟨.module, [], false, false, []⟩ defSc, fns := p.fns, cls := p.cls, xin := p.T.xin, mets := p.mets, lms := (p.lms[f]?).getD false, cel := fun _ => true, glb := p.free, calm := true,
    gd := (p.gdf[f]?).getD true, fq := fun g => (p.fq[g]?).getD false, kk := p.kk, gdf := fun g => (p.gdf[g]?).getD true, fr := (p.fq[f]?).getD false, xo := none, lam := false, top := true }
def Pr.body (p : Pr) (f : Nat) : List Stmt := (p.dfs[f]?).elim [] defBd
def Pr.ckB (p : Pr) (f : Nat) : Bool := match p.body f with
  | [s] => chk (p.code f) (p.sx f) (.S s)
  | ss => chk (p.code f) (p.sx f) (.Ss ss)
end PB
set_option maxHeartbeats 4000000
/-! Hd: the law's call from the head's state, for a def that knows of the guards. -/
namespace PB
open PySem PySem.Spec PyProof.Rows L2 LamX
/-- what the head's heap tells -/
structure Grnd (K : PySem.W.Frag) (mg : Str → Option Value) (cs : List (Addr × Addr)) (s : Shared) : Prop where
  kin : K.In s.heap
  ns : s.heap.Ns mainGlobals mg
  bi : ∃ mb : Str → Option Value, s.heap.Ns builtinsNs mb ∧ ∀ x : Str, x ≠ "__name__" → mb x = bootBuiltins x
  lim : s.heap.NoLimit
  gens : s.gens = #[]
  tab : ∀ p ∈ cs, s.heap.get? p.2 = some { cls := .none, data := .fields #[] }
  out : ∀ p ∈ cs, K.lookup p.2 = none
  code : ∀ p ∈ cs, PySem.W.CodeHd s.heap p.1 p.2
  bm : ∃ (bm : Addr) (ob : Obj), mg "__builtins__" = some (.ref bm) ∧ bm ≠ builtinsNs ∧ s.heap.get? bm = some ob ∧ ob.cls = .type "module" ∧ ob.dict = some builtinsNs ∧ ob.data = .plain
/-- an abstract heap of tables and at most the script -/
structure Trk (cs : List (Addr × Addr)) (a : Addr) (s : Shared) (H : Hp) : Prop where
  tab : ∀ p ∈ cs, H p.2 = some (.tbl #[])
  all : ∀ b u, H b = some u → (b ∈ cs.map (·.2) ∧ u = .tbl #[]) ∨ (b = a ∧ b ∉ cs.map (·.2) ∧ ∃ o xs, u = .frz o (.lst xs))
section
variable {P : Program} {w : World} {K : PySem.W.Frag} {mg : Str → Option Value} {cs : List (Addr × Addr)} {a : Addr} {s : Shared} {H : Hp} {vs : List Value}
theorem Grnd.isTab (g : Grnd K mg cs s) {b : Addr} (h : b ∈ cs.map (·.2)) : s.heap.get? b = some { cls := .none, data := .fields #[] } := by
  obtain ⟨p, hp, rfl⟩ := List.mem_map.mp h
  exact g.tab p hp
/-- an object that is neither a list nor an empty record is not tracked -/
theorem Trk.non (t : Trk cs a s H) (g : Grnd K mg cs s) (ha : s.heap.get? a = some { cls := .type "list", data := .seq vs.toArray }) {b : Addr} {o : Obj} (e : s.heap.get? b = some o) (n1 : o.data ≠ .seq vs.toArray) (n2 : o.data ≠ .fields #[]) : H b = none := by
  cases q : H b with
  | none => rfl
  | some u =>
    rcases t.all b u q with ⟨h, _⟩ | ⟨h, _, _⟩
    · rw [g.isTab h] at e
      exact absurd (by rw [← Option.some.inj e]) n2
    · rw [h, ha] at e
      exact absurd (by rw [← Option.some.inj e]) n1
theorem Trk.nsp (t : Trk cs a s H) (g : Grnd K mg cs s) (ha : s.heap.get? a = some { cls := .type "list", data := .seq vs.toArray }) {b : Addr} {m : Str → Option Value} (h : s.heap.Ns b m) : (hidT s.heap H).Ns b m := by
  obtain ⟨o, es, ep, e, d, r⟩ := h
  refine ⟨o, es, ep, hidT_get e (t.non g ha e ?_ ?_), d, r⟩ <;> (rw [d]; intro z; cases z)
theorem Trk.mod (t : Trk cs a s H) (g : Grnd K mg cs s) (ha : s.heap.get? a = some { cls := .type "list", data := .seq vs.toArray }) (hk : H a ≠ none → K.lookup a = none) : L2.Mod K mg (hidT s.heap H) := by
  obtain ⟨mb, b1, b2⟩ := g.bi
  obtain ⟨mc, l1, l2⟩ := g.lim
  refine ⟨fun b o e => hidT_get (g.kin b o e) ?_, t.nsp g ha g.ns, ⟨mb, t.nsp g ha b1, b2⟩, mc, t.nsp g ha l1, l2⟩
  cases q : H b with
  | none => rfl
  | some u =>
    rcases t.all b u q with ⟨h, _⟩ | ⟨h, _, _⟩
    · obtain ⟨p, hp, rfl⟩ := List.mem_map.mp h
      rw [g.out p hp] at e
      cases e
    · subst h
      rw [hk (by rw [q]; exact fun z => nomatch z)] at e
      cases e
theorem Trk.tabB (t : Trk cs a s H) (g : Grnd K mg cs s) (ha : s.heap.get? a = some { cls := .type "list", data := .seq vs.toArray }) {p : Addr × Addr} (hp : p ∈ cs) : TabB (hidT s.heap H) mg p.1 p.2 := by
  obtain ⟨og, eg, epg, gg, gd, _⟩ := g.ns
  refine ⟨?_, ?_, fun z => ?_⟩
  · obtain ⟨o, us, file, tf, flags, tg, inF, text, tt, e1, r1, r2, r3, r4, r5, r6, r7, r8, hne⟩ := g.code p hp
    refine ⟨o, us, file, tf, flags, tg, inF, text, tt, hidT_get e1 (t.non g ha e1 ?_ ?_), r1, r2, r3, r4, r5, r6, r7, r8, hne⟩
    · rw [r2]; intro z; cases z
    · rw [r2]
      intro z
      cases z
      simp at r3
  · obtain ⟨bm, ob, b1, b2, b3, b4, b5, b6⟩ := g.bm
    refine ⟨bm, ob, b1, b2, fun q => ?_, fun q => ?_, hidT_get b3 (t.non g ha b3 ?_ ?_), b4, b5, b6⟩
    · rw [q, gg] at b3
      cases b3
      rw [gd] at b6
      cases b6
    · rw [q, g.tab p hp] at b3
      cases b3
      cases b6
    · rw [b6]; intro z; cases z
    · rw [b6]; intro z; cases z
  · rw [z, g.tab p hp] at gg
    cases gg
    cases gd
/-- the law, called with the script -/
theorem law_at {ns : List Int} {fa : Addr} {fd : FuncData} {x : Str} {gd : Bool} {k : Nat} {sp : L2.Sp} (g : Grnd K mg cs s) (ha : s.heap.get? a = some { cls := .type "list", data := .seq vs.toArray }) (hi : IntsAre vs ns) (hl : ns.length ≤ sizeLine) (hr : Room k callerA) (t : Trk cs a s H) (hk : H a ≠ none → K.lookup a = none)
    (hok : HOk P w H s.heap) (hS : SqL K H a (ns.map V.int)) (F : ∀ base : Heap, K.In base → base.Ns mainGlobals mg → L2.Mod K mg base → (∀ p ∈ cs, TabB base mg p.1 p.2) → FnG P w K mg base gd k fa fd [x] sp) (hbind : ∀ (s : Shared) (u : Value), BindsTo s fd ⟨[u], []⟩ [(x, u)])
    (hsp : ∀ H : Hp, (∀ p ∈ cs, H p.2 = some (.tbl #[])) → (∀ xs, H a ≠ some (.lst xs)) → SqL K H a (ns.map V.int) → sp [.ref a] H (fun v _ => v = .bl true) fun _ _ _ => False) :
    codeAny (model P w) callerA (.call (.ref fa) ⟨[.ref a], []⟩) (fun r s' => r = .ok (.ret (.bool true)) ∧ OldK s.heap s'.heap ∧ s'.os = s.os ∧ AllBare s'.gens) s := by
  have M := t.mod g ha hk
  have e0 : Env0 P w K mg (hidT s.heap H) callerA [] s H := ⟨rfl, M, fun b o e => of_hidT e, Nat.le_of_eq (hidT_size _ _), trivial, fun b hb => absurd (show b ∈ ([] : List Addr) from hb) (by simp), hok, .of_eq g.gens⟩
  have call := (F _ M.kin (t.nsp g ha g.ns) M fun p hp => t.tabB g ha hp).run callerA [] s H ⟨[.ref a], []⟩ [.ref a] [.ref a] _ _ (fun _ => rfl) hr e0 (hbind s (.ref a)) (.cons rfl .nil) (hsp H t.tab (fun xs q => (t.all a _ q).elim (fun z => by cases z.2) fun z => by obtain ⟨_, _, o, xs', z⟩ := z; cases z) hS)
  refine codeAny_mono call fun r s' z => ?_
  cases r with
  | error e =>
    obtain ⟨_, _, _, _, _, _, _, _, _, _, _, _, z⟩ := (show L2.CX P w [] H s (fun _ _ _ => False) e s' from z)
    exact z.elim
  | ok u =>
    cases u with
    | ret u =>
      obtain ⟨v, H', os, bare, un, hok', rv, rfl⟩ := z
      have eu : u = Value.bool true := rv
      subst eu
      have old : ∀ b o, b ∉ cs.map (·.2) → s.heap.get? b = some o → s'.heap.get? b = some o := fun b o nb e => by
        cases q : H b with
        | none => exact un.keep b o e q (fun z => absurd (show b ∈ ([] : List Addr) from z) (by simp)) (by simp)
        | some u =>
          rcases t.all b u q with ⟨h, _⟩ | ⟨_, _, ob, xs, rfl⟩
          · exact absurd h nb
          · obtain ⟨q1, _⟩ := hok b _ q
            obtain ⟨q2, _⟩ := hok' b _ (un.frzs b ob _ q)
            exact q2.trans (q1.symm.trans e)
      have more : ∀ p ∈ cs, ∃ ps : Array Value, s'.heap.get? p.2 = some { cls := .none, data := .fields (#[] ++ ps) } := fun p hp => by
        obtain ⟨ps, q⟩ := un.tbls p.2 #[] (t.tab p hp)
        exact ⟨ps, hok' p.2 _ q⟩
      refine ⟨rfl, ⟨fun b o e => ?_, fun b o e => ?_⟩, os, bare⟩
      · by_cases hb : b ∈ cs.map (·.2)
        · obtain ⟨p, hp, rfl⟩ := List.mem_map.mp hb
          obtain ⟨ps, q⟩ := more p hp
          rw [g.tab p hp] at e
          cases e
          exact .inr (.inl ⟨((g.code p hp).tab (g.tab p hp)).isCodeTable, rfl, #[], ps, rfl, q⟩)
        · exact .inl (old b o hb e)
      · by_cases hb : b ∈ cs.map (·.2)
        · obtain ⟨p, hp, rfl⟩ := List.mem_map.mp hb
          obtain ⟨ps, q⟩ := more p hp
          exact ⟨_, q⟩
        · exact ⟨o, old b o hb e⟩
    | _ => exact z.elim
/-- .. from the head's state -/
theorem law_callG {ns : List Int} {fa : Addr} {fd : FuncData} {x : Str} {gd : Bool} {k : Nat} {sp : L2.Sp} (g : Grnd K mg cs s) (ha : s.heap.get? a = some { cls := .type "list", data := .seq vs.toArray }) (hi : IntsAre vs ns) (hl : ns.length ≤ sizeLine) (hr : Room k callerA)
    (F : ∀ base : Heap, K.In base → base.Ns mainGlobals mg → L2.Mod K mg base → (∀ p ∈ cs, TabB base mg p.1 p.2) → FnG P w K mg base gd k fa fd [x] sp) (hbind : ∀ (s : Shared) (u : Value), BindsTo s fd ⟨[u], []⟩ [(x, u)])
    (hsp : ∀ H : Hp, (∀ p ∈ cs, H p.2 = some (.tbl #[])) → (∀ xs, H a ≠ some (.lst xs)) → SqL K H a (ns.map V.int) → sp [.ref a] H (fun v _ => v = .bl true) fun _ _ _ => False) :
    codeAny (model P w) callerA (.call (.ref fa) ⟨[.ref a], []⟩) (fun r s' => r = .ok (.ret (.bool true)) ∧ OldK s.heap s'.heap ∧ s'.os = s.os ∧ AllBare s'.gens) s := by
  have rv := vals_ints hi
  have aT : a ∉ cs.map (·.2) := fun z => by
    have q := g.isTab z
    rw [ha] at q
    have q := congrArg Obj.data (Option.some.inj q)
    cases q
  have tb : ∀ p ∈ cs, p.2 ∈ cs.map (·.2) := fun p hp => List.mem_map.mpr ⟨p, hp, rfl⟩
  by_cases hk : (K.lookup a).isSome = true
  · obtain ⟨o, ho⟩ := Option.isSome_iff_exists.mp hk
    have e := g.kin a o ho
    rw [ha] at e
    cases e
    have t : Trk cs a s (fun b => if b ∈ cs.map (·.2) then some (.tbl #[]) else none) := ⟨fun p hp => if_pos (tb p hp), fun b u z => by
      by_cases hb : b ∈ cs.map (·.2)
      · rw [if_pos hb] at z; cases z; exact .inl ⟨hb, rfl⟩
      · rw [if_neg hb] at z; cases z⟩
    refine law_at g ha hi hl hr t (fun z => absurd (if_neg aT) z) (fun b u z => ?_) (.inr ⟨_, vs.toArray, _, ho, rfl, rfl, rfl, by rw [List.size_toArray, hi.length]; exact hl, by simpa using rv⟩) F hbind hsp
    by_cases hb : b ∈ cs.map (·.2)
    · have z : some (HO.tbl #[]) = some u := (if_pos hb).symm.trans z
      cases z
      exact g.isTab hb
    · have z : none = some u := (if_neg hb).symm.trans z
      cases z
  · have hk' : K.lookup a = none := by
      cases q : K.lookup a with
      | none => rfl
      | some o => rw [q] at hk; exact absurd rfl hk
    have t : Trk cs a s (fun b => if b ∈ cs.map (·.2) then some (.tbl #[]) else if b = a then some (.frz { cls := .type "list", data := .seq vs.toArray } (.lst (ns.map V.int))) else none) := ⟨fun p hp => if_pos (tb p hp), fun b u z => by
      by_cases hb : b ∈ cs.map (·.2)
      · rw [if_pos hb] at z; cases z; exact .inl ⟨hb, rfl⟩
      · rw [if_neg hb] at z
        by_cases hba : b = a
        · rw [if_pos hba] at z; cases z; exact .inr ⟨hba, hb, _, _, rfl⟩
        · rw [if_neg hba] at z; cases z⟩
    refine law_at g ha hi hl hr t (fun _ => hk') (fun b u z => ?_) (.inl (.inr ⟨{ cls := .type "list", data := .seq vs.toArray }, (if_neg aT).trans (if_pos rfl)⟩)) F hbind hsp
    by_cases hb : b ∈ cs.map (·.2)
    · have z : some (HO.tbl #[]) = some u := (if_pos hb).symm.trans z
      cases z
      exact g.isTab hb
    · have z := (if_neg hb).symm.trans z
      by_cases hba : b = a
      · have z := (if_pos hba).symm.trans z
        cases z
        subst hba
        exact ⟨ha, by rw [List.length_map]; exact hl, vs, _, rv, ha⟩
      · have z : none = some u := (if_neg hba).symm.trans z
        cases z
end
end PB
set_option maxHeartbeats 4000000
/-! Hf: from what the head tells to the promises of all defs. -/
namespace PB
open PySem PySem.Spec PyProof.Rows L2 LamX
theorem lookup_zip {α : Type} : ∀ {ps : List Str} {us : List α}, us.length = ps.length → ∀ n ∈ ps, ((ps.zip us).lookup n).isNone = false
  | p :: ps, u :: us, h, n, hm => by
    rw [List.zip_cons_cons, List.lookup_cons]
    split
    · rfl
    · rename_i q
      have hm : n ∈ ps := (List.mem_cons.mp hm).resolve_left fun z => by rw [z] at q; simp at q
      exact lookup_zip (by simpa using h) n hm
  | [], _, _, n, hm => by cases hm
  | _ :: _, [], h, _, _ => by simp at h
theorem fm_congr {α β : Type} {f g : α → Option β} : ∀ {l : List α}, (∀ x ∈ l, f x = g x) → l.filterMap f = l.filterMap g
  | [], _ => rfl
  | a :: l, h => by rw [List.filterMap_cons, List.filterMap_cons, h a List.mem_cons_self, fm_congr fun x hx => h x (List.mem_cons_of_mem _ hx)]
theorem filterMap_zip {α : Type} : ∀ {ps : List Str} {us : List α}, us.length = ps.length → ps.Nodup → ps.filterMap (fun n => ((ps.zip us).lookup n).map fun v => (n, v)) = ps.zip us
  | [], [], _, _ => rfl
  | p :: ps, u :: us, h, nd => by
    obtain ⟨h1, h2⟩ := List.nodup_cons.mp nd
    rw [List.zip_cons_cons, List.filterMap_cons, List.lookup_cons_self]
    have e : ps.filterMap (fun n => (((p, u) :: ps.zip us).lookup n).map fun v => (n, v)) = ps.zip us := by
      rw [← filterMap_zip (us := us) (by simpa using h) h2]
      refine fm_congr fun n hn => ?_
      have : (n == p) = false := by
        cases q : n == p with
        | false => rfl
        | true => exact absurd (beq_iff_eq.mp q ▸ hn) h1
      rw [List.lookup_cons, this]
      rw [filterMap_zip (us := us) (by simpa using h) h2]
    show (p, u) :: _ = _
    rw [e]
  | [], _ :: _, h, _ => by simp at h
  | _ :: _, [], h, _ => by simp at h
theorem bind_plain {fd : FuncData} {args : List Arg} (hp : fd.params = ⟨[], args, none, [], [], none, []⟩) (hd : fd.defaults = .none) {us : List Value} (hl : us.length = (args.map (·.arg)).length) (nd : (args.map (·.arg)).Nodup) : bindArgs fd ⟨us, []⟩ = pure ((args.map (·.arg)).zip us) := by
  have hf : ((args.map (·.arg)).filter fun n => (((args.map (·.arg)).zip us).lookup n).isNone) = [] := by
    rw [List.filter_eq_nil_iff]
    intro n hn
    rw [lookup_zip hl n hn]
    exact Bool.false_ne_true
  unfold bindArgs
  simp only [hp, hd, List.map_nil, List.nil_append]
  have e1 : (seqItems? Value.none) = (pure none : Sem (Option (Array Value))) := rfl
  rw [e1]
  have e2 : ¬ (us.length > (args.map (·.arg)).length) := by omega
  simp only [pure_bind, Option.getD_none, List.forIn_nil, List.drop_nil, List.length_nil, Nat.sub_zero, List.take_length, hf, List.isEmpty_nil, Bool.not_true, Bool.false_eq_true, if_false, List.zip_nil_right, e2, decide_false, Bool.false_and, List.append_nil, List.drop_length]
  rw [filterMap_zip hl nd]
def argN (st : Stmt) : List Str := (defAr st).args.map (·.arg)
def plainA (a : Arguments) : Bool := a.posonlyargs.isEmpty && a.vararg.isNone && a.kwonlyargs.isEmpty && a.kw_defaults.isEmpty && a.kwarg.isNone && a.defaults.isEmpty
theorem plainA_eq {a : Arguments} (h : plainA a = true) : a = ⟨[], a.args, none, [], [], none, []⟩ := by
  obtain ⟨po, ar, va, ko, kd, kw, df⟩ := a
  simp only [plainA, Bool.and_eq_true, List.isEmpty_iff, Option.isNone_iff_eq_none] at h
  obtain ⟨⟨⟨⟨⟨rfl, rfl⟩, rfl⟩, rfl⟩, rfl⟩, rfl⟩ := h
  rfl
def fsB (N ps : List Str) (sc : Scope) : Bool :=
  decide (sc.kind = .function) && !sc.isCoroutine && !sc.isGenerator && decide N.Nodup && decide (N.take ps.length = ps) && ps.all (fun x => decide (sc.names.lookup x = some .local) || decide (sc.names.lookup x = some .cell)) && sc.names.all fun y => !decide (y.2 = .free)
theorem fsB_ok {N ps : List Str} {sc : Scope} (h : fsB N ps sc = true) : FnScope N ps sc := by
  unfold fsB at h
  simp only [Bool.and_eq_true, decide_eq_true_eq, Bool.not_eq_true', List.all_eq_true, Bool.or_eq_true, decide_eq_false_iff_not] at h
  obtain ⟨⟨⟨⟨⟨⟨h1, h2⟩, h3⟩, h4⟩, h5⟩, h6⟩, h7⟩ := h
  exact ⟨h1, h2, h3, h4, h5, h6, h7⟩
theorem bindsD {K : PySem.W.Frag} {x q : Str} {a : Arguments} {body : List Stmt} {scope : Scope} {f : Addr} {fd : FuncData} (F : FunD K x q a body scope [] [] f fd) (hp : plainA a = true) (nd : (a.args.map (·.arg)).Nodup) : Binds K fd (a.args.map (·.arg)) [] :=
  F.bindsN fun kV doc pm an cdv ct us hl => bind_plain (plainA_eq hp) rfl hl nd
/-- what is held of a def's text and code together -/
structure DefOk (p : Pr) (f : Nat) (st : Stmt) (d : DefI) (N : List Str) : Prop where
  hst : p.dfs[f]? = some st
  hdf : p.T.defs[f]? = some d
  hnm : p.nms[f]? = some N
  pl : plainA (defAr st) = true
  fs : FnScope N (argN st) (defSc st)
  ln : N.length = d.ks.length
  np : d.np ≤ d.ks.length
  an : (argN st).length = d.np
  nd : (argN st).Nodup
  ck : p.ckB f = true
def defB (p : Pr) (f : Nat) : Bool := match p.dfs[f]?, p.T.defs[f]?, p.nms[f]? with
  | some st, some d, some N => plainA (defAr st) && fsB N (argN st) (defSc st) && decide (N.length = d.ks.length) && decide (d.np ≤ d.ks.length) && decide ((argN st).length = d.np) && decide (argN st).Nodup && p.ckB f
  | _, _, _ => false
theorem defB_ok {p : Pr} {f : Nat} (h : defB p f = true) : ∃ st d N, DefOk p f st d N := by
  unfold defB at h
  split at h
  · rename_i st d N h1 h2 h3
    simp only [Bool.and_eq_true, decide_eq_true_eq] at h
    obtain ⟨⟨⟨⟨⟨⟨a1, a2⟩, a3⟩, a4⟩, a5⟩, a6⟩, a7⟩ := h
    exact ⟨st, d, N, h1, h2, h3, a1, fsB_ok a2, a3, a4, a5, a6, a7⟩
  · cases h
/-- a def that calls what it is given -/
structure MetD (p : Pr) (f : Nat) (st : Stmt) (d : DefI) (N : List Str) (a : Str) (p1 p2 p3 p8 : Pos) (h0 : ExceptHandler) (hds : List ExceptHandler) (l : List HC) : Prop where
  hst : p.dfs[f]? = some st
  hdf : p.T.defs[f]? = some d
  pl : plainA (defAr st) = true
  an : argN st = [a]
  fs : FnScope N [a] (defSc st)
  n0 : N[0]? = some a
  va : Vis (defSc st) a
  da : (a == ("__debug__" : Str)) = false
  ca : (a == ("__classdict__" : Str)) = false
  body : defBd st = [.Try [.Return (some (.Call (.Name a p1) [] [] p2)) p3] (h0 :: hds) [] [] p8]
  code : d.code = .tryx (.ret (.callv 0)) (mkH l)
  hb : hdB p.cls p.T.xin N (defSc st) l (h0 :: hds) = true
  one : ∀ q ∈ l, ∀ a, p.T.sub a q.1 = true → a = q.1
def tryT : List Stmt → Option (Str × Pos × Pos × Pos × Pos × ExceptHandler × List ExceptHandler)
  | [.Try [.Return (some (.Call (.Name a p1) [] [] p2)) p3] (h0 :: hds) [] [] p8] => some (a, p1, p2, p3, p8, h0, hds)
  | _ => none
theorem tryT_eq {b : List Stmt} {a : Str} {p1 p2 p3 p8 : Pos} {h0 : ExceptHandler} {hds : List ExceptHandler} (h : tryT b = some (a, p1, p2, p3, p8, h0, hds)) : b = [.Try [.Return (some (.Call (.Name a p1) [] [] p2)) p3] (h0 :: hds) [] [] p8] := by
  unfold tryT at h
  split at h <;> cases h
  rfl
def tryC : PB.C → Option (List HC)
  | .tryx (.ret (.callv 0)) h => hC h
  | _ => none
theorem tryC_eq {c : PB.C} {l : List HC} (h : tryC c = some l) : c = .tryx (.ret (.callv 0)) (mkH l) := by
  unfold tryC at h
  split at h
  · rw [hC_eq h]
  · cases h
def metB (p : Pr) (f : Nat) : Bool := match p.dfs[f]?, p.T.defs[f]?, p.nms[f]? with
  | some st, some d, some N => (match tryT (defBd st), tryC d.code with
    | some (a, _, _, _, _, h0, hds), some l => plainA (defAr st) && decide (argN st = [a]) && fsB N [a] (defSc st) && decide (N[0]? = some a) && decide ((defSc st).names.lookup a = some .local) && !(a == ("__debug__" : Str)) && !(a == ("__classdict__" : Str)) && hdB p.cls p.T.xin N (defSc st) l (h0 :: hds)
    | _, _ => false)
  | _, _, _ => false
theorem metB_ok {p : Pr} {f : Nat} (h : metB p f = true) (hone : ∀ d l, p.T.defs[f]? = some d → tryC d.code = some l → ∀ q ∈ l, ∀ a, p.T.sub a q.1 = true → a = q.1) : ∃ st d N a p1 p2 p3 p8 h0 hds l, MetD p f st d N a p1 p2 p3 p8 h0 hds l := by
  unfold metB at h
  split at h
  · rename_i st d N h1 h2 h3
    split at h
    · rename_i a p1 p2 p3 p8 h0 hds l g1 g2
      simp only [Bool.and_eq_true, decide_eq_true_eq, Bool.not_eq_true'] at h
      obtain ⟨⟨⟨⟨⟨⟨⟨a1, a2⟩, a3⟩, a4⟩, a5⟩, a6⟩, a7⟩, a8⟩ := h
      exact ⟨st, d, N, a, p1, p2, p3, p8, h0, hds, l, h1, h2, a1, a2, fsB_ok a3, a4, .inl a5, a6, a7, tryT_eq g1, tryC_eq g2, a8, hone d l h2 g2⟩
    · cases h
  · cases h
/-- an __init__ -/
structure IniD (p : Pr) (x : Str) (c : Nat) (st : Stmt) : Prop where
  pl : plainA (defAr st) = true
  an : argN st = ("self" : Str) :: p.T.xin c
  fs : FnScope (("self" : Str) :: p.T.xin c) (("self" : Str) :: p.T.xin c) (defSc st)
  ib : iniB (p.T.xin c) (defBd st) = true
  ne : p.T.xin c ≠ []
  nm : ∀ g ∈ p.T.xin c, nmB (defSc st) g = true
  s0 : nmB (defSc st) "self" = true
  nd : (p.T.xin c).Nodup
  ln : (p.T.xin c).length ≤ 900
  dn : defNm st = "__init__"
def inisB (p : Pr) : Bool := p.inis.all fun q => plainA (defAr q.2.2) && decide (argN q.2.2 = ("self" : Str) :: p.T.xin q.2.1) && fsB (("self" : Str) :: p.T.xin q.2.1) (("self" : Str) :: p.T.xin q.2.1) (defSc q.2.2) && iniB (p.T.xin q.2.1) (defBd q.2.2) && !(p.T.xin q.2.1).isEmpty && (p.T.xin q.2.1).all (nmB (defSc q.2.2)) && nmB (defSc q.2.2) "self" && decide (p.T.xin q.2.1).Nodup && decide ((p.T.xin q.2.1).length ≤ 900) && decide (defNm q.2.2 = "__init__")
theorem inisB_ok {p : Pr} (h : inisB p = true) {x : Str} {c : Nat} {st : Stmt} (hm : (x, c, st) ∈ p.inis) : IniD p x c st := by
  have h := List.all_eq_true.mp h _ hm
  simp only [Bool.and_eq_true, decide_eq_true_eq, Bool.not_eq_true', List.all_eq_true] at h
  obtain ⟨⟨⟨⟨⟨⟨⟨⟨⟨a1, a2⟩, a3⟩, a4⟩, a5⟩, a6⟩, a7⟩, a8⟩, a9⟩, a10⟩ := h
  exact ⟨a1, a2, fsB_ok a3, a4, (fun z => by rw [z] at a5; cases a5), a6, a7, a8, a9, a10⟩
/-- a program's checks, all of them -/
structure PrOk (p : Pr) : Prop where
  defs : ∀ f x, p.fns0[f]? = some (x, f) → isTry (p.code f) = false → defB p f = true
  mets : ∀ x f, p.mets.lookup x = some f → ∃ st d N a p1 p2 p3 p8 h0 hds l, MetD p f st d N a p1 p2 p3 p8 h0 hds l ∧ defNm st = x
  inis : inisB p = true
end PB
set_option maxHeartbeats 4000000
/-! Hg: every def keeps its promise. -/
namespace PB
open PySem PySem.Spec PyProof.Rows L2 LamX
def lamNm (x : Str) : Str := x ++ ".<locals>." ++ "<lambda>"
/-- what is known of the program's objects -/
structure Fx (p : Pr) (K : PySem.W.Frag) (mg : Str → Option Value) (base : Heap) (tb : List (Addr × Str)) : Prop where
  gl : ∀ st ∈ p.dfs, mg (defNm st) = some (.ref (He.ga K (defNm st)))
  fd : ∀ st ∈ p.dfs, ∃ fd, FunD K (defNm st) (defNm st) (defAr st) (defBd st) (defSc st) [] [] (He.ga K (defNm st)) fd
  free : ∀ x ∈ p.free, mg x = none
  cls : ∀ q ∈ p.inis, mg q.1 = some (.ref (He.ga K q.1)) ∧ OexC K (He.ga K q.1) ∧ XfC K (He.ga K q.1) ∧ (∀ g ∈ p.T.xin q.2.1, PySem.W.findIn K (.ref (He.ga K q.1)) g = some none) ∧ ∃ fI fd, PySem.W.findIn K (.ref (He.ga K q.1)) "__init__" = some (some (.ref fI)) ∧ PySem.W.typeIn K (.ref fI) = some (.type "function") ∧ FunD K "__init__" (q.1 ++ ".__init__") (defAr q.2.2) (defBd q.2.2) (defSc q.2.2) [] [] fI fd
  pos : ∀ q ∈ p.inis, p.clsN[q.2.1]? = some q.1
  sub : ∀ q ∈ p.inis, ∀ (a : Nat) (y : Str), p.clsN[a]? = some y → PySem.W.exmOne K (.ref (He.ga K y)) (.ref (He.ga K q.1)) = some (p.T.sub a q.2.1)
  lam : ∀ (f : Nat) (st : Stmt), p.dfs[f]? = some st → (p.lms[f]?).getD false = true → ∀ fd, FunD K (defNm st) (defNm st) (defAr st) (defBd st) (defSc st) [] [] (He.ga K (defNm st)) fd → ∃ c P, fd.code = .ref c ∧ TabB base mg c P ∧ (P, lamNm (defNm st)) ∈ tb ∧ ∀ q ∈ tb, q.1 = P → q.2 = lamNm (defNm st)
def cAof (p : Pr) (K : PySem.W.Frag) (c : Nat) : Option Addr := (p.clsN[c]?).map (He.ga K)
def dlt (p : Pr) (K : PySem.W.Frag) (tb : List (Addr × Str)) : Ctx := ⟨p.T, K, tb, cAof p K, fun g => (p.fq[g]?).getD false⟩
theorem lookup_in {l : List (Str × Nat)} {x : Str} {y : Nat} (h : l.lookup x = some y) : (x, y) ∈ l := PySem.mem_of_lookup h
section
variable {p : Pr} {K : PySem.W.Frag} {mg : Str → Option Value} {base : Heap} {tb : List (Addr × Str)} {P : Program} {w : World}
theorem fns0_get {x : Str} {f : Nat} (h : (x, f) ∈ p.fns0) : ∃ st, p.dfs[f]? = some st ∧ defNm st = x ∧ st ∈ p.dfs := by
  unfold Pr.fns0 at h
  obtain ⟨i, hi, e⟩ := List.mem_iff_getElem.mp h
  rw [List.getElem_zip, List.getElem_map, List.getElem_range] at e
  have e1 := congrArg Prod.fst e
  have e2 := congrArg Prod.snd e
  have e2 : i = f := e2
  subst e2
  have hl : i < p.dfs.length := by
    rw [List.length_zip, List.length_map, List.length_range, Nat.min_self] at hi
    exact hi
  exact ⟨p.dfs[i], List.getElem?_eq_getElem hl, e1, List.getElem_mem hl⟩
theorem Fx.clsK (F : Fx p K mg base tb) : ClsK K mg p.cls p.T.xin (fun c => (cAof p K c).getD 0) := by
  intro x c h
  have hm := lookup_in h
  unfold Pr.cls at hm
  obtain ⟨q, hq, e⟩ := List.mem_map.mp hm
  cases e
  obtain ⟨h1, h2, h3, h4, _⟩ := F.cls q hq
  have e : (cAof p K q.2.1).getD 0 = He.ga K q.1 := by
    unfold cAof
    rw [F.pos q hq]
    rfl
  show mg q.1 = some (.ref ((cAof p K q.2.1).getD 0)) ∧ XfC K ((cAof p K q.2.1).getD 0) ∧ ∀ g ∈ p.T.xin q.2.1, PySem.W.findIn K (.ref ((cAof p K q.2.1).getD 0)) g = some none
  rw [e]
  exact ⟨h1, h3, h4⟩
/-- the context of a def's body -/
theorem cok_of (F : Fx p K mg base tb) (O : PrOk p) {n f : Nat} {st : Stmt} {d : DefI} {N : List Str} (D : DefOk p f st d N) {fd : FuncData} (hfd : FunD K (defNm st) (defNm st) (defAr st) (defBd st) (defSc st) [] [] (He.ga K (defNm st)) fd) {A : Around} {outer : List Env} {s : Shared} {H : Hp} {E : XK} {fa : Addr}
    (gd : (p.gdf[f]?).getD true = true → A.guards = some []) (hr : Room (3 * n + 3) A)
    (ih : ∀ x g, p.fns.lookup x = some g → ∃ ad fd ps, mg x = some (.ref ad) ∧ PySem.W.keepIn K (.ref ad) = true ∧ Binds K fd ps [] ∧ FnG P w K mg base ((p.gdf[g]?).getD true) (3 * n) ad fd ps (spI (dlt p K tb) n g)) :
    Cok (dlt p K tb) n (p.sx f) (gmOf (dlt p K tb) d) (cxOf (L2.CX P w) P w K mg base N (defNm st) (defSc st) fa fd.code A outer s H E) (fun cls od _ H' => E cls od H') (gOf (dlt p K tb) n d none) where
  hN := by
    show N = (p.nms[f]?).getD []
    rw [D.hnm]
    rfl
  nd := D.fs.nd
  sc := by
    show defSc st = (p.dfs[f]?).elim _ defSc
    rw [D.hst]
    rfl
  fn := fun _ _ => rfl
  calm := fun _ => rfl
  gd := fun h => gd h
  hu := by
    have := hr.un
    show A.units + 3 + 100 < cLine
    omega
  room := fun _ => (hr.deeper _).mono (by omega)
  roomT := fun _ _ => hr.deeper _
  fns := ih
  cls := fun x c h => by
    have hm := lookup_in h
    unfold Pr.sx Pr.cls at hm
    obtain ⟨q, hq, e⟩ := List.mem_map.mp hm
    cases e
    obtain ⟨h1, h2, h3, h4, fI, fdI, h5, h6, h7⟩ := F.cls q hq
    have I := inisB_ok O.inis hq
    obtain ⟨oc, od, dV, kV, doc, pm, an, cdv, ct, osl, e1, lk, hcd, _, _⟩ := id h7.ex
    refine ⟨He.ga K q.1, fI, fdI, ("self" : Str) :: p.T.xin q.2.1, ?_, h1, h2, h5, h6, ?_, ?_⟩
    · show cAof p K q.2.1 = _
      unfold cAof
      rw [F.pos q hq]
      rfl
    · subst e1
      exact ini_ok lk hcd I.fs h2 I.ib I.ne (fun g hg => ⟨I.nm g hg, h4 g hg⟩) I.s0 I.nd I.ln 0
    · have := bindsD h7 I.pl (show ((defAr q.2.2).args.map (·.arg)).Nodup by
        have : argN q.2.2 = ("self" : Str) :: p.T.xin q.2.1 := I.an
        unfold argN at this
        rw [this]
        have := I.fs.nd
        exact this)
      have e : (defAr q.2.2).args.map (·.arg) = ("self" : Str) :: p.T.xin q.2.1 := I.an
      rw [e] at this
      exact this
  gxin := rfl
  clsK := F.clsK
  csub := fun y c h a Ca hC => by
    have hm := lookup_in h
    unfold Pr.sx Pr.cls at hm
    obtain ⟨q, hq, e⟩ := List.mem_map.mp hm
    cases e
    have hC : (p.clsN[a]?).map (He.ga K) = some Ca := hC
    obtain ⟨z, h1, h2⟩ := Option.map_eq_some_iff.mp hC
    subst h2
    have e : cAd (gmOf (dlt p K tb) d) q.2.1 = He.ga K q.1 := by
      show (cAof p K q.2.1).getD 0 = _
      unfold cAof
      rw [F.pos q hq]
      rfl
    rw [e]
    exact F.sub q hq a z h1
  mets := fun x g h => by
    obtain ⟨st', d', N', a, p1, p2, p3, p8, h0, hds, l, M, hx⟩ := O.mets x g h
    have hm : st' ∈ p.dfs := List.mem_of_getElem? M.hst
    obtain ⟨fd', hfd'⟩ := F.fd st' hm
    have hb := bindsD hfd' M.pl (show ((defAr st').args.map (·.arg)).Nodup by
      have : (defAr st').args.map (·.arg) = [a] := M.an
      rw [this]
      simp)
    have e : (defAr st').args.map (·.arg) = [a] := M.an
    rw [e] at hb
    have hg := F.gl st' hm
    have hk := hfd'.kp
    obtain ⟨oc, od, dV, kV, doc, pm, an, cdv, ct, osl, e1, lk, hcd, _, _⟩ := id hfd'.ex
    subst e1
    rw [M.body] at lk hb
    subst hx
    exact .mk hg hk lk hcd hb M.fs M.n0 M.fs.nd M.va M.da M.ca M.hdf M.code M.hb M.one
  lamT := fun h => by
    obtain ⟨c, Pt, h1, h2, h3, h4⟩ := F.lam f st D.hst h fd hfd
    exact ⟨c, Pt, h2, h1, h3, h4⟩
  glb := fun x h => F.free x (List.contains_iff_mem.mp h)
  gks := by
    show d.ks = (p.T.defs[f]?).elim [] (·.ks)
    rw [D.hdf]
    rfl
  Γks := by
    show d.ks = (p.T.defs[f]?).elim [] (·.ks)
    rw [D.hdf]
    rfl
  Γnp := by
    show d.np = (p.T.defs[f]?).elim 0 (·.np)
    rw [D.hdf]
    rfl
  ΓT := rfl
  ΓK := rfl
  ΔK := rfl
  ΓC := rfl
  gcf := rfl
  ginf := rfl
  Δkk := rfl
  Δfq := rfl
  xo := fun i a dx ds z => by cases z
  lam := fun _ => rfl
  tk := takes_of rfl rfl rfl rfl
theorem funD_uniq {x q : Str} {a : Arguments} {b : List Stmt} {sc : Scope} {f : Addr} {fd fd' : FuncData} (h : FunD K x q a b sc [] [] f fd) (h' : FunD K x q a b sc [] [] f fd') : fd' = fd := by
  obtain ⟨_, _, _, _, _, _, _, _, _, _, _, r, _⟩ := h.ex
  obtain ⟨_, _, _, _, _, _, _, _, _, _, _, r', _⟩ := h'.ex
  rw [r] at r'
  cases r'
  rfl
theorem fns_in {x : Str} {g : Nat} (h : p.fns.lookup x = some g) : (x, g) ∈ p.fns0 ∧ isTry (p.code g) = false := by
  have hm := lookup_in h
  unfold Pr.fns at hm
  obtain ⟨h1, h2⟩ := List.mem_filter.mp hm
  exact ⟨h1, by simpa using h2⟩
/-- all of them -/
theorem all_fnG (F : Fx p K mg base tb) (O : PrOk p) (hdef : ∀ x f, (x, f) ∈ p.fns0 → isTry (p.code f) = false → defB p f = true) : ∀ n x g, (x, g) ∈ p.fns0 → isTry (p.code g) = false → ∃ fd ps st, FunD K (defNm st) (defNm st) (defAr st) (defBd st) (defSc st) [] [] (He.ga K x) fd ∧ p.dfs[g]? = some st ∧ ps = argN st ∧ mg x = some (.ref (He.ga K x)) ∧ PySem.W.keepIn K (.ref (He.ga K x)) = true ∧ Binds K fd ps [] ∧ FnG P w K mg base ((p.gdf[g]?).getD true) (3 * n) (He.ga K x) fd ps (spI (dlt p K tb) n g)
  | 0, x, g, h1, h2 => by
    obtain ⟨st, d, N, D⟩ := defB_ok (hdef x g h1 h2)
    obtain ⟨st', e1, e2, e3⟩ := fns0_get h1
    rw [D.hst] at e1
    cases e1
    obtain ⟨fd, hfd⟩ := F.fd st e3
    subst e2
    refine ⟨fd, _, st, hfd, D.hst, rfl, F.gl st e3, hfd.kp, bindsD hfd D.pl D.nd, fun vs H Q E z => ?_, fun A outer s H args us vs Q E _ _ _ _ _ z => ?_⟩ <;> (obtain ⟨Z, ds, _, z⟩ := z; exact z.elim)
  | n + 1, x, g, h1, h2 => by
    obtain ⟨st, d, N, D⟩ := defB_ok (hdef x g h1 h2)
    obtain ⟨st', e1, e2, e3⟩ := fns0_get h1
    rw [D.hst] at e1
    cases e1
    obtain ⟨fd, hfd⟩ := F.fd st e3
    subst e2
    have ih : ∀ x g, p.fns.lookup x = some g → ∃ ad fd ps, mg x = some (.ref ad) ∧ PySem.W.keepIn K (.ref ad) = true ∧ Binds K fd ps [] ∧ FnG P w K mg base ((p.gdf[g]?).getD true) (3 * n) ad fd ps (spI (dlt p K tb) n g) := fun x g h => by
      obtain ⟨k1, k2⟩ := fns_in h
      obtain ⟨fd, ps, st, _, _, _, a1, a2, a3, a4⟩ := all_fnG F O hdef n x g k1 k2
      exact ⟨_, fd, ps, a1, a2, a3, a4⟩
    refine ⟨fd, _, st, hfd, D.hst, rfl, F.gl st e3, hfd.kp, bindsD hfd D.pl D.nd, ?_⟩
    obtain ⟨oc, od, dV, kV, doc, pm, an, cdv, ct, osl, e1, lk, hcd, _, _⟩ := id hfd.ex
    have hfd' := hfd
    subst e1
    refine fnG_of (k := 3 * n + 2) lk hcd D.fs (fun vs H Q E z => ?_) fun A outer s H vs Q E hg hr z => ?_
    · obtain ⟨Z, ds, a, _⟩ := z
      rw [a.lv]
      unfold Ctx.kk
      rw [show (dlt p K tb).T.defs[g]? = some d from D.hdf]
      show (d.ks.take d.np).length = _
      rw [List.length_take, D.an]
      have := D.np
      omega
    · have CK := cok_of (P := P) (w := w) F O D hfd' (A := A) (outer := outer) (s := s) (H := H) (E := E) (fa := He.ga K (defNm st)) hg hr ih
      refine ⟨_, ?_, body_spec D.hdf D.np D.ln z⟩
      have hc := D.ck
      unfold Pr.ckB at hc
      have eb : p.body g = defBd st := by unfold Pr.body; rw [D.hst]; rfl
      have ec : p.code g = d.code := by unfold Pr.code; rw [D.hdf]; rfl
      rw [eb, ec] at hc
      have hc' : (match defBd st with | [s] => chk d.code (p.sx g) (.S s) | _ => chk d.code (p.sx g) (.Ss (defBd st))) = true := by
        revert hc
        generalize defBd st = b
        intro hc
        match b, hc with
        | [], hc => exact hc
        | [_], hc => exact hc
        | _ :: _ :: _, hc => exact hc
      exact good_body (good d.code) CK (fun _ => passes_of rfl) hc'
end
end PB
set_option maxHeartbeats 4000000
/-! Hh: what the head tells, and the law's end. -/
namespace PB
open PySem PySem.Spec PyProof.Rows L2 LamX
/-- an exception class's object -/
def oexO (C : Addr) : Option Obj → Bool
  | some ⟨.type t, _, .cls cd, ⟨[_, _, _, _, some (.builtin n), _]⟩⟩ => (t == "type") && (n == "ValueError.__new__") && cd.hasDict && !cd.hasDel && (match cd.mro with
    | .ref C' :: bm => decide (C' = C) && PySem.HandSPX.refsVE bm
    | _ => false)
  | _ => false
theorem oexO_ok {C : Addr} {o : Option Obj} (h : oexO C o = true) : ∃ nm q N bs bm sn sub ab col dd k0 k1 k2 k3 k5, o = some (excClassObj nm q C N bs bm true sn sub ab col dd k0 k1 k2 k3 k5 "ValueError.__new__") ∧ PySem.HandSPX.refsVE bm = true := by
  unfold oexO at h
  split at h
  · rename_i t dd cd k0 k1 k2 k3 n k5
    simp only [Bool.and_eq_true, beq_iff_eq, Bool.not_eq_true'] at h
    obtain ⟨⟨⟨⟨rfl, rfl⟩, h3⟩, h4⟩, h5⟩ := h
    obtain ⟨nm, bs, mro, ns, qn, hd, sn, sub, ab, col, del⟩ := cd
    dsimp only at h3 h4 h5
    subst h3 h4
    split at h5
    · rename_i C' bm
      simp only [Bool.and_eq_true, decide_eq_true_eq] at h5
      obtain ⟨rfl, h6⟩ := h5
      exact ⟨nm, qn, ns, bs, bm, sn, sub, ab, col, dd, k0, k1, k2, k3, k5, rfl, h6⟩
    · cases h5
  · cases h
def oexB (K : PySem.W.Frag) (C : Addr) : Bool := oexO C (K.lookup C) && decide (PySem.W.findIn K (.ref C) "__setattr__" = some (some (.builtin "object.__setattr__"))) && decide (PySem.W.subIn K (.ref C) (.type "BaseException") = some true) && decide (PySem.W.typeIn K (.ref C) = some (.type "type")) && PySem.W.keepIn K (.ref C)
theorem oexB_ok {K : PySem.W.Frag} {C : Addr} (h : oexB K C = true) : OexC K C := by
  unfold oexB at h
  simp only [Bool.and_eq_true, decide_eq_true_eq] at h
  obtain ⟨⟨⟨⟨h1, h2⟩, h3⟩, h4⟩, h5⟩ := h
  exact ⟨oexO_ok h1, h2, h3, h4, h5⟩
/-! what the head is asked -/
def dOf (st : Stmt) : He.DefD := ⟨(defNm st, none), defNm st, defNm st, defAr st, defBd st, defSc st, [], []⟩
def iOf (q : Str × Nat × Stmt) : He.DefD := ⟨(q.1, some "__init__"), "__init__", q.1 ++ ".__init__", defAr q.2.2, defBd q.2.2, defSc q.2.2, [], []⟩
def Pr.fa (p : Pr) : List He.Fa := p.dfs.map (fun st => .glo (defNm st)) ++ (p.inis.map (fun q => .glo q.1) ++ p.free.map .free)
def Pr.fn (p : Pr) : List He.DefD := p.dfs.map dOf ++ p.inis.map iOf
def Pr.tf (p : Pr) : List He.Defn := (p.fns0.filter fun q => (p.lms[q.2]?).getD false).map fun q => (q.1, none)
def clsB (p : Pr) (K : PySem.W.Frag) (q : Str × Nat × Stmt) : Bool :=
  oexB K (He.ga K q.1) && xfB K (He.ga K q.1) && (p.T.xin q.2.1).all (fun g => decide (PySem.W.findIn K (.ref (He.ga K q.1)) g = some none)) && decide (PySem.W.findIn K (.ref (He.ga K q.1)) "__init__" = some (some (.ref (He.ma K (He.ga K q.1) "__init__")))) && decide (PySem.W.typeIn K (.ref (He.ma K (He.ga K q.1) "__init__")) = some (.type "function")) &&
    (p.clsN.zip (List.range p.clsN.length)).all fun z => decide (PySem.W.exmOne K (.ref (He.ga K z.1)) (.ref (He.ga K q.1)) = some (p.T.sub z.2 q.2.1))
def Pr.ex (p : Pr) (K : PySem.W.Frag) : Bool := p.inis.all (clsB p K)
def posB (p : Pr) : Bool := p.inis.all (fun q => decide (p.clsN[q.2.1]? = some q.1)) && decide (p.tf.length ≤ 1)
def tbOf (p : Pr) (K : PySem.W.Frag) : List (Addr × Str) := p.tf.map fun q => ((He.cT K q).2, lamNm q.1)
section
variable {p : Pr} {K : PySem.W.Frag} {mg : Str → Option Value} {base h : Heap} {w : World}
theorem zip_range {α : Type} {l : List α} {i : Nat} {x : α} (h : l[i]? = some x) : (x, i) ∈ l.zip (List.range l.length) := by
  obtain ⟨hi, e⟩ := List.getElem?_eq_some_iff.mp h
  refine List.mem_iff_getElem.mpr ⟨i, by simp [hi], ?_⟩
  rw [List.getElem_zip, List.getElem_range, e]
theorem fx_of (X : K.In h) (G : h.Ns mainGlobals mg) (c : He.SaysX p.fa p.fn [] p.tf p.ex w h K) (hp : posB p = true) (TB : ∀ q ∈ p.tf.map (He.cT K), TabB base mg q.1 q.2) : Fx p K mg base (tbOf p K) := by
  have cd : He.SaysD p.fa p.fn K := congrArg Prod.fst c.t
  obtain ⟨hp1, hp2⟩ := (Bool.and_eq_true _ _).mp hp
  have hpos : ∀ q ∈ p.inis, p.clsN[q.2.1]? = some q.1 := fun q hq => of_decide_eq_true (List.all_eq_true.mp hp1 q hq)
  have hc : ∀ q ∈ p.inis, clsB p K q = true := fun q hq => List.all_eq_true.mp c.more q hq
  refine ⟨fun st hst => ?_, fun st hst => ?_, fun x hx => ?_, fun q hq => ?_, hpos, fun q hq a y hy => ?_, fun f st hst hl fd hfd => ?_⟩
  · exact He.glo_ok X G (cd.facts (List.mem_append_left _ (List.mem_map.mpr ⟨st, hst, rfl⟩)))
  · exact cd.defs (d := dOf st) (List.mem_append_left _ (List.mem_map.mpr ⟨st, hst, rfl⟩))
  · exact He.free_ok X G (cd.facts (List.mem_append_right _ (List.mem_append_right _ (List.mem_map.mpr ⟨x, hx, rfl⟩))))
  · have z := hc q hq
    unfold clsB at z
    simp only [Bool.and_eq_true, List.all_eq_true, decide_eq_true_eq] at z
    obtain ⟨⟨⟨⟨⟨z1, z2⟩, z3⟩, z4⟩, z5⟩, _⟩ := z
    obtain ⟨fd, hfd⟩ := cd.defs (d := iOf q) (List.mem_append_right _ (List.mem_map.mpr ⟨q, hq, rfl⟩))
    exact ⟨He.glo_ok X G (cd.facts (List.mem_append_right _ (List.mem_append_left _ (List.mem_map.mpr ⟨q, hq, rfl⟩)))), oexB_ok z1, xfB_ok z2, z3, _, fd, z4, z5, hfd⟩
  · have z := hc q hq
    unfold clsB at z
    simp only [Bool.and_eq_true, List.all_eq_true, decide_eq_true_eq] at z
    exact z.2 (y, a) (zip_range hy)
  · have hm : (defNm st, none) ∈ p.tf := by
      unfold Pr.tf
      refine List.mem_map.mpr ⟨(defNm st, f), List.mem_filter.mpr ⟨?_, hl⟩, rfl⟩
      unfold Pr.fns0
      obtain ⟨hi, e⟩ := List.getElem?_eq_some_iff.mp hst
      refine List.mem_iff_getElem.mpr ⟨f, by simp [hi], ?_⟩
      rw [List.getElem_zip, List.getElem_map, List.getElem_range, e]
    obtain ⟨oc, od, dV, kV, doc, pm, an, cdv, ct, osl, e1, lk, hcd, _, _⟩ := id hfd.ex
    obtain ⟨cc, ec⟩ := He.codeIn_ref hcd
    have e2 : fd.code = .ref cc := by rw [e1]; exact ec
    have e3 : He.codeOf K (defNm st, none) = cc := He.codeOf_eq (p := (defNm st, none)) lk e2
    have e4 : (He.cT K (defNm st, none)).1 = cc := e3
    refine ⟨cc, (He.cT K (defNm st, none)).2, e2, ?_, List.mem_map.mpr ⟨_, hm, rfl⟩, fun q hq _ => ?_⟩
    · rw [← e4]
      exact TB _ (List.mem_map.mpr ⟨_, hm, rfl⟩)
    · unfold tbOf at hq
      obtain ⟨z, hz, rfl⟩ := List.mem_map.mp hq
      have : z = (defNm st, none) := by
        have hl : p.tf.length ≤ 1 := of_decide_eq_true hp2
        revert hm hz hl
        generalize p.tf = tf
        intro hm hz hl
        match tf, hl, hm, hz with
        | [t], _, hm, hz => rw [List.mem_singleton.mp hm, List.mem_singleton.mp hz]
        | [], _, hm, _ => cases hm
        | _ :: _ :: _, hl, _, _ => simp at hl
      rw [this]
end
/-- the script handed to the law -/
theorem law_sp {p : Pr} {K : PySem.W.Frag} {n g : Nat} {d : DefI} (hd : p.T.defs[g]? = some d) (hk : d.ks.take d.np = [Kd.frz]) {H : Hp} {a : Addr} {ns : List Int} (hT : ∀ q ∈ p.tf.map (He.cT K), H q.2 = some (.tbl #[])) (nl : ∀ xs, H a ≠ some (.lst xs)) (hS : SqL K H a (ns.map V.int)) {o : List (Option PB.D)} (hc : callN p.T n g none [.lst (ns.map PB.D.int)] = some (.ok (.bl true) o)) :
    spI (dlt p K (tbOf p K)) n g [.ref a] H (fun v _ => v = .bl true) fun _ _ _ => False := by
  have kk : (dlt p K (tbOf p K)).kk g = [Kd.frz] := by
    unfold Ctx.kk
    rw [show (dlt p K (tbOf p K)).T.defs[g]? = some d from hd]
    exact hk
  refine ⟨fun _ => False, [.lst (ns.map PB.D.int)], ?_, ?_⟩
  · rw [kk]
    have one : ∀ {i : Nat} {k : Kd}, ([Kd.frz] : List Kd)[i]? = some k → i = 0 ∧ k = .frz := fun {i k} h => by
      cases i with
      | zero => cases h; exact ⟨rfl, rfl⟩
      | succ i => cases h
    refine ⟨rfl, rfl, fun i d v h => ?_, fun i d v h => ?_, fun i d v h => ?_, fun i d v h e1 e2 => ?_, fun i j a h => ?_, fun a h => h.elim, fun q hq => ?_⟩
    · cases (one h).2
    · cases (one h).2
    · cases (one h).2
    · obtain ⟨rfl, _⟩ := one h
      cases e1
      cases e2
      refine ⟨a, ns, rfl, rfl, ?_⟩
      rcases hS with (h | ⟨o, h⟩) | h
      · exact absurd h (nl _)
      · exact .inl ⟨o, h⟩
      · exact .inr (.inr h)
    · cases (one h).2
    · obtain ⟨z, hz, rfl⟩ := List.mem_map.mp hq
      exact TabS.nil (hT _ (List.mem_map.mpr ⟨z, hz, rfl⟩))
  · show outC _ _ _ _ _ _ _ (callN p.T n g none [.lst (ns.map PB.D.int)])
    rw [hc]
    exact fun v H' A => A.2.1
/-- the end -/
theorem walk_pr {l : PySem.W.OpenLaw} {p : Pr} {q : Program} {loose : List Str} {XP : (Str → Option Value) → Heap → Prop} {d : DefRec} {N g n : Nat} {st : Stmt} {di : DefI} {x : Str} {M : Nat}
    (hn : l.most = some N) (hn2 : N ≤ sizeLine) (hdf : d.params.defaults = []) (hr : Room (3 * n) callerA) (O : PrOk p) (hdef : ∀ x f, (x, f) ∈ p.fns0 → isTry (p.code f) = false → defB p f = true) (hp : posB p = true)
    (hg : (d.name, g) ∈ p.fns0) (ht : isTry (p.code g) = false) (hst : p.dfs[g]? = some st) (hx : argN st = [x]) (hpl : plainA (defAr st) = true) (hd : p.T.defs[g]? = some di) (hk : di.ks.take di.np = [Kd.frz])
    (hc : ∀ ns : List Int, ns.length ≤ N → (∀ k ∈ ns, Builtin.Int.intBits k ≤ 1048576) → ∃ o, callN p.T n g none [.lst (ns.map PB.D.int)] = some (.ok (.bl true) o)) :
    PySem.W.WalkO q loose XP (He.hookX M p.fa p.fn [] p.tf p.ex).says l.row.toRowW d [] (fun f vs => PySem.call f vs) := by
  refine Att.attach_callB hn hdf fun w s₀ s₁ mg mb fa o pm cd doc a vs ns G Y ho hd' hcd hmg hobj hints hlen hbits hgn => ?_
  obtain ⟨K, KX, c⟩ := Y
  have gr : Grnd K mg (p.tf.map (He.cT K)) s₁ := ⟨KX, G.T.g, ⟨mb, G.T.b, G.T.builtins⟩, G.T.nolimit, hgn, fun q hq => by obtain ⟨z, hz, rfl⟩ := List.mem_map.mp hq; exact c.empty z hz, fun q hq => by obtain ⟨z, hz, rfl⟩ := List.mem_map.mp hq; exact c.out z hz, fun q hq => by obtain ⟨z, hz, rfl⟩ := List.mem_map.mp hq; exact PySem.W.codeHd_of_K KX (c.hd z hz), G.T.bmain⟩
  obtain ⟨st', e1, e2, e3⟩ := fns0_get hg
  rw [hst] at e1
  cases e1
  have cd' : He.SaysD p.fa p.fn K := congrArg Prod.fst c.t
  obtain ⟨fd, hfd⟩ := cd'.defs (d := dOf st) (List.mem_append_left _ (List.mem_map.mpr ⟨st, e3, rfl⟩))
  have hga := He.glo_ok KX G.T.g (cd'.facts (List.mem_append_left _ (List.mem_map.mpr ⟨st, e3, rfl⟩)))
  have efa : fa = He.ga K d.name := by
    rw [← e2] at hmg ⊢
    have := hmg.symm.trans hga
    cases this
    rfl
  subst efa
  have F : ∀ base : Heap, K.In base → base.Ns mainGlobals mg → L2.Mod K mg base → (∀ q ∈ p.tf.map (He.cT K), TabB base mg q.1 q.2) → FnG l.prog w K mg base ((p.gdf[g]?).getD true) (3 * n) (He.ga K d.name) fd [x] (spI (dlt p K (tbOf p K)) n g) := fun base B N' M TB => by
    have FX : Fx p K mg base (tbOf p K) := fx_of KX G.T.g c hp TB
    obtain ⟨fd', ps, st'', q0, q1, q2, q3, q4, q5, q6⟩ := all_fnG (P := l.prog) (w := w) FX O hdef n d.name g hg ht
    rw [hst] at q1
    cases q1
    rw [q2, hx] at q6
    have hfd2 : FunD K (defNm st) (defNm st) (defAr st) (defBd st) (defSc st) [] [] (He.ga K d.name) fd := by
      rw [← e2]
      exact hfd
    have := funD_uniq hfd2 q0
    subst this
    exact q6
  have hb : ∀ (s : Shared) (u : Value), BindsTo s fd ⟨[u], []⟩ [(x, u)] := fun s u => by
    have e : (defAr st).args.map (·.arg) = [x] := hx
    have := FunD.bindsA (ps := [x]) hfd (fun kV doc pm an cdv ct us hl => by
      have := bind_plain (fd := PySem.W.fnOf (dOf st).name (dOf st).qual (dOf st).params (dOf st).body (dOf st).scope .none kV doc pm an cdv ct) (plainA_eq hpl) rfl (us := us) (by show us.length = ((defAr st).args.map (·.arg)).length; rw [e]; exact hl) (by show ((defAr st).args.map (·.arg)).Nodup; rw [e]; simp)
      have this : bindArgs _ ⟨us, []⟩ = pure (((defAr st).args.map (·.arg)).zip us) := this
      rw [e] at this
      exact this) s [u] rfl
    exact this
  obtain ⟨o', hc'⟩ := hc ns hlen hbits
  exact law_callG gr hobj hints (Nat.le_trans hlen hn2) hr F hb fun H hT nl hS => law_sp hd hk hT nl hS hc'
end PB
namespace K90
open PySem PB

/-- is_whole(value): value -/
def c_is_whole : C := .ret (.and (.isi .isinstInt (.var 0)) (.not (.isi .isinstBool (.var 0))))
def d_is_whole : DefI := ⟨[.shr], 1, c_is_whole⟩
def n_is_whole : List Str := ["value"]
/-- is_count(value): value -/
def c_is_count : C := .ret (.and (.call 0 (.cons (.var 0) (.nil))) (.op .ge (.var 0) (.cst (.int 0))))
def d_is_count : DefI := ⟨[.shr], 1, c_is_count⟩
def n_is_count : List Str := ["value"]
/-- need_count(what, value): what value -/
def c_need_count : C := .ife (.not (.call 1 (.cons (.var 1) (.nil)))) (.raise 1 (.cons (.var 0) (.cons (.var 1) (.nil)))) (.pass)
def d_need_count : DefI := ⟨[.shr, .shr], 2, c_need_count⟩
def n_need_count : List Str := ["what", "value"]
/-- is_bit(value): value -/
def c_is_bit : C := .ret (.and (.call 1 (.cons (.var 0) (.nil))) (.op .lt (.var 0) (.cst (.int 2))))
def d_is_bit : DefI := ⟨[.shr], 1, c_is_bit⟩
def n_is_bit : List Str := ["value"]
/-- is_function(value): value many bit -/
def c_is_function : C := .seq (.ife (.or (.not (.isi .isinstTuple (.var 0))) (.not (.blt .all (.cons (.lc [2] (.var 2) (.var 0) (.cst (.bl true)) (.call 3 (.cons (.var 2) (.nil)))) (.nil))))) (.ret (.cst (.bl false))) (.pass)) (.seq (.asg (.var 1) (.blt .len (.cons (.var 0) (.nil)))) (.seq (.whl (.and (.op .gt (.var 1) (.cst (.int 1))) (.op .eq (.op .mod (.var 1) (.cst (.int 2))) (.cst (.int 0)))) (.aug 1 .fdiv (.cst (.int 2)))) (.ret (.op .eq (.var 1) (.cst (.int 1))))))
def d_is_function : DefI := ⟨[.shr, .shr, .shr], 1, c_is_function⟩
def n_is_function : List Str := ["value", "many", "bit"]
/-- need_function(value): value -/
def c_need_function : C := .ife (.not (.call 4 (.cons (.var 0) (.nil)))) (.raise 2 (.cons (.var 0) (.nil))) (.pass)
def d_need_function : DefI := ⟨[.shr], 1, c_need_function⟩
def n_need_function : List Str := ["value"]
/-- letters_in(function): function many found -/
def c_letters_in : C := .seq (.par 1 2 (.blt .len (.cons (.var 0) (.nil))) (.cst (.int 0))) (.seq (.whl (.op .gt (.var 1) (.cst (.int 1))) (.par 1 2 (.op .fdiv (.var 1) (.cst (.int 2))) (.op .add (.var 2) (.cst (.int 1))))) (.ret (.var 2)))
def d_letters_in : DefI := ⟨[.shr, .shr, .shr], 1, c_letters_in⟩
def n_letters_in : List Str := ["function", "many", "found"]
/-- number_in(row): row i bit -/
def c_number_in : C := .ret (.blt .sum (.cons (.lc [1, 2] (.tup (.cons (.var 1) (.cons (.var 2) (.nil)))) (.blt .enum (.cons (.var 0) (.nil))) (.cst (.bl true)) (.op .shl (.var 2) (.var 1))) (.nil)))
def d_number_in : DefI := ⟨[.shr, .shr, .shr], 1, c_number_in⟩
def n_number_in : List Str := ["row", "i", "bit"]
/-- row_in(n, number): n number i -/
def c_row_in : C := .ret (.blt .tuple (.cons (.lc [2] (.var 2) (.blt .range (.cons (.var 0) (.nil))) (.cst (.bl true)) (.op .band (.op .shr (.var 1) (.var 2)) (.cst (.int 1)))) (.nil)))
def d_row_in : DefI := ⟨[.shr, .shr, .shr], 2, c_row_in⟩
def n_row_in : List Str := ["n", "number", "i"]
/-- is_bits(value): value bit -/
def c_is_bits : C := .ret (.and (.isi .isinstTuple (.var 0)) (.blt .all (.cons (.lc [1] (.var 1) (.var 0) (.cst (.bl true)) (.call 3 (.cons (.var 1) (.nil)))) (.nil))))
def d_is_bits : DefI := ⟨[.shr, .shr], 1, c_is_bits⟩
def n_is_bits : List Str := ["value", "bit"]
/-- need_row(n, row): n row -/
def c_need_row : C := .ife (.or (.not (.call 9 (.cons (.var 1) (.nil)))) (.op .ne (.blt .len (.cons (.var 1) (.nil))) (.var 0))) (.raise 3 (.cons (.var 1) (.nil))) (.pass)
def d_need_row : DefI := ⟨[.shr, .shr], 2, c_need_row⟩
def n_need_row : List Str := ["n", "row"]
/-- open_in(partial): partial i bit -/
def c_open_in : C := .ret (.lc [1, 2] (.tup (.cons (.var 1) (.cons (.var 2) (.nil)))) (.blt .enum (.cons (.var 0) (.nil))) (.op .is (.var 2) (.cst .non)) (.var 1))
def d_open_in : DefI := ⟨[.shr, .shr, .shr], 1, c_open_in⟩
def n_open_in : List Str := ["partial", "i", "bit"]
/-- held_in(function, partial): function partial base places i place bit -/
def c_held_in : C := .seq (.asg (.var 2) (.blt .sum (.cons (.lc [4, 6] (.tup (.cons (.var 4) (.cons (.var 6) (.nil)))) (.blt .enum (.cons (.var 1) (.nil))) (.op .eq (.var 6) (.cst (.int 1))) (.op .shl (.cst (.int 1)) (.var 4))) (.nil)))) (.seq (.asg (.var 3) (.lst (.cons (.var 2) (.nil)))) (.seq (.fr (.var 4) (.call 11 (.cons (.var 1) (.nil))) (.asg (.var 3) (.op .add (.var 3) (.lc [5] (.var 5) (.var 3) (.cst (.bl true)) (.op .add (.var 5) (.op .shl (.cst (.int 1)) (.var 4))))))) (.ret (.blt .tuple (.cons (.lc [5] (.var 5) (.var 3) (.cst (.bl true)) (.idx (.var 0) (.var 5))) (.nil))))))
def d_held_in : DefI := ⟨[.shr, .shr, .shr, .shr, .shr, .shr, .shr], 2, c_held_in⟩
def n_held_in : List Str := ["function", "partial", "base", "places", "i", "place", "bit"]
/-- is_letter(n, value): n value -/
def c_is_letter : C := .ret (.and (.call 1 (.cons (.var 1) (.nil))) (.op .lt (.var 1) (.var 0)))
def d_is_letter : DefI := ⟨[.shr, .shr], 2, c_is_letter⟩
def n_is_letter : List Str := ["n", "value"]
/-- with_bit(n, letter, bit): n letter bit -/
def c_with_bit : C := .ret (.op .add (.op .add (.op .mul (.tup (.cons (.cst .non) (.nil))) (.var 1)) (.tup (.cons (.var 2) (.nil)))) (.op .mul (.tup (.cons (.cst .non) (.nil))) (.op .sub (.op .sub (.var 0) (.var 1)) (.cst (.int 1)))))
def d_with_bit : DefI := ⟨[.shr, .shr, .shr], 3, c_with_bit⟩
def n_with_bit : List Str := ["n", "letter", "bit"]
/-- fixed_in(function, letter, bit): function letter bit -/
def c_fixed_in : C := .ret (.call 12 (.cons (.var 0) (.cons (.call 14 (.cons (.call 6 (.cons (.var 0) (.nil))) (.cons (.var 1) (.cons (.var 2) (.nil))))) (.nil))))
def d_fixed_in : DefI := ⟨[.shr, .shr, .shr], 3, c_fixed_in⟩
def n_fixed_in : List Str := ["function", "letter", "bit"]
/-- hung_in(function): function i -/
def c_hung_in : C := .ret (.lc [1] (.var 1) (.blt .range (.cons (.call 6 (.cons (.var 0) (.nil))) (.nil))) (.op .ne (.call 15 (.cons (.var 0) (.cons (.var 1) (.cons (.cst (.int 0)) (.nil))))) (.call 15 (.cons (.var 0) (.cons (.var 1) (.cons (.cst (.int 1)) (.nil)))))) (.var 1))
def d_hung_in : DefI := ⟨[.shr, .shr], 1, c_hung_in⟩
def n_hung_in : List Str := ["function", "i"]
/-- hung_letters(function): function -/
def c_hung_letters : C := .seq (.drop (.call 5 (.cons (.var 0) (.nil)))) (.ret (.blt .tuple (.cons (.call 16 (.cons (.var 0) (.nil))) (.nil))))
def d_hung_letters : DefI := ⟨[.shr], 1, c_hung_letters⟩
def n_hung_letters : List Str := ["function"]
/-- turned_in(function, mask): function mask number -/
def c_turned_in : C := .ret (.blt .tuple (.cons (.lc [2] (.var 2) (.blt .range (.cons (.blt .len (.cons (.var 0) (.nil))) (.nil))) (.cst (.bl true)) (.idx (.var 0) (.op .bxor (.var 2) (.var 1)))) (.nil)))
def d_turned_in : DefI := ⟨[.shr, .shr, .shr], 2, c_turned_in⟩
def n_turned_in : List Str := ["function", "mask", "number"]
/-- flipped(function): function value -/
def c_flipped : C := .ret (.blt .tuple (.cons (.lc [1] (.var 1) (.var 0) (.cst (.bl true)) (.op .sub (.cst (.int 1)) (.var 1))) (.nil)))
def d_flipped : DefI := ⟨[.shr, .shr], 1, c_flipped⟩
def n_flipped : List Str := ["function", "value"]
/-- renamed_in(function, row): function row n values number value i -/
def c_renamed_in : C := .seq (.par 2 3 (.blt .len (.cons (.var 1) (.nil))) (.op .mul (.lst (.cons (.cst (.int 0)) (.nil))) (.blt .len (.cons (.var 0) (.nil))))) (.seq (.fr (.tup (.cons (.var 4) (.cons (.var 5) (.nil)))) (.blt .enum (.cons (.var 0) (.nil))) (.stIx 3 (.blt .sum (.cons (.lc [6] (.var 6) (.blt .range (.cons (.var 2) (.nil))) (.op .band (.op .shr (.var 4) (.var 6)) (.cst (.int 1))) (.op .shl (.cst (.int 1)) (.idx (.var 1) (.var 6)))) (.nil))) (.var 5))) (.ret (.blt .tuple (.cons (.loc 3) (.nil)))))
def d_renamed_in : DefI := ⟨[.shr, .shr, .shr, .own, .shr, .shr, .shr], 2, c_renamed_in⟩
def n_renamed_in : List Str := ["function", "row", "n", "values", "number", "value", "i"]
/-- is_change_in(n, value): n value row some one two letter -/
def c_is_change_in : C := .seq (.ife (.or (.not (.isi .isinstTuple (.var 1))) (.or (.op .ne (.blt .len (.cons (.var 1) (.nil))) (.cst (.int 3))) (.not (.call 3 (.cons (.idx (.var 1) (.cst (.int 2))) (.nil)))))) (.ret (.cst (.bl false))) (.pass)) (.seq (.par 2 3 (.idx (.var 1) (.cst (.int 0))) (.idx (.var 1) (.cst (.int 1)))) (.seq (.ife (.or (.not (.isi .isinstTuple (.var 2))) (.not (.isi .isinstTuple (.var 3)))) (.ret (.cst (.bl false))) (.pass)) (.seq (.ife (.or (.not (.blt .all (.cons (.lc [6] (.var 6) (.op .add (.var 2) (.var 3)) (.cst (.bl true)) (.call 13 (.cons (.var 0) (.cons (.var 6) (.nil))))) (.nil)))) (.op .ne (.blt .sorted (.cons (.var 2) (.nil))) (.lrng false (.cons (.var 0) (.nil))))) (.ret (.cst (.bl false))) (.pass)) (.ret (.blt .all (.cons (.lc [4, 5] (.tup (.cons (.var 4) (.cons (.var 5) (.nil)))) (.blt .zip (.cons (.var 3) (.cons (.slc (.var 3) (.cst (.int 1)) (.noPart)) (.nil)))) (.cst (.bl true)) (.op .lt (.var 4) (.var 5))) (.nil)))))))
def d_is_change_in : DefI := ⟨[.shr, .shr, .shr, .shr, .shr, .shr, .shr], 2, c_is_change_in⟩
def n_is_change_in : List Str := ["n", "value", "row", "some", "one", "two", "letter"]
/-- need_change(n, value): n value -/
def c_need_change : C := .ife (.not (.call 21 (.cons (.var 0) (.cons (.var 1) (.nil))))) (.raise 3 (.cons (.var 1) (.nil))) (.pass)
def d_need_change : DefI := ⟨[.shr, .shr], 2, c_need_change⟩
def n_need_change : List Str := ["n", "value"]
/-- mask_of(some): some letter -/
def c_mask_of : C := .ret (.blt .sum (.cons (.lc [1] (.var 1) (.var 0) (.cst (.bl true)) (.op .shl (.cst (.int 1)) (.var 1))) (.nil)))
def d_mask_of : DefI := ⟨[.shr, .shr], 1, c_mask_of⟩
def n_mask_of : List Str := ["some", "letter"]
/-- changed_in(function, change): function change found -/
def c_changed_in : C := .seq (.asg (.var 2) (.call 18 (.cons (.call 20 (.cons (.var 0) (.cons (.idx (.var 1) (.cst (.int 0))) (.nil)))) (.cons (.call 23 (.cons (.idx (.var 1) (.cst (.int 1))) (.nil))) (.nil))))) (.ret (.ite (.idx (.var 1) (.cst (.int 2))) (.call 19 (.cons (.var 2) (.nil))) (.var 2)))
def d_changed_in : DefI := ⟨[.shr, .shr, .shr], 2, c_changed_in⟩
def n_changed_in : List Str := ["function", "change", "found"]
/-- changed(function, change): function change -/
def c_changed : C := .seq (.drop (.call 5 (.cons (.var 0) (.nil)))) (.seq (.drop (.call 22 (.cons (.call 6 (.cons (.var 0) (.nil))) (.cons (.var 1) (.nil))))) (.ret (.call 24 (.cons (.var 0) (.cons (.var 1) (.nil))))))
def d_changed : DefI := ⟨[.shr, .shr], 2, c_changed⟩
def n_changed : List Str := ["function", "change"]
/-- orders_of(n): n found lap row letter -/
def c_orders_of : C := .seq (.asg (.var 1) (.lst (.cons (.tup (.nil)) (.nil)))) (.seq (.fr (.var 2) (.blt .range (.cons (.var 0) (.nil))) (.asg (.var 1) (.lc2 [3, 4] [4] (.var 3) (.var 1) (.cst (.bl true)) (.var 4) (.blt .range (.cons (.var 0) (.nil))) (.op .notIn (.var 4) (.var 3)) (.op .add (.var 3) (.tup (.cons (.var 4) (.nil))))))) (.ret (.var 1)))
def d_orders_of : DefI := ⟨[.shr, .shr, .shr, .shr, .shr], 1, c_orders_of⟩
def n_orders_of : List Str := ["n", "found", "lap", "row", "letter"]
/-- lots_of(n): n found letter some -/
def c_lots_of : C := .seq (.asg (.var 1) (.lst (.cons (.tup (.nil)) (.nil)))) (.seq (.fr (.var 2) (.blt .range (.cons (.var 0) (.nil))) (.asg (.var 1) (.op .add (.var 1) (.lc [3] (.var 3) (.var 1) (.cst (.bl true)) (.op .add (.var 3) (.tup (.cons (.var 2) (.nil)))))))) (.ret (.blt .sorted (.cons (.var 1) (.nil)))))
def d_lots_of : DefI := ⟨[.shr, .shr, .shr, .shr], 1, c_lots_of⟩
def n_lots_of : List Str := ["n", "found", "letter", "some"]
/-- moved_in(n, change, row): n change row found letter bit -/
def c_moved_in : C := .seq (.asg (.loc 3) (.op .mul (.lst (.cons (.cst (.int 0)) (.nil))) (.var 0))) (.seq (.fr (.tup (.cons (.var 4) (.cons (.var 5) (.nil)))) (.blt .enum (.cons (.var 2) (.nil))) (.stIx 3 (.idx (.idx (.var 1) (.cst (.int 0))) (.var 4)) (.var 5))) (.seq (.fr (.var 4) (.idx (.var 1) (.cst (.int 1))) (.stIx 3 (.var 4) (.op .sub (.cst (.int 1)) (.idx (.loc 3) (.var 4))))) (.ret (.blt .tuple (.cons (.loc 3) (.nil))))))
def d_moved_in : DefI := ⟨[.shr, .shr, .shr, .own, .shr, .shr], 3, c_moved_in⟩
def n_moved_in : List Str := ["n", "change", "row", "found", "letter", "bit"]
/-- moved_row(n, change, row): n change row -/
def c_moved_row : C := .seq (.drop (.call 2 (.cons (.cst (.str "letters")) (.cons (.var 0) (.nil))))) (.seq (.drop (.call 22 (.cons (.var 0) (.cons (.var 1) (.nil))))) (.seq (.drop (.call 10 (.cons (.var 0) (.cons (.var 2) (.nil))))) (.ret (.call 28 (.cons (.var 0) (.cons (.var 1) (.cons (.var 2) (.nil))))))))
def d_moved_row : DefI := ⟨[.shr, .shr, .shr], 3, c_moved_row⟩
def n_moved_row : List Str := ["n", "change", "row"]
/-- rounds_in(n, change): n change nexts number seen found many here -/
def c_rounds_in : C := .seq (.asg (.var 2) (.lc [3] (.var 3) (.blt .range (.cons (.op .shl (.cst (.int 1)) (.var 0)) (.nil))) (.cst (.bl true)) (.call 7 (.cons (.call 28 (.cons (.var 0) (.cons (.var 1) (.cons (.call 8 (.cons (.var 0) (.cons (.var 3) (.nil)))) (.nil))))) (.nil))))) (.seq (.par 4 5 (.dnew false) (.lst (.nil))) (.seq (.fr (.var 3) (.blt .range (.cons (.op .shl (.cst (.int 1)) (.var 0)) (.nil))) (.seq (.par 6 7 (.cst (.int 0)) (.var 3)) (.seq (.whl (.op .notIn (.var 7) (.loc 4)) (.seq (.stIx 4 (.var 7) (.cst (.bl true))) (.par 6 7 (.op .add (.var 6) (.cst (.int 1))) (.idx (.var 2) (.var 7))))) (.ife (.var 6) (.app 5 (.var 6)) (.pass))))) (.ret (.blt .sorted (.cons (.loc 5) (.nil))))))
def d_rounds_in : DefI := ⟨[.shr, .shr, .shr, .shr, .own, .own, .shr, .shr], 2, c_rounds_in⟩
def n_rounds_in : List Str := ["n", "change", "nexts", "number", "seen", "found", "many", "here"]
/-- change_rounds(n, change): n change -/
def c_change_rounds : C := .seq (.drop (.call 2 (.cons (.cst (.str "letters")) (.cons (.var 0) (.nil))))) (.seq (.drop (.call 22 (.cons (.var 0) (.cons (.var 1) (.nil))))) (.ret (.blt .tuple (.cons (.call 30 (.cons (.var 0) (.cons (.var 1) (.nil)))) (.nil)))))
def d_change_rounds : DefI := ⟨[.shr, .shr], 2, c_change_rounds⟩
def n_change_rounds : List Str := ["n", "change"]
/-- kept_by(n, change): n change found many -/
def c_kept_by : C := .seq (.asg (.var 2) (.call 30 (.cons (.var 0) (.cons (.var 1) (.nil))))) (.seq (.ife (.and (.op .eq (.idx (.var 1) (.cst (.int 2))) (.cst (.int 1))) (.blt .any (.cons (.lc [3] (.var 3) (.var 2) (.cst (.bl true)) (.op .eq (.op .mod (.var 3) (.cst (.int 2))) (.cst (.int 1)))) (.nil)))) (.ret (.cst (.int 0))) (.pass)) (.ret (.op .shl (.cst (.int 1)) (.blt .len (.cons (.var 2) (.nil))))))
def d_kept_by : DefI := ⟨[.shr, .shr, .shr, .shr], 2, c_kept_by⟩
def n_kept_by : List Str := ["n", "change", "found", "many"]
/-- count_kept(n, change): n change -/
def c_count_kept : C := .seq (.drop (.call 2 (.cons (.cst (.str "letters")) (.cons (.var 0) (.nil))))) (.seq (.drop (.call 22 (.cons (.var 0) (.cons (.var 1) (.nil))))) (.ret (.call 32 (.cons (.var 0) (.cons (.var 1) (.nil))))))
def d_count_kept : DefI := ⟨[.shr, .shr], 2, c_count_kept⟩
def n_count_kept : List Str := ["n", "change"]
/-- mean_kept(n, changes): n changes change -/
def c_mean_kept : C := .ret (.op .fdiv (.blt .sum (.cons (.lc [2] (.var 2) (.var 1) (.cst (.bl true)) (.call 32 (.cons (.var 0) (.cons (.var 2) (.nil))))) (.nil))) (.blt .len (.cons (.var 1) (.nil))))
def d_mean_kept : DefI := ⟨[.shr, .shr, .shr], 2, c_mean_kept⟩
def n_mean_kept : List Str := ["n", "changes", "change"]
/-- count_forms(n): n lots some bit row -/
def c_count_forms : C := .seq (.drop (.call 2 (.cons (.cst (.str "letters")) (.cons (.var 0) (.nil))))) (.seq (.asg (.var 1) (.lc2 [2, 3] [3] (.var 2) (.call 27 (.cons (.var 0) (.nil))) (.cst (.bl true)) (.var 3) (.tup (.cons (.cst (.int 0)) (.cons (.cst (.int 1)) (.nil)))) (.cst (.bl true)) (.tup (.cons (.var 2) (.cons (.var 3) (.nil)))))) (.ret (.call 34 (.cons (.var 0) (.cons (.lc2 [4, 2, 3] [2, 3] (.var 4) (.call 26 (.cons (.var 0) (.nil))) (.cst (.bl true)) (.tup (.cons (.var 2) (.cons (.var 3) (.nil)))) (.var 1) (.cst (.bl true)) (.tup (.cons (.var 4) (.cons (.var 2) (.cons (.var 3) (.nil)))))) (.nil))))))
def d_count_forms : DefI := ⟨[.shr, .shr, .shr, .shr, .shr], 1, c_count_forms⟩
def n_count_forms : List Str := ["n", "lots", "some", "bit", "row"]
/-- count_named(n): n row -/
def c_count_named : C := .seq (.drop (.call 2 (.cons (.cst (.str "letters")) (.cons (.var 0) (.nil))))) (.ret (.call 34 (.cons (.var 0) (.cons (.lc [1] (.var 1) (.call 26 (.cons (.var 0) (.nil))) (.cst (.bl true)) (.tup (.cons (.var 1) (.cons (.tup (.nil)) (.cons (.cst (.int 0)) (.nil)))))) (.nil)))))
def d_count_named : DefI := ⟨[.shr, .shr], 1, c_count_named⟩
def n_count_named : List Str := ["n", "row"]
/-- count_hung(n): n k found ways -/
def c_count_hung : C := .seq (.drop (.call 2 (.cons (.cst (.str "letters")) (.cons (.var 0) (.nil))))) (.seq (.par 2 3 (.cst (.int 0)) (.cst (.int 1))) (.seq (.fr (.var 1) (.blt .range (.cons (.var 0) (.cons (.neg (.cst (.int 1))) (.cons (.neg (.cst (.int 1))) (.nil))))) (.seq (.aug 2 .add (.op .mul (.op .mul (.var 3) (.op .shl (.cst (.int 1)) (.op .shl (.cst (.int 1)) (.var 1)))) (.ite (.op .eq (.op .mod (.op .sub (.var 0) (.var 1)) (.cst (.int 2))) (.cst (.int 0))) (.cst (.int 1)) (.neg (.cst (.int 1)))))) (.asg (.var 3) (.op .fdiv (.op .mul (.var 3) (.var 1)) (.op .add (.op .sub (.var 0) (.var 1)) (.cst (.int 1))))))) (.ret (.var 2))))
def d_count_hung : DefI := ⟨[.shr, .shr, .shr, .shr], 1, c_count_hung⟩
def n_count_hung : List Str := ["n", "k", "found", "ways"]
/-- _law_pen(script): script fold cell -/
def c__law_pen : C := .seq (.asg (.var 1) (.cst (.int 0))) (.seq (.fr (.var 2) (.scr 0) (.asg (.var 1) (.op .mod (.blt .int (.cons (.op .add (.op .mul (.var 1) (.cst (.int 67))) (.var 2)) (.nil))) (.cst (.int 1000000087))))) (.ret (.disp ["cells", "at", "digits", "count", "fold"] (.cons (.scrList 0) (.cons (.cst (.int 0)) (.cons (.cst (.int 0)) (.cons (.cst (.int 0)) (.cons (.var 1) (.nil)))))))))
def d__law_pen : DefI := ⟨[.frz, .shr, .shr], 1, c__law_pen⟩
def n__law_pen : List Str := ["script", "fold", "cell"]
/-- _law_draw(pen, many): pen many blend cell digit -/
def c__law_draw : C := .seq (.stIx 0 (.cst (.str "count")) (.op .add (.idx (.loc 0) (.cst (.str "count"))) (.cst (.int 1)))) (.seq (.ife (.and (.op .eq (.idx (.loc 0) (.cst (.str "digits"))) (.cst (.int 0))) (.op .lt (.idx (.loc 0) (.cst (.str "at"))) (.blt .len (.cons (.idx (.loc 0) (.cst (.str "cells"))) (.nil))))) (.seq (.asg (.var 3) (.idx (.idx (.loc 0) (.cst (.str "cells"))) (.idx (.loc 0) (.cst (.str "at"))))) (.seq (.stIx 0 (.cst (.str "at")) (.op .add (.idx (.loc 0) (.cst (.str "at"))) (.cst (.int 1)))) (.ife (.op .ge (.var 3) (.op .pow (.cst (.int 10)) (.cst (.int 18)))) (.stIx 0 (.cst (.str "digits")) (.op .sub (.var 3) (.op .pow (.cst (.int 10)) (.cst (.int 18))))) (.stIx 0 (.cst (.str "fold")) (.op .mod (.blt .int (.cons (.op .add (.op .mul (.idx (.loc 0) (.cst (.str "fold"))) (.cst (.int 65539))) (.var 3)) (.nil))) (.cst (.int 2147483549))))))) (.pass)) (.seq (.ife (.op .gt (.idx (.loc 0) (.cst (.str "digits"))) (.cst (.int 0))) (.seq (.asg (.var 4) (.op .mod (.blt .int (.cons (.idx (.loc 0) (.cst (.str "digits"))) (.nil))) (.var 1))) (.seq (.stIx 0 (.cst (.str "digits")) (.op .fdiv (.idx (.loc 0) (.cst (.str "digits"))) (.var 1))) (.ret (.var 4)))) (.pass)) (.seq (.asg (.var 2) (.op .add (.op .add (.idx (.loc 0) (.cst (.str "fold"))) (.op .mul (.idx (.loc 0) (.cst (.str "count"))) (.cst (.int 8311)))) (.cst (.int 43)))) (.ret (.op .mod (.op .fdiv (.blt .int (.cons (.op .mod (.op .pow (.var 2) (.cst (.int 13))) (.cst (.int 2305843009213693951))) (.nil))) (.cst (.int 256))) (.var 1))))))
def d__law_draw : DefI := ⟨[.own, .shr, .shr, .shr, .shr], 2, c__law_draw⟩
def n__law_draw : List Str := ["pen", "many", "blend", "cell", "digit"]
/-- _law_pick(pen, some): pen some -/
def c__law_pick : C := .ret (.idx (.var 1) (.call 39 (.cons (.loc 0) (.cons (.blt .len (.cons (.var 1) (.nil))) (.nil)))))
def d__law_pick : DefI := ⟨[.own, .shr], 2, c__law_pick⟩
def n__law_pick : List Str := ["pen", "some"]
/-- _law_mixed(pen, some): pen some k left found -/
def c__law_mixed : C := .seq (.par 3 4 (.blt .list (.cons (.var 1) (.nil))) (.lst (.nil))) (.seq (.fr (.var 2) (.blt .range (.cons (.blt .len (.cons (.var 1) (.nil))) (.nil))) (.app 4 (.popAt 3 (.call 39 (.cons (.loc 0) (.cons (.blt .len (.cons (.loc 3) (.nil))) (.nil))))))) (.retO 4))
def d__law_mixed : DefI := ⟨[.own, .shr, .shr, .own, .own], 2, c__law_mixed⟩
def n__law_mixed : List Str := ["pen", "some", "k", "left", "found"]
/-- _law_all_rows(n): n found lap row -/
def c__law_all_rows : C := .seq (.asg (.var 1) (.lst (.cons (.tup (.nil)) (.nil)))) (.seq (.fr (.var 2) (.blt .range (.cons (.var 0) (.nil))) (.asg (.var 1) (.op .add (.lc [3] (.var 3) (.var 1) (.cst (.bl true)) (.op .add (.var 3) (.tup (.cons (.cst (.int 0)) (.nil))))) (.lc [3] (.var 3) (.var 1) (.cst (.bl true)) (.op .add (.var 3) (.tup (.cons (.cst (.int 1)) (.nil)))))))) (.ret (.var 1)))
def d__law_all_rows : DefI := ⟨[.shr, .shr, .shr, .shr], 1, c__law_all_rows⟩
def n__law_all_rows : List Str := ["n", "found", "lap", "row"]
/-- _law_lots(n): n found letter pair lot -/
def c__law_lots : C := .seq (.asg (.var 1) (.lst (.cons (.tup (.nil)) (.nil)))) (.seq (.fr (.var 2) (.blt .range (.cons (.var 0) (.nil))) (.asg (.var 1) (.op .add (.var 1) (.lc [4] (.var 4) (.var 1) (.cst (.bl true)) (.op .add (.var 4) (.tup (.cons (.var 2) (.nil)))))))) (.ret (.lc [3] (.var 3) (.blt .sorted (.cons (.lc [4] (.var 4) (.var 1) (.cst (.bl true)) (.tup (.cons (.blt .len (.cons (.var 4) (.nil))) (.cons (.var 4) (.nil))))) (.nil))) (.cst (.bl true)) (.idx (.var 3) (.cst (.int 1))))))
def d__law_lots : DefI := ⟨[.shr, .shr, .shr, .shr, .shr], 1, c__law_lots⟩
def n__law_lots : List Str := ["n", "found", "letter", "pair", "lot"]
/-- _law_turned(row, lot): row lot k -/
def c__law_turned : C := .ret (.blt .tuple (.cons (.lc [2] (.var 2) (.blt .range (.cons (.blt .len (.cons (.var 0) (.nil))) (.nil))) (.cst (.bl true)) (.ite (.op .isIn (.var 2) (.var 1)) (.op .sub (.cst (.int 1)) (.idx (.var 0) (.var 2))) (.idx (.var 0) (.var 2)))) (.nil)))
def d__law_turned : DefI := ⟨[.shr, .shr, .shr], 2, c__law_turned⟩
def n__law_turned : List Str := ["row", "lot", "k"]
/-- _law_number(row): row bit found weight -/
def c__law_number : C := .seq (.par 2 3 (.cst (.int 0)) (.cst (.int 1))) (.seq (.fr (.var 1) (.loc 0) (.par 2 3 (.op .add (.var 2) (.op .mul (.var 1) (.var 3))) (.op .mul (.var 3) (.cst (.int 2))))) (.ret (.var 2)))
def d__law_number : DefI := ⟨[.brw, .shr, .shr, .shr], 1, c__law_number⟩
def n__law_number : List Str := ["row", "bit", "found", "weight"]
/-- _law_orders(n): n found lap longer row k -/
def c__law_orders : C := .seq (.asg (.var 1) (.lst (.cons (.tup (.nil)) (.nil)))) (.seq (.fr (.var 2) (.blt .range (.cons (.var 0) (.nil))) (.seq (.asg (.var 3) (.lst (.nil))) (.seq (.fr (.var 4) (.var 1) (.asg (.var 3) (.op .add (.var 3) (.lc [5] (.var 5) (.blt .range (.cons (.var 0) (.nil))) (.op .notIn (.var 5) (.var 4)) (.op .add (.var 4) (.tup (.cons (.var 5) (.nil)))))))) (.asg (.var 1) (.var 3))))) (.ret (.var 1)))
def d__law_orders : DefI := ⟨[.shr, .shr, .shr, .shr, .shr, .shr], 1, c__law_orders⟩
def n__law_orders : List Str := ["n", "found", "lap", "longer", "row", "k"]
/-- _law_by_order(values, order): values order found row new k -/
def c__law_by_order : C := .seq (.asg (.loc 2) (.op .mul (.lst (.cons (.cst (.int 0)) (.nil))) (.blt .len (.cons (.var 0) (.nil))))) (.seq (.fr (.var 3) (.call 42 (.cons (.blt .len (.cons (.var 1) (.nil))) (.nil))) (.seq (.asg (.loc 4) (.op .mul (.lst (.cons (.cst (.int 0)) (.nil))) (.blt .len (.cons (.var 1) (.nil))))) (.seq (.fr (.var 5) (.blt .range (.cons (.blt .len (.cons (.var 1) (.nil))) (.nil))) (.stIx 4 (.idx (.var 1) (.var 5)) (.idx (.var 3) (.var 5)))) (.stIx 2 (.call 45 (.cons (.loc 4) (.nil))) (.idx (.var 0) (.call 45 (.cons (.var 3) (.nil)))))))) (.retO 2))
def d__law_by_order : DefI := ⟨[.shr, .shr, .own, .shr, .own, .shr], 2, c__law_by_order⟩
def n__law_by_order : List Str := ["values", "order", "found", "row", "new", "k"]
/-- _law_led(values, change): values change turned named lot row value -/
def c__law_led : C := .seq (.par 3 4 (.call 47 (.cons (.var 0) (.cons (.idx (.var 1) (.cst (.int 0))) (.nil)))) (.idx (.var 1) (.cst (.int 1)))) (.seq (.asg (.var 2) (.lc [5] (.var 5) (.call 42 (.cons (.blt .len (.cons (.idx (.var 1) (.cst (.int 0))) (.nil))) (.nil))) (.cst (.bl true)) (.idx (.var 3) (.call 45 (.cons (.call 44 (.cons (.var 5) (.cons (.var 4) (.nil)))) (.nil)))))) (.ret (.lc [6] (.var 6) (.var 2) (.cst (.bl true)) (.ite (.op .eq (.idx (.var 1) (.cst (.int 2))) (.cst (.int 1))) (.op .sub (.cst (.int 1)) (.var 6)) (.var 6)))))
def d__law_led : DefI := ⟨[.shr, .shr, .shr, .shr, .shr, .shr, .shr], 2, c__law_led⟩
def n__law_led : List Str := ["values", "change", "turned", "named", "lot", "row", "value"]
/-- _law_changes(n): n found order lot bit -/
def c__law_changes : C := .seq (.asg (.var 1) (.lst (.nil))) (.seq (.fr (.var 2) (.call 46 (.cons (.var 0) (.nil))) (.fr (.var 3) (.call 43 (.cons (.var 0) (.nil))) (.asg (.var 1) (.op .add (.var 1) (.lc [4] (.var 4) (.lst (.cons (.cst (.int 0)) (.cons (.cst (.int 1)) (.nil)))) (.cst (.bl true)) (.tup (.cons (.var 2) (.cons (.var 3) (.cons (.var 4) (.nil)))))))))) (.ret (.var 1)))
def d__law_changes : DefI := ⟨[.shr, .shr, .shr, .shr, .shr], 1, c__law_changes⟩
def n__law_changes : List Str := ["n", "found", "order", "lot", "bit"]
/-- _law_met(call): call e -/
def c__law_met : C := .tryx (.ret (.callv 0)) (.hcons 2 1 (.ret (.tup (.cons (.cst (.str "BadFunction")) (.cons (.fld 1 "function") (.nil))))) (.hcons 3 1 (.ret (.tup (.cons (.cst (.str "BadRow")) (.cons (.fld 1 "row") (.nil))))) (.hcons 1 1 (.ret (.tup (.cons (.cst (.str "BadNumber")) (.cons (.fld 1 "what") (.cons (.fld 1 "number") (.nil)))))) (.hnil))))
def d__law_met : DefI := ⟨[.shr, .shr], 1, c__law_met⟩
def n__law_met : List Str := ["call", "e"]
/-- _law_all_functions(n): n found row longer values bit -/
def c__law_all_functions : C := .seq (.asg (.var 1) (.lst (.cons (.tup (.nil)) (.nil)))) (.seq (.fr (.var 2) (.call 42 (.cons (.var 0) (.nil))) (.seq (.asg (.var 3) (.lst (.nil))) (.seq (.fr (.var 4) (.var 1) (.asg (.var 3) (.op .add (.var 3) (.lc [5] (.var 5) (.lst (.cons (.cst (.int 0)) (.cons (.cst (.int 1)) (.nil)))) (.cst (.bl true)) (.op .add (.var 4) (.tup (.cons (.var 5) (.nil)))))))) (.asg (.var 1) (.var 3))))) (.ret (.var 1)))
def d__law_all_functions : DefI := ⟨[.shr, .shr, .shr, .shr, .shr, .shr], 1, c__law_all_functions⟩
def n__law_all_functions : List Str := ["n", "found", "row", "longer", "values", "bit"]
/-- _law_moved(change, row): change row found k -/
def c__law_moved : C := .seq (.asg (.loc 2) (.op .mul (.lst (.cons (.cst (.int 0)) (.nil))) (.blt .len (.cons (.var 1) (.nil))))) (.seq (.fr (.var 3) (.blt .range (.cons (.blt .len (.cons (.var 1) (.nil))) (.nil))) (.stIx 2 (.idx (.idx (.var 0) (.cst (.int 0))) (.var 3)) (.idx (.var 1) (.var 3)))) (.ret (.blt .tuple (.cons (.lc [3] (.var 3) (.blt .range (.cons (.blt .len (.cons (.var 1) (.nil))) (.nil))) (.cst (.bl true)) (.ite (.op .isIn (.var 3) (.idx (.var 0) (.cst (.int 1)))) (.op .sub (.cst (.int 1)) (.idx (.loc 2) (.var 3))) (.idx (.loc 2) (.var 3)))) (.nil)))))
def d__law_moved : DefI := ⟨[.shr, .shr, .own, .shr], 2, c__law_moved⟩
def n__law_moved : List Str := ["change", "row", "found", "k"]
/-- _law_rounds(change, n): change n lap left found here lot row -/
def c__law_rounds : C := .seq (.par 3 4 (.call 42 (.cons (.var 1) (.nil))) (.lst (.nil))) (.seq (.fr (.var 2) (.blt .range (.cons (.blt .len (.cons (.var 3) (.nil))) (.nil))) (.ife (.op .ne (.var 3) (.lst (.nil))) (.seq (.par 5 6 (.idx (.var 3) (.cst (.int 0))) (.lst (.nil))) (.seq (.whl (.op .notIn (.var 5) (.loc 6)) (.seq (.app 6 (.var 5)) (.asg (.var 5) (.call 52 (.cons (.var 0) (.cons (.var 5) (.nil))))))) (.seq (.asg (.var 3) (.lc [7] (.var 7) (.var 3) (.op .notIn (.var 7) (.loc 6)) (.var 7))) (.app 4 (.blt .len (.cons (.loc 6) (.nil))))))) (.pass))) (.ret (.blt .sorted (.cons (.loc 4) (.nil)))))
def d__law_rounds : DefI := ⟨[.shr, .shr, .shr, .shr, .own, .shr, .own, .shr], 2, c__law_rounds⟩
def n__law_rounds : List Str := ["change", "n", "lap", "left", "found", "here", "lot", "row"]
/-- _law_change(pen, n): pen n order lot -/
def c__law_change : C := .seq (.par 2 3 (.call 41 (.cons (.loc 0) (.cons (.lrng false (.cons (.var 1) (.nil))) (.nil)))) (.slc (.call 41 (.cons (.loc 0) (.cons (.lrng false (.cons (.var 1) (.nil))) (.nil)))) (.noPart) (.call 39 (.cons (.loc 0) (.cons (.op .add (.var 1) (.cst (.int 1))) (.nil)))))) (.ret (.tup (.cons (.blt .tuple (.cons (.var 2) (.nil))) (.cons (.blt .tuple (.cons (.blt .sorted (.cons (.var 3) (.nil))) (.nil))) (.cons (.call 39 (.cons (.loc 0) (.cons (.cst (.int 2)) (.nil)))) (.nil))))))
def d__law_change : DefI := ⟨[.own, .shr, .shr, .shr], 2, c__law_change⟩
def n__law_change : List Str := ["pen", "n", "order", "lot"]
/-- _law_kept(rounds, bit): rounds bit found many -/
def c__law_kept : C := .seq (.asg (.var 2) (.cst (.int 1))) (.seq (.fr (.var 3) (.var 0) (.asg (.var 2) (.op .mul (.var 2) (.cst (.int 2))))) (.ret (.ite (.and (.op .eq (.var 1) (.cst (.int 1))) (.op .ne (.lc [3] (.var 3) (.var 0) (.op .eq (.op .mod (.blt .int (.cons (.var 3) (.nil))) (.cst (.int 2))) (.cst (.int 1))) (.var 3)) (.lst (.nil)))) (.cst (.int 0)) (.var 2))))
def d__law_kept : DefI := ⟨[.shr, .shr, .shr, .shr], 2, c__law_kept⟩
def n__law_kept : List Str := ["rounds", "bit", "found", "many"]
/-- _law_changes_right(pen): pen n rounds told kept change row one -/
def c__law_changes_right : C := .seq (.asg (.var 1) (.call 39 (.cons (.loc 0) (.cons (.cst (.int 5)) (.nil))))) (.seq (.par 5 6 (.call 54 (.cons (.loc 0) (.cons (.var 1) (.nil)))) (.call 40 (.cons (.loc 0) (.cons (.call 42 (.cons (.var 1) (.nil))) (.nil))))) (.seq (.asg (.var 2) (.call 53 (.cons (.var 5) (.cons (.var 1) (.nil))))) (.seq (.asg (.var 3) (.lst (.cons (.call 29 (.cons (.var 1) (.cons (.var 5) (.cons (.var 6) (.nil))))) (.cons (.call 31 (.cons (.var 1) (.cons (.var 5) (.nil)))) (.cons (.call 33 (.cons (.var 1) (.cons (.var 5) (.nil)))) (.nil)))))) (.seq (.ife (.op .ne (.blt .repr (.cons (.var 3) (.nil))) (.blt .repr (.cons (.lst (.cons (.call 52 (.cons (.var 5) (.cons (.var 6) (.nil)))) (.cons (.blt .tuple (.cons (.var 2) (.nil))) (.cons (.call 55 (.cons (.var 2) (.cons (.idx (.var 5) (.cst (.int 2))) (.nil)))) (.nil))))) (.nil)))) (.ret (.cst (.bl false))) (.pass)) (.seq (.ife (.op .gt (.var 1) (.cst (.int 2))) (.ret (.cst (.bl true))) (.pass)) (.seq (.asg (.var 4) (.lc [7] (.var 7) (.call 51 (.cons (.var 1) (.nil))) (.op .eq (.call 25 (.cons (.var 7) (.cons (.var 5) (.nil)))) (.var 7)) (.var 7))) (.ret (.op .eq (.call 33 (.cons (.var 1) (.cons (.var 5) (.nil)))) (.blt .len (.cons (.var 4) (.nil)))))))))))
def d__law_changes_right : DefI := ⟨[.own, .shr, .shr, .shr, .shr, .shr, .shr, .shr], 1, c__law_changes_right⟩
def n__law_changes_right : List Str := ["pen", "n", "rounds", "told", "kept", "change", "row", "one"]
/-- _law_choose(n, k): n k row lap j -/
def c__law_choose : C := .seq (.asg (.var 2) (.lst (.cons (.cst (.int 1)) (.nil)))) (.seq (.fr (.var 3) (.blt .range (.cons (.var 0) (.nil))) (.asg (.var 2) (.op .add (.op .add (.lst (.cons (.cst (.int 1)) (.nil))) (.lc [4] (.var 4) (.blt .range (.cons (.op .sub (.blt .len (.cons (.var 2) (.nil))) (.cst (.int 1))) (.nil))) (.cst (.bl true)) (.op .add (.idx (.var 2) (.var 4)) (.idx (.var 2) (.op .add (.var 4) (.cst (.int 1))))))) (.lst (.cons (.cst (.int 1)) (.nil)))))) (.ret (.idx (.var 2) (.var 1))))
def d__law_choose : DefI := ⟨[.shr, .shr, .shr, .shr, .shr], 2, c__law_choose⟩
def n__law_choose : List Str := ["n", "k", "row", "lap", "j"]
/-- _law_counts_right(n): n change orders changes total named many every forms one -/
def c__law_counts_right : C := .seq (.asg (.tup (.cons (.var 3) (.cons (.var 4) (.cons (.var 5) (.nil))))) (.tup (.cons (.call 49 (.cons (.var 0) (.nil))) (.cons (.cst (.int 0)) (.cons (.cst (.int 0)) (.nil)))))) (.seq (.fr (.var 1) (.var 3) (.seq (.asg (.var 6) (.call 55 (.cons (.call 53 (.cons (.var 1) (.cons (.var 0) (.nil)))) (.cons (.idx (.var 1) (.cst (.int 2))) (.nil))))) (.par 4 5 (.op .add (.var 4) (.var 6)) (.op .add (.var 5) (.ite (.op .eq (.slc (.var 1) (.cst (.int 1)) (.noPart)) (.tup (.cons (.tup (.nil)) (.cons (.cst (.int 0)) (.nil))))) (.var 6) (.cst (.int 0))))))) (.seq (.asg (.var 2) (.blt .len (.cons (.call 46 (.cons (.var 0) (.nil))) (.nil)))) (.seq (.ife (.or (.op .ne (.op .mul (.call 35 (.cons (.var 0) (.nil))) (.blt .len (.cons (.var 3) (.nil)))) (.var 4)) (.op .ne (.op .mul (.call 36 (.cons (.var 0) (.nil))) (.var 2)) (.var 5))) (.ret (.cst (.bl false))) (.pass)) (.seq (.ife (.op .lt (.var 0) (.cst (.int 3))) (.seq (.asg (.var 7) (.call 51 (.cons (.var 0) (.nil)))) (.seq (.asg (.var 8) (.blt .dict (.cons (.lc [9] (.var 9) (.var 7) (.cst (.bl true)) (.tup (.cons (.blt .min (.cons (.lc [1] (.var 1) (.var 3) (.cst (.bl true)) (.blt .tuple (.cons (.call 48 (.cons (.blt .list (.cons (.var 9) (.nil))) (.cons (.var 1) (.nil)))) (.nil)))) (.nil))) (.cons (.cst (.bl true)) (.nil))))) (.nil)))) (.ife (.or (.op .ne (.call 35 (.cons (.var 0) (.nil))) (.blt .len (.cons (.var 8) (.nil)))) (.op .ne (.call 37 (.cons (.var 0) (.nil))) (.blt .len (.cons (.lc [9] (.var 9) (.var 7) (.op .eq (.blt .len (.cons (.call 17 (.cons (.var 9) (.nil))) (.nil))) (.var 0)) (.cst (.int 1))) (.nil))))) (.ret (.cst (.bl false))) (.pass)))) (.pass)) (.ret (.cst (.bl true)))))))
def d__law_counts_right : DefI := ⟨[.shr, .shr, .shr, .shr, .shr, .shr, .shr, .shr, .shr, .shr], 1, c__law_counts_right⟩
def n__law_counts_right : List Str := ["n", "change", "orders", "changes", "total", "named", "many", "every", "forms", "one"]
/-- _law_hung_right(n): n lap many power k -/
def c__law_hung_right : C := .seq (.par 2 3 (.cst (.int 1)) (.cst (.int 1))) (.seq (.fr (.var 1) (.blt .range (.cons (.var 0) (.nil))) (.asg (.var 2) (.op .mul (.var 2) (.cst (.int 2))))) (.seq (.fr (.var 1) (.blt .range (.cons (.var 2) (.nil))) (.asg (.var 3) (.op .mul (.var 3) (.cst (.int 2))))) (.ret (.op .eq (.blt .sum (.cons (.lc [4] (.var 4) (.blt .range (.cons (.op .add (.var 0) (.cst (.int 1))) (.nil))) (.cst (.bl true)) (.op .mul (.call 57 (.cons (.var 0) (.cons (.var 4) (.nil)))) (.call 37 (.cons (.var 4) (.nil))))) (.nil))) (.var 3)))))
def d__law_hung_right : DefI := ⟨[.shr, .shr, .shr, .shr, .shr], 1, c__law_hung_right⟩
def n__law_hung_right : List Str := ["n", "lap", "many", "power", "k"]
/-- _law_errors_right(pen): pen n change odd odds met -/
def c__law_errors_right : C := .seq (.asg (.var 1) (.call 39 (.cons (.loc 0) (.cons (.cst (.int 4)) (.nil))))) (.seq (.asg (.var 2) (.call 54 (.cons (.loc 0) (.cons (.var 1) (.nil))))) (.seq (.fr (.var 3) (.lst (.cons (.cst .non) (.cons (.neg (.cst (.int 1))) (.cons (.cst (.bl true)) (.cons (.cst (.str "1")) (.cons (.tup (.cons (.cst (.int 2)) (.nil))) (.nil))))))) (.seq (.asg (.loc 5) (.lst (.cons (.lamcall 50 (.call 29 (.cons (.var 3) (.cons (.cst .non) (.cons (.cst .non) (.nil)))))) (.nil)))) (.seq (.app 5 (.lamcall 50 (.call 31 (.cons (.var 3) (.cons (.cst .non) (.nil)))))) (.seq (.app 5 (.lamcall 50 (.call 33 (.cons (.var 3) (.cons (.cst .non) (.nil)))))) (.seq (.app 5 (.lamcall 50 (.call 35 (.cons (.var 3) (.nil))))) (.seq (.app 5 (.lamcall 50 (.call 36 (.cons (.var 3) (.nil))))) (.seq (.app 5 (.lamcall 50 (.call 37 (.cons (.var 3) (.nil))))) (.ife (.op .ne (.blt .repr (.cons (.loc 5) (.nil))) (.blt .repr (.cons (.op .mul (.lst (.cons (.tup (.cons (.cst (.str "BadNumber")) (.cons (.cst (.str "letters")) (.cons (.var 3) (.nil))))) (.nil))) (.cst (.int 6))) (.nil)))) (.ret (.cst (.bl false))) (.pass))))))))) (.seq (.asg (.var 4) (.lst (.cons (.cst .non) (.cons (.blt .list (.cons (.var 2) (.nil))) (.cons (.slc (.var 2) (.noPart) (.cst (.int 2))) (.cons (.op .add (.var 2) (.tup (.cons (.cst (.int 0)) (.nil)))) (.cons (.tup (.cons (.idx (.var 2) (.cst (.int 0))) (.cons (.idx (.var 2) (.cst (.int 1))) (.cons (.cst (.bl true)) (.nil))))) (.cons (.tup (.cons (.idx (.var 2) (.cst (.int 0))) (.cons (.idx (.var 2) (.cst (.int 1))) (.cons (.cst (.int 2)) (.nil))))) (.nil))))))))) (.seq (.asg (.var 4) (.op .add (.var 4) (.lst (.cons (.tup (.cons (.blt .list (.cons (.idx (.var 2) (.cst (.int 0))) (.nil))) (.cons (.idx (.var 2) (.cst (.int 1))) (.cons (.cst (.int 0)) (.nil))))) (.cons (.tup (.cons (.op .add (.idx (.var 2) (.cst (.int 0))) (.tup (.cons (.var 1) (.nil)))) (.cons (.idx (.var 2) (.cst (.int 1))) (.cons (.cst (.int 0)) (.nil))))) (.cons (.tup (.cons (.idx (.var 2) (.cst (.int 0))) (.cons (.tup (.cons (.var 1) (.nil))) (.cons (.cst (.int 0)) (.nil))))) (.nil))))))) (.seq (.fr (.var 3) (.op .add (.var 4) (.lst (.cons (.tup (.cons (.idx (.var 2) (.cst (.int 0))) (.cons (.tup (.cons (.cst (.int 0)) (.cons (.cst (.int 0)) (.nil)))) (.cons (.cst (.int 0)) (.nil))))) (.cons (.tup (.cons (.op .mul (.tup (.cons (.cst (.int 0)) (.nil))) (.op .add (.var 1) (.cst (.int 1)))) (.cons (.tup (.nil)) (.cons (.cst (.int 0)) (.nil))))) (.nil))))) (.seq (.asg (.loc 5) (.lst (.cons (.lamcall 50 (.call 29 (.cons (.var 1) (.cons (.var 3) (.cons (.cst .non) (.nil)))))) (.nil)))) (.seq (.app 5 (.lamcall 50 (.call 31 (.cons (.var 1) (.cons (.var 3) (.nil)))))) (.seq (.app 5 (.lamcall 50 (.call 33 (.cons (.var 1) (.cons (.var 3) (.nil)))))) (.ife (.op .ne (.blt .repr (.cons (.loc 5) (.nil))) (.blt .repr (.cons (.op .mul (.lst (.cons (.tup (.cons (.cst (.str "BadRow")) (.cons (.var 3) (.nil)))) (.nil))) (.cst (.int 3))) (.nil)))) (.ret (.cst (.bl false))) (.pass)))))) (.seq (.fr (.var 3) (.lst (.cons (.cst .non) (.cons (.op .mul (.tup (.cons (.cst (.int 0)) (.nil))) (.op .add (.var 1) (.cst (.int 1)))) (.cons (.op .mul (.lst (.cons (.cst (.int 0)) (.nil))) (.var 1)) (.cons (.ite (.op .gt (.var 1) (.cst (.int 0))) (.op .mul (.tup (.cons (.cst (.bl true)) (.nil))) (.var 1)) (.cst .non)) (.cons (.ite (.op .gt (.var 1) (.cst (.int 0))) (.op .mul (.tup (.cons (.cst (.int 2)) (.nil))) (.var 1)) (.tup (.cons (.cst (.int 0)) (.nil)))) (.nil))))))) (.ife (.op .ne (.blt .repr (.cons (.lamcall 50 (.call 29 (.cons (.var 1) (.cons (.var 2) (.cons (.var 3) (.nil)))))) (.nil))) (.blt .repr (.cons (.tup (.cons (.cst (.str "BadRow")) (.cons (.var 3) (.nil)))) (.nil)))) (.ret (.cst (.bl false))) (.pass))) (.ret (.cst (.bl true)))))))))
def d__law_errors_right : DefI := ⟨[.own, .shr, .shr, .shr, .shr, .own], 1, c__law_errors_right⟩
def n__law_errors_right : List Str := ["pen", "n", "change", "odd", "odds", "met"]
/-- law(script): script pen lap -/
def c_law : C := .seq (.asg (.loc 1) (.call 38 (.cons (.scr 0) (.nil)))) (.seq (.fr (.var 2) (.blt .range (.cons (.cst (.int 4)) (.nil))) (.ife (.not (.call 56 (.cons (.loc 1) (.nil)))) (.ret (.cst (.bl false))) (.pass))) (.seq (.ife (.or (.not (.call 58 (.cons (.call 39 (.cons (.loc 1) (.cons (.cst (.int 4)) (.nil)))) (.nil)))) (.not (.call 59 (.cons (.call 39 (.cons (.loc 1) (.cons (.cst (.int 9)) (.nil)))) (.nil))))) (.ret (.cst (.bl false))) (.pass)) (.ret (.call 60 (.cons (.loc 1) (.nil))))))
def d_law : DefI := ⟨[.frz, .own, .shr], 1, c_law⟩
def n_law : List Str := ["script", "pen", "lap"]
def defs : List DefI := [d_is_whole, d_is_count, d_need_count, d_is_bit, d_is_function, d_need_function, d_letters_in, d_number_in, d_row_in, d_is_bits, d_need_row, d_open_in, d_held_in, d_is_letter, d_with_bit, d_fixed_in, d_hung_in, d_hung_letters, d_turned_in, d_flipped, d_renamed_in, d_is_change_in, d_need_change, d_mask_of, d_changed_in, d_changed, d_orders_of, d_lots_of, d_moved_in, d_moved_row, d_rounds_in, d_change_rounds, d_kept_by, d_count_kept, d_mean_kept, d_count_forms, d_count_named, d_count_hung, d__law_pen, d__law_draw, d__law_pick, d__law_mixed, d__law_all_rows, d__law_lots, d__law_turned, d__law_number, d__law_orders, d__law_by_order, d__law_led, d__law_changes, d__law_met, d__law_all_functions, d__law_moved, d__law_rounds, d__law_change, d__law_kept, d__law_changes_right, d__law_choose, d__law_counts_right, d__law_hung_right, d__law_errors_right, d_law]
def subs : List (List Nat) := [[0], [1, 0], [2, 0], [3, 0]]
def xins : List (List Str) := [[], ["what", "number"], ["function"], ["row"]]
def T : Tb := ⟨defs, fun a b => ((subs[a]?).getD []).contains b, fun a => (xins[a]?).getD [], 100000⟩
def names : List (List Str) := [n_is_whole, n_is_count, n_need_count, n_is_bit, n_is_function, n_need_function, n_letters_in, n_number_in, n_row_in, n_is_bits, n_need_row, n_open_in, n_held_in, n_is_letter, n_with_bit, n_fixed_in, n_hung_in, n_hung_letters, n_turned_in, n_flipped, n_renamed_in, n_is_change_in, n_need_change, n_mask_of, n_changed_in, n_changed, n_orders_of, n_lots_of, n_moved_in, n_moved_row, n_rounds_in, n_change_rounds, n_kept_by, n_count_kept, n_mean_kept, n_count_forms, n_count_named, n_count_hung, n__law_pen, n__law_draw, n__law_pick, n__law_mixed, n__law_all_rows, n__law_lots, n__law_turned, n__law_number, n__law_orders, n__law_by_order, n__law_led, n__law_changes, n__law_met, n__law_all_functions, n__law_moved, n__law_rounds, n__law_change, n__law_kept, n__law_changes_right, n__law_choose, n__law_counts_right, n__law_hung_right, n__law_errors_right, n_law]
def fresh : List Bool := [false, false, true, false, true, true, false, true, true, false, true, true, true, false, true, true, true, true, true, true, true, true, true, true, false, false, false, true, true, true, true, true, true, true, true, true, true, false, true, false, false, true, false, true, true, false, false, true, true, false, false, false, true, true, false, false, true, false, true, true, true, true]
def gdf : List Bool := [false, false, false, false, false, false, false, false, false, false, false, false, false, false, false, false, false, false, false, false, false, false, false, false, false, false, false, false, false, false, false, false, false, false, false, false, false, false, false, false, false, false, false, false, false, false, false, false, false, false, false, false, false, false, false, false, true, false, false, false, true, true]
def idLaw : Nat := 61
end K90
set_option maxHeartbeats 0
/-! H90: k90's checks. -/
namespace PB
open PySem PySem.Spec PyProof.Rows L2 LamX
def pr90 : Pr := { T := K90.T, nms := K90.names, top := PySem.Challenge.pw_askedsofew_k90_whole_class_counts.main.body, fq := K90.fresh, gdf := K90.gdf, lms := (List.range 62).map fun f => f == 60 }
theorem hdef90 : (pr90.fns0.all fun q => isTry (pr90.code q.2) || defB pr90 q.2) = true := by decide +kernel
theorem met90 : (pr90.mets.all fun q => metB pr90 q.2 && decide ((pr90.dfs[q.2]?).map defNm = some q.1)) = true := by decide +kernel
theorem ini90 : inisB pr90 = true := by decide +kernel
theorem pos90 : posB pr90 = true := by decide +kernel
theorem hone90 : ∀ f d l, pr90.T.defs[f]? = some d → (f, ()) ∈ pr90.mets.map (fun q => (q.2, ())) → tryC d.code = some l → ∀ q ∈ l, ∀ a, pr90.T.sub a q.1 = true → a = q.1 := by
  have h : (pr90.mets.all fun m => match pr90.T.defs[m.2]? with
    | some d => (match tryC d.code with
      | some l => l.all fun q => (List.range 4).all fun a => !pr90.T.sub a q.1 || decide (a = q.1)
      | none => true)
    | none => true) = true := by decide +kernel
  intro f d l hd hm hl q hq a ha
  obtain ⟨m, hm', e⟩ := List.mem_map.mp hm
  cases e
  have z := List.all_eq_true.mp h m hm'
  rw [hd] at z
  have z : (match tryC d.code with
      | some l => l.all fun q => (List.range 4).all fun a => !pr90.T.sub a q.1 || decide (a = q.1)
      | none => true) = true := z
  rw [hl] at z
  have z := List.all_eq_true.mp z q hq
  by_cases h4 : a < 4
  · have z := List.all_eq_true.mp z a (List.mem_range.mpr h4)
    rw [ha] at z
    simpa using z
  · have : pr90.T.sub a q.1 = false := by
      show ((K90.subs[a]?).getD []).contains q.1 = false
      rw [List.getElem?_eq_none (by show 4 ≤ a; omega)]
      rfl
    rw [this] at ha
    cases ha
theorem ok90 : PrOk pr90 := by
  refine ⟨fun f x h ht => ?_, fun x f h => ?_, ini90⟩
  · have := List.all_eq_true.mp hdef90 _ (List.mem_of_getElem? h)
    rw [ht] at this
    simpa using this
  · have hm := lookup_in h
    have z := List.all_eq_true.mp met90 _ hm
    simp only [Bool.and_eq_true, decide_eq_true_eq] at z
    obtain ⟨st, d, N, a, p1, p2, p3, p8, h0, hds, l, M⟩ := metB_ok z.1 fun d l hd hl => hone90 f d l hd (List.mem_map.mpr ⟨_, hm, rfl⟩) hl
    refine ⟨st, d, N, a, p1, p2, p3, p8, h0, hds, l, M, ?_⟩
    have z2 := z.2
    rw [M.hst] at z2
    exact Option.some.inj z2
end PB
set_option maxHeartbeats 0
/-! R90: the head's run. -/
namespace PB
open PySem PySem.Spec PyProof.Rows L2 LamX
abbrev R90 : PySem.W.OpenRow := PySem.W.OpenLaw.row PySem.Challenge.rw_askedsofew_k90_whole_class_counts
abbrev hk90 : PySem.W.Hook := He.hookX 5 pr90.fa pr90.fn [] pr90.tf pr90.ex
def ob90 (s : PySem.W.SharedT) : He.AlX := He.obsX 5 pr90.fa pr90.fn [] pr90.tf pr90.ex (HandSHeadRun.getT s)
theorem ob_eq90 (s : PySem.W.SharedT) : ob90 s = hk90.obs s.abs := He.obsX_eq (HandSHeadRun.getT_eq s)
def loose90 : List Str := (pr90.top.flatMap topNm).filter fun x => !(x == ("__name__" : Str)) && !(x == ("law" : Str))
def nTop : Nat := pr90.top.length
theorem nTop_eq : nTop = 71 := by decide +kernel
theorem run90 (w : World) : HandSHeadRun.RunEq R90 (PySem.W.view R90.prog [70]) hk90 ob90 4000 loose90 w := by
  intro os
  kernel_rfl
theorem walk90 {n : Nat} (hr : Room (3 * n) callerA) (hc : ∀ ns : List Int, ns.length ≤ 63 → (∀ k ∈ ns, Builtin.Int.intBits k ≤ 1048576) → ∃ o, callN K90.T n 61 none [.lst (ns.map PB.D.int)] = some (.ok (.bl true) o)) :
    PySem.W.WalkO (PySem.W.view R90.prog [70]) loose90 (PySem.W.XL (PySem.W.view R90.prog [70]) []) hk90.says R90.toRowW (HandSHeadRun.topDef R90.prog 70) [] (fun f vs => PySem.call f vs) :=
  walk_pr (l := PySem.Challenge.rw_askedsofew_k90_whole_class_counts) (p := pr90) (N := 63) (g := 61) (n := n) (x := "script") (st := (pr90.dfs[61]?).getD (.Pass ⟨0, 0, 0, 0⟩)) (di := K90.d_law) rfl (by decide) (by kernel_rfl) hr ok90
    (fun x f h ht => by
      have := List.all_eq_true.mp hdef90 _ h
      rw [ht] at this
      simpa using this) pos90 (by decide +kernel) (by decide +kernel) (by kernel_rfl) (by decide +kernel) (by decide +kernel) (by kernel_rfl) (by decide +kernel) hc
end PB
open PySem PySem.W PySem.Calls PyProof.Rows
theorem holds90 {n : Nat} (hr : L2.Room (3 * n) callerA) (hc : ∀ ns : List Int, ns.length ≤ 63 → (∀ k ∈ ns, Builtin.Int.intBits k ≤ 1048576) → ∃ o, PB.callN K90.T n 61 none [.lst (ns.map PB.D.int)] = some (.ok (.bl true) o)) : PySem.Challenge.rw_askedsofew_k90_whole_class_counts.Holds := by
  w_on; o_law
  refine HandSHeadRun.head_any (r := OpenLaw.row PySem.Challenge.rw_askedsofew_k90_whole_class_counts) (q := view (OpenLaw.row PySem.Challenge.rw_askedsofew_k90_whole_class_counts).prog [70]) (H := PB.hk90) (ob := PB.ob90) (M := 4000) (loose := PB.loose90) (d := HandSHeadRun.topDef (OpenLaw.row PySem.Challenge.rw_askedsofew_k90_whole_class_counts).prog 70) (kwd := []) PB.ob_eq90
    (by kernel_rfl) (fun s => by kernel_rfl) PB.run90 (by kernel_rfl) (by kernel_rfl) (by kernel_rfl) (by rfl) (by first | assumption | decide +kernel) (by decide +kernel) ⟨rfl, rfl, rfl, rfl, rfl, by decide +kernel⟩ ?hw ?hc
  case hw => w_witness2
  case hc => exact PB.walk90 hr hc
set_option maxHeartbeats 4000000
/-! L1: the law's pen. -/
namespace PB
open PySem K90
abbrev penD (cs : List D) (at' dg ct fo : Int) : D := .dic false [(.str "cells", .lst cs), (.str "at", .int at'), (.str "digits", .int dg), (.str "count", .int ct), (.str "fold", .int fo)]
/-- the pen, after at most c draws -/
def PenOk (c : Nat) (d : D) : Prop := ∃ (ns : List Int) (at' dg ct fo : Int), d = penD (ns.map .int) at' dg ct fo ∧ 0 ≤ at' ∧ 0 ≤ dg ∧ 0 ≤ ct ∧ ct ≤ c ∧ 0 ≤ fo ∧ fo < 2147483549
abbrev gG (n : Nat) (d : DefI) (act : Act) : Gx := { ks := d.ks, cf := callN T n, info := fun g => match T.defs[g]? with | some d => d.ks.take d.np | none => [], sub := T.sub, xin := T.xin, wf := T.wf, act := act, ex := none }
abbrev sq1 : C → C | .seq a _ => a | c => c
abbrev sq2 : C → C | .seq _ b => b | c => c
abbrev dS2 : C := sq1 (sq2 c__law_draw)
abbrev dS3 : C := sq1 (sq2 (sq2 c__law_draw))
abbrev dS4 : C := sq2 (sq2 (sq2 c__law_draw))
section
variable {n : Nat} {cs : List D} {at' dg ct fo m k : Int} {x2 x3 x4 : Option D} {j : Nat}
theorem dr1 : exec (sq1 c__law_draw) (gG n d__law_draw none) [some (penD cs at' dg ct fo), some (.int m), x2, x3, x4] = some (.nx [some (penD cs at' dg (ct + 1) fo), some (.int m), x2, x3, x4]) := by kernel_rfl
/-- the condition -/
abbrev dC : C := match dS2 with | .ife c _ _ => c | c => c
abbrev dB : C := match dS2 with | .ife _ b _ => b | c => c
theorem dr2p : ev dC (gG n d__law_draw none) [some (penD cs at' (.ofNat (j + 1)) ct fo), some (.int m), x2, x3, x4] = some (.ok (.bl false) [some (penD cs at' (.ofNat (j + 1)) ct fo), some (.int m), x2, x3, x4]) := by kernel_rfl
theorem dr2z : ev dC (gG n d__law_draw none) [some (penD cs at' 0 ct fo), some (.int m), x2, x3, x4] = some (.ok (.bl (decide (at' < (Int.ofNat cs.length)))) [some (penD cs at' 0 ct fo), some (.int m), x2, x3, x4]) := by kernel_rfl
theorem dr2n : exec dS2 (gG n d__law_draw none) [some (penD cs at' (.ofNat (j + 1)) ct fo), some (.int m), x2, x3, x4] = some (.nx [some (penD cs at' (.ofNat (j + 1)) ct fo), some (.int m), x2, x3, x4]) := by kernel_rfl
theorem dr2f (h : ¬ at' < (Int.ofNat cs.length)) : exec dS2 (gG n d__law_draw none) [some (penD cs at' 0 ct fo), some (.int m), x2, x3, x4] = some (.nx [some (penD cs at' 0 ct fo), some (.int m), x2, x3, x4]) := by
  show exec (.ife dC dB .pass) _ _ = _
  simp only [exec, dr2z, decide_eq_false h]
  rfl
/-- the block: a cell is read -/
theorem dr3 (hc : atD cs at' = some (.int k)) : exec (sq1 dB) (gG n d__law_draw none) [some (penD cs at' 0 ct fo), some (.int m), x2, x3, x4] = some (.nx [some (penD cs at' 0 ct fo), some (.int m), x2, some (.int k), x4]) := by
  have e : exec (sq1 dB) (gG n d__law_draw none) [some (penD cs at' 0 ct fo), some (.int m), x2, x3, x4] = outB (((atD cs at').map fun d => R.ok d [some (penD cs at' 0 ct fo), some (.int m), x2, x3, x4])) (fun d e1 => (asgT d__law_draw.ks (.var 3) d e1).map .nx) := by kernel_rfl
  rw [e, hc]
  rfl
theorem dr4 : exec (sq1 (sq2 dB)) (gG n d__law_draw none) [some (penD cs at' 0 ct fo), some (.int m), x2, x3, x4] = some (.nx [some (penD cs (at' + 1) 0 ct fo), some (.int m), x2, x3, x4]) := by kernel_rfl
abbrev dI : C := sq2 (sq2 dB)
abbrev iC : C → C | .ife c _ _ => c | c => c
abbrev iA : C → C | .ife _ a _ => a | c => c
abbrev iB : C → C | .ife _ _ b => b | c => c
theorem dr5c : ev (iC dI) (gG n d__law_draw none) [some (penD cs at' 0 ct fo), some (.int m), x2, some (.int k), x4] = some (.ok (.bl (decide ((10 : Int) ^ 18 ≤ k))) [some (penD cs at' 0 ct fo), some (.int m), x2, some (.int k), x4]) := by kernel_rfl
theorem dr5a : exec (iA dI) (gG n d__law_draw none) [some (penD cs at' 0 ct fo), some (.int m), x2, some (.int k), x4] = some (.nx [some (penD cs at' (k - 10 ^ 18) ct fo), some (.int m), x2, some (.int k), x4]) := by kernel_rfl
theorem mul_l (h : -(2 ^ 64) < fo) (h2 : fo < 2 ^ 64) : op2 .mul (.int fo) (.int k) = some (.int (fo * k)) := by
  have : mulOk fo k = true := by unfold mulOk; simp only [decide_eq_true h, decide_eq_true h2, Bool.true_and, Bool.true_or]
  show (if mulOk fo k then some (D.int (fo * k)) else none) = _
  rw [this]
  rfl
abbrev env5 (cs : List D) (at' ct fo m k : Int) (x2 x4 : Option D) : En := [some (penD cs at' 0 ct fo), some (.int m), x2, some (.int k), x4]
theorem dr5b (h : 0 ≤ fo) (h2 : fo < 2147483549) : exec (iB dI) (gG n d__law_draw none) (env5 cs at' ct fo m k x2 x4) = some (.nx (env5 cs at' ct ((fo * 65539 + k) % 2147483549) m k x2 x4)) := by
  have hm := mul_l (fo := fo) (k := 65539) (by omega) (by omega)
  have e1 : ev (.op .mul (.idx (.loc 0) (.cst (.str "fold"))) (.cst (.int 65539))) (gG n d__law_draw none) (env5 cs at' ct fo m k x2 x4) = some (.ok (.int (fo * 65539)) (env5 cs at' ct fo m k x2 x4)) := by
    have : ev (.op .mul (.idx (.loc 0) (.cst (.str "fold"))) (.cst (.int 65539))) (gG n d__law_draw none) (env5 cs at' ct fo m k x2 x4) = (op2 .mul (.int fo) (.int 65539)).map (.ok · (env5 cs at' ct fo m k x2 x4)) := by kernel_rfl
    rw [this, hm]
    rfl
  have e2 : ev (.op .add (.op .mul (.idx (.loc 0) (.cst (.str "fold"))) (.cst (.int 65539))) (.var 3)) (gG n d__law_draw none) (env5 cs at' ct fo m k x2 x4) = some (.ok (.int (fo * 65539 + k)) (env5 cs at' ct fo m k x2 x4)) := by
    rw [ev, e1]
    kernel_rfl
  have e3 : ev (.blt .int (.cons (.op .add (.op .mul (.idx (.loc 0) (.cst (.str "fold"))) (.cst (.int 65539))) (.var 3)) .nil)) (gG n d__law_draw none) (env5 cs at' ct fo m k x2 x4) = some (.ok (.int (fo * 65539 + k)) (env5 cs at' ct fo m k x2 x4)) := by
    rw [ev, ev, e2]
    kernel_rfl
  have e4 : ev (.op .mod (.blt .int (.cons (.op .add (.op .mul (.idx (.loc 0) (.cst (.str "fold"))) (.cst (.int 65539))) (.var 3)) .nil)) (.cst (.int 2147483549))) (gG n d__law_draw none) (env5 cs at' ct fo m k x2 x4) = some (.ok (.int ((fo * 65539 + k) % 2147483549)) (env5 cs at' ct fo m k x2 x4)) := by
    rw [ev, e3]
    kernel_rfl
  show exec (.stIx 0 (.cst (.str "fold")) (.op .mod (.blt .int (.cons (.op .add (.op .mul (.idx (.loc 0) (.cst (.str "fold"))) (.cst (.int 65539))) (.var 3)) .nil)) (.cst (.int 2147483549)))) _ _ = _
  rw [exec, e4]
  kernel_rfl
/-- the third statement: digits are left -/
theorem dr6n (hm : 0 < m) (hm2 : m < 1073741824) : exec dS3 (gG n d__law_draw none) [some (penD cs at' (.ofNat (j + 1)) ct fo), some (.int m), x2, x3, x4] = some (.rt (.int (Int.ofNat (j + 1) % m)) [some (penD cs at' (Int.ofNat (j + 1) / m) ct fo), some (.int m), x2, x3, some (.int (Int.ofNat (j + 1) % m))]) := by
  have e1 : ev (iC dS3) (gG n d__law_draw none) [some (penD cs at' (.ofNat (j + 1)) ct fo), some (.int m), x2, x3, x4] = some (.ok (.bl true) [some (penD cs at' (.ofNat (j + 1)) ct fo), some (.int m), x2, x3, x4]) := by
    have q : ev (iC dS3) (gG n d__law_draw none) [some (penD cs at' (.ofNat (j + 1)) ct fo), some (.int m), x2, x3, x4] = some (.ok (.bl (decide (0 < Int.ofNat (j + 1)))) [some (penD cs at' (.ofNat (j + 1)) ct fo), some (.int m), x2, x3, x4]) := by kernel_rfl
    rw [q, decide_eq_true (by simp only [Int.ofNat_eq_natCast]; omega)]
  have f1 : op2 .mod (.int (.ofNat (j + 1))) (.int m) = some (.int (Int.ofNat (j + 1) % m)) := by
    show (if 0 < m then some (D.int (Int.ofNat (j + 1) % m)) else none) = _
    rw [if_pos hm]
  have f2 : op2 .fdiv (.int (.ofNat (j + 1))) (.int m) = some (.int (Int.ofNat (j + 1) / m)) := by
    show (if (decide (0 < m) && decide (m < 1073741824)) = true then some (D.int (Int.ofNat (j + 1) / m)) else none) = _
    rw [decide_eq_true hm, decide_eq_true hm2]
    rfl
  have e2 : exec (sq1 (iA dS3)) (gG n d__law_draw none) [some (penD cs at' (.ofNat (j + 1)) ct fo), some (.int m), x2, x3, x4] = some (.nx [some (penD cs at' (.ofNat (j + 1)) ct fo), some (.int m), x2, x3, some (.int (Int.ofNat (j + 1) % m))]) := by
    have : exec (sq1 (iA dS3)) (gG n d__law_draw none) [some (penD cs at' (.ofNat (j + 1)) ct fo), some (.int m), x2, x3, x4] = outB ((op2 .mod (.int (.ofNat (j + 1))) (.int m)).map fun d => R.ok d [some (penD cs at' (.ofNat (j + 1)) ct fo), some (.int m), x2, x3, x4]) (fun d e1 => (asgT d__law_draw.ks (.var 4) d e1).map .nx) := by kernel_rfl
    rw [this, f1]
    rfl
  have e3 : ∀ x4, exec (sq1 (sq2 (iA dS3))) (gG n d__law_draw none) [some (penD cs at' (.ofNat (j + 1)) ct fo), some (.int m), x2, x3, x4] = some (.nx [some (penD cs at' (Int.ofNat (j + 1) / m) ct fo), some (.int m), x2, x3, x4]) := fun x4 => by
    have q : ev (.op .fdiv (.idx (.loc 0) (.cst (.str "digits"))) (.var 1)) (gG n d__law_draw none) [some (penD cs at' (.ofNat (j + 1)) ct fo), some (.int m), x2, x3, x4] = (op2 .fdiv (.int (.ofNat (j + 1))) (.int m)).map fun d => R.ok d [some (penD cs at' (.ofNat (j + 1)) ct fo), some (.int m), x2, x3, x4] := by kernel_rfl
    rw [f2] at q
    show exec (.stIx 0 (.cst (.str "digits")) (.op .fdiv (.idx (.loc 0) (.cst (.str "digits"))) (.var 1))) _ _ = _
    rw [exec, q]
    kernel_rfl
  have e4 : ∀ (p v : D), exec (sq2 (sq2 (iA dS3))) (gG n d__law_draw none) [some p, some (.int m), x2, x3, some v] = some (.rt v [some p, some (.int m), x2, x3, some v]) := fun p v => by kernel_rfl
  show exec (.ife (iC dS3) (.seq (sq1 (iA dS3)) (.seq (sq1 (sq2 (iA dS3))) (sq2 (sq2 (iA dS3))))) .pass) _ _ = _
  rw [exec, e1]
  show exec (.seq (sq1 (iA dS3)) (.seq (sq1 (sq2 (iA dS3))) (sq2 (sq2 (iA dS3))))) _ _ = _
  rw [exec, e2]
  show exec (.seq (sq1 (sq2 (iA dS3))) (sq2 (sq2 (iA dS3)))) _ _ = _
  rw [exec, e3]
  exact e4 _ _
theorem dr6z : exec dS3 (gG n d__law_draw none) [some (penD cs at' 0 ct fo), some (.int m), x2, x3, x4] = some (.nx [some (penD cs at' 0 ct fo), some (.int m), x2, x3, x4]) := by kernel_rfl
/-- the last two statements -/
theorem dr7 (hm : 0 < m) (hb : (fo + ct * 8311 + 43).natAbs < 2 ^ 64) (hct : 0 ≤ ct) (hct2 : ct < 100000) : exec dS4 (gG n d__law_draw none) [some (penD cs at' dg ct fo), some (.int m), x2, x3, x4] = some (.rt (.int ((fo + ct * 8311 + 43) ^ 13 % 2305843009213693951 / 256 % m)) [some (penD cs at' dg ct fo), some (.int m), some (.int (fo + ct * 8311 + 43)), x3, x4]) := by
  have hmu := mul_l (fo := ct) (k := 8311) (by omega) (by omega)
  have e1 : ev (.op .mul (.idx (.loc 0) (.cst (.str "count"))) (.cst (.int 8311))) (gG n d__law_draw none) [some (penD cs at' dg ct fo), some (.int m), x2, x3, x4] = some (.ok (.int (ct * 8311)) [some (penD cs at' dg ct fo), some (.int m), x2, x3, x4]) := by
    have : ev (.op .mul (.idx (.loc 0) (.cst (.str "count"))) (.cst (.int 8311))) (gG n d__law_draw none) [some (penD cs at' dg ct fo), some (.int m), x2, x3, x4] = (op2 .mul (.int ct) (.int 8311)).map (R.ok · [some (penD cs at' dg ct fo), some (.int m), x2, x3, x4]) := by kernel_rfl
    rw [this, hmu]
    rfl
  have e0 : ev (.idx (.loc 0) (.cst (.str "fold"))) (gG n d__law_draw none) [some (penD cs at' dg ct fo), some (.int m), x2, x3, x4] = some (.ok (.int fo) [some (penD cs at' dg ct fo), some (.int m), x2, x3, x4]) := by kernel_rfl
  have e2 : ev (.op .add (.idx (.loc 0) (.cst (.str "fold"))) (.op .mul (.idx (.loc 0) (.cst (.str "count"))) (.cst (.int 8311)))) (gG n d__law_draw none) [some (penD cs at' dg ct fo), some (.int m), x2, x3, x4] = some (.ok (.int (fo + ct * 8311)) [some (penD cs at' dg ct fo), some (.int m), x2, x3, x4]) := by
    rw [ev, e0]
    show bnd (ev (.op .mul (.idx (.loc 0) (.cst (.str "count"))) (.cst (.int 8311))) (gG n d__law_draw none) [some (penD cs at' dg ct fo), some (.int m), x2, x3, x4]) _ = _
    rw [e1]
    kernel_rfl
  have e3 : ev (.op .add (.op .add (.idx (.loc 0) (.cst (.str "fold"))) (.op .mul (.idx (.loc 0) (.cst (.str "count"))) (.cst (.int 8311)))) (.cst (.int 43))) (gG n d__law_draw none) [some (penD cs at' dg ct fo), some (.int m), x2, x3, x4] = some (.ok (.int (fo + ct * 8311 + 43)) [some (penD cs at' dg ct fo), some (.int m), x2, x3, x4]) := by
    rw [ev, e2]
    kernel_rfl
  have e4 : exec (sq1 dS4) (gG n d__law_draw none) [some (penD cs at' dg ct fo), some (.int m), x2, x3, x4] = some (.nx [some (penD cs at' dg ct fo), some (.int m), some (.int (fo + ct * 8311 + 43)), x3, x4]) := by
    show exec (.asg (.var 2) (.op .add (.op .add (.idx (.loc 0) (.cst (.str "fold"))) (.op .mul (.idx (.loc 0) (.cst (.str "count"))) (.cst (.int 8311)))) (.cst (.int 43)))) _ _ = _
    rw [exec, e3]
    kernel_rfl
  generalize hz : fo + ct * 8311 + 43 = z at *
  have g1 : op2 .pow (.int z) (.int 13) = some (.int (z ^ 13)) := by
    show (if (decide ((0 : Int) ≤ 13) && decide ((13 : Int) ≤ 1000000) && decide (z.natAbs < 2 ^ 64)) = true then some (D.int (z ^ (13 : Int).toNat)) else none) = _
    rw [decide_eq_true hb]
    rfl
  have g2 : ∀ y : Int, op2 .mod (.int y) (.int m) = some (.int (y % m)) := fun y => by
    show (if 0 < m then some (D.int (y % m)) else none) = _
    rw [if_pos hm]
  have d1 : ev (.op .pow (.var 2) (.cst (.int 13))) (gG n d__law_draw none) [some (penD cs at' dg ct fo), some (.int m), some (.int z), x3, x4] = some (.ok (.int (z ^ 13)) [some (penD cs at' dg ct fo), some (.int m), some (.int z), x3, x4]) := by
    have : ev (.op .pow (.var 2) (.cst (.int 13))) (gG n d__law_draw none) [some (penD cs at' dg ct fo), some (.int m), some (.int z), x3, x4] = (op2 .pow (.int z) (.int 13)).map (R.ok · [some (penD cs at' dg ct fo), some (.int m), some (.int z), x3, x4]) := by kernel_rfl
    rw [this, g1]
    rfl
  generalize hy : z ^ 13 = y at *
  have d2 : ev (.op .mod (.op .pow (.var 2) (.cst (.int 13))) (.cst (.int 2305843009213693951))) (gG n d__law_draw none) [some (penD cs at' dg ct fo), some (.int m), some (.int z), x3, x4] = some (.ok (.int (y % 2305843009213693951)) [some (penD cs at' dg ct fo), some (.int m), some (.int z), x3, x4]) := by
    rw [ev, d1]
    kernel_rfl
  have d3 : ev (.blt .int (.cons (.op .mod (.op .pow (.var 2) (.cst (.int 13))) (.cst (.int 2305843009213693951))) .nil)) (gG n d__law_draw none) [some (penD cs at' dg ct fo), some (.int m), some (.int z), x3, x4] = some (.ok (.int (y % 2305843009213693951)) [some (penD cs at' dg ct fo), some (.int m), some (.int z), x3, x4]) := by
    rw [ev, ev, d2]
    kernel_rfl
  have d4 : ev (.op .fdiv (.blt .int (.cons (.op .mod (.op .pow (.var 2) (.cst (.int 13))) (.cst (.int 2305843009213693951))) .nil)) (.cst (.int 256))) (gG n d__law_draw none) [some (penD cs at' dg ct fo), some (.int m), some (.int z), x3, x4] = some (.ok (.int (y % 2305843009213693951 / 256)) [some (penD cs at' dg ct fo), some (.int m), some (.int z), x3, x4]) := by
    rw [ev, d3]
    kernel_rfl
  generalize y % 2305843009213693951 / 256 = u at *
  have d5 : ev (.op .mod (.op .fdiv (.blt .int (.cons (.op .mod (.op .pow (.var 2) (.cst (.int 13))) (.cst (.int 2305843009213693951))) .nil)) (.cst (.int 256))) (.var 1)) (gG n d__law_draw none) [some (penD cs at' dg ct fo), some (.int m), some (.int z), x3, x4] = some (.ok (.int (u % m)) [some (penD cs at' dg ct fo), some (.int m), some (.int z), x3, x4]) := by
    rw [ev, d4]
    have : bnd (some (R.ok (D.int u) [some (penD cs at' dg ct fo), some (.int m), some (.int z), x3, x4])) (fun x e1 => bnd (ev (.var 1) (gG n d__law_draw none) e1) fun y e2 => (fin (.op .fdiv (.blt .int (.cons (.op .mod (.op .pow (.var 2) (.cst (.int 13))) (.cst (.int 2305843009213693951))) .nil)) (.cst (.int 256))) x e2).bind fun x => (fin (.var 1) y e2).bind fun y => (op2 .mod x y).map (.ok · e2)) = (op2 .mod (.int u) (.int m)).map (R.ok · [some (penD cs at' dg ct fo), some (.int m), some (.int z), x3, x4]) := by kernel_rfl
    rw [this, g2]
    rfl
  show exec (.seq (sq1 dS4) (.ret (.op .mod (.op .fdiv (.blt .int (.cons (.op .mod (.op .pow (.var 2) (.cst (.int 13))) (.cst (.int 2305843009213693951))) .nil)) (.cst (.int 256))) (.var 1)))) _ _ = _
  rw [exec, e4]
  show exec (.ret (.op .mod (.op .fdiv (.blt .int (.cons (.op .mod (.op .pow (.var 2) (.cst (.int 13))) (.cst (.int 2305843009213693951))) .nil)) (.cst (.int 256))) (.var 1))) _ _ = _
  rw [exec, d5]
  rfl
end
end PB
set_option maxHeartbeats 4000000
/-! L2a: a draw from the pen. -/
namespace PB
open PySem K90
theorem callT {n f : Nat} {d : DefI} {ds : List D} (hd : T.defs[f]? = some d) (hl : ds.length = d.np) : callN T (n + 1) f none ds = match exec d.code (gG n d none) (ds.map some ++ List.replicate (d.ks.length - ds.length) none) with
      | some (.nx e) => some (.ok .non (outsOf d.ks d.np e))
      | some (.rt v e) => some (.ok v (outsOf d.ks d.np e))
      | some (.xc x e) => some (.xc x (outsOf d.ks d.np e))
      | _ => none := by
  rw [callN]
  simp only [hd, Option.isNone_none, Bool.true_and, hl, ne_eq, not_true_eq_false, decide_false, Bool.false_eq_true, if_false] <;> rfl
theorem dr_seq {n : Nat} {cs : List D} {at' dg ct fo m : Int} {o : Option Out} (h : exec (.seq dS2 (.seq dS3 dS4)) (gG n d__law_draw none) [some (penD cs at' dg (ct + 1) fo), some (.int m), none, none, none] = o) :
    exec c__law_draw (gG n d__law_draw none) [some (penD cs at' dg ct fo), some (.int m), none, none, none] = o := by
  show exec (.seq (sq1 c__law_draw) (.seq dS2 (.seq dS3 dS4))) _ _ = _
  rw [exec, dr1]
  exact h
theorem atD_at {ns : List Int} {i : Int} (h0 : 0 ≤ i) (h : i < (ns.length : Int)) : ∃ k, atD (ns.map D.int) i = some (.int k) := by
  obtain ⟨j, rfl⟩ := Int.eq_ofNat_of_zero_le h0
  have hj : j < ns.length := by omega
  refine ⟨ns[j], ?_⟩
  unfold atD ixOf
  rw [if_pos h0, if_pos (by rw [List.length_map]; exact h)]
  simp [hj]
/-- a draw: a number below many, the pen goes on -/
theorem draw {c : Nat} {pen : D} {m : Int} {n : Nat} (h : PenOk c pen) (hc : c < 1000) (hm : 0 < m) (hm2 : m < 1073741824) :
    ∃ k pen', callN T (n + 1) 39 none [pen, .int m] = some (.ok (.int k) [some pen', none]) ∧ 0 ≤ k ∧ k < m ∧ PenOk (c + 1) pen' := by
  obtain ⟨ns, at', dg, ct, fo, rfl, h1, h2, h3, h4, h5, h6⟩ := h
  rw [callT (d := d__law_draw) rfl rfl]
  show ∃ k pen', (match exec c__law_draw (gG n d__law_draw none) [some (penD (ns.map D.int) at' dg ct fo), some (.int m), none, none, none] with
      | some (.nx e) => some (CO.ok .non (outsOf d__law_draw.ks 2 e))
      | some (.rt v e) => some (.ok v (outsOf d__law_draw.ks 2 e))
      | some (.xc x e) => some (.xc x (outsOf d__law_draw.ks 2 e))
      | _ => none) = some (.ok (.int k) [some pen', none]) ∧ 0 ≤ k ∧ k < m ∧ PenOk (c + 1) pen'
  -- the digits' case
  have dig : ∀ {at'' : Int} {fo' : Int} {x3 : Option D} (j : Nat), 0 ≤ at'' → 0 ≤ fo' → fo' < 2147483549 → exec (.seq dS3 dS4) (gG n d__law_draw none) [some (penD (ns.map D.int) at'' (.ofNat (j + 1)) (ct + 1) fo'), some (.int m), none, x3, none] = some (.rt (.int (Int.ofNat (j + 1) % m)) [some (penD (ns.map D.int) at'' (Int.ofNat (j + 1) / m) (ct + 1) fo'), some (.int m), none, x3, some (.int (Int.ofNat (j + 1) % m))]) ∧ PenOk (c + 1) (penD (ns.map D.int) at'' (Int.ofNat (j + 1) / m) (ct + 1) fo') := fun {at'' fo' x3} j a1 a2 a3 => by
    refine ⟨by rw [exec, dr6n hm hm2], ns, at'', _, _, fo', rfl, a1, Int.ediv_nonneg (by simp only [Int.ofNat_eq_natCast]; omega) (by omega), by omega, by omega, a2, a3⟩
  have fold : ∀ {at'' : Int} {fo' : Int} {x3 : Option D}, 0 ≤ at'' → 0 ≤ fo' → fo' < 2147483549 → exec (.seq dS3 dS4) (gG n d__law_draw none) [some (penD (ns.map D.int) at'' 0 (ct + 1) fo'), some (.int m), none, x3, none] = some (.rt (.int ((fo' + (ct + 1) * 8311 + 43) ^ 13 % 2305843009213693951 / 256 % m)) [some (penD (ns.map D.int) at'' 0 (ct + 1) fo'), some (.int m), some (.int (fo' + (ct + 1) * 8311 + 43)), x3, none]) ∧ PenOk (c + 1) (penD (ns.map D.int) at'' 0 (ct + 1) fo') := fun {at'' fo' x3} a1 a2 a3 => by
    refine ⟨by rw [exec, dr6z]; exact dr7 hm (by omega) (by omega) (by omega), ns, at'', _, _, fo', rfl, a1, by omega, by omega, by omega, a2, a3⟩
  have fin : ∀ {k : Int} {p : D} {x2 x3 x4 : Option D} {o : Option Out}, o = some (.rt (.int k) [some p, some (.int m), x2, x3, x4]) → PenOk (c + 1) p → 0 ≤ k → k < m → ∃ k pen', (match o with
      | some (.nx e) => some (CO.ok .non (outsOf d__law_draw.ks 2 e))
      | some (.rt v e) => some (.ok v (outsOf d__law_draw.ks 2 e))
      | some (.xc x e) => some (.xc x (outsOf d__law_draw.ks 2 e))
      | _ => none) = some (.ok (.int k) [some pen', none]) ∧ 0 ≤ k ∧ k < m ∧ PenOk (c + 1) pen' := fun {k p x2 x3 x4 o} e q a b => by
    subst e
    exact ⟨k, p, rfl, a, b, q⟩
  have mr : ∀ y : Int, 0 ≤ y % m ∧ y % m < m := fun y => ⟨Int.emod_nonneg y (by omega), Int.emod_lt_of_pos y hm⟩
  rcases Int.eq_ofNat_of_zero_le h2 with ⟨j, rfl⟩
  cases j with
  | succ j =>
    obtain ⟨e, q⟩ := dig (at'' := at') (fo' := fo) (x3 := none) j h1 h5 h6
    have z := dr_seq (n := n) (cs := ns.map D.int) (at' := at') (dg := ((j + 1 : Nat) : Int)) (ct := ct) (fo := fo) (m := m) rfl
    rw [exec, show ((j + 1 : Nat) : Int) = Int.ofNat (j + 1) from rfl, dr2n] at z
    exact fin (z.trans e) q (mr _).1 (mr _).2
  | zero =>
    by_cases ha : at' < ((ns.map D.int).length : Int)
    · rw [List.length_map] at ha
      obtain ⟨k, hk⟩ := atD_at h1 ha
      have blk : exec dS2 (gG n d__law_draw none) [some (penD (ns.map D.int) at' 0 (ct + 1) fo), some (.int m), none, none, none] = exec dI (gG n d__law_draw none) [some (penD (ns.map D.int) (at' + 1) 0 (ct + 1) fo), some (.int m), none, some (.int k), none] := by
        show exec (.ife dC dB .pass) _ _ = _
        rw [exec, dr2z, decide_eq_true (show at' < Int.ofNat (ns.map D.int).length by rw [List.length_map]; exact ha)]
        show exec (.seq (sq1 dB) (.seq (sq1 (sq2 dB)) dI)) _ _ = _
        rw [exec, dr3 hk]
        show exec (.seq (sq1 (sq2 dB)) dI) _ _ = _
        rw [exec, dr4]
      by_cases hb : (10 : Int) ^ 18 ≤ k
      · have b2 : exec dI (gG n d__law_draw none) [some (penD (ns.map D.int) (at' + 1) 0 (ct + 1) fo), some (.int m), none, some (.int k), none] = some (.nx [some (penD (ns.map D.int) (at' + 1) (k - 10 ^ 18) (ct + 1) fo), some (.int m), none, some (.int k), none]) := by
          show exec (.ife (iC dI) (iA dI) (iB dI)) _ _ = _
          rw [exec, dr5c, decide_eq_true hb]
          exact dr5a (n := n)
        obtain ⟨i, hi⟩ := Int.eq_ofNat_of_zero_le (show 0 ≤ k - 10 ^ 18 by omega)
        cases i with
        | zero =>
          obtain ⟨e, q⟩ := fold (at'' := at' + 1) (fo' := fo) (x3 := some (.int k)) (by omega) h5 h6
          have z := dr_seq (n := n) (cs := ns.map D.int) (at' := at') (dg := ((0 : Nat) : Int)) (ct := ct) (fo := fo) (m := m) rfl
          rw [exec, show ((0 : Nat) : Int) = 0 from rfl, blk, b2, hi] at z
          exact fin (z.trans e) q (mr _).1 (mr _).2
        | succ i =>
          obtain ⟨e, q⟩ := dig (at'' := at' + 1) (fo' := fo) (x3 := some (.int k)) i (by omega) h5 h6
          have z := dr_seq (n := n) (cs := ns.map D.int) (at' := at') (dg := ((0 : Nat) : Int)) (ct := ct) (fo := fo) (m := m) rfl
          rw [exec, show ((0 : Nat) : Int) = 0 from rfl, blk, b2, hi] at z
          exact fin (z.trans e) q (mr _).1 (mr _).2
      · have b2 : exec dI (gG n d__law_draw none) [some (penD (ns.map D.int) (at' + 1) 0 (ct + 1) fo), some (.int m), none, some (.int k), none] = some (.nx [some (penD (ns.map D.int) (at' + 1) 0 (ct + 1) ((fo * 65539 + k) % 2147483549)), some (.int m), none, some (.int k), none]) := by
          show exec (.ife (iC dI) (iA dI) (iB dI)) _ _ = _
          rw [exec, dr5c, decide_eq_false hb]
          exact dr5b (n := n) h5 h6
        obtain ⟨e, q⟩ := fold (at'' := at' + 1) (fo' := (fo * 65539 + k) % 2147483549) (x3 := some (.int k)) (by omega) (Int.emod_nonneg _ (by omega)) (Int.emod_lt_of_pos _ (by omega))
        have z := dr_seq (n := n) (cs := ns.map D.int) (at' := at') (dg := ((0 : Nat) : Int)) (ct := ct) (fo := fo) (m := m) rfl
        rw [exec, show ((0 : Nat) : Int) = 0 from rfl, blk, b2] at z
        exact fin (z.trans e) q (mr _).1 (mr _).2
    · obtain ⟨e, q⟩ := fold (at'' := at') (fo' := fo) (x3 := none) h1 h5 h6
      have z := dr_seq (n := n) (cs := ns.map D.int) (at' := at') (dg := ((0 : Nat) : Int)) (ct := ct) (fo := fo) (m := m) rfl
      rw [exec, show ((0 : Nat) : Int) = 0 from rfl, dr2f ha] at z
      exact fin (z.trans e) q (mr _).1 (mr _).2
end PB
set_option maxHeartbeats 4000000
/-! L2b: what is mixed is a row of picks. -/
namespace PB
open PySem K90
/-- all rows of picks -/
theorem rangeD_len : ∀ (n : Nat) {lo : Int}, (rangeD lo n).length = n
  | 0, _ => rfl
  | n + 1, lo => by simp [rangeD, rangeD_len n]
/-- all rows of picks -/
def picksN {α : Type} : Nat → List α → List (List α)
  | 0, _ => [[]]
  | n + 1, l => (List.range l.length).flatMap fun j => match l[j]? with
    | some x => (picksN n (l.eraseIdx j)).map (x :: ·)
    | none => []
def picks {α : Type} (l : List α) : List (List α) := picksN l.length l
theorem picks_mem {α : Type} {l : List α} {j : Nat} {x : α} {p : List α} (h : l[j]? = some x) (hp : p ∈ picks (l.eraseIdx j)) : x :: p ∈ picks l := by
  have hj : j < l.length := (List.getElem?_eq_some_iff.mp h).1
  have hl : l.length = (l.eraseIdx j).length + 1 := by rw [List.length_eraseIdx, if_pos hj]; omega
  unfold picks
  rw [hl]
  show x :: p ∈ (List.range l.length).flatMap _
  refine List.mem_flatMap.mpr ⟨j, List.mem_range.mpr hj, ?_⟩
  rw [h]
  exact List.mem_map.mpr ⟨p, hp, rfl⟩
theorem exec_nx {c a b : C} {G : Gx} {e e1 : En} (h : c = .seq a b) (h1 : exec a G e = some (.nx e1)) : exec c G e = exec b G e1 := by
  subst h
  rw [exec, h1]
theorem callT_rt {n f : Nat} {d : DefI} {ds : List D} {v : D} {e : En} {os : List (Option D)} (hd : T.defs[f]? = some d) (hl : ds.length = d.np) (h : exec d.code (gG n d none) (ds.map some ++ List.replicate (d.ks.length - ds.length) none) = some (.rt v e)) (ho : outsOf d.ks d.np e = os) : callN T (n + 1) f none ds = some (.ok v os) := by
  rw [callT hd hl, h, ← ho]
theorem bi_range {i : Int} (h1 : -4611686018427387904 ≤ i) (h2 : i < 4611686018427387904) : bi .range [.int i] = some (.lst (rangeD 0 i.toNat)) := by
  simp only [bi]
  rw [if_pos]
  simp only [Bool.and_eq_true, decide_eq_true_eq]
  exact ⟨by omega, by omega⟩
theorem ev_range {c : C} {G : Gx} {e e1 : En} {i : Int} (h : ev (.cons c .nil) G e = some (.ok (.lst [.int i]) e1)) (h1 : -4611686018427387904 ≤ i) (h2 : i < 4611686018427387904) (hl : isLoc c = false := by rfl) : ev (.blt .range (.cons c .nil)) G e = some (.ok (.lst (rangeD 0 i.toNat)) e1) := by
  rw [ev, h]
  have : finL (.cons c .nil) [.int i] e1 = some [.int i] := by
    have : fin c (.int i) e1 = some (.int i) := by
      cases c <;> first | rfl | cases hl
    simp only [finL, this]
    rfl
  show (finL (.cons c .nil) [.int i] e1).bind _ = _
  rw [this]
  show (bi .range [.int i]).map _ = _
  rw [bi_range h1 h2]
  rfl
abbrev mB : C := match sq1 (sq2 c__law_mixed) with | .fr _ _ b => b | c => c
abbrev mCall : C := .call 39 (.cons (.loc 0) (.cons (.blt .len (.cons (.loc 3) (.nil))) (.nil)))
section
variable {n : Nat} {pen pen' so x2 : D} {y2 : Option D} {L F : List D} {k : Int} {o : List (Option D)}
theorem mx1 : ev mCall (gG n d__law_mixed none) [some pen, some so, y2, some (.lst L), some (.lst F)] = match callN T n 39 none [pen, .int (Int.ofNat L.length)] with
    | none => none
    | some (.ok d o) => (backL [.own, .shr] (.cons (.loc 0) (.cons (.blt .len (.cons (.loc 3) (.nil))) (.nil))) o [some pen, some so, y2, some (.lst L), some (.lst F)]).map (R.ok d ·)
    | some (.xc x o) => (backL [.own, .shr] (.cons (.loc 0) (.cons (.blt .len (.cons (.loc 3) (.nil))) (.nil))) o [some pen, some so, y2, some (.lst L), some (.lst F)]).map (R.xc x ·) := by kernel_rfl
theorem mx2 (h : callN T n 39 none [pen, .int (Int.ofNat L.length)] = some (.ok (.int k) [some pen', none])) : ev mCall (gG n d__law_mixed none) [some pen, some so, y2, some (.lst L), some (.lst F)] = some (.ok (.int k) [some pen', some so, y2, some (.lst L), some (.lst F)]) := by
  rw [mx1, h]
  rfl
/-- one round -/
theorem mx3 {c : Nat} (hp : PenOk c pen) (hc : c < 1000) (hL : L ≠ []) (hl : L.length < 1000) (hF : F.length < 1000) : ∃ (j : Nat) (x pen' : D), L[j]? = some x ∧ PenOk (c + 1) pen' ∧
    exec mB (gG (n + 1) d__law_mixed none) [some pen, some so, y2, some (.lst L), some (.lst F)] = some (.nx [some pen', some so, y2, some (.lst (L.eraseIdx j)), some (.lst (F ++ [x]))]) := by
  have hpos : 0 < L.length := List.length_pos_iff.mpr hL
  obtain ⟨k, pen', hd, k0, k1, hp'⟩ := draw (n := n) hp hc (m := Int.ofNat L.length) (by simp only [Int.ofNat_eq_natCast]; omega) (by simp only [Int.ofNat_eq_natCast]; omega)
  obtain ⟨j, rfl⟩ := Int.eq_ofNat_of_zero_le k0
  have hj : j < L.length := by simp only [Int.ofNat_eq_natCast] at k1; omega
  refine ⟨j, L[j], pen', List.getElem?_eq_getElem hj, hp', ?_⟩
  have e1 := mx2 (so := so) (y2 := y2) (F := F) hd
  have e2 : ev (.popAt 3 mCall) (gG (n + 1) d__law_mixed none) [some pen, some so, y2, some (.lst L), some (.lst F)] = some (.ok L[j] [some pen', some so, y2, some (.lst (L.eraseIdx j)), some (.lst F)]) := by
    have : ev (.popAt 3 mCall) (gG (n + 1) d__law_mixed none) [some pen, some so, y2, some (.lst L), some (.lst F)] = bnd (ev mCall (gG (n + 1) d__law_mixed none) [some pen, some so, y2, some (.lst L), some (.lst F)]) fun k e1 => match rdS e1 3, k with
      | some (.lst l), .int k => if (gG (n + 1) d__law_mixed none).ks[3]? = some Kd.own ∧ l.length ≤ lim then (ixOf l.length k).bind fun j => (l[j]?).map fun x => R.ok x (e1.set 3 (some (.lst (l.eraseIdx j)))) else none
      | _, _ => none := by rw [ev]; rfl
    rw [this, e1]
    show (if (gG (n + 1) d__law_mixed none).ks[3]? = some Kd.own ∧ L.length ≤ lim then (ixOf L.length (j : Int)).bind fun j => (L[j]?).map fun x => R.ok x ([some pen', some so, y2, some (.lst (L.eraseIdx j)), some (.lst F)]) else none) = _
    rw [if_pos ⟨rfl, by unfold lim; omega⟩]
    have : ixOf L.length (j : Int) = some j := by
      unfold ixOf
      rw [if_pos (by omega), if_pos (by omega)]
      rfl
    rw [this]
    show (L[j]?).map _ = _
    rw [List.getElem?_eq_getElem hj]
    rfl
  show exec (.app 4 (.popAt 3 mCall)) _ _ = _
  rw [exec, e2]
  show (if ((gG (n + 1) d__law_mixed none).ks[4]? = some Kd.own && decide (F.length < lim)) = true then some (Out.nx _) else none) = _
  rw [show (decide (F.length < lim)) = true from decide_eq_true (by unfold lim; omega)]
  rfl
/-- all rounds -/
theorem mx4 : ∀ (L : List D) {c : Nat} {pen : D} {F : List D} {y2 : Option D} {ds : List D}, PenOk c pen → c + L.length < 1000 → F.length + L.length < 1000 → ds.length = L.length →
    ∃ (P : List D) (pen' : D) (z2 : Option D), P ∈ picks L ∧ PenOk (c + L.length) pen' ∧
      forE (asgT d__law_mixed.ks (.var 2)) (fun e => exec mB (gG (n + 1) d__law_mixed none) e) ds [some pen, some so, y2, some (.lst L), some (.lst F)] = some (.nx [some pen', some so, z2, some (.lst []), some (.lst (F ++ P))]) := by
  intro L
  generalize hm : L.length = m
  induction m generalizing L with
  | zero =>
    intro c pen F y2 ds hp _ _ hd
    have : L = [] := List.length_eq_zero_iff.mp hm
    subst this
    have : ds = [] := List.length_eq_zero_iff.mp hd
    subst this
    exact ⟨[], pen, y2, by simp [picks, picksN], hp, by simp [forE]⟩
  | succ m ih =>
    intro c pen F y2 ds hp h1 h2 hd
    cases ds with
    | nil => simp at hd
    | cons d ds =>
      have hne : L ≠ [] := fun z => by rw [z] at hm; simp at hm
      obtain ⟨j, x, pen1, hx, hp1, e⟩ := mx3 (n := n) (so := so) (y2 := some d) (F := F) hp (by omega) hne (by omega) (by omega)
      have hj : j < L.length := (List.getElem?_eq_some_iff.mp hx).1
      have hl : (L.eraseIdx j).length = m := by rw [List.length_eraseIdx, if_pos hj]; omega
      obtain ⟨P, pen', z2, q1, q2, q3⟩ := ih (L.eraseIdx j) hl (F := F ++ [x]) (y2 := some d) (ds := ds) hp1 (by omega) (by simp; omega) (by simpa using hd)
      refine ⟨x :: P, pen', z2, picks_mem hx q1, by rw [show c + (m + 1) = c + 1 + m by omega]; exact q2, ?_⟩
      have st : asgT d__law_mixed.ks (.var 2) d [some pen, some so, y2, some (.lst L), some (.lst F)] = some [some pen, some so, some d, some (.lst L), some (.lst F)] := rfl
      rw [forE, st]
      show (match exec mB (gG (n + 1) d__law_mixed none) [some pen, some so, some d, some (.lst L), some (.lst F)] with
        | some (.nx e2) => forE (asgT d__law_mixed.ks (.var 2)) (fun e => exec mB (gG (n + 1) d__law_mixed none) e) ds e2
        | some (.ct e2) => forE (asgT d__law_mixed.ks (.var 2)) (fun e => exec mB (gG (n + 1) d__law_mixed none) e) ds e2
        | some (.bk e2) => some (.nx e2)
        | o => o) = _
      rw [e]
      refine Eq.trans q3 ?_
      rw [List.append_assoc]
      rfl
end
/-- the def -/
theorem mixed {n c : Nat} {pen : D} {L : List D} (hp : PenOk c pen) (h1 : c + L.length < 1000) (h2 : L.length < 1000) : ∃ P pen', P ∈ picks L ∧ PenOk (c + L.length) pen' ∧ callN T (n + 2) 41 none [pen, .lst L] = some (.ok (.lst P) [some pen', none]) := by
  obtain ⟨P, pen', z2, q1, q2, q3⟩ := mx4 (n := n) (so := .lst L) L (F := []) (y2 := none) (ds := rangeD 0 L.length) hp h1 (by simpa using h2) (rangeD_len _)
  refine ⟨P, pen', q1, q2, ?_⟩
  have s1 : exec (sq1 c__law_mixed) (gG (n + 1) d__law_mixed none) [some pen, some (.lst L), none, none, none] = some (.nx [some pen, some (.lst L), none, some (.lst L), some (.lst [])]) := by kernel_rfl
  have s2 : exec (sq1 (sq2 c__law_mixed)) (gG (n + 1) d__law_mixed none) [some pen, some (.lst L), none, some (.lst L), some (.lst [])] = some (.nx [some pen', some (.lst L), z2, some (.lst []), some (.lst P)]) := by
    have r : ev (.blt .range (.cons (.blt .len (.cons (.var 1) (.nil))) (.nil))) (gG (n + 1) d__law_mixed none) [some pen, some (.lst L), none, some (.lst L), some (.lst [])] = some (.ok (.lst (rangeD 0 L.length)) [some pen, some (.lst L), none, some (.lst L), some (.lst [])]) := by
      have i1 : ev (.cons (.blt .len (.cons (.var 1) (.nil))) (.nil)) (gG (n + 1) d__law_mixed none) [some pen, some (.lst L), none, some (.lst L), some (.lst [])] = some (.ok (.lst [.int (Int.ofNat L.length)]) [some pen, some (.lst L), none, some (.lst L), some (.lst [])]) := by kernel_rfl
      exact ev_range i1 (by simp only [Int.ofNat_eq_natCast]; omega) (by simp only [Int.ofNat_eq_natCast]; omega)
    show exec (.fr (.var 2) (.blt .range (.cons (.blt .len (.cons (.var 1) (.nil))) (.nil))) mB) _ _ = _
    rw [exec, r]
    exact q3
  have E : exec c__law_mixed (gG (n + 1) d__law_mixed none) [some pen, some (.lst L), none, none, none] = some (.rt (.lst P) [some pen', some (.lst L), z2, some (.lst []), none]) := by
    refine (exec_nx (c := c__law_mixed) (a := sq1 c__law_mixed) (b := sq2 c__law_mixed) rfl s1).trans ?_
    refine (exec_nx (c := sq2 c__law_mixed) (a := sq1 (sq2 c__law_mixed)) (b := sq2 (sq2 c__law_mixed)) rfl s2).trans ?_
    rfl
  exact callT_rt (d := d__law_mixed) rfl rfl E rfl
end PB
set_option maxHeartbeats 4000000
/-! L2c: a change that is drawn. -/
namespace PB
open PySem K90
def intsN (N : Nat) : List Int := (List.range N).map fun i : Nat => (i : Int)
theorem erase_map {α β : Type} {f : α → β} : ∀ {l : List α} {j : Nat}, (l.map f).eraseIdx j = (l.eraseIdx j).map f
  | [], _ => rfl
  | _ :: _, 0 => rfl
  | a :: l, j + 1 => by simp only [List.map_cons, List.eraseIdx_cons_succ, erase_map]
def toInts : List D → Option (List Int)
  | [] => some []
  | .int i :: r => (toInts r).map (i :: ·)
  | _ => none
theorem toInts_eq : ∀ {ds : List D} {l : List Int}, toInts ds = some l → ds = l.map .int
  | [], l, h => by cases h; rfl
  | .int i :: r, l, h => by
    simp only [toInts] at h
    obtain ⟨l', h1, rfl⟩ := Option.map_eq_some_iff.mp h
    rw [toInts_eq h1]
    rfl
  | .non :: _, _, h => by cases h
  | .bl _ :: _, _, h => by cases h
  | .str _ :: _, _, h => by cases h
  | .tup _ :: _, _, h => by cases h
  | .lst _ :: _, _, h => by cases h
  | .dic _ _ :: _, _, h => by cases h
theorem picksN_map {α β : Type} {f : α → β} : ∀ {n : Nat} {l : List α} {p : List β}, p ∈ picksN n (l.map f) → ∃ q ∈ picksN n l, p = q.map f
  | 0, l, p, h => by
    have := List.mem_singleton.mp h
    exact ⟨[], List.mem_singleton.mpr rfl, this⟩
  | n + 1, l, p, h => by
    obtain ⟨j, hj, h⟩ := List.mem_flatMap.mp h
    rw [List.getElem?_map] at h
    cases hx : l[j]? with
    | none => rw [hx] at h; cases h
    | some x =>
      rw [hx] at h
      obtain ⟨p', h1, rfl⟩ := List.mem_map.mp h
      have he : (l.map f).eraseIdx j = (l.eraseIdx j).map f := erase_map
      rw [he] at h1
      obtain ⟨q, q1, rfl⟩ := picksN_map h1
      refine ⟨x :: q, List.mem_flatMap.mpr ⟨j, by simpa using hj, ?_⟩, rfl⟩
      rw [hx]
      exact List.mem_map.mpr ⟨q, q1, rfl⟩
theorem picks_map {α β : Type} {f : α → β} {l : List α} {p : List β} (h : p ∈ picks (l.map f)) : ∃ q ∈ picks l, p = q.map f := by
  unfold picks at h
  rw [List.length_map] at h
  exact picksN_map h
/-- rising lots of the first numbers -/
def lotsN (N : Nat) : List (List Int) := (List.range N).foldr (fun (i : Nat) (ls : List (List Int)) => ls.flatMap fun l => [l, (i : Int) :: l]) [[]]
def lotOf (q : List Int) (k : Int) : Option D := (slcD (.lst (q.map D.int)) none (some k)).bind fun x => (bi .sorted [x]).bind fun y => bi .tuple [y]
def lotB (N : Nat) : Bool := (picks (intsN N)).all fun q => (List.range (N + 1)).all fun k => match lotOf q k with
  | some (.tup l) => (match toInts l with
    | some l => (lotsN N).contains l
    | none => false)
  | _ => false
theorem lotB_ok {N : Nat} (h : lotB N = true) {q : List Int} (hq : q ∈ picks (intsN N)) {k : Int} (h0 : 0 ≤ k) (h1 : k < N + 1) : ∃ l ∈ lotsN N, lotOf q k = some (.tup (l.map D.int)) := by
  obtain ⟨j, rfl⟩ := Int.eq_ofNat_of_zero_le h0
  have z := List.all_eq_true.mp (List.all_eq_true.mp h q hq) j (List.mem_range.mpr (by omega))
  revert z
  cases lotOf q (j : Int) with
  | none => intro z; cases z
  | some y => cases y with
    | tup l =>
      intro z
      have z : (match toInts l with
        | some l => (lotsN N).contains l
        | none => false) = true := z
      cases hl : toInts l with
      | none => rw [hl] at z; cases z
      | some l' =>
        rw [hl] at z
        exact ⟨l', List.contains_iff_mem.mp z, by rw [toInts_eq hl]⟩
    | _ => intro z; cases z
theorem lot0 : lotB 0 = true := by decide +kernel
theorem lot1 : lotB 1 = true := by decide +kernel
theorem lot2 : lotB 2 = true := by decide +kernel
theorem lot3 : lotB 3 = true := by decide +kernel
theorem lot4 : lotB 4 = true := by decide +kernel
/-- a change -/
def chD (p l : List Int) (b : Int) : D := .tup [.tup (p.map .int), .tup (l.map .int), .int b]
theorem range_ints : ∀ {N : Nat} {lo : Int}, rangeD lo N = ((List.range N).map fun i : Nat => lo + (i : Int)).map D.int
  | 0, _ => rfl
  | N + 1, lo => by
    rw [rangeD, range_ints (N := N), List.range_succ_eq_map]
    simp only [List.map_cons, List.map_map, Int.natCast_zero, Int.add_zero]
    congr 1
    apply List.map_congr_left
    intro i _
    simp only [Function.comp]
    congr 1
    omega
theorem rangeD_ints {N : Nat} : rangeD 0 N = (intsN N).map D.int := by
  rw [range_ints]
  simp [intsN]
end PB
set_option maxHeartbeats 4000000
/-! L2d: the change that is drawn. -/
namespace PB
open PySem K90
abbrev hRg : C := .lrng false (.cons (.var 1) (.nil))
abbrev hMx : C := .call 41 (.cons (.loc 0) (.cons hRg (.nil)))
abbrev hCut : C := .call 39 (.cons (.loc 0) (.cons (.op .add (.var 1) (.cst (.int 1))) (.nil)))
abbrev hBit : C := .call 39 (.cons (.loc 0) (.cons (.cst (.int 2)) (.nil)))
section
variable {n : Nat} {N : Int} {pen pen' : D} {x2 x3 : Option D} {l : List D} {v : D}
theorem backO {c : C} {y : Option D} : backL [.own, .shr] (.cons (.loc 0) (.cons c .nil)) [some pen', none] [some pen, some (.int N), x2, x3] = some [some pen', some (.int N), x2, x3] := by
  cases c <;> rfl
theorem argO {c : C} {x : D} (h1 : isLoc c = false) : argL d__law_change.ks [.own, .shr] (.cons (.loc 0) (.cons c .nil)) [.non, x] [some pen, some (.int N), x2, x3] = some [pen, x] := by
  cases c <;> first | rfl | cases h1
theorem callO {c : C} {f : Nat} {x : D} (h1 : isLoc c = false) (hi : (gG n d__law_change none).info f = [.own, .shr]) (hx : ev c (gG n d__law_change none) [some pen, some (.int N), x2, x3] = some (.ok x [some pen, some (.int N), x2, x3])) (hc : callN T n f none [pen, x] = some (.ok v [some pen', none])) :
    ev (.call f (.cons (.loc 0) (.cons c .nil))) (gG n d__law_change none) [some pen, some (.int N), x2, x3] = some (.ok v [some pen', some (.int N), x2, x3]) := by
  have a1 : ev (.cons (.loc 0) (.cons c .nil)) (gG n d__law_change none) [some pen, some (.int N), x2, x3] = some (.ok (.lst [.non, x]) [some pen, some (.int N), x2, x3]) := by
    rw [ev]
    show bnd (some (R.ok D.non [some pen, some (.int N), x2, x3])) _ = _
    show bnd (ev (.cons c .nil) (gG n d__law_change none) [some pen, some (.int N), x2, x3]) _ = _
    rw [ev, hx]
    rfl
  rw [ev, a1]
  show (argL d__law_change.ks ((gG n d__law_change none).info f) (.cons (.loc 0) (.cons c .nil)) [.non, x] [some pen, some (.int N), x2, x3]).bind _ = _
  rw [hi, argO h1]
  show (match callN T n f none [pen, x] with
    | none => none
    | some (.ok d o) => (backL [Kd.own, Kd.shr] (.cons (.loc 0) (.cons c .nil)) o [some pen, some (.int N), x2, x3]).map (R.ok d ·)
    | some (.xc x o) => (backL [Kd.own, Kd.shr] (.cons (.loc 0) (.cons c .nil)) o [some pen, some (.int N), x2, x3]).map (R.xc x ·)) = _
  rw [hc]
  show (backL [Kd.own, Kd.shr] (.cons (.loc 0) (.cons c .nil)) [some pen', none] [some pen, some (.int N), x2, x3]).map _ = _
  rw [backO (y := none)]
  rfl
end
theorem exec_par {i j : Nat} {a b : C} {G : Gx} {e e1 e2 e3 e4 : En} {x y : D} (h1 : ev a G e = some (.ok x e1)) (h2 : ev b G e1 = some (.ok y e2)) (hl : (isLoc a || isLoc b) = false) (h3 : setK G.ks i x e2 = some e3) (h4 : setK G.ks j y e3 = some e4) : exec (.par i j a b) G e = some (.nx e4) := by
  simp only [exec, h1, h2, outB, hl, Bool.false_eq_true, if_false, h3, h4, Option.bind_some, Option.map_some]
theorem bind2 {α β : Type} {o : Option α} {f : α → Option β} {y : β} (h : o.bind f = some y) : ∃ x, o = some x ∧ f x = some y := Option.bind_eq_some_iff.mp h
theorem change_of {N m c : Nat} {pen : D} (hN : N ≤ 4) (hr : ∀ (p : D) (x2 x3 : Option D), ev hRg (gG (m + 2) d__law_change none) [some p, some (.int (N : Int)), x2, x3] = some (.ok (.lst (rangeD 0 N)) [some p, some (.int (N : Int)), x2, x3]))
    (hl : lotB N = true) (hp : PenOk c pen) (hc : c < 900) : ∃ p ∈ picks (intsN N), ∃ l ∈ lotsN N, ∃ b : Int, (b = 0 ∨ b = 1) ∧ ∃ pen', PenOk (c + N + N + 1 + 1) pen' ∧ callN T (m + 3) 54 none [pen, .int N] = some (.ok (chD p l b) [some pen', none]) := by
  have ln : (rangeD 0 N).length = N := rangeD_len _
  obtain ⟨P1, pen1, a1, a2, a3⟩ := mixed (n := m) (L := rangeD 0 N) hp (by rw [ln]; omega) (by rw [ln]; omega)
  rw [ln] at a2
  obtain ⟨P2, pen2, b1, b2, b3⟩ := mixed (n := m) (L := rangeD 0 N) a2 (by rw [ln]; omega) (by rw [ln]; omega)
  rw [ln] at b2
  obtain ⟨k, pen3, c1, c2, c3, c4⟩ := draw (n := m + 1) (m := (N : Int) + 1) b2 (by omega) (by omega) (by omega)
  obtain ⟨b, pen4, d1, d2, d3, d4⟩ := draw (n := m + 1) (m := 2) c4 (by omega) (by omega) (by omega)
  rw [rangeD_ints] at a1 b1
  obtain ⟨p, hp1, rfl⟩ := picks_map a1
  obtain ⟨q, hq1, rfl⟩ := picks_map b1
  obtain ⟨l, hl1, hl2⟩ := lotB_ok hl hq1 c2 c3
  unfold lotOf at hl2
  obtain ⟨S, s1, hl2⟩ := bind2 hl2
  obtain ⟨Y, y1, y2⟩ := bind2 hl2
  refine ⟨p, hp1, l, hl1, b, by omega, pen4, d4, ?_⟩
  have eA : ev hMx (gG (m + 2) d__law_change none) [some pen, some (.int (N : Int)), none, none] = some (.ok (.lst (p.map D.int)) [some pen1, some (.int (N : Int)), none, none]) := callO rfl (by kernel_rfl) (hr _ _ _) a3
  have eB : ev hMx (gG (m + 2) d__law_change none) [some pen1, some (.int (N : Int)), none, none] = some (.ok (.lst (q.map D.int)) [some pen2, some (.int (N : Int)), none, none]) := callO rfl (by kernel_rfl) (hr _ _ _) b3
  have eC : ev hCut (gG (m + 2) d__law_change none) [some pen2, some (.int (N : Int)), none, none] = some (.ok (.int k) [some pen3, some (.int (N : Int)), none, none]) := callO (x := .int ((N : Int) + 1)) rfl (by kernel_rfl) (by kernel_rfl) c1
  have eS : ev (.slc hMx .noPart hCut) (gG (m + 2) d__law_change none) [some pen1, some (.int (N : Int)), none, none] = some (.ok S [some pen3, some (.int (N : Int)), none, none]) := by
    rw [ev, eB]
    show bnd (ev hCut (gG (m + 2) d__law_change none) [some pen2, some (.int (N : Int)), none, none]) _ = _
    rw [eC]
    show (slcD (.lst (q.map D.int)) none (some k)).map (R.ok · [some pen3, some (.int (N : Int)), none, none]) = _
    rw [s1]
    rfl
  have e1 : exec (sq1 c__law_change) (gG (m + 2) d__law_change none) [some pen, some (.int (N : Int)), none, none] = some (.nx [some pen3, some (.int (N : Int)), some (.lst (p.map D.int)), some S]) := by
    exact exec_par (i := 2) (j := 3) (a := hMx) (b := .slc hMx .noPart hCut) eA eS rfl rfl rfl
  have f1 : ev (.blt .tuple (.cons (.var 2) .nil)) (gG (m + 2) d__law_change none) [some pen3, some (.int (N : Int)), some (.lst (p.map D.int)), some S] = some (.ok (.tup (p.map D.int)) [some pen3, some (.int (N : Int)), some (.lst (p.map D.int)), some S]) := by kernel_rfl
  have f2 : ev (.blt .sorted (.cons (.var 3) .nil)) (gG (m + 2) d__law_change none) [some pen3, some (.int (N : Int)), some (.lst (p.map D.int)), some S] = some (.ok Y [some pen3, some (.int (N : Int)), some (.lst (p.map D.int)), some S]) := by
    rw [ev]
    show (bi .sorted [S]).map _ = _
    rw [y1]
    rfl
  have f3 : ev (.blt .tuple (.cons (.blt .sorted (.cons (.var 3) .nil)) .nil)) (gG (m + 2) d__law_change none) [some pen3, some (.int (N : Int)), some (.lst (p.map D.int)), some S] = some (.ok (.tup (l.map D.int)) [some pen3, some (.int (N : Int)), some (.lst (p.map D.int)), some S]) := by
    rw [ev, ev, f2]
    show (bi .tuple [Y]).map _ = _
    rw [y2]
    rfl
  have f4 : ev hBit (gG (m + 2) d__law_change none) [some pen3, some (.int (N : Int)), some (.lst (p.map D.int)), some S] = some (.ok (.int b) [some pen4, some (.int (N : Int)), some (.lst (p.map D.int)), some S]) := callO (x := .int 2) rfl (by kernel_rfl) (by kernel_rfl) d1
  have f5 : ev (.cons (.blt .tuple (.cons (.var 2) .nil)) (.cons (.blt .tuple (.cons (.blt .sorted (.cons (.var 3) .nil)) .nil)) (.cons hBit .nil))) (gG (m + 2) d__law_change none) [some pen3, some (.int (N : Int)), some (.lst (p.map D.int)), some S] = some (.ok (.lst [.tup (p.map D.int), .tup (l.map D.int), .int b]) [some pen4, some (.int (N : Int)), some (.lst (p.map D.int)), some S]) := by
    rw [ev, f1]
    show bnd (ev (.cons (.blt .tuple (.cons (.blt .sorted (.cons (.var 3) .nil)) .nil)) (.cons hBit .nil)) (gG (m + 2) d__law_change none) [some pen3, some (.int (N : Int)), some (.lst (p.map D.int)), some S]) _ = _
    rw [ev, f3]
    show bnd (bnd (ev (.cons hBit .nil) (gG (m + 2) d__law_change none) [some pen3, some (.int (N : Int)), some (.lst (p.map D.int)), some S]) _) _ = _
    rw [ev, f4]
    rfl
  have e2 : exec (sq2 c__law_change) (gG (m + 2) d__law_change none) [some pen3, some (.int (N : Int)), some (.lst (p.map D.int)), some S] = some (.rt (chD p l b) [some pen4, some (.int (N : Int)), some (.lst (p.map D.int)), some S]) := by
    show exec (.ret (.tup (.cons (.blt .tuple (.cons (.var 2) .nil)) (.cons (.blt .tuple (.cons (.blt .sorted (.cons (.var 3) .nil)) .nil)) (.cons hBit .nil))))) _ _ = _
    rw [exec, ev, f5]
    rfl
  exact callT_rt (d := d__law_change) rfl rfl ((exec_nx (c := c__law_change) (a := sq1 c__law_change) (b := sq2 c__law_change) rfl e1).trans e2) rfl
theorem change {N m c : Nat} {pen : D} (hN : N ≤ 4) (hp : PenOk c pen) (hc : c < 900) : ∃ p ∈ picks (intsN N), ∃ l ∈ lotsN N, ∃ b : Int, (b = 0 ∨ b = 1) ∧ ∃ pen', PenOk (c + N + N + 1 + 1) pen' ∧ callN T (m + 3) 54 none [pen, .int N] = some (.ok (chD p l b) [some pen', none]) := by
  match N, hN with
  | 0, h => exact change_of h (fun _ _ _ => by kernel_rfl) lot0 hp hc
  | 1, h => exact change_of h (fun _ _ _ => by kernel_rfl) lot1 hp hc
  | 2, h => exact change_of h (fun _ _ _ => by kernel_rfl) lot2 hp hc
  | 3, h => exact change_of h (fun _ _ _ => by kernel_rfl) lot3 hp hc
  | 4, h => exact change_of h (fun _ _ _ => by kernel_rfl) lot4 hp hc
end PB
set_option maxHeartbeats 4000000
/-! L2e: the pen is made; a pick. -/
namespace PB
open PySem K90
section
variable {n : Nat} {fo k : Int} {so : D} {x2 : Option D}
abbrev pB : C := .asg (.var 1) (.op .mod (.blt .int (.cons (.op .add (.op .mul (.var 1) (.cst (.int 67))) (.var 2)) (.nil))) (.cst (.int 1000000087)))
theorem pn1 (h0 : 0 ≤ fo) (h1 : fo < 1000000087) : exec pB (gG n d__law_pen none) [some so, some (.int fo), some (.int k)] = some (.nx [some so, some (.int ((fo * 67 + k) % 1000000087)), some (.int k)]) := by
  have hm := mul_l (fo := fo) (k := 67) (by omega) (by omega)
  have e1 : ev (.op .mul (.var 1) (.cst (.int 67))) (gG n d__law_pen none) [some so, some (.int fo), some (.int k)] = some (.ok (.int (fo * 67)) [some so, some (.int fo), some (.int k)]) := by
    have : ev (.op .mul (.var 1) (.cst (.int 67))) (gG n d__law_pen none) [some so, some (.int fo), some (.int k)] = (op2 .mul (.int fo) (.int 67)).map (R.ok · [some so, some (.int fo), some (.int k)]) := by kernel_rfl
    rw [this, hm]
    rfl
  have e2 : ev (.op .add (.op .mul (.var 1) (.cst (.int 67))) (.var 2)) (gG n d__law_pen none) [some so, some (.int fo), some (.int k)] = some (.ok (.int (fo * 67 + k)) [some so, some (.int fo), some (.int k)]) := by
    rw [ev, e1]
    kernel_rfl
  have e3 : ev (.blt .int (.cons (.op .add (.op .mul (.var 1) (.cst (.int 67))) (.var 2)) .nil)) (gG n d__law_pen none) [some so, some (.int fo), some (.int k)] = some (.ok (.int (fo * 67 + k)) [some so, some (.int fo), some (.int k)]) := by
    rw [ev, ev, e2]
    kernel_rfl
  generalize fo * 67 + k = z at *
  have e4 : ev (.op .mod (.blt .int (.cons (.op .add (.op .mul (.var 1) (.cst (.int 67))) (.var 2)) .nil)) (.cst (.int 1000000087))) (gG n d__law_pen none) [some so, some (.int fo), some (.int k)] = some (.ok (.int (z % 1000000087)) [some so, some (.int fo), some (.int k)]) := by
    rw [ev, e3]
    kernel_rfl
  show exec (.asg (.var 1) _) _ _ = _
  rw [exec, e4]
  rfl
theorem pn2 : ∀ (ns : List Int) {fo : Int} {x2 : Option D}, 0 ≤ fo → fo < 1000000087 → ∃ fo' z2, 0 ≤ fo' ∧ fo' < 1000000087 ∧ forE (asgT d__law_pen.ks (.var 2)) (fun e => exec pB (gG n d__law_pen none) e) (ns.map D.int) [some so, some (.int fo), x2] = some (.nx [some so, some (.int fo'), z2])
  | [], fo, x2, h0, h1 => ⟨fo, x2, h0, h1, rfl⟩
  | a :: ns, fo, x2, h0, h1 => by
    obtain ⟨fo', z2, q1, q2, q3⟩ := pn2 ns (fo := (fo * 67 + a) % 1000000087) (x2 := some (.int a)) (Int.emod_nonneg _ (by omega)) (Int.emod_lt_of_pos _ (by omega))
    refine ⟨fo', z2, q1, q2, ?_⟩
    have st : asgT d__law_pen.ks (.var 2) (.int a) [some so, some (.int fo), x2] = some [some so, some (.int fo), some (.int a)] := rfl
    rw [List.map_cons, forE, st, Option.bind_some, pn1 h0 h1]
    exact q3
end
/-- the pen -/
theorem pen {n : Nat} (ns : List Int) : ∃ p, PenOk 0 p ∧ callN T (n + 1) 38 none [.lst (ns.map D.int)] = some (.ok p [none]) := by
  obtain ⟨fo, z2, q1, q2, q3⟩ := pn2 (n := n) (so := .lst (ns.map D.int)) ns (fo := 0) (x2 := none) (by omega) (by omega)
  refine ⟨penD (ns.map D.int) 0 0 0 fo, ⟨ns, 0, 0, 0, fo, rfl, by omega, by omega, by omega, by omega, q1, by omega⟩, ?_⟩
  have s1 : exec (sq1 c__law_pen) (gG n d__law_pen none) [some (.lst (ns.map D.int)), none, none] = some (.nx [some (.lst (ns.map D.int)), some (.int 0), none]) := by kernel_rfl
  have s2 : exec (sq1 (sq2 c__law_pen)) (gG n d__law_pen none) [some (.lst (ns.map D.int)), some (.int 0), none] = some (.nx [some (.lst (ns.map D.int)), some (.int fo), z2]) := by
    show exec (.fr (.var 2) (.scr 0) pB) _ _ = _
    have r : ev (.scr 0) (gG n d__law_pen none) [some (.lst (ns.map D.int)), some (.int 0), none] = some (.ok .non [some (.lst (ns.map D.int)), some (.int 0), none]) := by kernel_rfl
    rw [exec, r]
    exact q3
  have s3 : exec (sq2 (sq2 c__law_pen)) (gG n d__law_pen none) [some (.lst (ns.map D.int)), some (.int fo), z2] = some (.rt (penD (ns.map D.int) 0 0 0 fo) [some (.lst (ns.map D.int)), some (.int fo), z2]) := by kernel_rfl
  exact callT_rt (d := d__law_pen) rfl rfl ((exec_nx (c := c__law_pen) (a := sq1 c__law_pen) (b := sq2 c__law_pen) rfl s1).trans ((exec_nx (c := sq2 c__law_pen) (a := sq1 (sq2 c__law_pen)) (b := sq2 (sq2 c__law_pen)) rfl s2).trans s3)) rfl
/-- a pick from a list -/
theorem pick {n c : Nat} {p : D} {L : List D} (hp : PenOk c p) (hc : c < 1000) (h0 : L ≠ []) (hl : L.length < 1000) : ∃ x ∈ L, ∃ p', PenOk (c + 1) p' ∧ callN T (n + 2) 40 none [p, .lst L] = some (.ok x [some p', none]) := by
  have hpos : 0 < L.length := List.length_pos_iff.mpr h0
  obtain ⟨k, p', a1, a2, a3, a4⟩ := draw (n := n) (m := Int.ofNat L.length) hp hc (by simp only [Int.ofNat_eq_natCast]; omega) (by simp only [Int.ofNat_eq_natCast]; omega)
  obtain ⟨j, rfl⟩ := Int.eq_ofNat_of_zero_le a2
  have hj : j < L.length := by simp only [Int.ofNat_eq_natCast] at a3; omega
  refine ⟨L[j], List.getElem_mem hj, p', a4, ?_⟩
  have e1 : ev (.call 39 (.cons (.loc 0) (.cons (.blt .len (.cons (.var 1) (.nil))) (.nil)))) (gG (n + 1) d__law_pick none) [some p, some (.lst L)] = match callN T (n + 1) 39 none [p, .int (Int.ofNat L.length)] with
    | none => none
    | some (.ok d o) => (backL [.own, .shr] (.cons (.loc 0) (.cons (.blt .len (.cons (.var 1) (.nil))) (.nil))) o [some p, some (.lst L)]).map (R.ok d ·)
    | some (.xc x o) => (backL [.own, .shr] (.cons (.loc 0) (.cons (.blt .len (.cons (.var 1) (.nil))) (.nil))) o [some p, some (.lst L)]).map (R.xc x ·) := by kernel_rfl
  rw [a1] at e1
  have e1 : ev (.call 39 (.cons (.loc 0) (.cons (.blt .len (.cons (.var 1) (.nil))) (.nil)))) (gG (n + 1) d__law_pick none) [some p, some (.lst L)] = some (.ok (.int (j : Int)) [some p', some (.lst L)]) := e1
  have hat : atD L (j : Int) = some L[j] := by
    unfold atD ixOf
    rw [if_pos (by omega), if_pos (by omega)]
    show L[j]? = _
    exact List.getElem?_eq_getElem hj
  have e2 : exec c__law_pick (gG (n + 1) d__law_pick none) [some p, some (.lst L)] = some (.rt L[j] [some p', some (.lst L)]) := by
    show exec (.ret (.idx (.var 1) (.call 39 (.cons (.loc 0) (.cons (.blt .len (.cons (.var 1) (.nil))) (.nil)))))) _ _ = _
    have v : ev (.var 1) (gG (n + 1) d__law_pick none) [some p, some (.lst L)] = some (.ok (.lst L) [some p, some (.lst L)]) := by kernel_rfl
    have w : ev (.idx (.var 1) (.call 39 (.cons (.loc 0) (.cons (.blt .len (.cons (.var 1) (.nil))) (.nil))))) (gG (n + 1) d__law_pick none) [some p, some (.lst L)] = some (.ok L[j] [some p', some (.lst L)]) := by
      rw [ev, v]
      show bnd (ev (.call 39 (.cons (.loc 0) (.cons (.blt .len (.cons (.var 1) (.nil))) (.nil)))) (gG (n + 1) d__law_pick none) [some p, some (.lst L)]) _ = _
      rw [e1]
      show (idxD (.lst L) (.int (j : Int))).map _ = _
      show (atD L (j : Int)).map _ = _
      rw [hat]
      rfl
    rw [exec, w]
    rfl
  exact callT_rt (d := d__law_pick) rfl rfl e2 rfl
end PB
set_option maxHeartbeats 4000000
/-! L4a: calls whose parameters are all shared. -/
namespace PB
open PySem K90
theorem outs_shr {ks : List Kd} {np : Nat} {e : En} (h : ∀ i, i < np → ks[i]? ≠ some Kd.own) : outsOf ks np e = List.replicate np none := by
  unfold outsOf
  apply List.ext_getElem
  · simp
  · intro i h1 h2
    rw [List.getElem_map, List.getElem_range, List.getElem_replicate, if_neg (h i (by simpa using h1))]
theorem callN_outs {n f : Nat} {d : DefI} {ds : List D} {v : D} {o : List (Option D)} (hd : T.defs[f]? = some d) (hl : ds.length = d.np) (h : ∀ i, i < d.np → d.ks[i]? ≠ some Kd.own) (hc : callN T n f none ds = some (.ok v o)) : o = List.replicate d.np none := by
  cases n with
  | zero => cases hc
  | succ n =>
    rw [callT hd hl] at hc
    cases hx : exec d.code (gG n d none) (ds.map some ++ List.replicate (d.ks.length - ds.length) none) with
    | none => rw [hx] at hc; cases hc
    | some u =>
      rw [hx] at hc
      cases u with
      | nx e => cases hc; exact outs_shr h
      | rt w e => cases hc; exact outs_shr h
      | bk e => cases hc
      | ct e => cases hc
      | xc x e => cases hc
/-- all parameters shared -/
def allShr (f : Nat) : Bool := match T.defs[f]? with
  | some d => (List.range d.np).all fun i => decide (d.ks[i]? = some Kd.shr)
  | none => false
theorem info_shr {f : Nat} {d : DefI} (hd : T.defs[f]? = some d) (h : allShr f = true) : d.ks.take d.np = List.replicate d.np Kd.shr ∧ ∀ i, i < d.np → d.ks[i]? ≠ some Kd.own := by
  unfold allShr at h
  rw [hd] at h
  have h : ∀ i, i < d.np → d.ks[i]? = some Kd.shr := fun i hi => of_decide_eq_true (List.all_eq_true.mp h i (List.mem_range.mpr hi))
  refine ⟨?_, fun i hi z => by rw [h i hi] at z; cases z⟩
  have hl : d.np ≤ d.ks.length := by
    cases hn : d.np with
    | zero => omega
    | succ k =>
      have := (List.getElem?_eq_some_iff.mp (h k (by omega))).1
      omega
  apply List.ext_getElem
  · simp [hl]
  · intro i h1 h2
    have hi : i < d.np := by simpa using h2
    rw [List.getElem_take, List.getElem_replicate]
    exact (List.getElem?_eq_some_iff.mp (h i hi)).2
theorem argL_shr {ks : List Kd} {e : En} : ∀ {a : C} {xs : List D} {m : Nat}, noLocs a = true → lenG a = m → isTgs a = true → xs.length = m → argL ks (List.replicate m Kd.shr) a xs e = some xs := by
  intro a
  induction a with
  | nil => intro xs m _ h1 _ h2; cases h1; have := List.length_eq_zero_iff.mp h2; subst this; rfl
  | cons c b _ ih =>
    intro xs m hn h1 ht h2
    simp only [noLocs, Bool.and_eq_true, Bool.not_eq_true'] at hn
    cases m with
    | zero => simp only [lenG] at h1; omega
    | succ m =>
      cases xs with
      | nil => simp at h2
      | cons x xs =>
        have ih' := ih (xs := xs) (m := m) hn.2 (by simp only [lenG] at h1; omega) ht (by simpa using h2)
        rw [List.replicate_succ]
        have : isLoc c = false := hn.1
        cases c <;> first | (cases this; done) | (simp only [argL, Option.bind_some, ih', Option.map_some])
  | _ => intro xs m hn h1 ht; cases ht
theorem backL_shr {e : En} : ∀ {a : C} {m : Nat}, lenG a = m → isTgs a = true → backL (List.replicate m Kd.shr) a (List.replicate m none) e = some e := by
  intro a
  induction a with
  | nil => intro m h1 _; cases h1; rfl
  | cons c b _ ih =>
    intro m h1 ht
    cases m with
    | zero => simp only [lenG] at h1; omega
    | succ m =>
      rw [List.replicate_succ, List.replicate_succ]
      have := ih (m := m) (by simp only [lenG] at h1; omega) ht
      cases c <;> simp only [backL, Option.bind_some, this]
  | _ => intro m h1 ht; cases ht
/-- a call, by what it gives -/
theorem call_shr {n f : Nat} {dd d : DefI} {a : C} {xs : List D} {e : En} {v : D} {o : List (Option D)} (hd : T.defs[f]? = some d) (hs : allShr f = true) (hn : noLocs a = true) (ht : isTgs a = true) (hl : lenG a = d.np) (hx : xs.length = d.np)
    (ha : ev a (gG n dd none) e = some (.ok (.lst xs) e)) (hc : callN T n f none xs = some (.ok v o)) : ev (.call f a) (gG n dd none) e = some (.ok v e) := by
  obtain ⟨i1, i2⟩ := info_shr hd hs
  have ho := callN_outs hd hx i2 hc
  subst ho
  have hi : (gG n dd none).info f = List.replicate d.np Kd.shr := by
    show (match T.defs[f]? with | some d => d.ks.take d.np | none => []) = _
    rw [hd]
    exact i1
  rw [ev, ha]
  show (argL dd.ks ((gG n dd none).info f) a xs e).bind _ = _
  rw [hi, argL_shr hn hl ht hx]
  show (match callN T n f none xs with
    | none => none
    | some (.ok d' o) => (backL (List.replicate d.np Kd.shr) a o e).map (R.ok d' ·)
    | some (.xc x o) => (backL (List.replicate d.np Kd.shr) a o e).map (R.xc x ·)) = _
  rw [hc]
  show (backL (List.replicate d.np Kd.shr) a (List.replicate d.np none) e).map _ = _
  rw [backL_shr hl ht]
  rfl
end PB
set_option maxHeartbeats 4000000
/-! L4b: moved_row, change_rounds, kept_by, count_kept by what they call. -/
namespace PB
open PySem K90
theorem exec_drop {c : C} {G : Gx} {e e1 : En} {v : D} (h : ev c G e = some (.ok v e1)) : exec (.drop c) G e = some (.nx e1) := by
  rw [exec, h]
  rfl
theorem exec_ret {c : C} {G : Gx} {e e1 : En} {v : D} (h : ev c G e = some (.ok v e1)) (hl : isLoc c = false) : exec (.ret c) G e = some (.rt v e1) := by
  rw [exec, h]
  show (if isLoc c = true then none else some (Out.rt v e1)) = _
  rw [hl]
  rfl
theorem exec_asgv {i : Nat} {c : C} {G : Gx} {e e1 e2 : En} {v : D} (h : ev c G e = some (.ok v e1)) (hl : isLoc c = false) (h2 : asgT G.ks (.var i) v e1 = some e2) : exec (.asg (.var i) c) G e = some (.nx e2) := by
  rw [exec, h]
  show (if isLoc c = true then none else (asgT G.ks (.var i) v e1).map Out.nx) = _
  rw [hl, h2]
  rfl
section
variable {n : Nat} {N ch row v : D} {o2 o22 o10 o28 o30 o32 : List (Option D)}
theorem moved_of (h2 : callN T n 2 none [.str "letters", N] = some (.ok .non o2)) (h22 : callN T n 22 none [N, ch] = some (.ok .non o22)) (h10 : callN T n 10 none [N, row] = some (.ok .non o10)) (h28 : callN T n 28 none [N, ch, row] = some (.ok v o28)) :
    callN T (n + 1) 29 none [N, ch, row] = some (.ok v [none, none, none]) := by
  have a := exec_drop (call_shr (n := n) (dd := d_moved_row) (d := d_need_count) (f := 2) (a := .cons (.cst (.str "letters")) (.cons (.var 0) .nil)) (e := [some N, some ch, some row]) rfl (by decide +kernel) rfl rfl rfl rfl (by kernel_rfl) h2)
  have b := exec_drop (call_shr (n := n) (dd := d_moved_row) (d := d_need_change) (f := 22) (a := .cons (.var 0) (.cons (.var 1) .nil)) (e := [some N, some ch, some row]) rfl (by decide +kernel) rfl rfl rfl rfl (by kernel_rfl) h22)
  have c := exec_drop (call_shr (n := n) (dd := d_moved_row) (d := d_need_row) (f := 10) (a := .cons (.var 0) (.cons (.var 2) .nil)) (e := [some N, some ch, some row]) rfl (by decide +kernel) rfl rfl rfl rfl (by kernel_rfl) h10)
  have d := exec_ret (call_shr (n := n) (dd := d_moved_row) (d := d_moved_in) (f := 28) (a := .cons (.var 0) (.cons (.var 1) (.cons (.var 2) .nil))) (e := [some N, some ch, some row]) rfl (by decide +kernel) rfl rfl rfl rfl (by kernel_rfl) h28) rfl
  exact callT_rt (d := d_moved_row) rfl rfl ((exec_nx (c := c_moved_row) rfl a).trans ((exec_nx rfl b).trans ((exec_nx rfl c).trans d))) rfl
theorem rounds_of {R : List D} (h2 : callN T n 2 none [.str "letters", N] = some (.ok .non o2)) (h22 : callN T n 22 none [N, ch] = some (.ok .non o22)) (h30 : callN T n 30 none [N, ch] = some (.ok (.lst R) o30)) :
    callN T (n + 1) 31 none [N, ch] = some (.ok (.tup R) [none, none]) := by
  have a := exec_drop (call_shr (n := n) (dd := d_change_rounds) (d := d_need_count) (f := 2) (a := .cons (.cst (.str "letters")) (.cons (.var 0) .nil)) (e := [some N, some ch]) rfl (by decide +kernel) rfl rfl rfl rfl (by kernel_rfl) h2)
  have b := exec_drop (call_shr (n := n) (dd := d_change_rounds) (d := d_need_change) (f := 22) (a := .cons (.var 0) (.cons (.var 1) .nil)) (e := [some N, some ch]) rfl (by decide +kernel) rfl rfl rfl rfl (by kernel_rfl) h22)
  have c := call_shr (n := n) (dd := d_change_rounds) (d := d_rounds_in) (f := 30) (a := .cons (.var 0) (.cons (.var 1) .nil)) (e := [some N, some ch]) rfl (by decide +kernel) rfl rfl rfl rfl (by kernel_rfl) h30
  have c2 : ev (.blt .tuple (.cons (.call 30 (.cons (.var 0) (.cons (.var 1) .nil))) .nil)) (gG n d_change_rounds none) [some N, some ch] = some (.ok (.tup R) [some N, some ch]) := by
    rw [ev, ev, c]
    rfl
  exact callT_rt (d := d_change_rounds) rfl rfl ((exec_nx (c := c_change_rounds) rfl a).trans ((exec_nx rfl b).trans (exec_ret c2 rfl))) rfl
theorem kept_of (h2 : callN T n 2 none [.str "letters", N] = some (.ok .non o2)) (h22 : callN T n 22 none [N, ch] = some (.ok .non o22)) (h32 : callN T n 32 none [N, ch] = some (.ok v o32)) :
    callN T (n + 1) 33 none [N, ch] = some (.ok v [none, none]) := by
  have a := exec_drop (call_shr (n := n) (dd := d_count_kept) (d := d_need_count) (f := 2) (a := .cons (.cst (.str "letters")) (.cons (.var 0) .nil)) (e := [some N, some ch]) rfl (by decide +kernel) rfl rfl rfl rfl (by kernel_rfl) h2)
  have b := exec_drop (call_shr (n := n) (dd := d_count_kept) (d := d_need_change) (f := 22) (a := .cons (.var 0) (.cons (.var 1) .nil)) (e := [some N, some ch]) rfl (by decide +kernel) rfl rfl rfl rfl (by kernel_rfl) h22)
  have c := exec_ret (call_shr (n := n) (dd := d_count_kept) (d := d_kept_by) (f := 32) (a := .cons (.var 0) (.cons (.var 1) .nil)) (e := [some N, some ch]) rfl (by decide +kernel) rfl rfl rfl rfl (by kernel_rfl) h32) rfl
  exact callT_rt (d := d_count_kept) rfl rfl ((exec_nx (c := c_count_kept) rfl a).trans ((exec_nx rfl b).trans c)) rfl
end
end PB
set_option maxHeartbeats 4000000
/-! L4c: kept_by and the law's own, over the rows of rounds that occur. -/
namespace PB
open PySem K90
def rsL : List (List Int) := [[1], [1, 1], [2], [1, 1, 1, 1], [2, 2], [1, 1, 2], [4], [1, 1, 1, 1, 1, 1, 1, 1], [2, 2, 2, 2], [1, 1, 1, 1, 2, 2], [4, 4], [1, 1, 3, 3], [2, 6], [1, 1, 1, 1, 1, 1, 1, 1, 1, 1, 1, 1, 1, 1, 1, 1], [2, 2, 2, 2, 2, 2, 2, 2],
  [1, 1, 1, 1, 1, 1, 1, 1, 2, 2, 2, 2], [4, 4, 4, 4], [1, 1, 1, 1, 3, 3, 3, 3], [2, 2, 6, 6], [1, 1, 1, 1, 2, 2, 2, 2, 2, 2], [1, 1, 2, 4, 4, 4], [8, 8]]
def kp (r : List Int) (b : Int) : Int := if (b == 1 && r.any fun m => m % 2 == 1) = true then 0 else 2 ^ r.length
def isRt (o : Option Out) (k : Int) : Bool := match o with
  | some (.rt (.int j) _) => decide (j = k)
  | _ => false
theorem isRt_ok {o : Option Out} {k : Int} (h : isRt o k = true) : ∃ e, o = some (.rt (.int k) e) := by
  unfold isRt at h
  split at h
  · rw [of_decide_eq_true h]; exact ⟨_, rfl⟩
  · cases h
section
variable {n : Nat} {N P L : D} {o30 : List (Option D)}
theorem kb32 (n : Nat) (N P L : D) : (rsL.all fun r => [0, 1].all fun b => isRt (exec (sq2 c_kept_by) (gG n d_kept_by none) [some N, some (.tup [P, L, .int b]), some (.lst (r.map .int)), none]) (kp r b)) = true := by kernel_rfl
theorem kb55 (n : Nat) : (rsL.all fun r => [0, 1].all fun b => isRt (exec c__law_kept (gG n d__law_kept none) [some (.lst (r.map .int)), some (.int b), none, none]) (kp r b)) = true := by kernel_rfl
theorem b01 {b : Int} (h : b = 0 ∨ b = 1) : b ∈ ([0, 1] : List Int) := by rcases h with h | h <;> simp [h]
theorem kept_by_of {r : List Int} {b : Int} (hr : r ∈ rsL) (hb : b = 0 ∨ b = 1) (h30 : callN T n 30 none [N, .tup [P, L, .int b]] = some (.ok (.lst (r.map .int)) o30)) : callN T (n + 1) 32 none [N, .tup [P, L, .int b]] = some (.ok (.int (kp r b)) [none, none]) := by
  have a := exec_asgv (i := 2) (call_shr (n := n) (dd := d_kept_by) (d := d_rounds_in) (f := 30) (a := .cons (.var 0) (.cons (.var 1) .nil)) (e := [some N, some (.tup [P, L, .int b]), none, none]) rfl (by decide +kernel) rfl rfl rfl rfl (by kernel_rfl) h30) rfl
    (show asgT d_kept_by.ks (.var 2) (.lst (r.map .int)) [some N, some (.tup [P, L, .int b]), none, none] = some [some N, some (.tup [P, L, .int b]), some (.lst (r.map .int)), none] from rfl)
  obtain ⟨e, he⟩ := isRt_ok (List.all_eq_true.mp (List.all_eq_true.mp (kb32 n N P L) r hr) b (b01 hb))
  exact callT_rt (d := d_kept_by) rfl rfl ((exec_nx (c := c_kept_by) (b := sq2 c_kept_by) rfl a).trans he) (outs_shr (info_shr (f := 32) (d := d_kept_by) rfl (by decide +kernel)).2)
theorem law_kept_of {r : List Int} {b : Int} (hr : r ∈ rsL) (hb : b = 0 ∨ b = 1) : callN T (n + 1) 55 none [.lst (r.map .int), .int b] = some (.ok (.int (kp r b)) [none, none]) := by
  obtain ⟨e, he⟩ := isRt_ok (List.all_eq_true.mp (List.all_eq_true.mp (kb55 n) r hr) b (b01 hb))
  exact callT_rt (d := d__law_kept) rfl rfl he (outs_shr (info_shr (f := 55) (d := d__law_kept) rfl (by decide +kernel)).2)
end
end PB
set_option maxHeartbeats 4000000
/-! Ja: the same evaluation for the kernel: by continuations, with values made plain at once. -/
namespace PB
noncomputable section
open PySem

abbrev Om := Option CO
/-! ### making plain -/
def fN (n : Nat) (k : Nat → Om) : Om := Nat.rec (k 0) (fun m _ => k (Nat.succ m)) n
theorem fN_eq (n : Nat) (k : Nat → Om) : fN n k = k n := by cases n <;> rfl
def fI (i : Int) (k : Int → Om) : Om := Int.rec (fun n => fN n fun m => k (.ofNat m)) (fun n => fN n fun m => k (.negSucc m)) i
theorem fI_eq (i : Int) (k : Int → Om) : fI i k = k i := by
  cases i with
  | ofNat n => exact fN_eq n fun m => k (.ofNat m)
  | negSucc n => exact fN_eq n fun m => k (.negSucc m)
def fB (b : Bool) (k : Bool → Om) : Om := Bool.rec (k false) (k true) b
theorem fB_eq (b : Bool) (k : Bool → Om) : fB b k = k b := by cases b <;> rfl
mutual
def fD : D → (D → Om) → Om
  | .non, k => k .non
  | .bl b, k => fB b fun c => k (.bl c)
  | .int i, k => fI i fun j => k (.int j)
  | .str x, k => k (.str x)
  | .tup xs, k => fDL xs fun l => k (.tup l)
  | .lst xs, k => fDL xs fun l => k (.lst l)
  | .dic t kvs, k => fDK kvs fun l => k (.dic t l)
def fDL : List D → (List D → Om) → Om
  | [], k => k []
  | x :: xs, k => fD x fun y => fDL xs fun l => k (y :: l)
def fDK : List (D × D) → (List (D × D) → Om) → Om
  | [], k => k []
  | (a, b) :: r, k => fD a fun c => fD b fun d => fDK r fun l => k ((c, d) :: l)
end
mutual
theorem fD_eq : ∀ (d : D) (k : D → Om), fD d k = k d
  | .non, k => by simp [fD]
  | .bl b, k => by simp [fD, fB_eq]
  | .int i, k => by simp [fD, fI_eq]
  | .str x, k => by simp [fD]
  | .tup xs, k => by simp [fD, fDL_eq xs]
  | .lst xs, k => by simp [fD, fDL_eq xs]
  | .dic t kvs, k => by simp [fD, fDK_eq kvs]
theorem fDL_eq : ∀ (d : List D) (k : List D → Om), fDL d k = k d
  | [], k => by simp [fDL]
  | x :: xs, k => by simp [fDL, fD_eq x, fDL_eq xs]
theorem fDK_eq : ∀ (d : List (D × D)) (k : List (D × D) → Om), fDK d k = k d
  | [], k => by simp [fDK]
  | (a, b) :: r, k => by simp [fDK, fD_eq a, fD_eq b, fDK_eq r]
end
/-- the spine alone -/
def fL {α : Type} (l : List α) (k : List α → Om) : Om := List.rec (motive := fun _ => (List α → Om) → Om) (fun k => k []) (fun x _ ih k => ih fun r => k (x :: r)) l k
theorem fL_eq {α : Type} (l : List α) (k : List α → Om) : fL l k = k l := by
  unfold fL
  induction l generalizing k with
  | nil => rfl
  | cons x r ih => exact ih _
def fCat {α : Type} (l m : List α) (k : List α → Om) : Om := List.rec (motive := fun _ => (List α → Om) → Om) (fun k => k m) (fun x _ ih k => ih fun r => k (x :: r)) l k
theorem fCat_eq {α : Type} (l m : List α) (k : List α → Om) : fCat l m k = k (l ++ m) := by
  unfold fCat
  induction l generalizing k with
  | nil => rfl
  | cons x r ih => exact ih _
/-! ### cases of values -/
def cD {α : Type} (x : D) (n : α) (b : Bool → α) (i : Int → α) (s : Str → α) (t l : List D → α) (d : Bool → List (D × D) → α) : α :=
  @D.rec (fun _ => α) (fun _ => Unit) (fun _ => Unit) (fun _ => Unit) n b i s (fun xs _ => t xs) (fun xs _ => l xs) (fun c kvs _ => d c kvs) () (fun _ _ _ _ => ()) () (fun _ _ _ _ => ()) (fun _ _ _ _ => ()) x
def asI (x : D) : Option Int := @D.rec (fun _ => Option Int) (fun _ => Unit) (fun _ => Unit) (fun _ => Unit) none (fun _ => none) (fun i => some i) (fun _ => none) (fun _ _ => none) (fun _ _ => none) (fun _ _ _ => none) () (fun _ _ _ _ => ()) () (fun _ _ _ _ => ()) (fun _ _ _ _ => ()) x
def natO (x : D) : Option Nat := @D.rec (fun _ => Option Nat) (fun _ => Unit) (fun _ => Unit) (fun _ => Unit) none (fun _ => none) (fun i => Int.rec (fun n => some n) (fun _ => none) i) (fun _ => none) (fun _ _ => none) (fun _ _ => none) (fun _ _ _ => none) () (fun _ _ _ _ => ()) () (fun _ _ _ _ => ()) (fun _ _ _ _ => ()) x
def blO (x : D) : Option Bool := @D.rec (fun _ => Option Bool) (fun _ => Unit) (fun _ => Unit) (fun _ => Unit) none (fun b => some b) (fun _ => none) (fun _ => none) (fun _ _ => none) (fun _ _ => none) (fun _ _ _ => none) () (fun _ _ _ _ => ()) () (fun _ _ _ _ => ()) (fun _ _ _ _ => ()) x
def lsO (x : D) : Option (List D) := @D.rec (fun _ => Option (List D)) (fun _ => Unit) (fun _ => Unit) (fun _ => Unit) none (fun _ => none) (fun _ => none) (fun _ => none) (fun _ _ => none) (fun l _ => some l) (fun _ _ _ => none) () (fun _ _ _ _ => ()) () (fun _ _ _ _ => ()) (fun _ _ _ _ => ()) x
def tuO (x : D) : Option (List D) := @D.rec (fun _ => Option (List D)) (fun _ => Unit) (fun _ => Unit) (fun _ => Unit) none (fun _ => none) (fun _ => none) (fun _ => none) (fun l _ => some l) (fun _ _ => none) (fun _ _ _ => none) () (fun _ _ _ _ => ()) () (fun _ _ _ _ => ()) (fun _ _ _ _ => ()) x
def sqO (x : D) : Option (List D) := @D.rec (fun _ => Option (List D)) (fun _ => Unit) (fun _ => Unit) (fun _ => Unit) none (fun _ => none) (fun _ => none) (fun _ => none) (fun l _ => some l) (fun l _ => some l) (fun _ _ _ => none) () (fun _ _ _ _ => ()) () (fun _ _ _ _ => ()) (fun _ _ _ _ => ()) x
def flat1 (x : D) : Bool := @D.rec (fun _ => Bool) (fun _ => Unit) (fun _ => Unit) (fun _ => Unit) true (fun _ => true) (fun _ => true) (fun _ => false) (fun _ _ => false) (fun _ _ => false) (fun _ _ _ => false) () (fun _ _ _ _ => ()) () (fun _ _ _ _ => ()) (fun _ _ _ _ => ()) x
def cI (x : D) (f : Int → Om) (g : Om) : Om := Option.rec g f (asI x)
def cLs (x : D) (f : List D → Om) (g : Om) : Om := Option.rec g f (lsO x)
def cTu (x : D) (f : List D → Om) (g : Om) : Om := Option.rec g f (tuO x)
/-- a list or a tuple -/
def cSq (x : D) (f : List D → Om) : Om := Option.rec none f (sqO x)
theorem cSq_eq (x : D) (f : List D → Om) : cSq x f = (seqOf x).elim none f := by cases x <;> rfl
def cO {α : Type} (o : Option α) (k : α → Om) : Om := Option.rec none k o
theorem cO_eq {α : Type} (o : Option α) (k : α → Om) : cO o k = o.elim none k := by cases o <;> rfl
def iff (b : Bool) (x y : Om) : Om := Bool.rec y x b
theorem iff_eq (b : Bool) (x y : Om) : iff b x y = if b then x else y := by cases b <;> rfl
/-! ### operators -/
def slowOp (o : O2) (x y : D) (k : D → Om) : Om := cO (op2 o x y) fun d => fD d k
def kNat (n : Nat) (k : D → Om) : Om := fN n fun m => k (.int (.ofNat m))
theorem kNat_eq (n : Nat) (k : D → Om) : kNat n k = k (.int n) := fN_eq _ _
def flat (l : List D) : Bool := List.rec true (fun x _ ih => Bool.rec false ih (flat1 x)) l
def nat01 (b : Bool) : Int := Bool.rec (.ofNat 0) (.ofNat 1) b
def eqI (i j : Int) : Bool := Int.rec (fun a => Int.rec (fun b => Nat.beq a b) (fun _ => false) j) (fun a => Int.rec (fun _ => false) (fun b => Nat.beq a b) j) i
theorem eqI_eq (i j : Int) : eqI i j = (i == j) := by
  cases i with
  | ofNat a => cases j with
    | ofNat b =>
      show Nat.beq a b = _
      by_cases h : a = b
      · subst h; simp
      · have : Nat.beq a b = false := Bool.eq_false_iff.mpr (fun q => h (Nat.eq_of_beq_eq_true q))
        rw [this]; simp; exact fun q => h (by omega)
    | negSucc b => show false = _; simp
  | negSucc a => cases j with
    | ofNat b => show false = _; simp
    | negSucc b =>
      show Nat.beq a b = _
      by_cases h : a = b
      · subst h; simp
      · have : Nat.beq a b = false := Bool.eq_false_iff.mpr (fun q => h (Nat.eq_of_beq_eq_true q))
        rw [this]; simp; exact fun q => h (by omega)
/-- == of such items -/
def eq1n (y : D) : Bool := cD y true (fun _ => false) (fun _ => false) (fun _ => false) (fun _ => false) (fun _ => false) (fun _ _ => false)
def eq1i (i : Int) (y : D) : Bool := cD y false (fun c => eqI i (nat01 c)) (fun j => eqI i j) (fun _ => false) (fun _ => false) (fun _ => false) (fun _ _ => false)
def eq0 (x y : D) : Bool := cD x (eq1n y) (fun b => eq1i (nat01 b) y) (fun i => eq1i i y) (fun _ => false) (fun _ => false) (fun _ => false) (fun _ _ => false)
def eq1 (x y : D) : Bool := Option.rec (eq0 x y) (fun a => Option.rec (eq0 x y) (fun b => Nat.beq a b) (natO y)) (natO x)
theorem eq1_0 (x y : D) : eq1 x y = eq0 x y := by
  cases x <;> first | rfl | skip
  rename_i i
  cases i <;> first | rfl | skip
  cases y <;> first | rfl | skip
  rename_i j
  cases j <;> rfl
def eqF (l : List D) : List D → Bool := List.rec (motive := fun _ => List D → Bool) (fun m => List.rec true (fun _ _ _ => false) m) (fun x _ ih m => List.rec false (fun y r _ => Bool.rec false (ih r) (eq1 x y)) m) l
theorem flat1_plain {x : D} (h : flat1 x = true) (n : Nat) : plainD n x = true := by
  cases x <;> first | exact Bool.noConfusion h | (cases n <;> simp [plainD])
theorem eq1_eq {x y : D} (h : flat1 x = true) (h' : flat1 y = true) : eq1 x y = eqv x y := by
  rw [eq1_0]
  cases x <;> first | exact Bool.noConfusion h | skip
  all_goals cases y <;> first | exact Bool.noConfusion h' | skip
  · rfl
  · rfl
  · rfl
  · rfl
  · rename_i b c; show eqI _ _ = _; rw [eqI_eq]; cases b <;> cases c <;> simp [eqv, nat01]
  · rename_i b c; show eqI _ _ = _; rw [eqI_eq]; cases b <;> simp [eqv, nat01, i01]
  · rfl
  · rename_i b c; show eqI _ _ = _; rw [eqI_eq]; cases c <;> simp [eqv, nat01, i01]
  · rename_i b c; show eqI _ _ = _; rw [eqI_eq]; simp [eqv]
theorem flat_cons {x : D} {l : List D} : flat (x :: l) = (flat1 x && flat l) := by
  show Bool.rec (motive := fun _ => Bool) false (flat l) (flat1 x) = _
  cases flat1 x <;> rfl
theorem flat_plain {l : List D} (h : flat l = true) (n : Nat) : plainL n l = true := by
  induction l with
  | nil => simp [plainL]
  | cons x r ih =>
    rw [flat_cons] at h
    simp only [Bool.and_eq_true] at h
    simp [plainL, flat1_plain h.1, ih h.2]
theorem eqF_eq {l m : List D} (h : flat l = true) (h' : flat m = true) : eqF l m = eqvL l m := by
  induction l generalizing m with
  | nil => cases m <;> simp [eqF, eqvL]
  | cons x r ih => cases m with
    | nil => simp [eqF, eqvL]
    | cons y s =>
      rw [flat_cons] at h h'
      simp only [Bool.and_eq_true] at h h'
      show Bool.rec (motive := fun _ => Bool) false (eqF r s) (eq1 x y) = _
      rw [eq1_eq h.1 h'.1, ih h.2 h'.2]
      simp only [eqvL]
      cases eqv x y <;> rfl
/-- == where both are at most lists, tuples of such items; otherwise g -/
def eqL2 (l m : List D) (f : Bool → Om) (g : Om) : Om := Bool.rec g (Bool.rec g (fB (eqF l m) f) (flat m)) (flat l)
def eqTu (y : D) (l : List D) (f : Bool → Om) (g : Om) : Om := cD y g (fun _ => g) (fun _ => g) (fun _ => g) (fun m => eqL2 l m f g) (fun _ => g) (fun _ _ => g)
def eqLs (y : D) (l : List D) (f : Bool → Om) (g : Om) : Om := cD y g (fun _ => g) (fun _ => g) (fun _ => g) (fun _ => g) (fun m => eqL2 l m f g) (fun _ _ => g)
def eqX2 (x y : D) (f : Bool → Om) (g : Om) : Om := cD x g (fun _ => g) (fun _ => g) (fun _ => g) (fun l => eqTu y l f g) (fun l => eqLs y l f g) (fun _ _ => g)
def eqX (x y : D) (f : Bool → Om) (g : Om) : Om := Bool.rec (eqX2 x y f g) (Bool.rec g (fB (eq1 x y) f) (flat1 y)) (flat1 x)
theorem eqX_eq (x y : D) (f : Bool → Om) (g : Om) (h : plainD 30 x = true → plainD 30 y = true → f (eqv x y) = g) : eqX x y f g = g := by
  unfold eqX
  cases hx : flat1 x with
  | true =>
    show Bool.rec (motive := fun _ => Om) g (fB (eq1 x y) f) (flat1 y) = g
    cases hy : flat1 y with
    | true =>
      show fB (eq1 x y) f = g
      rw [fB_eq, eq1_eq hx hy]
      exact h (flat1_plain hx _) (flat1_plain hy _)
    | false => rfl
  | false =>
    cases x <;> first | rfl | skip
    all_goals cases y <;> first | rfl | skip
    all_goals rename_i l m
    all_goals
      show eqL2 l m f g = g
      unfold eqL2
      cases hl : flat l with
      | false => rfl
      | true =>
        cases hm : flat m with
        | false => rfl
        | true =>
          show fB (eqF l m) f = g
          rw [fB_eq, eqF_eq hl hm]
          exact (by
            have := h (by simp [plainD, flat_plain hl]) (by simp [plainD, flat_plain hm])
            simpa [eqv] using this)
def kBl (b : Bool) (k : D → Om) : Om := fB b fun c => k (.bl c)
theorem kBl_eq (b : Bool) (k : D → Om) : kBl b k = k (.bl b) := fB_eq _ _
/-- x among the items of l: items without others -/
def inF (x : D) (l : List D) : Bool := List.rec false (fun y _ ih => Bool.rec ih true (eq1 y x)) l
theorem inF_eq {x : D} {l : List D} (h : flat1 x = true) (h' : flat l = true) : inF x l = l.any fun y => eqv y x := by
  induction l with
  | nil => rfl
  | cons y r ih =>
    rw [flat_cons] at h'
    simp only [Bool.and_eq_true] at h'
    show Bool.rec (motive := fun _ => Bool) (inF x r) true (eq1 y x) = _
    rw [ih h'.2, eq1_eq h'.1 h, List.any_cons]
    cases eqv y x <;> rfl
/-- .. tuples of such -/
def flatT1 (x : D) : Bool := Option.rec false flat (tuO x)
def flatT (l : List D) : Bool := List.rec true (fun x _ ih => Bool.rec false ih (flatT1 x)) l
def inT1 (x : List D) (y : D) : Bool := Option.rec false (fun m => eqF m x) (tuO y)
def inT (x : List D) (l : List D) : Bool := List.rec false (fun y _ ih => Bool.rec ih true (inT1 x y)) l
theorem flatT_cons {x : D} {l : List D} (h : flatT (x :: l) = true) : ∃ m, x = .tup m ∧ flat m = true ∧ flatT l = true := by
  cases x <;> first | (exact Bool.noConfusion h) | skip
  rename_i m
  have h' : Bool.rec (motive := fun _ => Bool) false (flatT l) (flat m) = true := h
  cases hm : flat m with
  | false => rw [hm] at h'; cases h'
  | true => rw [hm] at h'; exact ⟨m, rfl, hm, h'⟩
theorem inT_eq {x l : List D} (h : flat x = true) (h' : flatT l = true) : inT x l = l.any fun y => eqv y (.tup x) := by
  induction l with
  | nil => rfl
  | cons y r ih =>
    obtain ⟨m, rfl, hm, hr⟩ := flatT_cons h'
    show Bool.rec (motive := fun _ => Bool) (inT x r) true (eqF m x) = _
    rw [ih hr, eqF_eq hm h, List.any_cons]
    simp only [eqv]
    cases eqvL m x <;> rfl
theorem flatT_plain {l : List D} (h : flatT l = true) (n : Nat) : plainL (n + 1) l = true := by
  induction l with
  | nil => simp [plainL]
  | cons x r ih =>
    obtain ⟨m, rfl, hm, hr⟩ := flatT_cons h
    simp [plainL, plainD, flat_plain hm, ih hr]
def inA (neg : Bool) (x : D) (l : List D) (k : D → Om) (g : Om) : Om := Bool.rec g (kBl (Bool.rec (inF x l) (!inF x l) neg) k) (flat l)
def inB (neg : Bool) (m l : List D) (k : D → Om) (g : Om) : Om := Bool.rec g (Bool.rec g (kBl (Bool.rec (inT m l) (!inT m l) neg) k) (flatT l)) (flat m)
def inC (neg : Bool) (x : D) (l : List D) (k : D → Om) (g : Om) : Om := cD x g (fun _ => g) (fun _ => g) (fun _ => g) (fun m => inB neg m l k g) (fun _ => g) (fun _ _ => g)
def keyN (d : D) (a : Nat) : Bool := Option.rec false (fun b => Nat.beq b a) (natO d)
/-- the value at a number -/
def getN (a : Nat) (kvs : List (D × D)) : Option D := List.rec none (fun p _ ih => Bool.rec ih (some p.2) (keyN p.1 a)) kvs
def isS (o : Option D) : Bool := Option.rec false (fun _ => true) o
def inD (neg : Bool) (x : D) (kvs : List (D × D)) (k : D → Om) (g : Om) : Om := cI x (fun i => Int.rec (fun a => kBl (Bool.rec (isS (getN a kvs)) (!isS (getN a kvs)) neg) k) (fun _ => g) i) g
def inX (neg : Bool) (x y : D) (k : D → Om) (g : Om) : Om :=
  cD y g (fun _ => g) (fun _ => g) (fun _ => g) (fun l => Bool.rec g (inA neg x l k g) (flat1 x)) (fun l => Bool.rec (inC neg x l k g) (inA neg x l k g) (flat1 x)) (fun t kvs => Bool.rec (inD neg x kvs k g) g t)
theorem keyN_eq (d : D) (a : Nat) : keyN d a = keyEq d (.int (.ofNat a)) := by
  cases d <;> first | rfl | skip
  rename_i j
  cases j with
  | ofNat b =>
    show Nat.beq b a = (Int.ofNat b == Int.ofNat a)
    by_cases h : b = a
    · subst h; simp
    · have : Nat.beq b a = false := Bool.eq_false_iff.mpr (fun q => h (Nat.eq_of_beq_eq_true q))
      rw [this]; simp; omega
  | negSucc b => show false = (Int.negSucc b == Int.ofNat a); rfl
theorem getN_eq (a : Nat) (kvs : List (D × D)) : getN a kvs = dGet kvs (.int (.ofNat a)) := by
  induction kvs with
  | nil => rfl
  | cons p r ih =>
    obtain ⟨q, v⟩ := p
    show Bool.rec (motive := fun _ => Option D) (getN a r) (some v) (keyN q a) = _
    rw [keyN_eq, dGet, ih]
    cases keyEq q (.int (.ofNat a)) <;> rfl
theorem inX_eq (neg : Bool) (x y : D) (k : D → Om) : inX neg x y k (slowOp (if neg then .notIn else .isIn) x y k) = slowOp (if neg then .notIn else .isIn) x y k := by
  have sl : ∀ (b : Bool), op2 (if neg then .notIn else .isIn) x y = some (.bl (if neg then !b else b)) → kBl (Bool.rec b (!b) neg) k = slowOp (if neg then .notIn else .isIn) x y k := fun b h => by
    unfold slowOp
    rw [h, kBl_eq]
    simp only [cO_eq, Option.elim, fD_eq]
    cases neg <;> rfl
  have fl : ∀ l : List D, y = .lst l ∨ y = .tup l → flat1 x = true → inA neg x l k (slowOp (if neg then .notIn else .isIn) x y k) = slowOp (if neg then .notIn else .isIn) x y k := fun l hy hx => by
    unfold inA
    cases hl : flat l with
    | false => rfl
    | true =>
      refine sl _ ?_
      rw [inF_eq hx hl]
      rcases hy with rfl | rfl
      · cases neg <;> simp [op2, flat1_plain hx, plainD, flat_plain hl]
      · cases neg <;> simp [op2, flat1_plain hx, plainD, flat_plain hl]
  cases y <;> first | rfl | skip
  · rename_i l
    show Bool.rec (motive := fun _ => Om) _ (inA neg x l k _) (flat1 x) = _
    cases hx : flat1 x with
    | true => exact fl l (.inr rfl) hx
    | false => rfl
  · rename_i l
    show Bool.rec (motive := fun _ => Om) (inC neg x l k _) (inA neg x l k _) (flat1 x) = _
    cases hx : flat1 x with
    | true => exact fl l (.inl rfl) hx
    | false =>
      cases x <;> first | rfl | skip
      rename_i m
      show inB neg m l k _ = _
      unfold inB
      cases hm : flat m with
      | false => rfl
      | true =>
        cases hl : flatT l with
        | false => rfl
        | true =>
          refine sl _ ?_
          rw [inT_eq hm hl]
          cases neg <;> simp [op2, plainD, flat_plain hm, flatT_plain hl]
  · rename_i t kvs
    cases t with
    | true => rfl
    | false =>
      cases x <;> first | rfl | skip
      rename_i i
      cases i with
      | negSucc n => rfl
      | ofNat a =>
        refine sl _ ?_
        rw [getN_eq]
        cases neg <;> simp [op2, isKey, isKey1, isS] <;> cases dGet kvs (.int (.ofNat a)) <;> rfl
theorem slowOp_eq (o : O2) (x y : D) (k : D → Om) : slowOp o x y k = (op2 o x y).elim none k := by
  unfold slowOp
  rw [cO_eq]
  congr 1
  funext d
  exact fD_eq _ _
/-- on two numbers from nought on; otherwise as it is -/
def nOp (o : O2) (f : Nat → Nat → (D → Om) → Om) (x y : D) (k : D → Om) : Om := Option.rec (slowOp o x y k) (fun a => Option.rec (slowOp o x y k) (fun b => f a b k) (natO y)) (natO x)
theorem nOp_eq (o : O2) (f : Nat → Nat → (D → Om) → Om) (x y : D) (k : D → Om) (h : ∀ a b : Nat, f a b k = slowOp o (.int a) (.int b) k) : nOp o f x y k = slowOp o x y k := by
  cases x with
  | int i => cases y with
    | int j => cases i with
      | ofNat a => cases j with
        | ofNat b => exact h a b
        | negSucc b => rfl
      | negSucc a => rfl
    | _ => cases i <;> rfl
  | _ => rfl
def addN (a b : Nat) (k : D → Om) : Om := kNat (Nat.add a b) k
def subN (a b : Nat) (k : D → Om) : Om := iff (Nat.ble b a) (kNat (Nat.sub a b) k) (slowOp .sub (.int (.ofNat a)) (.int (.ofNat b)) k)
def mulN (a b : Nat) (k : D → Om) : Om := iff (Nat.ble a 18446744073709551615) (kNat (Nat.mul a b) k) (slowOp .mul (.int (.ofNat a)) (.int (.ofNat b)) k)
def fdivN (a b : Nat) (k : D → Om) : Om := iff (Nat.ble b 1073741823) (iff (Nat.ble 1 b) (kNat (Nat.div a b) k) none) none
def modN (a b : Nat) (k : D → Om) : Om := iff (Nat.ble 1 b) (kNat (Nat.mod a b) k) none
def shlN (a b : Nat) (k : D → Om) : Om := iff (Nat.ble b 1000) (iff (Nat.ble a 18446744073709551615) (kNat (Nat.mul a (Nat.pow 2 b)) k) none) (slowOp .shl (.int (.ofNat a)) (.int (.ofNat b)) k)
def shrN (a b : Nat) (k : D → Om) : Om := kNat (Nat.div a (Nat.pow 2 b)) k
def bandN (a b : Nat) (k : D → Om) : Om := kNat (Nat.land a b) k
def borN (a b : Nat) (k : D → Om) : Om := kNat (Nat.lor a b) k
def bxorN (a b : Nat) (k : D → Om) : Om := kNat (Nat.xor a b) k
def ltN (a b : Nat) (k : D → Om) : Om := kBl (Nat.ble (Nat.succ a) b) k
def leN (a b : Nat) (k : D → Om) : Om := kBl (Nat.ble a b) k
def gtN (a b : Nat) (k : D → Om) : Om := kBl (Nat.ble (Nat.succ b) a) k
def geN (a b : Nat) (k : D → Om) : Om := kBl (Nat.ble b a) k
def catL (l m : List D) (k : List D → Om) : Om := iff (Nat.ble (Nat.add l.length m.length) 100000) (fCat l m k) none
def addL (x y : D) (k : D → Om) : Om := cD x (slowOp .add x y k) (fun _ => slowOp .add x y k) (fun _ => slowOp .add x y k) (fun _ => slowOp .add x y k)
  (fun l => cD y none (fun _ => none) (fun _ => none) (fun _ => none) (fun m => catL l m fun r => k (.tup r)) (fun _ => none) (fun _ _ => none))
  (fun l => cD y none (fun _ => none) (fun _ => none) (fun _ => none) (fun _ => none) (fun m => catL l m fun r => k (.lst r)) (fun _ _ => none)) (fun _ _ => slowOp .add x y k)
def addX (x y : D) (k : D → Om) : Om := Option.rec (addL x y k) (fun a => Option.rec (slowOp .add x y k) (fun b => addN a b k) (natO y)) (natO x)
def eqO (x y : D) (k : D → Om) : Om := eqX x y (fun b => k (.bl b)) (slowOp .eq x y k)
def neO (x y : D) (k : D → Om) : Om := eqX x y (fun b => kBl (!b) k) (slowOp .ne x y k)
def inO (x y : D) (k : D → Om) : Om := inX false x y k (slowOp .isIn x y k)
def ninO (x y : D) (k : D → Om) : Om := inX true x y k (slowOp .notIn x y k)
abbrev OpF := D → D → (D → Om) → Om
def opF : O2 → OpF
  | .add => addX | .sub => nOp .sub subN | .mul => nOp .mul mulN | .fdiv => nOp .fdiv fdivN | .mod => nOp .mod modN | .pow => slowOp .pow
  | .shl => nOp .shl shlN | .shr => nOp .shr shrN | .band => nOp .band bandN | .bor => nOp .bor borN | .bxor => nOp .bxor bxorN
  | .lt => nOp .lt ltN | .le => nOp .le leN | .gt => nOp .gt gtN | .ge => nOp .ge geN | .eq => eqO | .ne => neO | .isIn => inO | .notIn => ninO
  | .is => slowOp .is | .isNot => slowOp .isNot
theorem nble {a b : Nat} : Nat.ble a b = decide (a ≤ b) := by
  by_cases h : a ≤ b
  · rw [decide_eq_true h]; exact Nat.ble_eq.mpr h
  · rw [decide_eq_false h]; exact Bool.eq_false_iff.mpr fun q => h (Nat.ble_eq.mp q)
theorem catL_eq (l m : List D) (k : List D → Om) : catL l m k = if l.length + m.length ≤ lim then k (l ++ m) else none := by
  unfold catL
  rw [iff_eq, fCat_eq, nble]
  show (if decide (l.length + m.length ≤ lim) = true then _ else _) = _
  by_cases h : l.length + m.length ≤ lim
  · rw [if_pos h, if_pos (decide_eq_true h)]
  · rw [if_neg h, if_neg (by rw [decide_eq_false h]; simp)]
theorem addL_eq (x y : D) (k : D → Om) : addL x y k = slowOp .add x y k := by
  cases x <;> first | rfl | skip
  all_goals cases y <;> first | (rw [slowOp_eq]; rfl) | skip
  all_goals
    rename_i l m
    show catL l m _ = _
    rw [slowOp_eq, catL_eq]
    simp only [op2]
    by_cases h : l.length + m.length ≤ lim
    · rw [if_pos h, if_pos h]; rfl
    · rw [if_neg h, if_neg h]; rfl
theorem addX_eq (x y : D) (k : D → Om) : addX x y k = slowOp .add x y k := by
  unfold addX
  rw [addL_eq]
  exact nOp_eq .add addN x y k fun a b => by rw [slowOp_eq, addN, kNat_eq]; rfl
theorem subN_eq (a b : Nat) (k : D → Om) : subN a b k = slowOp .sub (.int a) (.int b) k := by
  unfold subN
  rw [iff_eq, nble]
  by_cases h : b ≤ a
  · simp only [h, decide_true, if_true]
    rw [slowOp_eq, kNat_eq]
    show k _ = k _
    congr 2
    show ((a - b : Nat) : Int) = (a : Int) - b
    omega
  · simp [h]
theorem mulOk_of {a : Nat} (b : Int) (h : a ≤ 18446744073709551615) : mulOk (a : Int) b = true := by
  unfold mulOk
  have h1 : (-(2 ^ 64) : Int) < a := by omega
  have h2 : (a : Int) < 2 ^ 64 := by omega
  rw [decide_eq_true h1, decide_eq_true h2]
  rfl
theorem mulN_eq (a b : Nat) (k : D → Om) : mulN a b k = slowOp .mul (.int a) (.int b) k := by
  unfold mulN
  rw [iff_eq, nble]
  by_cases h : a ≤ 18446744073709551615
  · rw [if_pos (decide_eq_true h), slowOp_eq, kNat_eq]
    simp only [op2]
    rw [if_pos (mulOk_of b h)]
    rfl
  · rw [if_neg (by rw [decide_eq_false h]; simp)]
    rfl
theorem fdivN_eq (a b : Nat) (k : D → Om) : fdivN a b k = slowOp .fdiv (.int a) (.int b) k := by
  unfold fdivN
  rw [iff_eq, iff_eq, nble, nble, slowOp_eq]
  simp only [op2]
  by_cases h : b ≤ 1073741823
  · have h4 : (b : Int) < 1073741824 := by omega
    by_cases h2 : 1 ≤ b
    · have h3 : (0 : Int) < b := by omega
      rw [if_pos (decide_eq_true h), if_pos (decide_eq_true h2), if_pos (by rw [decide_eq_true h3, decide_eq_true h4]; rfl), kNat_eq]
      rfl
    · have h3 : ¬ (0 : Int) < b := by omega
      rw [if_pos (decide_eq_true h), if_neg (by rw [decide_eq_false h2]; simp), if_neg (by rw [decide_eq_false h3]; simp)]
      rfl
  · have h4 : ¬ (b : Int) < 1073741824 := by omega
    rw [if_neg (by rw [decide_eq_false h]; simp), if_neg (by rw [decide_eq_false h4]; simp)]
    rfl
theorem modN_eq (a b : Nat) (k : D → Om) : modN a b k = slowOp .mod (.int a) (.int b) k := by
  unfold modN
  rw [iff_eq, nble, slowOp_eq]
  simp only [op2]
  by_cases h2 : 1 ≤ b
  · have h3 : (0 : Int) < b := by omega
    rw [if_pos (decide_eq_true h2), if_pos h3, kNat_eq]
    rfl
  · have h3 : ¬ (0 : Int) < b := by omega
    rw [if_neg (by rw [decide_eq_false h2]; simp), if_neg h3]
    rfl
theorem shlN_eq (a b : Nat) (k : D → Om) : shlN a b k = slowOp .shl (.int a) (.int b) k := by
  unfold shlN
  rw [iff_eq, iff_eq, nble, nble]
  by_cases h : b ≤ 1000
  · rw [if_pos (decide_eq_true h), slowOp_eq]
    simp only [op2]
    have h3 : (0 : Int) ≤ b := by omega
    have h4 : (b : Int) ≤ 1000000 := by omega
    by_cases h2 : a ≤ 18446744073709551615
    · have h5 : (a : Int).natAbs < 2 ^ 64 := by omega
      rw [if_pos (decide_eq_true h2), if_pos (by rw [decide_eq_true h3, decide_eq_true h4, decide_eq_true h5]; rfl), kNat_eq]
      show k (.int ((a * 2 ^ b : Nat) : Int)) = k (.int ((a : Int) * 2 ^ (b : Int).toNat))
      congr 2
    · have h5 : ¬ (a : Int).natAbs < 2 ^ 64 := by omega
      rw [if_neg (by rw [decide_eq_false h2]; simp), if_neg (by rw [decide_eq_false h5]; simp)]
      rfl
  · rw [if_neg (by rw [decide_eq_false h]; simp)]
    rfl
theorem shrN_eq (a b : Nat) (k : D → Om) : shrN a b k = slowOp .shr (.int a) (.int b) k := by
  unfold shrN
  rw [slowOp_eq, kNat_eq]
  have h3 : (0 : Int) ≤ b := by omega
  simp only [op2]
  rw [if_pos h3]
  show k (.int ((a / 2 ^ b : Nat) : Int)) = k (.int ((a : Int) / 2 ^ (b : Int).toNat))
  congr 2
theorem bitN_eq (a b : Nat) : (0 : Int) ≤ a ∧ (0 : Int) ≤ b := by omega
theorem bandN_eq (a b : Nat) (k : D → Om) : bandN a b k = slowOp .band (.int a) (.int b) k := by
  unfold bandN
  rw [slowOp_eq, kNat_eq]
  simp only [op2]
  rw [if_pos (by rw [decide_eq_true (bitN_eq a b).1, decide_eq_true (bitN_eq a b).2]; rfl)]
  rfl
theorem borN_eq (a b : Nat) (k : D → Om) : borN a b k = slowOp .bor (.int a) (.int b) k := by
  unfold borN
  rw [slowOp_eq, kNat_eq]
  simp only [op2]
  rw [if_pos (by rw [decide_eq_true (bitN_eq a b).1, decide_eq_true (bitN_eq a b).2]; rfl)]
  rfl
theorem bxorN_eq (a b : Nat) (k : D → Om) : bxorN a b k = slowOp .bxor (.int a) (.int b) k := by
  unfold bxorN
  rw [slowOp_eq, kNat_eq]
  simp only [op2]
  rw [if_pos (by rw [decide_eq_true (bitN_eq a b).1, decide_eq_true (bitN_eq a b).2]; rfl)]
  rfl
theorem dec_congr {p q : Prop} [Decidable p] [Decidable q] (h : p ↔ q) : decide p = decide q := by
  by_cases hp : p
  · rw [decide_eq_true hp, decide_eq_true (h.mp hp)]
  · rw [decide_eq_false hp, decide_eq_false fun z => hp (h.mpr z)]
theorem ltN_eq (a b : Nat) (k : D → Om) : ltN a b k = slowOp .lt (.int a) (.int b) k := by
  unfold ltN
  rw [slowOp_eq, kBl_eq, nble]
  show k (.bl (decide (a + 1 ≤ b))) = k (.bl (decide ((a : Int) < b)))
  rw [dec_congr (show a + 1 ≤ b ↔ (a : Int) < b by omega)]
theorem leN_eq (a b : Nat) (k : D → Om) : leN a b k = slowOp .le (.int a) (.int b) k := by
  unfold leN
  rw [slowOp_eq, kBl_eq, nble]
  show k (.bl (decide (a ≤ b))) = k (.bl (decide ((a : Int) ≤ b)))
  rw [dec_congr (show a ≤ b ↔ (a : Int) ≤ b by omega)]
theorem gtN_eq (a b : Nat) (k : D → Om) : gtN a b k = slowOp .gt (.int a) (.int b) k := by
  unfold gtN
  rw [slowOp_eq, kBl_eq, nble]
  show k (.bl (decide (b + 1 ≤ a))) = k (.bl (decide ((b : Int) < a)))
  rw [dec_congr (show b + 1 ≤ a ↔ (b : Int) < a by omega)]
theorem geN_eq (a b : Nat) (k : D → Om) : geN a b k = slowOp .ge (.int a) (.int b) k := by
  unfold geN
  rw [slowOp_eq, kBl_eq, nble]
  show k (.bl (decide (b ≤ a))) = k (.bl (decide ((b : Int) ≤ a)))
  rw [dec_congr (show b ≤ a ↔ (b : Int) ≤ a by omega)]
theorem opF_eq (o : O2) (x y : D) (k : D → Om) : opF o x y k = (op2 o x y).elim none k := by
  rw [← slowOp_eq]
  cases o
  case add => exact addX_eq x y k
  case sub => exact nOp_eq _ _ x y k fun a b => subN_eq a b k
  case mul => exact nOp_eq _ _ x y k fun a b => mulN_eq a b k
  case fdiv => exact nOp_eq _ _ x y k fun a b => fdivN_eq a b k
  case mod => exact nOp_eq _ _ x y k fun a b => modN_eq a b k
  case shl => exact nOp_eq _ _ x y k fun a b => shlN_eq a b k
  case shr => exact nOp_eq _ _ x y k fun a b => shrN_eq a b k
  case band => exact nOp_eq _ _ x y k fun a b => bandN_eq a b k
  case bor => exact nOp_eq _ _ x y k fun a b => borN_eq a b k
  case bxor => exact nOp_eq _ _ x y k fun a b => bxorN_eq a b k
  case lt => exact nOp_eq _ _ x y k fun a b => ltN_eq a b k
  case le => exact nOp_eq _ _ x y k fun a b => leN_eq a b k
  case gt => exact nOp_eq _ _ x y k fun a b => gtN_eq a b k
  case ge => exact nOp_eq _ _ x y k fun a b => geN_eq a b k
  case pow => rfl
  case eq => exact eqX_eq x y _ _ fun h1 h2 => by rw [slowOp_eq]; simp only [op2, h1, h2]; rfl
  case ne => exact eqX_eq x y _ _ fun h1 h2 => by rw [slowOp_eq, kBl_eq]; simp only [op2, h1, h2]; rfl
  case isIn => exact inX_eq false x y k
  case notIn => exact inX_eq true x y k
  case is => rfl
  case isNot => rfl
end
end PB
set_option maxHeartbeats 4000000
/-! Je: a frame of up to 12 slots as one record. -/
namespace PB
noncomputable section
open PySem
structure Fr where
  (s0 s1 s2 s3 s4 s5 s6 s7 s8 s9 s10 s11 : Option D)
/-- the first n slots, as a list -/
def Fr.l (n : Nat) (e : Fr) : En := [e.s0, e.s1, e.s2, e.s3, e.s4, e.s5, e.s6, e.s7, e.s8, e.s9, e.s10, e.s11].take n
def nSl : Nat := 12
structure Slot where
  g : Fr → Option D
  s : Fr → Option D → (Fr → Om) → Om
def z0 (e : Fr) (o : Option D) (k : Fr → Om) : Om := Fr.rec (fun a0 a1 a2 a3 a4 a5 a6 a7 a8 a9 a10 a11 => k (Fr.mk o a1 a2 a3 a4 a5 a6 a7 a8 a9 a10 a11)) e
def sl0 : Slot := ⟨Fr.s0, z0⟩
def z1 (e : Fr) (o : Option D) (k : Fr → Om) : Om := Fr.rec (fun a0 a1 a2 a3 a4 a5 a6 a7 a8 a9 a10 a11 => k (Fr.mk a0 o a2 a3 a4 a5 a6 a7 a8 a9 a10 a11)) e
def sl1 : Slot := ⟨Fr.s1, z1⟩
def z2 (e : Fr) (o : Option D) (k : Fr → Om) : Om := Fr.rec (fun a0 a1 a2 a3 a4 a5 a6 a7 a8 a9 a10 a11 => k (Fr.mk a0 a1 o a3 a4 a5 a6 a7 a8 a9 a10 a11)) e
def sl2 : Slot := ⟨Fr.s2, z2⟩
def z3 (e : Fr) (o : Option D) (k : Fr → Om) : Om := Fr.rec (fun a0 a1 a2 a3 a4 a5 a6 a7 a8 a9 a10 a11 => k (Fr.mk a0 a1 a2 o a4 a5 a6 a7 a8 a9 a10 a11)) e
def sl3 : Slot := ⟨Fr.s3, z3⟩
def z4 (e : Fr) (o : Option D) (k : Fr → Om) : Om := Fr.rec (fun a0 a1 a2 a3 a4 a5 a6 a7 a8 a9 a10 a11 => k (Fr.mk a0 a1 a2 a3 o a5 a6 a7 a8 a9 a10 a11)) e
def sl4 : Slot := ⟨Fr.s4, z4⟩
def z5 (e : Fr) (o : Option D) (k : Fr → Om) : Om := Fr.rec (fun a0 a1 a2 a3 a4 a5 a6 a7 a8 a9 a10 a11 => k (Fr.mk a0 a1 a2 a3 a4 o a6 a7 a8 a9 a10 a11)) e
def sl5 : Slot := ⟨Fr.s5, z5⟩
def z6 (e : Fr) (o : Option D) (k : Fr → Om) : Om := Fr.rec (fun a0 a1 a2 a3 a4 a5 a6 a7 a8 a9 a10 a11 => k (Fr.mk a0 a1 a2 a3 a4 a5 o a7 a8 a9 a10 a11)) e
def sl6 : Slot := ⟨Fr.s6, z6⟩
def z7 (e : Fr) (o : Option D) (k : Fr → Om) : Om := Fr.rec (fun a0 a1 a2 a3 a4 a5 a6 a7 a8 a9 a10 a11 => k (Fr.mk a0 a1 a2 a3 a4 a5 a6 o a8 a9 a10 a11)) e
def sl7 : Slot := ⟨Fr.s7, z7⟩
def z8 (e : Fr) (o : Option D) (k : Fr → Om) : Om := Fr.rec (fun a0 a1 a2 a3 a4 a5 a6 a7 a8 a9 a10 a11 => k (Fr.mk a0 a1 a2 a3 a4 a5 a6 a7 o a9 a10 a11)) e
def sl8 : Slot := ⟨Fr.s8, z8⟩
def z9 (e : Fr) (o : Option D) (k : Fr → Om) : Om := Fr.rec (fun a0 a1 a2 a3 a4 a5 a6 a7 a8 a9 a10 a11 => k (Fr.mk a0 a1 a2 a3 a4 a5 a6 a7 a8 o a10 a11)) e
def sl9 : Slot := ⟨Fr.s9, z9⟩
def z10 (e : Fr) (o : Option D) (k : Fr → Om) : Om := Fr.rec (fun a0 a1 a2 a3 a4 a5 a6 a7 a8 a9 a10 a11 => k (Fr.mk a0 a1 a2 a3 a4 a5 a6 a7 a8 a9 o a11)) e
def sl10 : Slot := ⟨Fr.s10, z10⟩
def z11 (e : Fr) (o : Option D) (k : Fr → Om) : Om := Fr.rec (fun a0 a1 a2 a3 a4 a5 a6 a7 a8 a9 a10 a11 => k (Fr.mk a0 a1 a2 a3 a4 a5 a6 a7 a8 a9 a10 o)) e
def sl11 : Slot := ⟨Fr.s11, z11⟩
def slot : Nat → Slot
  | 0 => sl0
  | 1 => sl1
  | 2 => sl2
  | 3 => sl3
  | 4 => sl4
  | 5 => sl5
  | 6 => sl6
  | 7 => sl7
  | 8 => sl8
  | 9 => sl9
  | 10 => sl10
  | 11 => sl11
  | _ => ⟨fun _ => none, fun _ _ _ => none⟩
theorem slot_g : ∀ (i n : Nat) (e : Fr), i < n → n ≤ 12 → rdS (e.l n) i = (slot i).g e
  | 0, n, e, h, _ => by simp only [rdS, Fr.l, List.getElem?_take]; rw [if_pos h]; rfl
  | 1, n, e, h, _ => by simp only [rdS, Fr.l, List.getElem?_take]; rw [if_pos h]; rfl
  | 2, n, e, h, _ => by simp only [rdS, Fr.l, List.getElem?_take]; rw [if_pos h]; rfl
  | 3, n, e, h, _ => by simp only [rdS, Fr.l, List.getElem?_take]; rw [if_pos h]; rfl
  | 4, n, e, h, _ => by simp only [rdS, Fr.l, List.getElem?_take]; rw [if_pos h]; rfl
  | 5, n, e, h, _ => by simp only [rdS, Fr.l, List.getElem?_take]; rw [if_pos h]; rfl
  | 6, n, e, h, _ => by simp only [rdS, Fr.l, List.getElem?_take]; rw [if_pos h]; rfl
  | 7, n, e, h, _ => by simp only [rdS, Fr.l, List.getElem?_take]; rw [if_pos h]; rfl
  | 8, n, e, h, _ => by simp only [rdS, Fr.l, List.getElem?_take]; rw [if_pos h]; rfl
  | 9, n, e, h, _ => by simp only [rdS, Fr.l, List.getElem?_take]; rw [if_pos h]; rfl
  | 10, n, e, h, _ => by simp only [rdS, Fr.l, List.getElem?_take]; rw [if_pos h]; rfl
  | 11, n, e, h, _ => by simp only [rdS, Fr.l, List.getElem?_take]; rw [if_pos h]; rfl
  | i + 12, n, e, h, h2 => by omega
theorem slot_s : ∀ (i n : Nat) (e : Fr) (o : Option D) (k : Fr → Om) (k' : En → Om), i < n → n ≤ 12 → (∀ e, k e = k' (e.l n)) → (slot i).s e o k = k' ((e.l n).set i o)
  | 0, n, e, o, k, k', h, _, hk => by
    refine (hk _).trans (congrArg k' ?_)
    unfold Fr.l
    rw [← List.take_set]
    rfl
  | 1, n, e, o, k, k', h, _, hk => by
    refine (hk _).trans (congrArg k' ?_)
    unfold Fr.l
    rw [← List.take_set]
    rfl
  | 2, n, e, o, k, k', h, _, hk => by
    refine (hk _).trans (congrArg k' ?_)
    unfold Fr.l
    rw [← List.take_set]
    rfl
  | 3, n, e, o, k, k', h, _, hk => by
    refine (hk _).trans (congrArg k' ?_)
    unfold Fr.l
    rw [← List.take_set]
    rfl
  | 4, n, e, o, k, k', h, _, hk => by
    refine (hk _).trans (congrArg k' ?_)
    unfold Fr.l
    rw [← List.take_set]
    rfl
  | 5, n, e, o, k, k', h, _, hk => by
    refine (hk _).trans (congrArg k' ?_)
    unfold Fr.l
    rw [← List.take_set]
    rfl
  | 6, n, e, o, k, k', h, _, hk => by
    refine (hk _).trans (congrArg k' ?_)
    unfold Fr.l
    rw [← List.take_set]
    rfl
  | 7, n, e, o, k, k', h, _, hk => by
    refine (hk _).trans (congrArg k' ?_)
    unfold Fr.l
    rw [← List.take_set]
    rfl
  | 8, n, e, o, k, k', h, _, hk => by
    refine (hk _).trans (congrArg k' ?_)
    unfold Fr.l
    rw [← List.take_set]
    rfl
  | 9, n, e, o, k, k', h, _, hk => by
    refine (hk _).trans (congrArg k' ?_)
    unfold Fr.l
    rw [← List.take_set]
    rfl
  | 10, n, e, o, k, k', h, _, hk => by
    refine (hk _).trans (congrArg k' ?_)
    unfold Fr.l
    rw [← List.take_set]
    rfl
  | 11, n, e, o, k, k', h, _, hk => by
    refine (hk _).trans (congrArg k' ?_)
    unfold Fr.l
    rw [← List.take_set]
    rfl
  | i + 12, n, e, o, k, k', h, h2, hk => by omega
theorem Fr.len (e : Fr) (n : Nat) (h : n ≤ 12) : (e.l n).length = n := by
  unfold Fr.l
  rw [List.length_take]
  simp only [List.length_cons, List.length_nil]
  omega
end
end PB
set_option maxHeartbeats 4000000
/-! Jr: the text of small data is there. -/
namespace PB
open PySem PySem.Spec PyProof.Rows L2
def knownS : List Str := ["BadFunction", "BadNumber", "BadRow", "letters", "1"]
mutual
def smD : Nat → D → Bool
  | _, .non => true
  | _, .bl _ => true
  | _, .int i => decide (i.natAbs < 1000000000000)
  | _, .str x => knownS.contains x
  | n, .tup xs => match n with | 0 => false | n + 1 => smL n xs
  | n, .lst xs => match n with | 0 => false | n + 1 => smL n xs
  | _, .dic _ _ => false
def smL : Nat → List D → Bool
  | _, [] => true
  | n, x :: xs => smD n x && smL n xs
end
def smallD (d : D) : Bool := smD 30 d && decide ((toPy d).weight ≤ 6000)
theorem kn_ok {x : Str} (h : knownS.contains x = true) : PyData.strOk x = true ∧ (∀ k, 0x110000 ≤ k → k ∉ (reprText x).cps.toList) := by
  have a : (knownS.all fun x => PyData.strOk x && PyData.strOk (reprText x)) = true := by decide +kernel
  have := List.all_eq_true.mp a x (List.contains_iff_mem.mp h)
  simp only [Bool.and_eq_true] at this
  refine ⟨this.1, fun k hk hm => ?_⟩
  have h2 := this.2
  unfold PyData.strOk at h2
  rw [← Array.all_toList] at h2
  have := of_decide_eq_true (List.all_eq_true.mp h2 k hm)
  omega
mutual
theorem sm_plain : ∀ (n : Nat) (d : D), smD n d = true → plainD n d = true
  | _, .non, _ => by simp [plainD]
  | _, .bl _, _ => by simp [plainD]
  | _, .int _, _ => by simp [plainD]
  | _, .str x, h => by simp only [plainD]; exact (kn_ok (by simpa [smD] using h)).1
  | 0, .tup xs, h => by simp [smD] at h
  | n + 1, .tup xs, h => by simp only [smD] at h; simp only [plainD]; exact sm_plainL n xs h
  | 0, .lst xs, h => by simp [smD] at h
  | n + 1, .lst xs, h => by simp only [smD] at h; simp only [plainD]; exact sm_plainL n xs h
  | _, .dic _ _, h => by simp [smD] at h
theorem sm_plainL : ∀ (n : Nat) (l : List D), smL n l = true → plainL n l = true
  | _, [], _ => by simp [plainL]
  | n, x :: xs, h => by
    simp only [smL, Bool.and_eq_true] at h
    simp only [plainL, sm_plain n x h.1, sm_plainL n xs h.2, Bool.and_self]
end
theorem nat_show {i : Int} (h : i.natAbs < 1000000000000) : i.natAbs.log2 < 1920 := by
  by_cases h0 : i.natAbs = 0
  · rw [h0]; decide
  · exact (Nat.log2_lt h0).mpr (Nat.lt_trans h (by decide +kernel))
mutual
theorem sm_show : ∀ (n : Nat) (d : D), smD n d = true → showI d = true
  | _, .non, _ => by simp [showI]
  | _, .bl _, _ => by simp [showI]
  | _, .int i, h => by simp only [showI]; exact decide_eq_true (nat_show (by simpa [smD] using h))
  | _, .str x, h => by simp [showI]
  | 0, .tup xs, h => by simp [smD] at h
  | n + 1, .tup xs, h => by simp only [smD] at h; simp only [showI]; exact sm_showL n xs h
  | 0, .lst xs, h => by simp [smD] at h
  | n + 1, .lst xs, h => by simp only [smD] at h; simp only [showI]; exact sm_showL n xs h
  | _, .dic _ _, h => by simp [smD] at h
theorem sm_showL : ∀ (n : Nat) (l : List D), smL n l = true → showIL l = true
  | _, [], _ => by simp [showIL]
  | n, x :: xs, h => by
    simp only [smL, Bool.and_eq_true] at h
    simp only [showIL, sm_show n x h.1, sm_showL n xs h.2, Bool.and_self]
end
mutual
theorem sm_short : ∀ (n : Nat) (d : D), smD n d = true → (toPy d).leavesShort 13 = true
  | _, .non, _ => by simp [toPy, PyData.leavesShort]
  | _, .bl _, _ => by simp [toPy, PyData.leavesShort]
  | _, .int i, h => by
    simp only [toPy, PyData.leavesShort]
    exact decide_eq_true (PyData.shown_int_le (by have : i.natAbs < 1000000000000 := by simpa [smD] using h
                                                  omega))
  | _, .str x, h => by
    simp only [toPy, PyData.leavesShort]
    have h2 := (kn_ok (by simpa [smD] using h : knownS.contains x = true)).1
    unfold PyData.strOk at h2
    rw [← Array.all_toList] at h2
    exact List.all_eq_true.mpr fun c hc => decide_eq_true (by have := of_decide_eq_true (List.all_eq_true.mp h2 c hc); omega)
  | 0, .tup xs, h => by simp [smD] at h
  | n + 1, .tup xs, h => by simp only [smD] at h; simp only [toPy, PyData.leavesShort]; exact sm_shortL n xs h
  | 0, .lst xs, h => by simp [smD] at h
  | n + 1, .lst xs, h => by simp only [smD] at h; simp only [toPy, PyData.leavesShort]; exact sm_shortL n xs h
  | _, .dic _ _, h => by simp [smD] at h
theorem sm_shortL : ∀ (n : Nat) (l : List D), smL n l = true → PyData.leavesShortAll 13 (toPyL l) = true
  | _, [], _ => by simp [toPyL, PyData.leavesShortAll]
  | n, x :: xs, h => by
    simp only [smL, Bool.and_eq_true] at h
    simp only [toPyL, PyData.leavesShortAll, sm_short n x h.1, sm_shortL n xs h.2, Bool.and_self]
end
theorem free_part {k : Nat} (hk : 0x110000 ≤ k) {x : Str} (h : (x.cps.toList.all fun c => decide (c < 128)) = true) : k ∉ x.cps.toList := fun hm => by
  have := of_decide_eq_true (List.all_eq_true.mp h k hm)
  omega
mutual
theorem sm_free {k : Nat} (hk : 0x110000 ≤ k) : ∀ (n : Nat) (d : D), smD n d = true → k ∉ (toPy d).shown.cps.toList
  | _, .non, _ => by
    simp only [toPy]
    rw [PyData.shown_none]
    exact free_part hk (by decide +kernel)
  | _, .bl b, _ => by
    simp only [toPy]
    rw [PyData.shown_bool]
    exact free_part hk (by cases b <;> decide +kernel)
  | _, .int i, h => by
    simp only [toPy]
    exact shown_int_free' ⟨by omega, by omega⟩ i
  | _, .str x, h => by
    simp only [toPy]
    rw [PyData.shown_str]
    exact (kn_ok (by simpa [smD] using h)).2 k hk
  | 0, .tup xs, h => by simp [smD] at h
  | n + 1, .tup xs, h => by
    simp only [smD] at h
    have ih := sm_freeL hk n xs h
    simp only [toPy]
    rw [PyData.shown_tuple, mem_cps_append, mem_cps_append, mem_join]
    rintro ((hm | (⟨t, ht, hc⟩ | ⟨_, hm⟩)) | hm)
    · exact free_part hk (by decide +kernel) hm
    · exact ih t ht hc
    · exact free_part hk (by decide +kernel) hm
    · exact free_part hk (by split <;> decide +kernel) hm
  | 0, .lst xs, h => by simp [smD] at h
  | n + 1, .lst xs, h => by
    simp only [smD] at h
    have ih := sm_freeL hk n xs h
    simp only [toPy]
    rw [PyData.shown_list, mem_cps_append, mem_cps_append, mem_join]
    rintro ((hm | (⟨t, ht, hc⟩ | ⟨_, hm⟩)) | hm)
    · exact free_part hk (by decide +kernel) hm
    · exact ih t ht hc
    · exact free_part hk (by decide +kernel) hm
    · exact free_part hk (by decide +kernel) hm
  | _, .dic _ _, h => by simp [smD] at h
theorem sm_freeL {k : Nat} (hk : 0x110000 ≤ k) : ∀ (n : Nat) (l : List D), smL n l = true → ∀ t ∈ PyData.shownAll (toPyL l), k ∉ t.cps.toList
  | _, [], _, t, ht => by simp [toPyL, PyData.shownAll] at ht
  | n, x :: xs, h, t, ht => by
    simp only [smL, Bool.and_eq_true] at h
    simp only [toPyL] at ht
    rw [PyData.shownAll_cons, List.mem_cons] at ht
    rcases ht with e | ht
    · rw [e]; exact sm_free hk n x h.1
    · exact sm_freeL hk n xs h.2 t ht
end
theorem repr_small {d : D} (h : smallD d = true) : bi .repr [d] = some (.str (toPy d).shown) ∧ PyData.strOk (toPy d).shown = true := by
  unfold smallD at h
  obtain ⟨h1, h2⟩ := (Bool.and_eq_true _ _).mp h
  have h2 := of_decide_eq_true h2
  refine ⟨?_, ?_⟩
  · simp only [bi]
    rw [if_pos]
    rw [sm_plain 30 d h1, sm_show 30 d h1]
    have := PyData.shown_le 13 (by omega) _ (sm_short 30 d h1)
    exact decide_eq_true (show _ ≤ 100000 by omega)
  · unfold PyData.strOk
    rw [← Array.all_toList]
    exact List.all_eq_true.mpr fun c hc => decide_eq_true (by
      apply Classical.byContradiction
      intro z
      exact sm_free (by omega) 30 d h1 hc)
mutual
def sameD : D → D → Bool
  | .non, .non => true
  | .bl a, .bl b => a == b
  | .int i, .int j => decide (i = j)
  | .str x, .str y => x == y
  | .tup xs, .tup ys => sameL xs ys
  | .lst xs, .lst ys => sameL xs ys
  | _, _ => false
def sameL : List D → List D → Bool
  | [], [] => true
  | x :: xs, y :: ys => sameD x y && sameL xs ys
  | _, _ => false
end
mutual
theorem same_eq : ∀ (x y : D), sameD x y = true → x = y
  | .non, y, h => by cases y <;> simp [sameD] at h; rfl
  | .bl a, y, h => by cases y <;> simp [sameD] at h; rw [h]
  | .int a, y, h => by cases y <;> simp [sameD] at h; rw [h]
  | .str a, y, h => by cases y <;> simp [sameD] at h; rw [h]
  | .tup xs, y, h => by
    cases y <;> simp only [sameD] at h <;> first | (cases h; done) | rw [same_eqL xs _ h]
  | .lst xs, y, h => by
    cases y <;> simp only [sameD] at h <;> first | (cases h; done) | rw [same_eqL xs _ h]
  | .dic _ _, y, h => by cases y <;> simp [sameD] at h
theorem same_eqL : ∀ (xs ys : List D), sameL xs ys = true → xs = ys
  | [], ys, h => by cases ys <;> simp [sameL] at h; rfl
  | x :: xs, ys, h => by
    cases ys with
    | nil => simp [sameL] at h
    | cons y ys =>
      simp only [sameL, Bool.and_eq_true] at h
      rw [same_eq x y h.1, same_eqL xs ys h.2]
end
end PB
set_option maxHeartbeats 4000000
/-! Jb: the evaluation by continuations. -/
namespace PB
noncomputable section
open PySem
structure Gf where
  act : Act
  ex : Option (Nat × List (Str × D))
abbrev X := Gf → Fr → (D → Fr → Om) → (Exn → Fr → Om) → Om
abbrev XL := Gf → Fr → (List D → Fr → Om) → (Exn → Fr → Om) → Om
abbrev FX := Act → List D → (D → List (Option D) → Om) → (Exn → List (Option D) → Om) → Om
structure KS where
  nx : Fr → Om
  rt : D → Fr → Om
  bk : Fr → Om
  ct : Fr → Om
  xc : Exn → Fr → Om
abbrev XS := Gf → Fr → KS → Om
abbrev TG := D → Fr → (Fr → Om) → Om
abbrev TGL := List D → Fr → (Fr → Om) → Om
abbrev Gt := Fr → Option D
abbrev St := Fr → Option D → (Fr → Om) → Om
def fRd (p : Gt) (e : Fr) (k : D → Om) : Om := Option.rec none k (p e)
/-- a place from which a value is read when it is wanted -/
inductive Lc where | val | loc (p : Gt)
def fFin (l : Lc) (d : D) (e : Fr) (k : D → Om) : Om := Lc.rec (k d) (fun p => fRd p e k) l
def fTr0 (d : D) (k : Bool → Om) : Om := cD d (k false) (fun b => fB b k) (fun i => Int.rec (fun n => fB (Nat.ble 1 n) k) (fun _ => k true) i)
  (fun x => if x.length ≤ 100000 then k (x.length != 0) else none) (fun xs => List.rec (k false) (fun _ _ _ => k true) xs) (fun xs => List.rec (k false) (fun _ _ _ => k true) xs) (fun t kvs => Bool.rec (List.rec (k false) (fun _ _ _ => k true) kvs) none t)
def fTr (d : D) (k : Bool → Om) : Om := Option.rec (fTr0 d k) (fun b => fB b k) (blO d)
namespace X
def fail : X := fun _ _ _ _ => none
def var (p : Gt) : X := fun _ e k _ => fRd p e fun d => k d e
def loc (p : Gt) : X := fun _ e k _ => fRd p e fun _ => k .non e
def cst (d : D) : X := fun _ e k _ => k d e
def nil : XL := fun _ e k _ => k [] e
def lfail : XL := fun _ _ _ _ => none
def cons (a : X) (b : XL) : XL := fun g e k kx => a g e (fun x e1 => b g e1 (fun xs e2 => k (x :: xs) e2) kx) kx
def tup (a : XL) : X := fun g e k kx => a g e (fun xs e1 => k (.tup xs) e1) kx
def lst (a : XL) : X := fun g e k kx => a g e (fun xs e1 => k (.lst xs) e1) kx
def dnew (t : Bool) : X := fun _ e k _ => k (.dic t []) e
def op (o : OpF) (a b : X) (la lb : Lc) : X := fun g e k kx => a g e (fun x e1 => b g e1 (fun y e2 => fFin la x e2 fun x => fFin lb y e2 fun y => o x y fun z => k z e2) kx) kx
/-- .. both values there -/
def opv (o : OpF) (a b : X) : X := fun g e k kx => a g e (fun x e1 => b g e1 (fun y e2 => o x y fun z => k z e2) kx) kx
def neg (a : X) : X := fun g e k kx => a g e (fun x e1 => cI x (fun i => fI (-i) fun j => k (.int j) e1) none) kx
def not (a : X) (la : Lc) : X := fun g e k kx => a g e (fun x e1 => fFin la x e1 fun x => fTr x fun b => kBl (!b) fun d => k d e1) kx
def and (a b : X) : X := fun g e k kx => a g e (fun x e1 => fTr x fun t => Bool.rec (k x e1) (b g e1 k kx) t) kx
def or (a b : X) : X := fun g e k kx => a g e (fun x e1 => fTr x fun t => Bool.rec (b g e1 k kx) (k x e1) t) kx
def ite (c a b : X) (lc : Lc) : X := fun g e k kx => c g e (fun x e1 => fFin lc x e1 fun x => fTr x fun t => Bool.rec (b g e1 k kx) (a g e1 k kx) t) kx
/-- an item -/
def ixX (x y : D) (k : D → Om) : Om := cO (idxD x y) k
def nth (l : List D) : Nat → Option D := List.rec (motive := fun _ => Nat → Option D) (fun _ => none) (fun x _ ih i => Nat.rec (some x) (fun m _ => ih m) i) l
def ixN (l : List D) (x y : D) (k : D → Om) : Om := Option.rec (ixX x y k) (fun n => cO (nth l n) k) (natO y)
def ixK (kvs : List (D × D)) (x y : D) (k : D → Om) : Om := Option.rec (ixX x y k) (fun n => cO (getN n kvs) k) (natO y)
def ixQ0 (x y : D) (k : D → Om) : Om := cD x none (fun _ => none) (fun _ => none) (fun _ => none) (fun l => ixN l x y k) (fun l => ixN l x y k) (fun t kvs => Bool.rec (ixK kvs x y k) (ixX x y k) t)
def ixQ (x y : D) (k : D → Om) : Om := Option.rec (ixQ0 x y k) (fun l => ixN l x y k) (sqO x)
def idx (a b : X) (la : Lc) : X := fun g e k kx => a g e (fun x e1 => b g e1 (fun y e2 => fFin la x e2 fun x => ixQ x y fun z => k z e2) kx) kx
def slF (x : D) (l h : Option Int) (k : D → Om) : Om := cO (slcD x l h) fun d => fD d k
/-- a part of a slice: none, or a number -/
def slcp (p : Option X) : Gf → Fr → (Option Int → Fr → Om) → (Exn → Fr → Om) → Om := fun g e k kx => Option.rec (k none e) (fun x => x g e (fun d e1 => cI d (fun i => k (some i) e1) none) kx) p
def slc (a : X) (lo hi : Option X) (la : Lc) : X := fun g e k kx => a g e (fun x e1 => slcp lo g e1 (fun l e2 => slcp hi g e2 (fun h e3 => fFin la x e3 fun x => slF x l h fun d => k d e3) kx) kx) kx
/-- arguments by a plan -/
def fArg (p : List (Option Gt)) (l : List D) (e : Fr) (k : List D → Om) : Om :=
  List.rec (motive := fun _ => List D → (List D → Om) → Om) (fun l k => List.rec (k []) (fun _ _ _ => none) l)
    (fun o _ ih l k => List.rec none (fun d r _ => Option.rec (ih r fun q => k (d :: q)) (fun p => fRd p e fun x => ih r fun q => k (x :: q)) o) l) p l k
def fBack (p : List (Option St)) (l : List (Option D)) (e : Fr) (k : Fr → Om) : Om :=
  List.rec (motive := fun _ => List (Option D) → Fr → Om) (fun _ e => k e)
    (fun o _ ih l e => List.rec none (fun d r _ => Option.rec (ih r e) (fun s => Option.rec none (fun x => s e (some x) fun e' => ih r e') d) o) l) p l e
def call (f : FX) (p : List (Option Gt)) (q : List (Option St)) (a : XL) : X := fun g e k kx => a g e (fun l e1 => fArg p l e1 fun ds => f none ds (fun d o => fBack q o e1 fun e2 => k d e2) (fun x o => fBack q o e1 fun e2 => kx x e2)) kx
def fFins (p : List Lc) (l : List D) (e : Fr) (k : List D → Om) : Om :=
  List.rec (motive := fun _ => List D → (List D → Om) → Om) (fun l k => List.rec (k []) (fun _ _ _ => none) l)
    (fun o _ ih l k => List.rec none (fun d r _ => fFin o d e fun x => ih r fun q => k (x :: q)) l) p l k
def fLen {α : Type} (l : List α) (k : Nat → Om) : Om := List.rec (motive := fun _ => Nat → Om) (fun n => fN n k) (fun _ _ ih n => ih (Nat.succ n)) l 0
def biX (f : Bi) (ds : List D) (k : D → Om) : Om := cO (bi f ds) fun d => fD d k
def bi1 (ds : List D) (f : D → Om) : Om := List.rec none (fun x r _ => List.rec (f x) (fun _ _ _ => none) r) ds
def lenX (ds : List D) (k : D → Om) : Om := bi1 ds fun x => cD x none (fun _ => none) (fun _ => none) (fun _ => biX .len ds k) (fun l => fLen l fun n => k (.int (.ofNat n))) (fun l => fLen l fun n => k (.int (.ofNat n))) (fun _ l => fLen l fun n => k (.int (.ofNat n)))
def tupX (ds : List D) (k : D → Om) : Om := bi1 ds fun x => cSq x fun l => k (.tup l)
def lstX (ds : List D) (k : D → Om) : Om := bi1 ds fun x => cSq x fun l => k (.lst l)
/-- numbers from lo on -/
def rngX (n lo : Nat) (k : List D → Om) : Om := Nat.rec (motive := fun _ => Nat → (List D → Om) → Om) (fun _ k => k []) (fun _ ih lo k => fN lo fun m => ih (Nat.succ m) fun r => k (.int (.ofNat m) :: r)) n lo k
def rg1X (ds : List D) (k : D → Om) : Om := List.rec (biX .range ds k) (fun x r _ => List.rec (Option.rec (biX .range ds k) (fun n => iff (Nat.ble n 100000) (rngX n 0 fun l => k (.lst l)) (biX .range ds k)) (natO x)) (fun _ _ _ => biX .range ds k) r) ds
def enmX (l : List D) (n : Nat) (k : List D → Om) : Om := List.rec (motive := fun _ => Nat → (List D → Om) → Om) (fun _ k => k []) (fun x _ ih n k => fN n fun m => ih (Nat.succ m) fun r => k (.tup [.int (.ofNat m), x] :: r)) l n k
def enuX (ds : List D) (k : D → Om) : Om := bi1 ds fun x => cSq x fun l => enmX l 0 fun r => k (.lst r)
abbrev BiF := List D → (D → Om) → Om
def biF : Bi → BiF
  | .len => lenX | .tuple => tupX | .list => lstX | .range => rg1X | .enum => enuX
  | f => biX f
def blt (f : BiF) (p : List Lc) (a : XL) : X := fun g e k kx => a g e (fun l e1 => fFins p l e1 fun ds => f ds fun d => k d e1) kx
/-- are these one small datum -/
def sm1 (ds : List D) : Bool := List.rec false (fun x r _ => List.rec (smallD x) (fun _ _ _ => false) r) ds
def neSlow (ds ds' : List D) (k : D → Om) : Om := biX .repr ds fun s => biX .repr ds' fun s' => opF .ne s s' k
/-- repr(a) != repr(b): small data that are the same have the same text -/
def neR (p : List Lc) (a : XL) (q : List Lc) (b : XL) : X := fun g e k kx => a g e (fun l e1 => fFins p l e1 fun ds => iff (sm1 ds)
  (b g e1 (fun l' e2 => fFins q l' e2 fun ds' => iff (sameL ds ds') (k (.bl false) e2) (neSlow ds ds' fun z => k z e2)) kx)
  (biX .repr ds fun s => b g e1 (fun l' e2 => fFins q l' e2 fun ds' => biX .repr ds' fun s' => opF .ne s s' fun z => k z e2) kx)) kx
def isi (f : Bi) (a : X) (la : Lc) : X := fun g e k kx => a g e (fun x e1 => fFin la x e1 fun x => biX f [x] fun d => k d e1) kx
def lrg (t : Bool) (l : List D) (k : D → Om) : Om := cO (rngOf l) fun p => if (p.2 - p.1).toNat ≤ lim then fDL (rangeD p.1 (p.2 - p.1).toNat) fun q => Bool.rec (k (.lst q)) (k (.tup q)) t else none
def lrng (t : Bool) (a : XL) : X := fun g e k kx => a g e (fun l e1 => lrg t l fun d => k d e1) kx
/-- the items of a value -/
def fIt (l : Lc) (d : D) (e : Fr) (k : List D → Om) : Om := fFin l d e fun d => cSq d k
def fWipe (vs : List St) (e : Fr) (k : Fr → Om) : Om := List.rec (motive := fun _ => (Fr → Om) → Om) (fun k => k e) (fun v _ ih k => ih fun e' => v e' none k) vs k
def fRest (vs : List (Gt × St)) (e0 e : Fr) (k : Fr → Om) : Om := List.rec (motive := fun _ => (Fr → Om) → Om) (fun k => k e) (fun v _ ih k => ih fun e' => v.2 e' (v.1 e0) k) vs k
def fLc (step : D → Fr → (Option D → Fr → Om) → Om) (ds : List D) (e : Fr) (k : List D → Fr → Om) : Om :=
  List.rec (motive := fun _ => Fr → (List D → Fr → Om) → Om) (fun e k => k [] e) (fun d _ ih e k => step d e fun o e1 => Option.rec (ih e1 k) (fun y => ih e1 fun l e2 => k (y :: l) e2) o) ds e k
def noX : Exn → Fr → Om := fun _ _ => none
def lcEnd (rs : List (Gt × St)) (e1 : Fr) (k : D → Fr → Om) (l : List D) (e6 : Fr) : Om := fLen l fun n => iff (Nat.ble n 100000) (fRest rs e1 e6 fun e7 => k (.lst l) e7) none
def lcStep (ws : List St) (tg : TG) (cond elt : X) (lcd : Lc) (g : Gf) (x : D) (e2 : Fr) (kk : Option D → Fr → Om) : Om :=
  fWipe ws e2 fun e2 => tg x e2 fun e3 => cond g e3 (fun t e4 => fFin lcd t e4 fun t => fTr t fun t => Bool.rec (kk none e4) (elt g e4 (fun y e5 => kk (some y) e5) noX) t) noX
def lc (ws : List St) (rs : List (Gt × St)) (tg : TG) (it cond elt : X) (li lcd : Lc) : X := fun g e k kx => it g e (fun d e1 => fIt li d e1 fun ds => fLc (lcStep ws tg cond elt lcd g) ds e1 (lcEnd rs e1 k)) kx
def fLc2 (step : D → Fr → (List D → Fr → Om) → Om) (ds : List D) (e : Fr) (k : List D → Fr → Om) : Om :=
  List.rec (motive := fun _ => Fr → (List D → Fr → Om) → Om) (fun e k => k [] e) (fun d _ ih e k => step d e fun o e1 => ih e1 fun l e2 => fCat o l fun m => k m e2) ds e k
def lc2Step (ws ws1 : List St) (tg : TG) (cond : X) (tg1 : TG) (it1 cond1 elt : X) (lcd li1 lcd1 : Lc) (g : Gf) (x : D) (e2 : Fr) (kk : List D → Fr → Om) : Om :=
  fWipe ws e2 fun e2 => tg x e2 fun e3 => cond g e3 (fun t e4 => fFin lcd t e4 fun t => fTr t fun t => Bool.rec (kk [] e4) (it1 g e4 (fun d1 e5 => fIt li1 d1 e5 fun ds1 => fLc (lcStep ws1 tg1 cond1 elt lcd1 g) ds1 e5 kk) noX) t) noX
def lc2 (ws ws1 : List St) (rs : List (Gt × St)) (tg : TG) (it cond : X) (tg1 : TG) (it1 cond1 elt : X) (li lcd li1 lcd1 : Lc) : X := fun g e k kx => it g e (fun d e1 => fIt li d e1 fun ds => fLc2 (lc2Step ws ws1 tg cond tg1 it1 cond1 elt lcd li1 lcd1 g) ds e1 (lcEnd rs e1 k)) kx
def fld (i : Nat) (f : Str) : X := fun g e k _ => cO g.ex fun p => if i = p.1 then cO (p.2.lookup f) fun d => k d e else none
def lamcall (f : FX) (b : X) : X := fun g e k _ => b g e (fun d _ => f (some (.inr d)) [] (fun d _ => k d e) (fun _ _ => none)) (fun x _ => f (some (.inl x)) [] (fun d _ => k d e) (fun _ _ => none))
def callv : X := fun g e k kx => cO g.act fun s => Sum.rec (fun x => kx x e) (fun d => k d e) s
/-! statements -/
def sfail : XS := fun _ _ _ => none
def seq (a b : XS) : XS := fun g e K => a g e { K with nx := fun e1 => b g e1 K }
def pass : XS := fun _ e K => K.nx e
def tfail : TG := fun _ _ _ => none
def tlfail : TGL := fun _ _ _ => none
def ttup (a : TGL) : TG := fun d e k => cD d none (fun _ => none) (fun _ => none) (fun _ => none) (fun l => a l e k) (fun _ => none) (fun _ _ => none)
def tnil : TGL := fun l e k => List.rec (k e) (fun _ _ _ => none) l
def tcons (a : TG) (b : TGL) : TGL := fun l e k => List.rec none (fun x r _ => a x e fun e1 => b r e1 k) l
/-- a store to a slot of the frame's own -/
def oset (z : St) : TG := fun d e k => cD d none (fun _ => none) (fun _ => none) (fun _ => none) (fun _ => none) (fun _ => z e (some d) k) (fun _ _ => z e (some d) k)
def sset (z : St) : TG := fun d e k => z e (some d) k
def asg (t : TG) (c : X) : XS := fun g e K => c g e (fun d e1 => t d e1 K.nx) K.xc
def par (t u : TG) (a b : X) : XS := fun g e K => a g e (fun x e1 => b g e1 (fun y e2 => t x e2 fun e3 => u y e3 K.nx) K.xc) K.xc
def par3 (t u v : TG) (a b c : X) : XS := fun g e K => a g e (fun x e1 => b g e1 (fun y e2 => c g e2 (fun z e3 => t x e3 fun e4 => u y e4 fun e5 => v z e5 K.nx) K.xc) K.xc) K.xc
def drop (c : X) : XS := fun g e K => c g e (fun _ e1 => K.nx e1) K.xc
def ret (c : X) : XS := fun g e K => c g e K.rt K.xc
def retN : XS := fun _ e K => K.rt .non e
def retO (s : Slot) : XS := fun _ e K => fRd s.g e fun d => s.s e none fun e1 => K.rt d e1
def ife (c : X) (a b : XS) (lc : Lc) : XS := fun g e K => c g e (fun d e1 => fFin lc d e1 fun d => fTr d fun t => Bool.rec (b g e1 K) (a g e1 K) t) K.xc
def whlB (c : X) (b : XS) (lc : Lc) (g : Gf) (K : KS) (ih : Fr → Om) (e : Fr) : Om := c g e (fun d e1 => fFin lc d e1 fun d => fTr d fun t => Bool.rec (K.nx e1) (b g e1 { K with nx := ih, ct := ih, bk := K.nx }) t) K.xc
def whl (c : X) (b : XS) (lc : Lc) (wf : Nat) : XS := fun g e K => Nat.rec (motive := fun _ => Fr → Om) (fun _ => none) (fun _ ih e => whlB c b lc g K ih e) wf e
def frB (tg : TG) (b : XS) (g : Gf) (K : KS) (d : D) (ih : Fr → Om) (e : Fr) : Om := tg d e fun e1 => b g e1 { K with nx := ih, ct := ih, bk := K.nx }
def fr (tg : TG) (it : X) (b : XS) (li : Lc) : XS := fun g e K => it g e (fun d e1 => fIt li d e1 fun ds => List.rec (motive := fun _ => Fr → Om) (fun e => K.nx e) (fun d _ ih e => frB tg b g K d ih e) ds e1) K.xc
def brk : XS := fun _ e K => K.bk e
def cnt : XS := fun _ e K => K.ct e
def raise (cls : Nat) (fs : List Str) (a : XL) : XS := fun g e K => a g e (fun l e1 => cO (flds0 fs l) fun fs => K.xc ⟨cls, fs⟩ e1) K.xc
def appE (d : D) (s : Slot) (e1 : Fr) (k : Fr → Om) (l : List D) : Om := fLen l fun n => iff (Nat.ble (Nat.succ n) 100000) (fCat l [d] fun m => s.s e1 (some (.lst m)) k) none
def app (s : Slot) (c : X) : XS := fun g e K => fRd s.g e fun d => cLs d (fun _ => c g e (fun d e1 => fRd s.g e1 fun x => cLs x (appE d s e1 K.nx) none) K.xc) none
def setN (l : List D) (i : Nat) (d : D) (k : List D → Om) : Om := List.rec (motive := fun _ => Nat → (List D → Om) → Om) (fun _ _ => none) (fun x r ih i k => Nat.rec (k (d :: r)) (fun m _ => ih m fun r' => k (x :: r')) i) l i k
def stL0 (l : List D) (z d : D) (k : List D → Om) : Om := cI z (fun i => cO (ixOf l.length i) fun j => fL (l.set j d) k) none
def stL (l : List D) (z d : D) (k : List D → Om) : Om := Option.rec (stL0 l z d k) (fun n => setN l n d k) (natO z)
def putN (a : Nat) (v : D) (kvs : List (D × D)) (k : List (D × D) → Om) : Om := List.rec (motive := fun _ => (List (D × D) → Om) → Om) (fun k => k [(.int (.ofNat a), v)]) (fun p r ih k => Bool.rec (ih fun r' => k (p :: r')) (fL (r.map fun p => if keyEq p.1 (.int (.ofNat a)) = true then (p.1, v) else p) fun r' => k ((p.1, v) :: r')) (keyN p.1 a)) kvs k
def stK0 (t : Bool) (kvs : List (D × D)) (z d : D) (k : List (D × D) → Om) : Om := if isKey t z then fL (dPut kvs z d) k else none
def stK1 (t : Bool) (kvs : List (D × D)) (z d : D) (k : List (D × D) → Om) : Om := Bool.rec (Option.rec (stK0 t kvs z d k) (fun a => putN a d kvs k) (natO z)) (stK0 t kvs z d k) t
def stK (t : Bool) (kvs : List (D × D)) (z d : D) (k : List (D × D) → Om) : Om := fLen kvs fun n => iff (Nat.ble (Nat.succ n) 100000) (stK1 t kvs z d k) none
def stE (s : Slot) (e2 : Fr) (d z : D) (k : Fr → Om) (x : D) : Om := cD x none (fun _ => none) (fun _ => none) (fun _ => none) (fun _ => none)
    (fun l => stL l z d fun m => s.s e2 (some (.lst m)) k) (fun t kvs => stK t kvs z d fun m => s.s e2 (some (.dic t m)) k)
def stIx (s : Slot) (q c : X) : XS := fun g e K => fRd s.g e fun _ => c g e (fun d e1 => q g e1 (fun z e2 => fRd s.g e2 (stE s e2 d z K.nx)) K.xc) K.xc
def aug (s : Slot) (o : OpF) (c : X) : XS := fun g e K => fRd s.g e fun x => c g e (fun y e1 => cI x (fun _ => cI y (fun _ => o x y fun z => s.s e1 (some z) K.nx) none) none) K.xc
def tryx (b h : XS) : XS := fun g e K => b g e { K with xc := fun x e1 => h { act := some (.inl x), ex := some (0, x.flds) } e1 K }
def hnil : XS := fun g e K => cO g.act fun s => Sum.rec (fun x => K.xc x e) (fun _ => none) s
def hcons (sub : Nat → Nat → Bool) (cls i : Nat) (z : St) (s r : XS) : XS := fun g e K => cO g.act fun a => Sum.rec (fun x => Bool.rec (r g e K) (z e none fun e1 => s { act := none, ex := some (i, x.flds) } e1 K) (sub x.cls cls)) (fun _ => none) a
def fr0 : Fr := ⟨none, none, none, none, none, none, none, none, none, none, none, none⟩
def fInit (ss : List St) (ds : List D) (e : Fr) (k : Fr → Om) : Om :=
  List.rec (motive := fun _ => List D → Fr → Om) (fun l e => List.rec (k e) (fun _ _ _ => none) l) (fun s _ ih l e => List.rec none (fun d r _ => s e (some d) fun e' => ih r e') l) ss ds e
def defE (outs : Fr → List (Option D)) (kd : D → List (Option D) → Om) (kx : Exn → List (Option D) → Om) : KS := { nx := fun e => kd .non (outs e), rt := fun d e => kd d (outs e), bk := fun _ => none, ct := fun _ => none, xc := fun x e => kx x (outs e) }
def defX (outs : Fr → List (Option D)) (ss : List St) (b : XS) : FX := fun act ds kd kx =>
  Option.rec (fInit ss ds fr0 fun e => b ⟨none, none⟩ e (defE outs kd kx)) (fun _ => b ⟨act, none⟩ fr0 (defE outs kd kx)) act
end X
end
end PB
set_option maxHeartbeats 4000000
/-! Jc: the continuation form says what the evaluation says. -/
namespace PB
noncomputable section
open PySem
structure Tf where
  tab : Nat → FX
  al : Nat → Bool
  info : Nat → List Kd
  sub : Nat → Nat → Bool
  xin : Nat → List Str
  wf : Nat
inductive M where | e | l | s | t | tl | h
def planA (ks : List Kd) : List Kd → C → Option (List (Option Nat))
  | [], .nil => some []
  | k :: r, .cons c b =>
    (match c with
      | .loc i => (match k with
        | .own => if ks[i]? = some Kd.own then some (some i) else none
        | .brw => if ks[i]? = some Kd.own ∨ ks[i]? = some Kd.brw then some (some i) else none
        | _ => none)
      | .scr _ => none
      | _ => (match k with
        | .shr => some none
        | .brw => some none
        | _ => none)).bind fun o => (planA ks r b).map (o :: ·)
  | _, _ => none
def planB : List Kd → C → List (Option Nat)
  | k :: r, .cons c b => (match k, c with | .own, .loc i => some i | _, _ => none) :: planB r b
  | _, _ => []
def npart : C → Bool
  | .noPart => true
  | _ => false
def kIs (ks : List Kd) (i : Nat) (k : Kd) : Bool := decide (ks[i]? = some k)
/-- may be walked over -/
def itOk (ks : List Kd) : C → Bool
  | .loc i => kIs ks i .brw
  | .scr _ => false
  | _ => true
def opOk : C → Bool
  | .scr _ => false
  | _ => true
def opsOk : C → Bool
  | .cons a b => opOk a && opsOk b
  | _ => true
def isLocT : C → Bool
  | .loc _ => true
  | _ => false
def ok (info : Nat → List Kd) (al : Nat → Bool) : C → M → List Kd → Bool
  | .var i, m, ks => (match m with | .e => true | .t => true | _ => false) && kIs ks i .shr
  | .loc i, m, ks => (match m with | .e => true | _ => false) && (kIs ks i .own || kIs ks i .brw)
  | .cst d, m, ks => (match m with | .e => true | _ => false) && isCst d
  | .nil, m, ks => (match m with | .l => true | .tl => true | _ => false)
  | .cons a b, m, ks => (match m with | .l => ok info al a .e ks && ok info al b .l ks | .tl => ok info al a .t ks && ok info al b .tl ks | _ => false)
  | .tup a, m, ks => (match m with | .e => ok info al a .l ks && noLocs a | .t => ok info al a .tl ks | _ => false)
  | .lst a, m, ks => (match m with | .e => ok info al a .l ks && noLocs a | _ => false)
  | .dnew _, m, ks => (match m with | .e => true | _ => false)
  | .op o a b, m, ks => (match m with | .e => true | _ => false) && ok info al a .e ks && ok info al b .e ks && opOk a && opOk b
  | .neg a, m, ks => (match m with | .e => true | _ => false) && ok info al a .e ks
  | .not a, m, ks => (match m with | .e => true | _ => false) && ok info al a .e ks && opOk a
  | .and a b, m, ks => (match m with | .e => true | _ => false) && ok info al a .e ks && ok info al b .e ks && !isLoc a && !isLoc b
  | .or a b, m, ks => (match m with | .e => true | _ => false) && ok info al a .e ks && ok info al b .e ks && !isLoc a && !isLoc b
  | .ite c a b, m, ks => (match m with | .e => true | _ => false) && ok info al c .e ks && ok info al a .e ks && ok info al b .e ks && !isLoc a && !isLoc b && opOk c
  | .idx a b, m, ks => (match m with | .e => true | _ => false) && ok info al a .e ks && ok info al b .e ks && !isLoc b && opOk a
  | .slc a lo hi, m, ks => (match m with | .e => true | _ => false) && ok info al a .e ks && (npart lo || ok info al lo .e ks) && (npart hi || ok info al hi .e ks) && opOk a
  | .call f a, m, ks => (match m with | .e => true | _ => false) && ok info al a .l ks && (planA ks (info f) a).isSome && al f
  | .blt f a, m, ks => (match m with | .e => true | _ => false) && ok info al a .l ks && opsOk a
  | .isi f a, m, ks => (match m with | .e => true | _ => false) && ok info al a .e ks && opOk a
  | .lrng t a, m, ks => (match m with | .e => true | _ => false) && ok info al a .l ks && noLocs a
  | .lc vs tg it cond elt, m, ks => (match m with | .e => true | _ => false) && ok info al it .e ks && ok info al tg .t ks && ok info al cond .e ks && ok info al elt .e ks && !isLoc elt && itOk ks it && opOk cond && vs.all fun v => decide (v < ks.length)
  | .lc2 vs vs1 tg it cond tg1 it1 cond1 elt, m, ks => (match m with | .e => true | _ => false) && ok info al it .e ks && ok info al tg .t ks && ok info al cond .e ks && ok info al tg1 .t ks && ok info al it1 .e ks && ok info al cond1 .e ks && ok info al elt .e ks && !isLoc elt && itOk ks it && opOk cond && itOk ks it1 && opOk cond1 && (vs.all fun v => decide (v < ks.length)) && vs1.all fun v => decide (v < ks.length)
  | .fld _ _, m, ks => (match m with | .e => true | _ => false)
  | .lamcall f b, m, ks => (match m with | .e => true | _ => false) && ok info al b .e (brwd ks) && !isLoc b && al f
  | .callv _, m, ks => (match m with | .e => true | _ => false)
  | .seq a b, m, ks => (match m with | .s => true | _ => false) && ok info al a .s ks && ok info al b .s ks
  | .pass, m, ks => (match m with | .s => true | _ => false)
  | .asg t c, m, ks => (match m with | .s => true | _ => false) && ok info al c .e ks && !isLoc c && (match t with | .loc i => kIs ks i .own | _ => ok info al t .t ks)
  | .par i j a b, m, ks => (match m with | .s => true | _ => false) && ok info al a .e ks && ok info al b .e ks && !isLoc a && !isLoc b && (kIs ks i .shr || kIs ks i .own) && (kIs ks j .shr || kIs ks j .own)
  | .par3 i j l a b c, m, ks => (match m with | .s => true | _ => false) && ok info al a .e ks && ok info al b .e ks && ok info al c .e ks && !isLoc a && !isLoc b && !isLoc c && (kIs ks i .shr || kIs ks i .own) && (kIs ks j .shr || kIs ks j .own) && (kIs ks l .shr || kIs ks l .own)
  | .drop c, m, ks => (match m with | .s => true | _ => false) && ok info al c .e ks
  | .ret c, m, ks => (match m with | .s => true | _ => false) && ok info al c .e ks && !isLoc c
  | .retN, m, ks => (match m with | .s => true | _ => false)
  | .retO i, m, ks => (match m with | .s => true | _ => false) && kIs ks i .own
  | .ife c a b, m, ks => (match m with | .s => true | _ => false) && ok info al c .e ks && ok info al a .s ks && ok info al b .s ks && opOk c
  | .whl c b, m, ks => (match m with | .s => true | _ => false) && ok info al c .e ks && ok info al b .s ks && opOk c
  | .fr tg it b, m, ks => (match m with | .s => true | _ => false) && ok info al tg .t ks && ok info al it .e ks && ok info al b .s ks && itOk ks it
  | .brk, m, ks => (match m with | .s => true | _ => false)
  | .cnt, m, ks => (match m with | .s => true | _ => false)
  | .raise _ a, m, ks => (match m with | .s => true | _ => false) && ok info al a .l ks && noLocs a
  | .app i c, m, ks => (match m with | .s => true | _ => false) && ok info al c .e ks && !isLoc c && kIs ks i .own
  | .stIx i k c, m, ks => (match m with | .s => true | _ => false) && ok info al c .e ks && ok info al k .e ks && !isLoc c && !isLoc k && kIs ks i .own
  | .aug i _ c, m, ks => (match m with | .s => true | _ => false) && ok info al c .e ks && !isLoc c && kIs ks i .shr
  | .tryx b h, m, ks => (match m with | .s => true | _ => false) && ok info al b .s ks && ok info al h .s ks
  | .hnil, m, ks => (match m with | .s => true | _ => false)
  | .hcons _ i s r, m, ks => (match m with | .s => true | _ => false) && ok info al s .s ks && ok info al r .s ks && decide (i < ks.length)
  | _, _, _ => false
def lcF : C → Lc
  | .loc i => .loc (slot i).g
  | _ => .val
def lcsF : C → List Lc
  | .cons a b => lcF a :: lcsF b
  | _ => []
def opvF (o : O2) (a b : C) (xa xb : X) : X := match lcF a, lcF b with
  | .val, .val => X.opv (opF o) xa xb
  | la, lb => X.op (opF o) xa xb la lb
/-- repr(..): its arguments -/
def reprA : C → Option C
  | .blt .repr u => some u
  | _ => none
theorem reprA_eq {c u : C} (h : reprA c = some u) : c = .blt .repr u := by
  unfold reprA at h
  split at h <;> cases h
  rfl
def isNe : O2 → Bool
  | .ne => true
  | _ => false
def opG (o : O2) (a b : C) (xa xb : X) (ra rb : XL) : X := match isNe o, reprA a, reprA b with
  | true, some u, some v => X.neR (lcsF u) ra (lcsF v) rb
  | _, _, _ => opvF o a b xa xb
def gts (p : List (Option Nat)) : List (Option Gt) := p.map fun o => o.map fun i => (slot i).g
def sts (p : List (Option Nat)) : List (Option St) := p.map fun o => o.map fun i => (slot i).s
def ws (vs : List Nat) : List St := vs.map fun i => (slot i).s
def rs (vs : List Nat) : List (Gt × St) := vs.map fun i => ((slot i).g, (slot i).s)
mutual
def FT : C → TG
  | .var i => X.sset (slot i).s
  | .tup a => X.ttup (FTL a)
  | _ => X.tfail
def FTL : C → TGL
  | .nil => X.tnil
  | .cons a b => X.tcons (FT a) (FTL b)
  | _ => X.tlfail
end
mutual
def F (t : Tf) : C → List Kd → X
  | .var i, _ => X.var (slot i).g
  | .loc i, _ => X.loc (slot i).g
  | .cst d, _ => X.cst d
  | .tup a, ks => X.tup (FL t a ks)
  | .lst a, ks => X.lst (FL t a ks)
  | .dnew b, _ => X.dnew b
  | .op o a b, ks => opG o a b (F t a ks) (F t b ks) (FR t a ks) (FR t b ks)
  | .neg a, ks => X.neg (F t a ks)
  | .not a, ks => X.not (F t a ks) (lcF a)
  | .and a b, ks => X.and (F t a ks) (F t b ks)
  | .or a b, ks => X.or (F t a ks) (F t b ks)
  | .ite c a b, ks => X.ite (F t c ks) (F t a ks) (F t b ks) (lcF c)
  | .idx a b, ks => X.idx (F t a ks) (F t b ks) (lcF a)
  | .slc a lo hi, ks => X.slc (F t a ks) (if npart lo then none else some (F t lo ks)) (if npart hi then none else some (F t hi ks)) (lcF a)
  | .call f a, ks => X.call (t.tab f) (gts ((planA ks (t.info f) a).getD [])) (sts (planB (t.info f) a)) (FL t a ks)
  | .blt f a, ks => X.blt (X.biF f) (lcsF a) (FL t a ks)
  | .isi f a, ks => X.isi f (F t a ks) (lcF a)
  | .lrng b a, ks => X.lrng b (FL t a ks)
  | .lc vs tg it cond elt, ks => X.lc (ws vs) (rs vs) (FT tg) (F t it ks) (F t cond ks) (F t elt ks) (lcF it) (lcF cond)
  | .lc2 vs vs1 tg it cond tg1 it1 cond1 elt, ks => X.lc2 (ws vs) (ws vs1) (rs vs) (FT tg) (F t it ks) (F t cond ks) (FT tg1) (F t it1 ks) (F t cond1 ks) (F t elt ks) (lcF it) (lcF cond) (lcF it1) (lcF cond1)
  | .fld i f, _ => X.fld i f
  | .lamcall f b, ks => X.lamcall (t.tab f) (F t b (brwd ks))
  | .callv _, _ => X.callv
  | _, _ => X.fail
def FL (t : Tf) : C → List Kd → XL
  | .nil, _ => X.nil
  | .cons a b, ks => X.cons (F t a ks) (FL t b ks)
  | _, _ => X.lfail
def FR (t : Tf) : C → List Kd → XL
  | .blt _ u, ks => FL t u ks
  | _, _ => X.lfail
end
def stK (ks : List Kd) (i : Nat) : TG := if ks[i]? = some Kd.own then X.oset (slot i).s else X.sset (slot i).s
def asgF (t c : C) (x : X) : XS := match t with
  | .loc i => X.asg (X.oset (slot i).s) x
  | _ => X.asg (FT t) x
def FS (t : Tf) : C → List Kd → XS
  | .seq a b, ks => X.seq (FS t a ks) (FS t b ks)
  | .pass, _ => X.pass
  | .asg g c, ks => asgF g c (F t c ks)
  | .par i j a b, ks => X.par (stK ks i) (stK ks j) (F t a ks) (F t b ks)
  | .par3 i j l a b c, ks => X.par3 (stK ks i) (stK ks j) (stK ks l) (F t a ks) (F t b ks) (F t c ks)
  | .drop c, ks => X.drop (F t c ks)
  | .ret c, ks => X.ret (F t c ks)
  | .retN, _ => X.retN
  | .retO i, _ => X.retO (slot i)
  | .ife c a b, ks => X.ife (F t c ks) (FS t a ks) (FS t b ks) (lcF c)
  | .whl c b, ks => X.whl (F t c ks) (FS t b ks) (lcF c) t.wf
  | .fr tg it b, ks => X.fr (FT tg) (F t it ks) (FS t b ks) (lcF it)
  | .brk, _ => X.brk
  | .cnt, _ => X.cnt
  | .raise cls a, ks => X.raise cls (t.xin cls) (FL t a ks)
  | .app i c, ks => X.app (slot i) (F t c ks)
  | .stIx i k c, ks => X.stIx (slot i) (F t k ks) (F t c ks)
  | .aug i o c, ks => X.aug (slot i) (opF o) (F t c ks)
  | .tryx b h, ks => X.tryx (FS t b ks) (FS t h ks)
  | .hnil, _ => X.hnil
  | .hcons cls i s r, ks => X.hcons t.sub cls i (slot i).s (FS t s ks) (FS t r ks)
  | _, _ => X.sfail
/-! ### the relation -/
def bR {α : Type} (m : Option (R α)) (k : α → En → Om) (kx : Exn → En → Om) : Om := match m with
  | none => none
  | some (.ok a e) => k a e
  | some (.xc x e) => kx x e
def coR (m : Option CO) (k : D → List (Option D) → Om) (kx : Exn → List (Option D) → Om) : Om := match m with
  | none => none
  | some (.ok a e) => k a e
  | some (.xc x e) => kx x e
structure KE where
  nx : En → Om
  rt : D → En → Om
  bk : En → Om
  ct : En → Om
  xc : Exn → En → Om
def oR (m : Option Out) (K : KE) : Om := match m with
  | none => none
  | some (.nx e) => K.nx e
  | some (.rt d e) => K.rt d e
  | some (.bk e) => K.bk e
  | some (.ct e) => K.ct e
  | some (.xc x e) => K.xc x e
def SXa {α : Type} (n : Nat) (g : Gf) (c : En → Option (R α)) (x : Gf → Fr → (α → Fr → Om) → (Exn → Fr → Om) → Om) : Prop := ∀ e k kx k' kx', (∀ d e, k d e = k' d (e.l n)) → (∀ y e, kx y e = kx' y (e.l n)) → x g e k kx = bR (c (e.l n)) k' kx'
structure KR (n : Nat) (K : KS) (K' : KE) : Prop where
  nx : ∀ e, K.nx e = K'.nx (e.l n)
  rt : ∀ d e, K.rt d e = K'.rt d (e.l n)
  bk : ∀ e, K.bk e = K'.bk (e.l n)
  ct : ∀ e, K.ct e = K'.ct (e.l n)
  xc : ∀ x e, K.xc x e = K'.xc x (e.l n)
def SSt (n : Nat) (g : Gf) (c : En → Option Out) (x : XS) : Prop := ∀ e K K', KR n K K' → x g e K = oR (c (e.l n)) K'
def lR (m : Option (R D)) : Option (R (List D)) := match m with
  | some (.ok (.lst l) e) => some (.ok l e)
  | some (.xc x e) => some (.xc x e)
  | _ => none
structure TOk (t : Tf) (G : Gx) : Prop where
  tab0 : ∀ f, t.al f = true → ∀ ds kd kx, t.tab f none ds kd kx = coR (G.cf f none ds) kd kx
  tab1 : ∀ f, t.al f = true → ∀ a kd kx, t.tab f (some a) [] kd kx = coR (G.cf f (some a) []) kd kx
  info : t.info = G.info
  sub : t.sub = G.sub
  xin : t.xin = G.xin
  wf : t.wf = G.wf
structure GR (ks : List Kd) (G : Gx) (g : Gf) : Prop where
  ks : G.ks = ks
  act : G.act = g.act
  ex : G.ex = g.ex
theorem bR_bnd {α β : Type} (m : Option (R α)) (f : α → En → Option (R β)) (k : β → En → Om) (kx : Exn → En → Om) : bR (bnd m f) k kx = bR m (fun a e => bR (f a e) k kx) kx := by
  cases m with
  | none => rfl
  | some r => cases r <;> rfl
theorem bR_map (o : Option D) (e : En) (k : D → En → Om) (kx : Exn → En → Om) : bR (o.map (R.ok · e)) k kx = o.elim none (k · e) := by cases o <;> rfl
theorem bR_bind {α β : Type} (o : Option α) (f : α → Option (R β)) (k : β → En → Om) (kx : Exn → En → Om) : bR (o.bind f) k kx = o.elim none (fun a => bR (f a) k kx) := by cases o <;> rfl
section
variable {n : Nat} (hn : n ≤ nSl)
theorem fRd_eq {i : Nat} (hn : n ≤ nSl) (h : i < n) (e : Fr) (k : D → Om) : fRd (slot i).g e k = (rdS (e.l n) i).elim none k := by
  rw [slot_g i n e h hn]
  unfold fRd
  cases (slot i).g e <;> rfl
theorem lt_ks {ks : List Kd} {i : Nat} {k : Kd} (h : kIs ks i k = true) : ks[i]? = some k ∧ i < ks.length := by
  have := of_decide_eq_true h
  exact ⟨this, (List.getElem?_eq_some_iff.mp this).1⟩
theorem fFin_eq {ks : List Kd} {info : Nat → List Kd} {al : Nat → Bool} {c : C} (hn : ks.length ≤ nSl) (h : ok info al c .e ks = true) (h2 : opOk c = true) (d : D) (e : Fr) (k : D → Om) : fFin (lcF c) d e k = (fin c d (e.l ks.length)).elim none k := by
  cases c
  case loc i =>
    have h' : (kIs ks i .own || kIs ks i .brw) = true := by simpa [ok] using h
    have hi : i < ks.length := by rcases (Bool.or_eq_true _ _).mp h' with h | h <;> exact (lt_ks h).2
    exact fRd_eq hn hi e k
  case scr i => cases h2
  all_goals rfl
theorem fTr0_eq (d : D) (k : Bool → Om) : fTr0 d k = (truthO d).elim none k := by
  cases d with
  | non => rfl
  | bl b => exact fB_eq b k
  | int i =>
    cases i with
    | ofNat n =>
      show fB (Nat.ble 1 n) k = k (Int.ofNat n != 0)
      rw [fB_eq]
      cases n <;> rfl
    | negSucc n => rfl
  | str x =>
    show (if x.length ≤ 100000 then k (x.length != 0) else none) = (if x.length ≤ 100000 then some (x.length != 0) else none).elim none k
    split <;> rfl
  | tup xs => cases xs <;> rfl
  | lst xs => cases xs <;> rfl
  | dic t kvs => cases t <;> cases kvs <;> rfl
theorem fTr_eq (d : D) (k : Bool → Om) : fTr d k = (truthO d).elim none k := by
  rw [← fTr0_eq]
  cases d <;> first | rfl
theorem finT_eq (c : C) (d : D) (e : En) (k : Bool → Om) : (finT c d e).elim none k = (fin c d e).elim none fun d => (truthO d).elim none k := by
  unfold finT
  cases fin c d e <;> rfl
theorem rec_if (t : Bool) (x y : Om) : Bool.rec (motive := fun _ => Om) x y t = if t then y else x := by cases t <;> rfl
end
end
end PB
set_option maxHeartbeats 4000000
/-! Jd: the parts of the continuation form. -/
namespace PB
noncomputable section
open PySem
theorem natO_some {x : D} {n : Nat} (h : natO x = some n) : x = .int (n : Int) := by
  cases x <;> first | cases h | skip
  rename_i i
  cases i with
  | ofNat m => have : some m = some n := h; cases this; rfl
  | negSucc m => cases h
theorem sqO_eq (x : D) : sqO x = seqOf x := by cases x <;> rfl
theorem biX_eq (f : Bi) (ds : List D) (k : D → Om) : X.biX f ds k = (bi f ds).elim none k := by
  unfold X.biX
  rw [cO_eq]
  congr 1
  funext d
  exact fD_eq d k
theorem fLen_eq {α : Type} (l : List α) (k : Nat → Om) : X.fLen l k = k l.length := by
  have : ∀ (l : List α) (n : Nat), List.rec (motive := fun _ => Nat → Om) (fun n => fN n k) (fun _ _ ih n => ih (Nat.succ n)) l n = k (n + l.length) := fun l => by
    induction l with
    | nil => intro n; exact fN_eq n k
    | cons x r ih => intro n; refine (ih (Nat.succ n)).trans ?_; congr 1; simp; omega
  refine (this l 0).trans ?_
  rw [Nat.zero_add]
theorem lenX_eq (ds : List D) (k : D → Om) : X.lenX ds k = (bi .len ds).elim none k := by
  cases ds with
  | nil => rfl
  | cons x r => cases r with
    | nil =>
      cases x <;> first | rfl | (exact biX_eq _ _ _) | (refine (fLen_eq _ _).trans ?_; rfl)
    | cons y s => rfl
theorem tupX_eq (ds : List D) (k : D → Om) : X.tupX ds k = (bi .tuple ds).elim none k := by
  cases ds with
  | nil => rfl
  | cons x r => cases r with
    | nil => cases x <;> rfl
    | cons y s => rfl
theorem lstX_eq (ds : List D) (k : D → Om) : X.lstX ds k = (bi .list ds).elim none k := by
  cases ds with
  | nil => rfl
  | cons x r => cases r with
    | nil => cases x <;> rfl
    | cons y s => rfl
theorem rngX_eq (n lo : Nat) (k : List D → Om) : X.rngX n lo k = k (rangeD lo n) := by
  unfold X.rngX
  induction n generalizing lo k with
  | zero => rfl
  | succ n ih =>
    show fN lo _ = _
    rw [fN_eq]
    refine (ih (Nat.succ lo) _).trans ?_
    rfl
theorem rg1X_eq (ds : List D) (k : D → Om) : X.rg1X ds k = (bi .range ds).elim none k := by
  cases ds with
  | nil => exact biX_eq _ _ _
  | cons x r => cases r with
    | cons y s => exact biX_eq _ _ _
    | nil =>
      show Option.rec (motive := fun _ => Om) _ _ (natO x) = _
      cases h : natO x with
      | none => exact biX_eq _ _ _
      | some n =>
        show iff (Nat.ble n 100000) _ _ = _
        rw [iff_eq, nble]
        by_cases hn : n ≤ 100000
        · rw [if_pos (decide_eq_true hn), rngX_eq, natO_some h]
          have h1 : (-(2 ^ 62) : Int) ≤ n := by omega
          have h2 : (n : Int) < 2 ^ 62 := by omega
          simp only [bi]
          rw [if_pos (by rw [decide_eq_true h1, decide_eq_true h2]; rfl)]
          rfl
        · rw [if_neg (by rw [decide_eq_false hn]; simp)]
          exact biX_eq _ _ _
theorem enmX_eq (l : List D) (n : Nat) (k : List D → Om) : X.enmX l n k = k (enumD n l) := by
  unfold X.enmX
  induction l generalizing n k with
  | nil => rfl
  | cons x r ih =>
    show fN n _ = _
    rw [fN_eq]
    refine (ih (Nat.succ n) _).trans ?_
    rfl
theorem enuX_eq (ds : List D) (k : D → Om) : X.enuX ds k = (bi .enum ds).elim none k := by
  cases ds with
  | nil => rfl
  | cons x r => cases r with
    | nil =>
      show cSq x _ = _
      rw [cSq_eq]
      show _ = ((seqOf x).map fun l => D.lst (enumD 0 l)).elim none k
      cases seqOf x with
      | none => rfl
      | some l => exact enmX_eq l 0 _
    | cons y s => rfl
theorem biF_eq (f : Bi) (ds : List D) (k : D → Om) : X.biF f ds k = (bi f ds).elim none k := by
  cases f
  case len => exact lenX_eq ds k
  case tuple => exact tupX_eq ds k
  case list => exact lstX_eq ds k
  case range => exact rg1X_eq ds k
  case enum => exact enuX_eq ds k
  all_goals exact biX_eq _ ds k
theorem nth_eq (l : List D) (i : Nat) : X.nth l i = l[i]? := by
  unfold X.nth
  induction l generalizing i with
  | nil => rfl
  | cons x r ih => cases i with
    | zero => rfl
    | succ m => exact (ih m).trans (by simp)
theorem ixOf_nat (n m : Nat) : ixOf n (m : Int) = if m < n then some m else none := by
  unfold ixOf
  rw [if_pos (by omega)]
  by_cases h : m < n
  · rw [if_pos h, if_pos (by omega)]; rfl
  · rw [if_neg h, if_neg (by omega)]
theorem atD_nat (l : List D) (m : Nat) : atD l (m : Int) = l[m]? := by
  unfold atD
  rw [ixOf_nat]
  by_cases h : m < l.length
  · rw [if_pos h]; rfl
  · rw [if_neg h, List.getElem?_eq_none (by omega)]; rfl
theorem ixX_eq (x y : D) (k : D → Om) : X.ixX x y k = (idxD x y).elim none k := cO_eq _ _
theorem ixN_eq (l : List D) (x y : D) (k : D → Om) (hx : ∀ i, idxD x (.int i) = atD l i) : X.ixN l x y k = (idxD x y).elim none k := by
  unfold X.ixN
  cases h : natO y with
  | none => exact ixX_eq x y k
  | some n =>
    rw [natO_some h, hx, atD_nat, ← nth_eq]
    exact cO_eq _ _
theorem ixQ_eq (x y : D) (k : D → Om) : X.ixQ x y k = (idxD x y).elim none k := by
  cases x <;> first | rfl | skip
  · rename_i l; exact ixN_eq l _ y k fun i => rfl
  · rename_i l; exact ixN_eq l _ y k fun i => rfl
  · rename_i t kvs
    cases t with
    | true => exact ixX_eq _ y k
    | false =>
      show X.ixK kvs _ y k = _
      unfold X.ixK
      cases h : natO y with
      | none => exact ixX_eq _ y k
      | some n =>
        rw [natO_some h]
        show cO (getN n kvs) k = _
        rw [getN_eq, cO_eq]
        rfl
theorem slF_eq (x : D) (l h : Option Int) (k : D → Om) : X.slF x l h k = (slcD x l h).elim none k := by
  unfold X.slF
  rw [cO_eq]
  congr 1
  funext d
  exact fD_eq d k
theorem setN_eq (l : List D) (i : Nat) (d : D) (k : List D → Om) : X.setN l i d k = if i < l.length then k (l.set i d) else none := by
  unfold X.setN
  induction l generalizing i k with
  | nil => rfl
  | cons x r ih => cases i with
    | zero => show k (d :: r) = _; rw [if_pos (by simp)]; rfl
    | succ m =>
      refine (ih m _).trans ?_
      simp
theorem stL_eq (l : List D) (z d : D) (k : List D → Om) : X.stL l z d k = match z with | .int i => (ixOf l.length i).elim none (fun j => k (l.set j d)) | _ => none := by
  have h0 : X.stL0 l z d k = match z with | .int i => (ixOf l.length i).elim none (fun j => k (l.set j d)) | _ => none := by
    cases z <;> first | rfl | skip
    rename_i i
    show cO (ixOf l.length i) _ = _
    rw [cO_eq]
    congr 1
    funext j
    exact fL_eq _ k
  unfold X.stL
  cases h : natO z with
  | none => exact h0
  | some n =>
    rw [natO_some h]
    show X.setN l n d k = (ixOf l.length (n : Int)).elim none (fun j => k (l.set j d))
    rw [setN_eq, ixOf_nat]
    split <;> rfl
theorem putN_eq (a : Nat) (v : D) (kvs : List (D × D)) (k : List (D × D) → Om) : X.putN a v kvs k = k (dPut kvs (.int a) v) := by
  have : ∀ (kvs : List (D × D)) (k : List (D × D) → Om), X.putN a v kvs k = k (if (kvs.any fun p => keyEq p.1 (.int (.ofNat a))) = true then kvs.map (fun p => if keyEq p.1 (.int (.ofNat a)) = true then (p.1, v) else p) else kvs ++ [(.int (.ofNat a), v)]) := fun kvs => by
    induction kvs with
    | nil => intro k; rfl
    | cons p r ih =>
      intro k
      show Bool.rec (motive := fun _ => Om) (X.putN a v r fun r' => k (p :: r')) (fL (r.map fun p => if keyEq p.1 (.int (.ofNat a)) = true then (p.1, v) else p) fun r' => k ((p.1, v) :: r')) (keyN p.1 a) = _
      rw [keyN_eq]
      cases h : keyEq p.1 (.int (.ofNat a)) with
      | true =>
        show fL _ _ = _
        rw [fL_eq]
        simp only [List.any_cons, h, Bool.true_or, if_true, List.map_cons]
      | false =>
        show X.putN a v r _ = _
        rw [ih]
        simp only [List.any_cons, h, Bool.false_or, List.map_cons, Bool.false_eq_true, if_false, List.cons_append]
        split <;> rfl
  exact this kvs k
theorem stK0_eq (t : Bool) (kvs : List (D × D)) (z d : D) (k : List (D × D) → Om) : X.stK0 t kvs z d k = if isKey t z = true then k (dPut kvs z d) else none := by
  unfold X.stK0
  rw [fL_eq]
theorem stK1_eq (t : Bool) (kvs : List (D × D)) (z d : D) (k : List (D × D) → Om) : X.stK1 t kvs z d k = if isKey t z = true then k (dPut kvs z d) else none := by
  unfold X.stK1
  cases t with
  | true => exact stK0_eq true kvs z d k
  | false =>
    show Option.rec (motive := fun _ => Om) _ _ (natO z) = _
    cases h : natO z with
    | none => exact stK0_eq _ _ _ _ _
    | some n =>
      rw [natO_some h]
      exact putN_eq n d kvs k
theorem stKX_eq (t : Bool) (kvs : List (D × D)) (z d : D) (k : List (D × D) → Om) : X.stK t kvs z d k = if (isKey t z && decide (kvs.length < lim)) = true then k (dPut kvs z d) else none := by
  unfold X.stK
  rw [fLen_eq, iff_eq, nble, stK1_eq]
  by_cases h : kvs.length < lim
  · rw [if_pos (decide_eq_true (show Nat.succ kvs.length ≤ 100000 from h)), decide_eq_true h, Bool.and_true]
  · rw [if_neg (by rw [decide_eq_false (show ¬ Nat.succ kvs.length ≤ 100000 from h)]; simp), decide_eq_false h, Bool.and_false]
    rfl
section
variable {ks : List Kd} (hn : ks.length ≤ nSl)
theorem kIs_of {ks : List Kd} {i : Nat} {k : Kd} (h : ks[i]? = some k) : i < ks.length := (List.getElem?_eq_some_iff.mp h).1
theorem fArg_eq (hn : ks.length ≤ nSl) : ∀ (kk : List Kd) (a : C) (p : List (Option Nat)), planA ks kk a = some p → ∀ (l : List D) (e : Fr) (k : List D → Om), X.fArg (gts p) l e k = (argL ks kk a l (e.l ks.length)).elim none k
  | [], a, p, h, l, e, k => by
    cases a <;> first | cases h | skip
    cases l <;> rfl
  | kd :: r, a, p, h, l, e, k => by
    cases a <;> first | cases h | skip
    rename_i c b
    simp only [planA] at h
    obtain ⟨o, ho, h⟩ := Option.bind_eq_some_iff.mp h
    obtain ⟨q, hq, rfl⟩ := Option.map_eq_some_iff.mp h
    cases l with
    | nil => rfl
    | cons d l =>
      have ih := fArg_eq hn r b q hq l e
      have val : ∀ (x : D → Option D), o = none → x d = some d → X.fArg (gts (o :: q)) (d :: l) e k = ((x d).bind fun x => (argL ks r b l (e.l ks.length)).map (x :: ·)).elim none k := fun x e1 e2 => by
        subst e1
        rw [e2]
        refine (ih fun q => k (d :: q)).trans ?_
        show _ = ((argL ks r b l (e.l ks.length)).map (d :: ·)).elim none k
        cases argL ks r b l (e.l ks.length) <;> rfl
      have loc : ∀ i : Nat, o = some i → i < ks.length → X.fArg (gts (o :: q)) (d :: l) e k = ((rdS (e.l ks.length) i).bind fun x => (argL ks r b l (e.l ks.length)).map (x :: ·)).elim none k := fun i e1 hi => by
        subst e1
        refine (fRd_eq hn hi e _).trans ?_
        cases rdS (e.l ks.length) i with
        | none => rfl
        | some x =>
          refine (ih fun q => k (x :: q)).trans ?_
          show _ = ((argL ks r b l (e.l ks.length)).map (x :: ·)).elim none k
          cases argL ks r b l (e.l ks.length) <;> rfl
      cases c <;> first | (cases ho; done) | skip
      case loc i =>
        cases kd <;> first | (cases ho; done) | skip
        · simp only at ho
          split at ho
          · rename_i hk
            cases ho
            refine (loc i rfl (kIs_of hk)).trans ?_
            simp only [argL]
            rw [if_pos hk]
          · cases ho
        · simp only at ho
          split at ho
          · rename_i hk
            cases ho
            refine (loc i rfl (hk.elim kIs_of kIs_of)).trans ?_
            simp only [argL]
            rw [if_pos hk]
          · cases ho
      all_goals
        cases kd <;> first | (cases ho; done) | skip
        all_goals
          cases ho
          exact val some rfl rfl
theorem fBack_eq (hn : ks.length ≤ nSl) : ∀ (kk : List Kd) (a : C) (p : List (Option Nat)), planA ks kk a = some p → ∀ (l : List (Option D)) (e : Fr) (k : Fr → Om) (k' : En → Om), (∀ e, k e = k' (e.l ks.length)) → X.fBack (sts (planB kk a)) l e k = (backL kk a l (e.l ks.length)).elim none k'
  | [], a, p, h, l, e, k, k', hk => by
    cases a <;> first | cases h | skip
    exact hk e
  | kd :: r, a, p, h, l, e, k, k', hk => by
    cases a <;> first | cases h | skip
    rename_i c b
    simp only [planA] at h
    obtain ⟨o, ho, h⟩ := Option.bind_eq_some_iff.mp h
    obtain ⟨q, hq, rfl⟩ := Option.map_eq_some_iff.mp h
    cases l with
    | nil => rfl
    | cons d l =>
      have ih := fun e => fBack_eq hn r b q hq l e k k' hk
      cases kd with
      | own =>
        cases c <;> first | (cases ho; done) | skip
        rename_i i
        simp only at ho
        split at ho
        · rename_i hki
          cases d with
          | none => rfl
          | some x =>
            refine (slot_s i ks.length e (some x) _ (fun e' => (backL r b l e').elim none k') (kIs_of hki) hn fun e' => ih e').trans ?_
            rfl
        · cases ho
      | shr => cases c <;> first | (cases ho; done) | exact ih e
      | brw => cases c <;> first | (cases ho; done) | exact ih e
      | frz => cases c <;> first | (cases ho; done) | exact ih e
theorem finT_elim {c : C} {d : D} {e : En} {k : Bool → Om} : (finT c d e).elim none k = (fin c d e).elim none fun d => (truthO d).elim none k := finT_eq c d e k
theorem fFins_eq {info : Nat → List Kd} {al : Nat → Bool} (hn : ks.length ≤ nSl) : ∀ (a : C), ok info al a .l ks = true → opsOk a = true → ∀ (l : List D) (e : Fr) (k : List D → Om), X.fFins (lcsF a) l e k = (finL a l (e.l ks.length)).elim none k := by
  intro a
  induction a with
  | nil => intro h h2 l e k; cases l <;> rfl
  | cons a b iha ihb =>
    intro h h2 l e k
    simp only [ok, Bool.and_eq_true] at h
    simp only [opsOk, Bool.and_eq_true] at h2
    cases l with
    | nil => rfl
    | cons d l =>
      show fFin (lcF a) d e (fun x => X.fFins (lcsF b) l e fun q => k (x :: q)) = _
      rw [fFin_eq hn h.1 h2.1]
      simp only [finL]
      cases fin a d (e.l ks.length) with
      | none => rfl
      | some x =>
        refine (ihb h.2 h2.2 l e fun q => k (x :: q)).trans ?_
        show _ = ((finL b l (e.l ks.length)).map (x :: ·)).elim none k
        cases finL b l (e.l ks.length) <;> rfl
  | _ => intro h; simp [ok] at h
theorem fIt_eq {info : Nat → List Kd} {al : Nat → Bool} {G : Gx} (hk : G.ks = ks) (hn : ks.length ≤ nSl) {c : C} (h : ok info al c .e ks = true) (h2 : itOk ks c = true) (d : D) (e : Fr) (k : List D → Om) : X.fIt (lcF c) d e k = (itemsOf G.ks c d (e.l ks.length)).elim none k := by
  have h3 : opOk c = true := by cases c <;> first | rfl | cases h2
  unfold X.fIt
  rw [fFin_eq hn h h3, hk]
  cases c
  case loc i =>
    have hi : kIs ks i .brw = true := h2
    show (rdS (e.l ks.length) i).elim none _ = (if ks[i]? = some Kd.brw then (rdS (e.l ks.length) i).bind seqOf else none).elim none k
    rw [if_pos (lt_ks hi).1]
    cases rdS (e.l ks.length) i with
    | none => rfl
    | some x => exact cSq_eq x k
  case scr i => cases h2
  all_goals exact cSq_eq d k
theorem fWipe_eq (hn : ks.length ≤ nSl) : ∀ (vs : List Nat), vs.all (fun v => decide (v < ks.length)) = true → ∀ (e : Fr) (k : Fr → Om) (k' : En → Om), (∀ e, k e = k' (e.l ks.length)) → X.fWipe (ws vs) e k = k' (wipeE (e.l ks.length) vs)
  | [], _, e, k, k', hk => hk e
  | v :: vs, h, e, k, k', hk => by
    simp only [List.all_cons, Bool.and_eq_true, decide_eq_true_eq] at h
    refine (fWipe_eq hn vs h.2 e (fun e' => (slot v).s e' none k) (fun e' => k' (e'.set v none)) fun e' => ?_).trans rfl
    exact slot_s v _ e' none k k' h.1 hn hk
theorem fRest_eq (hn : ks.length ≤ nSl) (e0 : Fr) : ∀ (vs : List Nat), vs.all (fun v => decide (v < ks.length)) = true → ∀ (e : Fr) (k : Fr → Om) (k' : En → Om), (∀ e, k e = k' (e.l ks.length)) → X.fRest (rs vs) e0 e k = k' (restE (e0.l ks.length) (e.l ks.length) vs)
  | [], _, e, k, k', hk => hk e
  | v :: vs, h, e, k, k', hk => by
    simp only [List.all_cons, Bool.and_eq_true, decide_eq_true_eq] at h
    refine (fRest_eq hn e0 vs h.2 e (fun e' => (slot v).s e' ((slot v).g e0) k) (fun e' => k' (e'.set v (rdS (e0.l ks.length) v))) fun e' => ?_).trans rfl
    rw [← slot_g v ks.length e0 h.1 hn]
    exact slot_s v _ e' _ k k' h.1 hn hk
def bR0 {α : Type} (m : Option (R α)) (k : α → En → Om) : Om := match m with
  | some (.ok a e) => k a e
  | _ => none
theorem bR_bnd0 {α β : Type} (m : Option (R α)) (f : α → En → Option (R β)) (k : β → En → Om) (kx : Exn → En → Om) : bR (bnd0 m f) k kx = bR0 m (fun a e => bR (f a e) k kx) := by
  cases m with
  | none => rfl
  | some r => cases r <;> rfl
theorem bR0_bnd0 {α β : Type} (m : Option (R α)) (f : α → En → Option (R β)) (k : β → En → Om) : bR0 (bnd0 m f) k = bR0 m (fun a e => bR0 (f a e) k) := by
  cases m with
  | none => rfl
  | some r => cases r <;> rfl
theorem bR_none {α : Type} (m : Option (R α)) (k : α → En → Om) : bR m k (fun _ _ => none) = bR0 m k := by
  cases m with
  | none => rfl
  | some r => cases r <;> rfl
theorem bR0_bind {α β : Type} (o : Option α) (f : α → Option (R β)) (k : β → En → Om) : bR0 (o.bind f) k = o.elim none (fun a => bR0 (f a) k) := by cases o <;> rfl
theorem fLc_eq {n : Nat} {step : D → Fr → (Option D → Fr → Om) → Om} {step' : D → En → Option (R (Option D))} (hs : ∀ d e kk kk', (∀ o e, kk o e = kk' o (e.l n)) → step d e kk = bR0 (step' d (e.l n)) kk') : ∀ (ds : List D) (e : Fr) (k : List D → Fr → Om) (k' : List D → En → Om), (∀ l e, k l e = k' l (e.l n)) → X.fLc step ds e k = bR0 (lcLoop step' ds (e.l n)) k'
  | [], e, k, k', hk => hk [] e
  | d :: r, e, k, k', hk => by
    show step d e _ = _
    refine (hs d e _ (fun o e1 => bR0 (lcLoop step' r e1) fun l e2 => k' (o.toList ++ l) e2) fun o e1 => ?_).trans ?_
    · cases o with
      | none => exact fLc_eq hs r e1 k (fun l e2 => k' l e2) hk
      | some y => exact fLc_eq hs r e1 (fun l e2 => k (y :: l) e2) (fun l e2 => k' (y :: l) e2) fun l e2 => hk (y :: l) e2
    · simp only [lcLoop, bR0_bnd0]
      rfl
theorem fLc2_eq {n : Nat} {step : D → Fr → (List D → Fr → Om) → Om} {step' : D → En → Option (R (List D))} (hs : ∀ d e kk kk', (∀ o e, kk o e = kk' o (e.l n)) → step d e kk = bR0 (step' d (e.l n)) kk') : ∀ (ds : List D) (e : Fr) (k : List D → Fr → Om) (k' : List D → En → Om), (∀ l e, k l e = k' l (e.l n)) → X.fLc2 step ds e k = bR0 (lcLoop2 step' ds (e.l n)) k'
  | [], e, k, k', hk => hk [] e
  | d :: r, e, k, k', hk => by
    show step d e _ = _
    refine (hs d e _ (fun o e1 => bR0 (lcLoop2 step' r e1) fun l e2 => k' (o ++ l) e2) fun o e1 => ?_).trans ?_
    · refine fLc2_eq hs r e1 (fun l e2 => fCat o l fun m => k m e2) (fun l e2 => k' (o ++ l) e2) fun l e2 => ?_
      rw [fCat_eq]
      exact hk _ _
    · simp only [lcLoop2, bR0_bnd0]
      rfl
theorem lcEnd_eq (hn : ks.length ≤ nSl) {vs : List Nat} (hv : vs.all (fun v => decide (v < ks.length)) = true) (e1 : Fr) (k : D → Fr → Om) (k' : D → En → Om) (kx' : Exn → En → Om) (hk : ∀ d e, k d e = k' d (e.l ks.length)) (l : List D) (e6 : Fr) :
    X.lcEnd (rs vs) e1 k l e6 = bR (if l.length ≤ lim then some (.ok (.lst l) (restE (e1.l ks.length) (e6.l ks.length) vs)) else none) k' kx' := by
  unfold X.lcEnd
  rw [fLen_eq, iff_eq, nble]
  by_cases h : l.length ≤ lim
  · rw [if_pos (decide_eq_true (show l.length ≤ 100000 from h)), if_pos h]
    exact fRest_eq hn e1 vs hv e6 _ (fun e => k' (.lst l) e) fun e => hk _ _
  · rw [if_neg (by rw [decide_eq_false (show ¬ l.length ≤ 100000 from h)]; simp), if_neg h]
    rfl
end
/-! targets -/
def STg (ks : List Kd) (G : Gx) (c : C) (x : TG) : Prop := ∀ d e k k', (∀ e, k e = k' (e.l ks.length)) → x d e k = (asgT G.ks c d (e.l ks.length)).elim none k'
def STl (ks : List Kd) (G : Gx) (c : C) (x : TGL) : Prop := ∀ l e k k', (∀ e, k e = k' (e.l ks.length)) → x l e k = (asgT G.ks c (.lst l) (e.l ks.length)).elim none k'
theorem FT_ok {ks : List Kd} {G : Gx} {info : Nat → List Kd} {al : Nat → Bool} (hk : G.ks = ks) (hn : ks.length ≤ nSl) (c : C) : (ok info al c .t ks = true → STg ks G c (FT c)) ∧ (ok info al c .tl ks = true → STl ks G c (FTL c)) := by
  induction c with
  | var i =>
    refine ⟨fun h d e k k' hkk => ?_, fun h => by simp [ok] at h⟩
    have h' : kIs ks i .shr = true := by simpa [ok] using h
    obtain ⟨h1, h2⟩ := lt_ks h'
    simp only [FT, asgT]
    rw [hk, h1, if_pos (by rw [Fr.len e ks.length hn]; simp [h2])]
    exact slot_s i _ e _ k k' h2 hn hkk
  | tup a ih =>
    refine ⟨fun h d e k k' hkk => ?_, fun h => by simp [ok] at h⟩
    have h' : ok info al a .tl ks = true := by simpa [ok] using h
    simp only [FT]
    cases d <;> first | rfl | skip
    rename_i l
    exact ih.2 h' l e k k' hkk
  | nil =>
    refine ⟨fun h => by simp [ok] at h, fun h l e k k' hkk => ?_⟩
    simp only [FTL]
    cases l with
    | nil => exact hkk e
    | cons x r => rfl
  | cons a b iha ihb =>
    refine ⟨fun h => by simp [ok] at h, fun h l e k k' hkk => ?_⟩
    simp only [ok, Bool.and_eq_true] at h
    simp only [FTL]
    cases l with
    | nil => rfl
    | cons x r =>
      refine (iha.1 h.1 x e _ (fun e' => (asgT G.ks b (.lst r) e').elim none k') fun e1 => ihb.2 h.2 r e1 k k' hkk).trans ?_
      simp only [asgT]
      cases asgT G.ks a x (e.l ks.length) <;> rfl
  | _ => exact ⟨fun h => by simp [ok] at h, fun h => by simp [ok] at h⟩
end
end PB
set_option maxHeartbeats 4000000
/-! Jk: the continuation form of an expression says what its evaluation says. -/
namespace PB
noncomputable section
open PySem
theorem bR_lst {β : Type} (m : Option (R D)) (f : List D → En → Option (R β)) (k : β → En → Om) (kx : Exn → En → Om) (g : D → En → Option (R β)) (hg : ∀ x e, g x e = match x with | .lst l => f l e | _ => none) : bR (bnd m g) k kx = bR (lR m) (fun l e => bR (f l e) k kx) kx := by
  cases m with
  | none => rfl
  | some r => cases r with
    | xc x e => rfl
    | ok a e => simp only [bnd, hg]; cases a <;> rfl
theorem bR_ite {α : Type} (p : Prop) [Decidable p] (h : p) (m : Option (R α)) (k : α → En → Om) (kx : Exn → En → Om) : bR (if p then m else none) k kx = bR m k kx := by rw [if_pos h]
theorem elim_bind {α β γ : Type} (o : Option α) (f : α → Option β) (k : β → Option γ) : (o.bind f).elim none k = o.elim none fun a => (f a).elim none k := by cases o <;> rfl
theorem elim_map {α β γ : Type} (o : Option α) (f : α → β) (k : β → Option γ) : (o.map f).elim none k = o.elim none fun a => k (f a) := by cases o <;> rfl
theorem bR_mapg {α β : Type} (o : Option α) (f : α → R β) (k : β → En → Om) (kx : Exn → En → Om) : bR (o.map f) k kx = o.elim none (fun a => bR (some (f a)) k kx) := by cases o <;> rfl
theorem if_none {α β : Type} (b : Bool) (h : b = true) (m : Option α) : (if b = true then m else none) = m := by rw [if_pos h]
theorem partOf_ne (p : C) (d : D) (hq : npart p = false) : partOf p d = match d with | .int i => some (some i) | _ => none := by
  cases p <;> first | (exact Bool.noConfusion hq) | (cases d <;> rfl)
theorem opG_is (o : O2) (a b : C) (xa xb : X) (ra rb : XL) : (∃ u v, o = .ne ∧ reprA a = some u ∧ reprA b = some v ∧ opG o a b xa xb ra rb = X.neR (lcsF u) ra (lcsF v) rb) ∨ opG o a b xa xb ra rb = opvF o a b xa xb := by
  unfold opG
  cases ha : reprA a with
  | none => right; cases isNe o <;> rfl
  | some u =>
    cases hb : reprA b with
    | none => right; cases isNe o <;> rfl
    | some v =>
      cases o <;> first | exact .inr rfl | exact .inl ⟨u, v, rfl, rfl, rfl, rfl⟩
theorem bR_repr {u : C} {G : Gx} {e : En} (K : D → En → Om) (kx' : Exn → En → Om) : bR (ev (.blt .repr u) G e) K kx' = bR (lR (ev u G e)) (fun l e1 => (finL u l e1).elim none fun ds => (bi .repr ds).elim none fun s => K s e1) kx' := by
  simp only [ev]
  refine (bR_lst _ (fun l e1 => (finL u l e1).bind fun ds => (bi .repr ds).map (R.ok · e1)) K kx' _ fun x e => ?_).trans ?_
  · cases x <;> rfl
  · congr 1
    funext l e1
    rw [bR_bind]
    congr 1
    funext ds
    rw [bR_map]
theorem ne_same {s : Str} (h : PyData.strOk s = true) : op2 .ne (.str s) (.str s) = some (.bl false) := by
  have : eqv (.str s) (.str s) = true := by
    show (s == s) = true
    exact beq_self_eq_true s
  show (if (plainD 30 (.str s) && plainD 30 (.str s)) = true then some (D.bl (!eqv (.str s) (.str s))) else none) = _
  have h2 : plainD 30 (.str s) = true := h
  rw [this, h2]
  rfl
theorem sm1_ok {ds : List D} (h : X.sm1 ds = true) : ∃ s, bi .repr ds = some (.str s) ∧ PyData.strOk s = true := by
  cases ds with
  | nil => cases h
  | cons x r => cases r with
    | nil => exact ⟨_, repr_small (d := x) h⟩
    | cons _ _ => cases h
theorem neR_ok {u v : C} {G : Gx} {g : Gf} {ks : List Kd} {info : Nat → List Kd} {al : Nat → Bool} {ra rb : XL} {e : Fr} {k : D → Fr → Om} {kx : Exn → Fr → Om} {k' : D → En → Om} {kx' : Exn → En → Om} (hn : ks.length ≤ nSl)
    (sa : SXa ks.length g (fun e => lR (ev u G e)) ra) (ka : ok info al u .l ks = true) (ia : opsOk u = true) (sb : SXa ks.length g (fun e => lR (ev v G e)) rb) (kb : ok info al v .l ks = true) (ib : opsOk v = true)
    (hk : ∀ d e, k d e = k' d (e.l ks.length)) (hx : ∀ y e, kx y e = kx' y (e.l ks.length)) : X.neR (lcsF u) ra (lcsF v) rb g e k kx = bR (ev (.op .ne (.blt .repr u) (.blt .repr v)) G (e.l ks.length)) k' kx' := by
  have E : bR (ev (.op .ne (.blt .repr u) (.blt .repr v)) G (e.l ks.length)) k' kx' = bR (ev (.blt .repr u) G (e.l ks.length)) (fun x e1 => bR (ev (.blt .repr v) G e1) (fun y e2 => (op2 .ne x y).elim none fun z => k' z e2) kx') kx' := by
    rw [ev, bR_bnd]
    congr 1
    funext x e1
    rw [bR_bnd]
    congr 1
    funext y e2
    show bR ((op2 .ne x y).map (R.ok · e2)) k' kx' = _
    rw [bR_map]
  rw [E, bR_repr]
  refine sa e _ kx _ kx' (fun l e1 => ?_) hx
  rw [fFins_eq hn u ka ia]
  congr 1
  funext ds
  rw [iff_eq]
  by_cases hs : X.sm1 ds = true
  · rw [if_pos hs]
    obtain ⟨s, h1, h2⟩ := sm1_ok hs
    rw [h1]
    show _ = bR (ev (.blt .repr v) G (e1.l ks.length)) _ kx'
    rw [bR_repr]
    refine sb e1 _ kx _ kx' (fun l' e2 => ?_) hx
    rw [fFins_eq hn v kb ib]
    congr 1
    funext ds'
    rw [iff_eq]
    by_cases hq : sameL ds ds' = true
    · rw [if_pos hq, ← same_eqL _ _ hq, h1]
      show _ = (op2 .ne (.str s) (.str s)).elim none fun z => k' z (e2.l ks.length)
      rw [ne_same h2]
      exact hk _ e2
    · rw [if_neg hq]
      unfold X.neSlow
      rw [biX_eq, h1]
      show X.biX .repr ds' _ = _
      rw [biX_eq]
      congr 1
      funext s'
      rw [opF_eq]
      congr 1
      funext z
      exact hk z e2
  · rw [if_neg hs, biX_eq]
    congr 1
    funext s
    show _ = bR (ev (.blt .repr v) G (e1.l ks.length)) _ kx'
    rw [bR_repr]
    refine sb e1 _ kx _ kx' (fun l' e2 => ?_) hx
    rw [fFins_eq hn v kb ib]
    congr 1
    funext ds'
    rw [biX_eq]
    congr 1
    funext s'
    rw [opF_eq]
    congr 1
    funext z
    exact hk z e2
theorem F_ok (t : Tf) (c : C) : ∀ (G : Gx) (g : Gf) (ks : List Kd), TOk t G → GR ks G g → ks.length ≤ nSl →
    (ok t.info t.al c .e ks = true → SXa ks.length g (ev c G) (F t c ks)) ∧ (ok t.info t.al c .l ks = true → SXa ks.length g (fun e => lR (ev c G e)) (FL t c ks)) ∧
    (∀ u, c = .blt .repr u → ok t.info t.al c .e ks = true → SXa ks.length g (fun e => lR (ev u G e)) (FR t c ks) ∧ ok t.info t.al u .l ks = true ∧ opsOk u = true) := by
  induction c with
  | var i =>
    intro G g ks T R hn
    refine ⟨fun h e k kx k' kx' hk hx => ?_, fun h => by simp [ok] at h, fun _ z => by cases z⟩
    have h' : kIs ks i .shr = true := by simpa [ok] using h
    obtain ⟨h1, h2⟩ := lt_ks h'
    simp only [F, ev, R.ks]
    rw [if_pos h1, bR_map]
    refine (fRd_eq hn h2 e _).trans ?_
    congr 1
    funext d
    exact hk d e
  | loc i =>
    intro G g ks T R hn
    refine ⟨fun h e k kx k' kx' hk hx => ?_, fun h => by simp [ok] at h, fun _ z => by cases z⟩
    have h' : (kIs ks i .own || kIs ks i .brw) = true := by simpa [ok] using h
    have h1 : ks[i]? = some Kd.own ∨ ks[i]? = some Kd.brw := ((Bool.or_eq_true _ _).mp h').imp (fun h => (lt_ks h).1) (fun h => (lt_ks h).1)
    simp only [F, ev, R.ks]
    rw [if_pos h1, bR_mapg]
    refine (fRd_eq hn (h1.elim kIs_of kIs_of) e _).trans ?_
    congr 1
    funext d
    exact hk .non e
  | cst d =>
    intro G g ks T R hn
    refine ⟨fun h e k kx k' kx' hk hx => ?_, fun h => by simp [ok] at h, fun _ z => by cases z⟩
    have h' : isCst d = true := by simpa [ok] using h
    simp only [F, ev]
    rw [if_pos h']
    exact hk d e
  | nil =>
    intro G g ks T R hn
    refine ⟨fun h => by simp [ok] at h, fun h e k kx k' kx' hk hx => ?_, fun _ z => by cases z⟩
    simp only [FL, ev]
    exact hk [] e
  | cons a b iha ihb =>
    intro G g ks T R hn
    refine ⟨fun h => by simp [ok] at h, fun h e k kx k' kx' hk hx => ?_, fun _ z => by cases z⟩
    simp only [ok, Bool.and_eq_true] at h
    simp only [FL, ev]
    have key : bR (lR (bnd (ev a G (e.l ks.length)) fun x e1 => bnd (ev b G e1) fun xs e2 => match xs with | .lst l => some (.ok (.lst (x :: l)) e2) | _ => none)) k' kx' = bR (ev a G (e.l ks.length)) (fun x e1 => bR (lR (ev b G e1)) (fun l e2 => k' (x :: l) e2) kx') kx' := by
      cases ev a G (e.l ks.length) with
      | none => rfl
      | some r => cases r with
        | xc x e => rfl
        | ok x e1 =>
          simp only [bnd, bR]
          cases ev b G e1 with
          | none => rfl
          | some r => cases r with
            | xc x e => rfl
            | ok y e2 => cases y <;> rfl
    refine ((iha G g ks T R hn).1 h.1 e _ kx (fun x e1 => bR (lR (ev b G e1)) (fun l e2 => k' (x :: l) e2) kx') kx' (fun x e1 => ?_) hx).trans key.symm
    exact (ihb G g ks T R hn).2.1 h.2 e1 _ kx (fun l e2 => k' (x :: l) e2) kx' (fun l e2 => hk _ _) hx
  | tup a iha =>
    intro G g ks T R hn
    refine ⟨fun h e k kx k' kx' hk hx => ?_, fun h => by simp [ok] at h, fun _ z => by cases z⟩
    simp only [ok, Bool.and_eq_true] at h
    simp only [F, ev]
    refine ((iha G g ks T R hn).2.1 h.1 e _ kx (fun l e1 => k' (.tup l) e1) kx' (fun x e1 => hk _ _) hx).trans ?_
    refine (bR_lst _ (fun l e1 => some (.ok (.tup l) e1)) k' kx' _ fun x e => ?_).symm
    cases x <;> first | rfl | skip
    exact if_pos h.2
  | lst a iha =>
    intro G g ks T R hn
    refine ⟨fun h e k kx k' kx' hk hx => ?_, fun h => by simp [ok] at h, fun _ z => by cases z⟩
    simp only [ok, Bool.and_eq_true] at h
    simp only [F, ev]
    refine ((iha G g ks T R hn).2.1 h.1 e _ kx (fun l e1 => k' (.lst l) e1) kx' (fun x e1 => hk _ _) hx).trans ?_
    refine (bR_lst _ (fun l e1 => some (.ok (.lst l) e1)) k' kx' _ fun x e => ?_).symm
    cases x <;> first | rfl | skip
    exact if_pos h.2
  | dnew b =>
    intro G g ks T R hn
    refine ⟨fun h e k kx k' kx' hk hx => ?_, fun h => by simp [ok] at h, fun _ z => by cases z⟩
    simp only [F, ev]
    exact hk _ e
  | op o a b iha ihb =>
    intro G g ks T R hn
    refine ⟨fun h e k kx k' kx' hk hx => ?_, fun h => by simp [ok] at h, fun _ z => by cases z⟩
    simp only [ok, Bool.and_eq_true, Bool.true_and] at h
    obtain ⟨⟨⟨ha, hb⟩, oa⟩, ob⟩ := h
    have hgen : X.op (opF o) (F t a ks) (F t b ks) (lcF a) (lcF b) g e k kx = bR (ev (.op o a b) G (e.l ks.length)) k' kx' := by
      simp only [ev, bR_bnd]
      refine (iha G g ks T R hn).1 ha e _ kx _ kx' (fun x e1 => ?_) hx
      refine (ihb G g ks T R hn).1 hb e1 _ kx _ kx' (fun y e2 => ?_) hx
      rw [fFin_eq hn ha oa, bR_bind]
      congr 1
      funext x
      rw [fFin_eq hn hb ob, bR_bind]
      congr 1
      funext y
      rw [opF_eq, bR_map]
      congr 1
      funext z
      exact hk z e2
    have hop : opvF o a b (F t a ks) (F t b ks) g e k kx = X.op (opF o) (F t a ks) (F t b ks) (lcF a) (lcF b) g e k kx := by
      unfold opvF
      cases lcF a <;> cases lcF b <;> rfl
    simp only [F]
    rcases opG_is o a b (F t a ks) (F t b ks) (FR t a ks) (FR t b ks) with ⟨u, v, rfl, hu, hv, hq⟩ | hq
    · rw [hq]
      obtain ⟨sa, ka, ia⟩ := (iha G g ks T R hn).2.2 u (reprA_eq hu) ha
      obtain ⟨sb, kb, ib⟩ := (ihb G g ks T R hn).2.2 v (reprA_eq hv) hb
      have z := neR_ok (e := e) hn sa ka ia sb kb ib hk hx
      rw [← reprA_eq hu, ← reprA_eq hv] at z
      exact z
    · rw [hq]
      exact hop.trans hgen
  | neg a iha =>
    intro G g ks T R hn
    refine ⟨fun h e k kx k' kx' hk hx => ?_, fun h => by simp [ok] at h, fun _ z => by cases z⟩
    simp only [ok, Bool.and_eq_true, Bool.true_and] at h
    simp only [F, ev, bR_bnd]
    refine (iha G g ks T R hn).1 h e _ kx _ kx' (fun x e1 => ?_) hx
    cases x <;> first | rfl | skip
    rename_i i
    exact (fI_eq (-i) (fun j => k (.int j) e1)).trans (hk (.int (-i)) e1)
  | not a iha =>
    intro G g ks T R hn
    refine ⟨fun h e k kx k' kx' hk hx => ?_, fun h => by simp [ok] at h, fun _ z => by cases z⟩
    simp only [ok, Bool.and_eq_true, Bool.true_and] at h
    simp only [F, ev, bR_bnd]
    refine (iha G g ks T R hn).1 h.1 e _ kx _ kx' (fun x e1 => ?_) hx
    rw [fFin_eq hn h.1 h.2, bR_mapg]
    rw [finT_elim]
    congr 1
    funext x
    rw [fTr_eq]
    congr 1
    funext b
    rw [kBl_eq]
    exact hk _ e1
  | and a b iha ihb =>
    intro G g ks T R hn
    refine ⟨fun h e k kx k' kx' hk hx => ?_, fun h => by simp [ok] at h, fun _ z => by cases z⟩
    simp only [ok, Bool.and_eq_true, Bool.true_and, Bool.not_eq_true'] at h
    obtain ⟨⟨⟨ha, hb⟩, la⟩, lb⟩ := h
    simp only [F, ev, bR_bnd, la, lb, Bool.or_self, Bool.false_eq_true, if_false]
    refine (iha G g ks T R hn).1 ha e _ kx _ kx' (fun x e1 => ?_) hx
    rw [fTr_eq, bR_bind]
    congr 1
    funext b'
    cases b' with
    | false => exact hk x e1
    | true => exact (ihb G g ks T R hn).1 hb e1 _ kx _ kx' hk hx
  | or a b iha ihb =>
    intro G g ks T R hn
    refine ⟨fun h e k kx k' kx' hk hx => ?_, fun h => by simp [ok] at h, fun _ z => by cases z⟩
    simp only [ok, Bool.and_eq_true, Bool.true_and, Bool.not_eq_true'] at h
    obtain ⟨⟨⟨ha, hb⟩, la⟩, lb⟩ := h
    simp only [F, ev, bR_bnd, la, lb, Bool.or_self, Bool.false_eq_true, if_false]
    refine (iha G g ks T R hn).1 ha e _ kx _ kx' (fun x e1 => ?_) hx
    rw [fTr_eq, bR_bind]
    congr 1
    funext b'
    cases b' with
    | true => exact hk x e1
    | false => exact (ihb G g ks T R hn).1 hb e1 _ kx _ kx' hk hx
  | ite c a b ihc iha ihb =>
    intro G g ks T R hn
    refine ⟨fun h e k kx k' kx' hk hx => ?_, fun h => by simp [ok] at h, fun _ z => by cases z⟩
    simp only [ok, Bool.and_eq_true, Bool.true_and, Bool.not_eq_true'] at h
    obtain ⟨⟨⟨⟨⟨hc, ha⟩, hb⟩, la⟩, lb⟩, oc⟩ := h
    simp only [F, ev, bR_bnd, la, lb, Bool.or_self, Bool.false_eq_true, if_false]
    refine (ihc G g ks T R hn).1 hc e _ kx _ kx' (fun x e1 => ?_) hx
    rw [fFin_eq hn hc oc, bR_bind, finT_elim]
    congr 1
    funext x
    rw [fTr_eq]
    congr 1
    funext b'
    cases b' with
    | true => exact (iha G g ks T R hn).1 ha e1 _ kx _ kx' hk hx
    | false => exact (ihb G g ks T R hn).1 hb e1 _ kx _ kx' hk hx
  | idx a b iha ihb =>
    intro G g ks T R hn
    refine ⟨fun h e k kx k' kx' hk hx => ?_, fun h => by simp [ok] at h, fun _ z => by cases z⟩
    simp only [ok, Bool.and_eq_true, Bool.true_and, Bool.not_eq_true'] at h
    obtain ⟨⟨⟨ha, hb⟩, lb⟩, oa⟩ := h
    simp only [F, ev, bR_bnd, lb, Bool.false_eq_true, if_false]
    refine (iha G g ks T R hn).1 ha e _ kx _ kx' (fun x e1 => ?_) hx
    refine (ihb G g ks T R hn).1 hb e1 _ kx _ kx' (fun y e2 => ?_) hx
    rw [fFin_eq hn ha oa, bR_bind]
    congr 1
    funext x
    rw [ixQ_eq, bR_map]
    congr 1
    funext z
    exact hk z e2
  | slc a lo hi iha ihl ihh =>
    intro G g ks T R hn
    refine ⟨fun h e k kx k' kx' hk hx => ?_, fun h => by simp [ok] at h, fun _ z => by cases z⟩
    simp only [ok, Bool.and_eq_true, Bool.true_and] at h
    obtain ⟨⟨⟨ha, hl⟩, hh⟩, oa⟩ := h
    have part : ∀ (p : C) (hp : (npart p || ok t.info t.al p .e ks) = true) (ihp : ok t.info t.al p .e ks = true → SXa ks.length g (ev p G) (F t p ks)) (e : Fr) (kk : Option Int → Fr → Om) (kk' : Option Int → En → Om), (∀ d e, kk d e = kk' d (e.l ks.length)) →
        X.slcp (if npart p then none else some (F t p ks)) g e kk kx = bR (ev p G (e.l ks.length)) (fun d e1 => (partOf p d).elim none fun i => kk' i e1) kx' := fun p hp ihp e kk kk' hkk => by
      cases hq : npart p with
      | true =>
        cases p <;> first | (exact Bool.noConfusion hq) | skip
        exact hkk none e
      | false =>
        have hp' : ok t.info t.al p .e ks = true := by rw [hq] at hp; exact hp
        show F t p ks g e _ kx = _
        refine ihp hp' e _ kx _ kx' (fun d e1 => ?_) hx
        rw [partOf_ne p d hq]
        cases d <;> first | rfl | exact hkk _ e1
    simp only [F, ev, bR_bnd]
    refine (iha G g ks T R hn).1 ha e _ kx _ kx' (fun x e1 => ?_) hx
    refine (part lo hl (ihl G g ks T R hn).1 e1 _ (fun l e2 => bR (ev hi G e2) (fun d e3 => (partOf hi d).elim none fun h => (fin a x e3).elim none fun x => (slcD x l h).elim none fun d => k' d e3) kx') fun l e2 => ?_).trans ?_
    · refine part hi hh (ihh G g ks T R hn).1 e2 _ (fun h e3 => (fin a x e3).elim none fun x => (slcD x l h).elim none fun d => k' d e3) fun h e3 => ?_
      rw [fFin_eq hn ha oa]
      congr 1
      funext x
      rw [slF_eq]
      congr 1
      funext d
      exact hk d e3
    · congr 1
      funext d e2
      rw [bR_bind]
      congr 1
      funext l
      rw [bR_bnd]
      congr 1
      funext d e3
      rw [bR_bind]
      congr 1
      funext h
      rw [bR_bind]
      congr 1
      funext x
      rw [bR_map]
  | call f a iha =>
    intro G g ks T R hn
    refine ⟨fun h e k kx k' kx' hk hx => ?_, fun h => by simp [ok] at h, fun _ z => by cases z⟩
    simp only [ok, Bool.and_eq_true, Bool.true_and] at h
    obtain ⟨⟨ha, hp⟩, haf⟩ := h
    obtain ⟨p, hp⟩ := Option.isSome_iff_exists.mp hp
    simp only [F, ev, hp, Option.getD]
    refine ((iha G g ks T R hn).2.1 ha e _ kx (fun l e1 => bR ((argL G.ks (G.info f) a l e1).bind fun ds => match G.cf f none ds with
        | none => none
        | some (.ok d o) => (backL (G.info f) a o e1).map (.ok d ·)
        | some (.xc x o) => (backL (G.info f) a o e1).map (.xc x ·)) k' kx') kx' (fun l e1 => ?_) hx).trans ?_
    · rw [fArg_eq hn (t.info f) a p hp, bR_bind, T.info, R.ks]
      congr 1
      funext ds
      rw [T.tab0 f haf]
      cases G.cf f none ds with
      | none => rfl
      | some r => cases r with
        | ok d o =>
          show X.fBack _ o e1 _ = bR ((backL (G.info f) a o (e1.l ks.length)).map (.ok d ·)) k' kx'
          rw [← T.info, fBack_eq hn (t.info f) a p hp o e1 (fun e2 => k d e2) (fun e2 => k' d e2) (fun e2 => hk d e2), bR_mapg]
          rfl
        | xc x o =>
          show X.fBack _ o e1 _ = bR ((backL (G.info f) a o (e1.l ks.length)).map (.xc x ·)) k' kx'
          rw [← T.info, fBack_eq hn (t.info f) a p hp o e1 (fun e2 => kx x e2) (fun e2 => kx' x e2) (fun e2 => hx x e2), bR_mapg]
          rfl
    · refine (bR_lst _ _ k' kx' _ fun x e => ?_).symm
      cases x <;> rfl
  | blt f a iha =>
    intro G g ks T R hn
    refine ⟨fun h e k kx k' kx' hk hx => ?_, fun h => by simp [ok] at h, fun u z h => by cases z; simp only [ok, Bool.and_eq_true, Bool.true_and] at h; exact ⟨(iha G g ks T R hn).2.1 h.1, h.1, h.2⟩⟩
    simp only [ok, Bool.and_eq_true, Bool.true_and] at h
    obtain ⟨ha, oa⟩ := h
    simp only [F, ev]
    refine ((iha G g ks T R hn).2.1 ha e _ kx (fun l e1 => bR ((finL a l e1).bind fun ds => (bi f ds).map (.ok · e1)) k' kx') kx' (fun l e1 => ?_) hx).trans ?_
    · rw [fFins_eq hn a ha oa, bR_bind]
      congr 1
      funext ds
      rw [biF_eq, bR_map]
      congr 1
      funext d
      exact hk d e1
    · refine (bR_lst _ _ k' kx' _ fun x e => ?_).symm
      cases x <;> rfl
  | isi f a iha =>
    intro G g ks T R hn
    refine ⟨fun h e k kx k' kx' hk hx => ?_, fun h => by simp [ok] at h, fun _ z => by cases z⟩
    simp only [ok, Bool.and_eq_true, Bool.true_and] at h
    obtain ⟨ha, oa⟩ := h
    simp only [F, ev, bR_bnd]
    refine (iha G g ks T R hn).1 ha e _ kx _ kx' (fun x e1 => ?_) hx
    rw [fFin_eq hn ha oa, bR_bind]
    congr 1
    funext x
    rw [biX_eq, bR_map]
    congr 1
    funext d
    exact hk d e1
  | lrng b a iha =>
    intro G g ks T R hn
    refine ⟨fun h e k kx k' kx' hk hx => ?_, fun h => by simp [ok] at h, fun _ z => by cases z⟩
    simp only [ok, Bool.and_eq_true, Bool.true_and] at h
    obtain ⟨ha, na⟩ := h
    simp only [F, ev]
    refine ((iha G g ks T R hn).2.1 ha e _ kx (fun l e1 => bR ((rngOf l).bind fun p => if (p.2 - p.1).toNat ≤ lim then some (.ok (if b then .tup (rangeD p.1 (p.2 - p.1).toNat) else .lst (rangeD p.1 (p.2 - p.1).toNat)) e1) else none) k' kx') kx' (fun l e1 => ?_) hx).trans ?_
    · show X.lrg b l _ = _
      unfold X.lrg
      rw [cO_eq, bR_bind]
      congr 1
      funext p
      by_cases hq : (p.2 - p.1).toNat ≤ lim
      · rw [if_pos hq, if_pos hq, fDL_eq]
        cases b <;> exact hk _ e1
      · rw [if_neg hq, if_neg hq]
        rfl
    · refine (bR_lst _ _ k' kx' _ fun x e => ?_).symm
      cases x <;> first | rfl | skip
      exact if_pos na
  | lc vs tg it cond elt iht ihi ihc ihe =>
    intro G g ks T R hn
    refine ⟨fun h e k kx k' kx' hk hx => ?_, fun h => by simp [ok] at h, fun _ z => by cases z⟩
    simp only [ok, Bool.and_eq_true, Bool.true_and, Bool.not_eq_true'] at h
    obtain ⟨⟨⟨⟨⟨⟨⟨hi, ht⟩, hc⟩, he⟩, le⟩, oi⟩, oc⟩, hv⟩ := h
    simp only [F, ev, bR_bnd]
    refine (ihi G g ks T R hn).1 hi e _ kx _ kx' (fun d e1 => ?_) hx
    rw [fIt_eq R.ks hn hi oi, bR_bind]
    congr 1
    funext ds
    rw [bR_bnd0]
    refine fLc_eq (fun x e2 kk kk' hkk => ?_) ds e1 _ _ fun l e6 => lcEnd_eq hn hv e1 k k' kx' hk l e6
    refine (fWipe_eq hn vs hv e2 _ (fun e2 => bR0 ((asgT G.ks tg x e2).bind fun e3 => bnd0 (ev cond G e3) fun t e4 => (finT cond t e4).bind fun t => if t then bnd0 (ev elt G e4) fun y e5 => if isLoc elt then none else some (.ok (some y) e5) else some (.ok none e4)) kk') fun e2 => ?_).trans rfl
    refine ((FT_ok (info := t.info) (al := t.al) R.ks hn tg).1 ht x e2 _ (fun e3 => bR0 (bnd0 (ev cond G e3) fun t e4 => (finT cond t e4).bind fun t => if t then bnd0 (ev elt G e4) fun y e5 => if isLoc elt then none else some (.ok (some y) e5) else some (.ok none e4)) kk') fun e3 => ?_).trans (bR0_bind _ _ _).symm
    rw [bR0_bnd0, ← bR_none]
    refine (ihc G g ks T R hn).1 hc e3 _ X.noX _ _ (fun t' e4 => ?_) (fun _ _ => rfl)
    rw [fFin_eq hn hc oc, bR0_bind, finT_elim]
    congr 1
    funext t'
    rw [fTr_eq]
    congr 1
    funext b'
    cases b' with
    | false => exact hkk none e4
    | true =>
      simp only [if_true, le, Bool.false_eq_true, if_false]
      rw [bR0_bnd0, ← bR_none]
      exact (ihe G g ks T R hn).1 he e4 _ X.noX _ _ (fun y e5 => hkk _ e5) (fun _ _ => rfl)
  | lc2 vs vs1 tg it cond tg1 it1 cond1 elt iht ihi ihc iht1 ihi1 ihc1 ihe =>
    intro G g ks T R hn
    refine ⟨fun h e k kx k' kx' hk hx => ?_, fun h => by simp [ok] at h, fun _ z => by cases z⟩
    simp only [ok, Bool.and_eq_true, Bool.true_and, Bool.not_eq_true'] at h
    obtain ⟨⟨⟨⟨⟨⟨⟨⟨⟨⟨⟨⟨⟨hi, ht⟩, hc⟩, ht1⟩, hi1⟩, hc1⟩, he⟩, le⟩, oi⟩, oc⟩, oi1⟩, oc1⟩, hv⟩, hv1⟩ := h
    simp only [F, ev, bR_bnd]
    refine (ihi G g ks T R hn).1 hi e _ kx _ kx' (fun d e1 => ?_) hx
    rw [fIt_eq R.ks hn hi oi, bR_bind]
    congr 1
    funext ds
    rw [bR_bnd0]
    refine fLc2_eq (fun x e2 kk kk' hkk => ?_) ds e1 _ _ fun l e6 => lcEnd_eq hn hv e1 k k' kx' hk l e6
    refine (fWipe_eq hn vs hv e2 _ (fun e2 => bR0 ((asgT G.ks tg x e2).bind fun e3 => bnd0 (ev cond G e3) fun t e4 => (finT cond t e4).bind fun t => if t then
        bnd0 (ev it1 G e4) fun d1 e5 => (itemsOf G.ks it1 d1 e5).bind fun ds1 =>
          lcLoop (fun x e6 => (asgT G.ks tg1 x (wipeE e6 vs1)).bind fun e7 => bnd0 (ev cond1 G e7) fun t e8 => (finT cond1 t e8).bind fun t => if t then bnd0 (ev elt G e8) fun y e9 => if isLoc elt then none else some (.ok (some y) e9) else some (.ok none e8)) ds1 e5
      else some (.ok [] e4)) kk') fun e2 => ?_).trans rfl
    refine ((FT_ok (info := t.info) (al := t.al) R.ks hn tg).1 ht x e2 _ (fun e3 => bR0 (bnd0 (ev cond G e3) fun t e4 => (finT cond t e4).bind fun t => if t then
        bnd0 (ev it1 G e4) fun d1 e5 => (itemsOf G.ks it1 d1 e5).bind fun ds1 =>
          lcLoop (fun x e6 => (asgT G.ks tg1 x (wipeE e6 vs1)).bind fun e7 => bnd0 (ev cond1 G e7) fun t e8 => (finT cond1 t e8).bind fun t => if t then bnd0 (ev elt G e8) fun y e9 => if isLoc elt then none else some (.ok (some y) e9) else some (.ok none e8)) ds1 e5
      else some (.ok [] e4)) kk') fun e3 => ?_).trans (bR0_bind _ _ _).symm
    rw [bR0_bnd0, ← bR_none]
    refine (ihc G g ks T R hn).1 hc e3 _ X.noX _ _ (fun t' e4 => ?_) (fun _ _ => rfl)
    rw [fFin_eq hn hc oc, bR0_bind, finT_elim]
    congr 1
    funext t'
    rw [fTr_eq]
    congr 1
    funext b'
    cases b' with
    | false => exact hkk [] e4
    | true =>
      simp only [if_true]
      rw [bR0_bnd0, ← bR_none]
      refine (ihi1 G g ks T R hn).1 hi1 e4 _ X.noX _ _ (fun d1 e5 => ?_) (fun _ _ => rfl)
      rw [fIt_eq R.ks hn hi1 oi1, bR0_bind]
      congr 1
      funext ds1
      refine fLc_eq (fun x e2 kk kk' hkk => ?_) ds1 e5 _ _ hkk
      refine (fWipe_eq hn vs1 hv1 e2 _ (fun e2 => bR0 ((asgT G.ks tg1 x e2).bind fun e3 => bnd0 (ev cond1 G e3) fun t e4 => (finT cond1 t e4).bind fun t => if t then bnd0 (ev elt G e4) fun y e5 => if isLoc elt then none else some (.ok (some y) e5) else some (.ok none e4)) kk') fun e2 => ?_).trans rfl
      refine ((FT_ok (info := t.info) (al := t.al) R.ks hn tg1).1 ht1 x e2 _ (fun e3 => bR0 (bnd0 (ev cond1 G e3) fun t e4 => (finT cond1 t e4).bind fun t => if t then bnd0 (ev elt G e4) fun y e5 => if isLoc elt then none else some (.ok (some y) e5) else some (.ok none e4)) kk') fun e3 => ?_).trans (bR0_bind _ _ _).symm
      rw [bR0_bnd0, ← bR_none]
      refine (ihc1 G g ks T R hn).1 hc1 e3 _ X.noX _ _ (fun t' e4 => ?_) (fun _ _ => rfl)
      rw [fFin_eq hn hc1 oc1, bR0_bind, finT_elim]
      congr 1
      funext t'
      rw [fTr_eq]
      congr 1
      funext b'
      cases b' with
      | false => exact hkk none e4
      | true =>
        simp only [if_true, le, Bool.false_eq_true, if_false]
        rw [bR0_bnd0, ← bR_none]
        exact (ihe G g ks T R hn).1 he e4 _ X.noX _ _ (fun y e5 => hkk _ e5) (fun _ _ => rfl)
  | fld i f =>
    intro G g ks T R hn
    refine ⟨fun h e k kx k' kx' hk hx => ?_, fun h => by simp [ok] at h, fun _ z => by cases z⟩
    simp only [F, ev, R.ex]
    show cO g.ex _ = _
    cases g.ex with
    | none => rfl
    | some p =>
      obtain ⟨j, fs⟩ := p
      show (if i = j then _ else none) = bR (if i = j then (fs.lookup f).map (.ok · (e.l ks.length)) else none) k' kx'
      by_cases hij : i = j
      · rw [if_pos hij, if_pos hij, cO_eq, bR_map]
        congr 1
        funext d
        exact hk d e
      · rw [if_neg hij, if_neg hij]; rfl
  | lamcall f b ihb =>
    intro G g ks T R hn
    refine ⟨fun h e k kx k' kx' hk hx => ?_, fun h => by simp [ok] at h, fun _ z => by cases z⟩
    simp only [ok, Bool.and_eq_true, Bool.true_and, Bool.not_eq_true'] at h
    obtain ⟨⟨hb, lb⟩, haf⟩ := h
    have bl : (brwd ks).length = ks.length := by unfold brwd; simp
    have ih := (ihb { G with ks := brwd G.ks } g (brwd ks) ⟨T.tab0, T.tab1, T.info, T.sub, T.xin, T.wf⟩ ⟨by show brwd G.ks = _; rw [R.ks], R.act, R.ex⟩ (by rw [bl]; exact hn)).1 hb
    rw [bl] at ih
    simp only [F, ev]
    have fin : ∀ (a : Exn ⊕ PB.D), t.tab f (some a) [] (fun d _ => k d e) (fun _ _ => none) = bR (match G.cf f (some a) [] with
        | some (.ok d _) => some (.ok d (e.l ks.length))
        | _ => none) k' kx' := fun a => by
      rw [T.tab1 f haf]
      cases G.cf f (some a) [] with
      | none => rfl
      | some r => cases r with
        | ok d o => exact hk d e
        | xc x o => rfl
    refine (ih e _ _ (fun d _ => bR (match G.cf f (some (.inr d)) [] with
        | some (.ok d _) => some (.ok d (e.l ks.length))
        | _ => none) k' kx') (fun x _ => bR (match G.cf f (some (.inl x)) [] with
        | some (.ok d _) => some (.ok d (e.l ks.length))
        | _ => none) k' kx') (fun d _ => fin (.inr d)) fun x _ => fin (.inl x)).trans ?_
    cases ev b { G with ks := brwd G.ks } (e.l ks.length) with
    | none => rfl
    | some r =>
      simp only [lb, Bool.false_eq_true, if_false]
      cases r <;> rfl
  | callv i =>
    intro G g ks T R hn
    refine ⟨fun h e k kx k' kx' hk hx => ?_, fun h => by simp [ok] at h, fun _ z => by cases z⟩
    simp only [F, ev, R.act]
    show cO g.act _ = _
    cases g.act with
    | none => rfl
    | some s => cases s with
      | inl x => exact hx x e
      | inr d => exact hk d e
  | _ =>
    intro G g ks T R hn
    exact ⟨fun h => by simp [ok] at h, fun h => by simp [ok] at h, fun _ z => by cases z⟩
end
end PB
set_option maxHeartbeats 4000000
/-! Jl: statements, defs, programs. -/
namespace PB
noncomputable section
open PySem
theorem oR_outB (m : Option (R D)) (f : D → En → Option Out) (K : KE) : oR (outB m f) K = bR m (fun a e => oR (f a e) K) K.xc := by
  cases m with
  | none => rfl
  | some r => cases r <;> rfl
theorem oR_bind {α : Type} (o : Option α) (f : α → Option Out) (K : KE) : oR (o.bind f) K = o.elim none (fun a => oR (f a) K) := by cases o <;> rfl
theorem oR_map {α : Type} (o : Option α) (f : α → Out) (K : KE) : oR (o.map f) K = o.elim none (fun a => oR (some (f a)) K) := by cases o <;> rfl
theorem oR_mapnx (o : Option En) (K : KE) : oR (o.map .nx) K = o.elim none K.nx := by cases o <;> rfl
theorem stK_eq {ks : List Kd} {G : Gx} (hk : G.ks = ks) (hn : ks.length ≤ nSl) {i : Nat} (h : (kIs ks i .shr || kIs ks i .own) = true) (d : D) (e : Fr) (k : Fr → Om) (k' : En → Om) (hkk : ∀ e, k e = k' (e.l ks.length)) :
    stK ks i d e k = (setK G.ks i d (e.l ks.length)).elim none k' := by
  unfold stK
  rcases (Bool.or_eq_true _ _).mp h with h | h
  · obtain ⟨h1, h2⟩ := lt_ks h
    rw [if_neg (by rw [h1]; simp), hk]
    unfold setK
    rw [h1]
    exact slot_s i _ e _ k k' h2 hn hkk
  · obtain ⟨h1, h2⟩ := lt_ks h
    rw [if_pos h1, hk]
    unfold setK
    rw [h1]
    cases d <;> first | rfl | exact slot_s i _ e _ k k' h2 hn hkk
theorem oset_eq {ks : List Kd} {G : Gx} (hk : G.ks = ks) (hn : ks.length ≤ nSl) {i : Nat} (h : kIs ks i .own = true) (d : D) (e : Fr) (k : Fr → Om) (k' : En → Om) (hkk : ∀ e, k e = k' (e.l ks.length)) :
    X.oset (slot i).s d e k = (setK G.ks i d (e.l ks.length)).elim none k' := by
  have := stK_eq hk hn (i := i) (by rw [h, Bool.or_true]) d e k k' hkk
  unfold stK at this
  rwa [if_pos (lt_ks h).1] at this
theorem fold_while {n : Nat} {c : X} {b : XS} {lc : Lc} {g : Gf} {K : KS} {K' : KE} {t : En → Option (R D)} {tf : D → En → Option Bool} {bb : En → Option Out} (hK : KR n K K') (hc : SXa n g t c)
    (hf : ∀ d e k, fFin lc d e (fun d => fTr d k) = (tf d (e.l n)).elim none k) (hb : SSt n g bb b) : ∀ (f : Nat) (e : Fr), Nat.rec (motive := fun _ => Fr → Om) (fun _ => none) (fun _ ih e => X.whlB c b lc g K ih e) f e = oR (whileE t tf bb f (e.l n)) K' := by
  intro f
  induction f with
  | zero => intro e; rfl
  | succ f ih =>
    intro e
    show X.whlB c b lc g K _ e = _
    unfold X.whlB
    simp only [whileE, oR_outB]
    refine hc e _ _ _ _ (fun d e1 => ?_) hK.xc
    rw [hf, oR_bind]
    congr 1
    funext tt
    cases tt with
    | false => exact hK.nx e1
    | true =>
      have hKR : KR n { K with nx := fun e => Nat.rec (motive := fun _ => Fr → Om) (fun _ => none) (fun _ ih e => X.whlB c b lc g K ih e) f e, ct := fun e => Nat.rec (motive := fun _ => Fr → Om) (fun _ => none) (fun _ ih e => X.whlB c b lc g K ih e) f e, bk := K.nx } { K' with nx := fun e => oR (whileE t tf bb f e) K', ct := fun e => oR (whileE t tf bb f e) K', bk := K'.nx } := ⟨ih, hK.rt, hK.nx, ih, hK.xc⟩
      refine (hb e1 _ _ hKR).trans ?_
      simp only [if_true]
      cases bb (e1.l n) with
      | none => rfl
      | some o => cases o <;> rfl
theorem fold_for {n : Nat} {tg : TG} {b : XS} {g : Gf} {K : KS} {K' : KE} {st : D → En → Option En} {bb : En → Option Out} (hK : KR n K K') (ht : ∀ d e k k', (∀ e, k e = k' (e.l n)) → tg d e k = (st d (e.l n)).elim none k') (hb : SSt n g bb b) :
    ∀ (ds : List D) (e : Fr), List.rec (motive := fun _ => Fr → Om) (fun e => K.nx e) (fun d _ ih e => X.frB tg b g K d ih e) ds e = oR (forE st bb ds (e.l n)) K' := by
  intro ds
  induction ds with
  | nil => intro e; exact hK.nx e
  | cons d r ih =>
    intro e
    show X.frB tg b g K d _ e = _
    unfold X.frB
    simp only [forE, oR_bind]
    refine ht d e _ _ fun e1 => ?_
    have hKR : KR n { K with nx := fun e => List.rec (motive := fun _ => Fr → Om) (fun e => K.nx e) (fun d _ ih e => X.frB tg b g K d ih e) r e, ct := fun e => List.rec (motive := fun _ => Fr → Om) (fun e => K.nx e) (fun d _ ih e => X.frB tg b g K d ih e) r e, bk := K.nx } { K' with nx := fun e => oR (forE st bb r e) K', ct := fun e => oR (forE st bb r e) K', bk := K'.nx } := ⟨ih, hK.rt, hK.nx, ih, hK.xc⟩
    refine (hb e1 _ _ hKR).trans ?_
    cases bb (e1.l n) with
    | none => rfl
    | some o => cases o <;> rfl
theorem oR_lst (m : Option (R D)) (f : List D → En → Option Out) (K : KE) (g : D → En → Option Out) (hg : ∀ x e, g x e = match x with | .lst l => f l e | _ => none) : oR (outB m g) K = bR (lR m) (fun l e => oR (f l e) K) K.xc := by
  cases m with
  | none => rfl
  | some r => cases r with
    | xc x e => rfl
    | ok a e => simp only [outB, hg]; cases a <;> rfl
theorem FS_ok (t : Tf) (c : C) : ∀ (G : Gx) (g : Gf) (ks : List Kd), TOk t G → GR ks G g → ks.length ≤ nSl → ok t.info t.al c .s ks = true → SSt ks.length g (exec c G) (FS t c ks) := by
  induction c with
  | seq a b iha ihb =>
    intro G g ks T R hn h e K K' hK
    simp only [ok, Bool.and_eq_true, Bool.true_and] at h
    simp only [FS, exec]
    have hKR : KR ks.length { K with nx := fun e1 => FS t b ks g e1 K } { K' with nx := fun e1 => oR (exec b G e1) K' } := ⟨fun e1 => ihb G g ks T R hn h.2 e1 K K' hK, hK.rt, hK.bk, hK.ct, hK.xc⟩
    refine (iha G g ks T R hn h.1 e _ _ hKR).trans ?_
    cases exec a G (e.l ks.length) with
    | none => rfl
    | some o => cases o <;> rfl
  | pass =>
    intro G g ks T R hn h e K K' hK
    exact hK.nx e
  | asg tg c ihg ihc =>
    intro G g ks T R hn h e K K' hK
    simp only [ok, Bool.and_eq_true, Bool.true_and, Bool.not_eq_true'] at h
    obtain ⟨⟨hc, lc⟩, ht⟩ := h
    simp only [FS, exec, oR_outB, lc, Bool.false_eq_true, if_false]
    have gen : ∀ (tt : TG) (o : D → En → Option Out), (∀ d e1, tt d e1 K.nx = oR (o d (e1.l ks.length)) K') → X.asg tt (F t c ks) g e K = bR (ev c G (e.l ks.length)) (fun d e1 => oR (o d e1) K') K'.xc := fun tt o ho => by
      exact (F_ok t c G g ks T R hn).1 hc e _ K.xc _ K'.xc ho hK.xc
    cases tg
    case loc i =>
      have hi : kIs ks i .own = true := ht
      refine gen _ _ fun d e1 => ?_
      show _ = oR (if G.ks[i]? = some Kd.own then (setK G.ks i d (e1.l ks.length)).map .nx else none) K'
      rw [if_pos (by rw [R.ks]; exact (lt_ks hi).1), oR_map]
      exact oset_eq R.ks hn hi d e1 K.nx _ hK.nx
    all_goals
      refine gen _ _ fun d e1 => ?_
      refine ((FT_ok (info := t.info) (al := t.al) R.ks hn _).1 ht d e1 K.nx K'.nx hK.nx).trans ?_
      exact (oR_mapnx (asgT G.ks _ d (e1.l ks.length)) K').symm
  | par i j a b iha ihb =>
    intro G g ks T R hn h e K K' hK
    simp only [ok, Bool.and_eq_true, Bool.true_and, Bool.not_eq_true'] at h
    obtain ⟨⟨⟨⟨⟨ha, hb⟩, la⟩, lb⟩, hi⟩, hj⟩ := h
    simp only [FS, exec, oR_outB, la, lb, Bool.or_self, Bool.false_eq_true, if_false]
    refine (F_ok t a G g ks T R hn).1 ha e _ K.xc _ K'.xc (fun x e1 => ?_) hK.xc
    refine (F_ok t b G g ks T R hn).1 hb e1 _ K.xc _ K'.xc (fun y e2 => ?_) hK.xc
    rw [oR_bind]
    refine stK_eq R.ks hn hi x e2 _ _ fun e3 => ?_
    rw [oR_map]
    exact stK_eq R.ks hn hj y e3 _ _ hK.nx
  | par3 i j l a b c iha ihb ihc =>
    intro G g ks T R hn h e K K' hK
    simp only [ok, Bool.and_eq_true, Bool.true_and, Bool.not_eq_true'] at h
    obtain ⟨⟨⟨⟨⟨⟨⟨⟨ha, hb⟩, hc⟩, la⟩, lb⟩, lc⟩, hi⟩, hj⟩, hl⟩ := h
    simp only [FS, exec, oR_outB, la, lb, lc, Bool.or_self, Bool.false_eq_true, if_false]
    refine (F_ok t a G g ks T R hn).1 ha e _ K.xc _ K'.xc (fun x e1 => ?_) hK.xc
    refine (F_ok t b G g ks T R hn).1 hb e1 _ K.xc _ K'.xc (fun y e2 => ?_) hK.xc
    refine (F_ok t c G g ks T R hn).1 hc e2 _ K.xc _ K'.xc (fun z e3 => ?_) hK.xc
    rw [oR_bind]
    refine stK_eq R.ks hn hi x e3 _ _ fun e4 => ?_
    rw [oR_bind]
    refine stK_eq R.ks hn hj y e4 _ _ fun e5 => ?_
    rw [oR_map]
    exact stK_eq R.ks hn hl z e5 _ _ hK.nx
  | drop c ihc =>
    intro G g ks T R hn h e K K' hK
    simp only [ok, Bool.and_eq_true, Bool.true_and, Bool.not_eq_true'] at h
    simp only [FS, exec, oR_outB]
    exact (F_ok t c G g ks T R hn).1 h e _ K.xc _ K'.xc (fun x e1 => hK.nx e1) hK.xc
  | ret c ihc =>
    intro G g ks T R hn h e K K' hK
    simp only [ok, Bool.and_eq_true, Bool.true_and, Bool.not_eq_true'] at h
    simp only [FS, exec, oR_outB, h.2, Bool.false_eq_true, if_false]
    exact (F_ok t c G g ks T R hn).1 h.1 e _ K.xc _ K'.xc (fun x e1 => hK.rt x e1) hK.xc
  | retN =>
    intro G g ks T R hn h e K K' hK
    exact hK.rt .non e
  | retO i =>
    intro G g ks T R hn h e K K' hK
    have hi : kIs ks i .own = true := by simpa [ok] using h
    obtain ⟨h1, h2⟩ := lt_ks hi
    simp only [FS, exec, R.ks]
    rw [if_pos h1, oR_map]
    refine (fRd_eq hn h2 e _).trans ?_
    congr 1
    funext d
    exact slot_s i _ e none _ (fun e1 => K'.rt d e1) h2 hn fun e1 => hK.rt d e1
  | ife c a b ihc iha ihb =>
    intro G g ks T R hn h e K K' hK
    simp only [ok, Bool.and_eq_true, Bool.true_and, Bool.not_eq_true'] at h
    obtain ⟨⟨⟨hc, ha⟩, hb⟩, oc⟩ := h
    simp only [FS, exec, oR_outB]
    refine (F_ok t c G g ks T R hn).1 hc e _ K.xc _ K'.xc (fun x e1 => ?_) hK.xc
    rw [fFin_eq hn hc oc, oR_bind, finT_elim]
    congr 1
    funext x
    rw [fTr_eq]
    congr 1
    funext b'
    cases b' with
    | true => exact iha G g ks T R hn ha e1 K K' hK
    | false => exact ihb G g ks T R hn hb e1 K K' hK
  | whl c b ihc ihb =>
    intro G g ks T R hn h e K K' hK
    simp only [ok, Bool.and_eq_true, Bool.true_and, Bool.not_eq_true'] at h
    obtain ⟨⟨hc, hb⟩, oc⟩ := h
    simp only [FS, exec, ← T.wf]
    refine fold_while hK ((F_ok t c G g ks T R hn).1 hc) (fun d e k => ?_) (ihb G g ks T R hn hb) t.wf e
    rw [fFin_eq hn hc oc, finT_elim]
    congr 1
    funext x
    exact fTr_eq x k
  | fr tg it b ihg ihi ihb =>
    intro G g ks T R hn h e K K' hK
    simp only [ok, Bool.and_eq_true, Bool.true_and, Bool.not_eq_true'] at h
    obtain ⟨⟨⟨ht, hi⟩, hb⟩, oi⟩ := h
    simp only [FS, exec, oR_outB]
    refine (F_ok t it G g ks T R hn).1 hi e _ K.xc _ K'.xc (fun d e1 => ?_) hK.xc
    rw [fIt_eq R.ks hn hi oi, oR_bind]
    congr 1
    funext ds
    exact fold_for hK ((FT_ok (info := t.info) (al := t.al) R.ks hn tg).1 ht) (ihb G g ks T R hn hb) ds e1
  | brk =>
    intro G g ks T R hn h e K K' hK
    exact hK.bk e
  | cnt =>
    intro G g ks T R hn h e K K' hK
    exact hK.ct e
  | raise cls a iha =>
    intro G g ks T R hn h e K K' hK
    simp only [ok, Bool.and_eq_true, Bool.true_and, Bool.not_eq_true'] at h
    simp only [FS, exec]
    refine ((F_ok t a G g ks T R hn).2.1 h.1 e _ K.xc (fun l e1 => oR ((flds0 (G.xin cls) l).map fun fs => .xc ⟨cls, fs⟩ e1) K') K'.xc (fun l e1 => ?_) hK.xc).trans ?_
    · rw [cO_eq, oR_map, T.xin]
      congr 1
      funext fs
      exact hK.xc _ e1
    · refine (oR_lst _ _ K' _ fun x e => ?_).symm
      cases x <;> first | rfl | skip
      exact if_pos h.2
  | app i c ihc =>
    intro G g ks T R hn h e K K' hK
    simp only [ok, Bool.and_eq_true, Bool.true_and, Bool.not_eq_true'] at h
    obtain ⟨⟨hc, lc⟩, hi⟩ := h
    obtain ⟨h1, h2⟩ := lt_ks hi
    simp only [FS, exec, lc, Bool.false_eq_true, if_false]
    refine (fRd_eq hn h2 e _).trans ?_
    cases hd : rdS (e.l ks.length) i with
    | none => rfl
    | some d =>
      cases d <;> first | rfl | skip
      rename_i l
      show F t c ks g e _ K.xc = oR (outB (ev c G (e.l ks.length)) _) K'
      rw [oR_outB]
      refine (F_ok t c G g ks T R hn).1 hc e _ K.xc _ K'.xc (fun d e1 => ?_) hK.xc
      refine (fRd_eq hn h2 e1 _).trans ?_
      cases rdS (e1.l ks.length) i with
      | none => rfl
      | some d' =>
        cases d' <;> first | rfl | skip
        rename_i l'
        show X.appE d (slot i) e1 K.nx l' = oR (if G.ks[i]? = some Kd.own && decide (l'.length < lim) then _ else none) K'
        unfold X.appE
        rw [fLen_eq, iff_eq, nble]
        by_cases hl : l'.length < lim
        · rw [if_pos (decide_eq_true (show Nat.succ l'.length ≤ 100000 from hl)), if_pos (by rw [R.ks, h1, decide_eq_true hl]; rfl), fCat_eq]
          exact slot_s i _ e1 _ K.nx K'.nx h2 hn hK.nx
        · rw [if_neg (by rw [decide_eq_false (show ¬ Nat.succ l'.length ≤ 100000 from hl)]; simp), if_neg (by rw [decide_eq_false hl]; simp)]
          rfl
  | stIx i k c ihk ihc =>
    intro G g ks T R hn h e K K' hK
    simp only [ok, Bool.and_eq_true, Bool.true_and, Bool.not_eq_true'] at h
    obtain ⟨⟨⟨⟨hc, hk⟩, lc⟩, lk⟩, hi⟩ := h
    obtain ⟨h1, h2⟩ := lt_ks hi
    simp only [FS, exec, lc, lk, Bool.or_self, Bool.false_eq_true, if_false]
    refine (fRd_eq hn h2 e _).trans ?_
    cases hd : rdS (e.l ks.length) i with
    | none => rfl
    | some d =>
      show F t c ks g e _ K.xc = oR (outB (ev c G (e.l ks.length)) _) K'
      rw [oR_outB]
      refine (F_ok t c G g ks T R hn).1 hc e _ K.xc _ K'.xc (fun d e1 => ?_) hK.xc
      rw [oR_outB]
      refine (F_ok t k G g ks T R hn).1 hk e1 _ K.xc _ K'.xc (fun z e2 => ?_) hK.xc
      refine (fRd_eq hn h2 e2 _).trans ?_
      have ho : G.ks[i]? = some Kd.own := by rw [R.ks, h1]
      cases rdS (e2.l ks.length) i with
      | none => rfl
      | some x =>
        cases x <;> first | (cases z <;> rfl) | skip
        · rename_i l
          show X.stL l z d _ = _
          rw [stL_eq]
          cases z <;> first | rfl | skip
          rename_i zz
          simp only [ho, if_true]
          rw [oR_map]
          congr 1
          funext j
          exact slot_s i _ e2 _ K.nx K'.nx h2 hn hK.nx
        · rename_i tt kvs
          show X.stK tt kvs z d _ = _
          rw [stKX_eq]
          have : ∀ o : Option Out, (match some (D.dic tt kvs), z with
              | some (D.lst l), .int z => if G.ks[i]? = some Kd.own then (ixOf l.length z).map fun j => Out.nx ((e2.l ks.length).set i (some (.lst (l.set j d)))) else none
              | some (D.dic t kvs), q => if G.ks[i]? = some Kd.own && isKey t q && decide (kvs.length < lim) then some (.nx ((e2.l ks.length).set i (some (.dic t (dPut kvs q d))))) else none
              | _, _ => none) = (if (isKey tt z && decide (kvs.length < lim)) = true then some (.nx ((e2.l ks.length).set i (some (.dic tt (dPut kvs z d))))) else none) := fun o => by
            rw [ho]
            simp
          refine Eq.trans ?_ (congrArg (oR · K') (this none)).symm
          by_cases hq : (isKey tt z && decide (kvs.length < lim)) = true
          · rw [if_pos hq, if_pos hq]
            exact slot_s i _ e2 _ K.nx K'.nx h2 hn hK.nx
          · rw [if_neg hq, if_neg hq]
            rfl
  | aug i o c ihc =>
    intro G g ks T R hn h e K K' hK
    simp only [ok, Bool.and_eq_true, Bool.true_and, Bool.not_eq_true'] at h
    obtain ⟨⟨hc, lc⟩, hi⟩ := h
    obtain ⟨h1, h2⟩ := lt_ks hi
    simp only [FS, exec, lc, Bool.false_eq_true, if_false]
    refine (fRd_eq hn h2 e _).trans ?_
    cases hd : rdS (e.l ks.length) i with
    | none => rfl
    | some x =>
      show F t c ks g e _ K.xc = oR (if G.ks[i]? = some Kd.shr then outB (ev c G (e.l ks.length)) _ else none) K'
      rw [if_pos (by rw [R.ks, h1]), oR_outB]
      refine (F_ok t c G g ks T R hn).1 hc e _ K.xc _ K'.xc (fun y e1 => ?_) hK.xc
      cases x <;> first | rfl | skip
      cases y <;> first | rfl | skip
      rename_i a b
      show opF o (.int a) (.int b) _ = _
      rw [opF_eq, oR_map]
      congr 1
      funext z
      exact slot_s i _ e1 _ K.nx K'.nx h2 hn hK.nx
  | tryx b h ihb ihh =>
    intro G g ks T R hn hh e K K' hK
    simp only [ok, Bool.and_eq_true, Bool.true_and, Bool.not_eq_true'] at hh
    simp only [FS, exec]
    have hKR : KR ks.length { K with xc := fun x e1 => FS t h ks { act := some (.inl x), ex := some (0, x.flds) } e1 K } { K' with xc := fun x e1 => oR (exec h { G with ex := some (0, x.flds), act := some (.inl x) } e1) K' } := by
      refine ⟨hK.nx, hK.rt, hK.bk, hK.ct, fun x e1 => ?_⟩
      exact ihh { G with ex := some (0, x.flds), act := some (.inl x) } { act := some (.inl x), ex := some (0, x.flds) } ks ⟨T.tab0, T.tab1, T.info, T.sub, T.xin, T.wf⟩ ⟨R.ks, rfl, rfl⟩ hn hh.2 e1 K K' hK
    refine (ihb G g ks T R hn hh.1 e _ _ hKR).trans ?_
    · cases exec b G (e.l ks.length) with
      | none => rfl
      | some o => cases o <;> rfl
  | hnil =>
    intro G g ks T R hn h e K K' hK
    simp only [FS, exec, R.act]
    show cO g.act _ = _
    cases g.act with
    | none => rfl
    | some s => cases s with
      | inl x => exact hK.xc x e
      | inr d => rfl
  | hcons cls i s r ihs ihr =>
    intro G g ks T R hn h e K K' hK
    simp only [ok, Bool.and_eq_true, Bool.true_and, Bool.not_eq_true', decide_eq_true_eq] at h
    obtain ⟨⟨hs, hr⟩, hi⟩ := h
    simp only [FS, exec, R.act]
    show cO g.act _ = _
    cases ha : g.act with
    | none => rfl
    | some a => cases a with
      | inr d => rfl
      | inl x =>
        show Bool.rec (motive := fun _ => Om) _ _ (t.sub x.cls cls) = oR (if G.sub x.cls cls = true then _ else _) K'
        rw [T.sub]
        cases G.sub x.cls cls with
        | false => exact ihr G g ks T R hn hr e K K' hK
        | true =>
          refine slot_s i _ e none _ (fun e1 => oR (exec s { G with ex := some (i, x.flds), act := none } e1) K') hi hn fun e1 => ?_
          exact ihs { G with ex := some (i, x.flds), act := none } { act := none, ex := some (i, x.flds) } ks ⟨T.tab0, T.tab1, T.info, T.sub, T.xin, T.wf⟩ ⟨R.ks, rfl, rfl⟩ hn hs e1 K K' hK
  | _ =>
    intro G g ks T R hn h
    simp [ok] at h
/-! ### defs -/
def outsX (d : DefI) (e : Fr) : List (Option D) := (List.range d.np).map fun i => if d.ks[i]? = some Kd.own then (slot i).g e else none
theorem outsX_eq (d : DefI) (hn : d.ks.length ≤ nSl) (e : Fr) : outsX d e = outsOf d.ks d.np (e.l d.ks.length) := by
  unfold outsX outsOf
  apply List.map_congr_left
  intro i _
  by_cases h : d.ks[i]? = some Kd.own
  · rw [if_pos h, if_pos h, slot_g i _ e (kIs_of h) hn]
  · rw [if_neg h, if_neg h]
/-- a def's continuation form -/
def FD (t : Tf) (d : DefI) : FX := X.defX (outsX d) ((List.range d.np).map fun i => (slot i).s) (FS t d.code d.ks)
theorem fr0_l (n : Nat) (h : n ≤ nSl) : X.fr0.l n = List.replicate n none := by
  have : ([none, none, none, none, none, none, none, none, none, none, none, none] : En) = List.replicate nSl none := rfl
  show ([none, none, none, none, none, none, none, none, none, none, none, none] : En).take n = _
  rw [this, List.take_replicate, Nat.min_eq_left h]
def putAll (l : En) (j : Nat) : List D → En
  | [] => l
  | d :: ds => putAll (l.set j (some d)) (j + 1) ds
theorem fInit_eq {n : Nat} (hn : n ≤ nSl) (k : Fr → Om) (k' : En → Om) (hk : ∀ e, k e = k' (e.l n)) : ∀ (ds : List D) (j m : Nat) (e : Fr), j + m ≤ n →
    X.fInit ((List.range' j m).map fun i => (slot i).s) ds e k = if ds.length = m then k' (putAll (e.l n) j ds) else none
  | [], j, 0, e, hj => by
    show k e = _
    rw [hk]
    rfl
  | [], j, m + 1, e, hj => by
    rw [if_neg (by simp)]
    rfl
  | d :: ds, j, 0, e, hj => by
    rw [if_neg (by simp)]
    rfl
  | d :: ds, j, m + 1, e, hj => by
    refine (slot_s j n e (some d) (fun e' => X.fInit ((List.range' (j + 1) m).map fun i => (slot i).s) ds e' k) (fun l => if ds.length = m then k' (putAll l (j + 1) ds) else none) (by omega) hn fun e' => fInit_eq hn k k' hk ds (j + 1) m e' (by omega)).trans ?_
    simp only [List.length_cons, Nat.add_right_cancel_iff]
    rfl
theorem putAll_eq : ∀ (ds : List D) (pre : En) (r : Nat), ds.length ≤ r → putAll (pre ++ List.replicate r none) pre.length ds = pre ++ (ds.map some ++ List.replicate (r - ds.length) none)
  | [], pre, r, h => by simp [putAll]
  | d :: ds, pre, r, h => by
    obtain ⟨q, rfl⟩ : ∃ q, r = q + 1 := ⟨r - 1, by simp at h; omega⟩
    have hset : (pre ++ List.replicate (q + 1) none : En).set pre.length (some d) = (pre ++ [some d]) ++ List.replicate q none := by
      rw [List.set_append, if_neg (by omega), Nat.sub_self, List.replicate_succ, List.set_cons_zero, List.append_assoc]
      rfl
    show putAll (_ : En) (pre.length + 1) ds = _
    rw [hset]
    have := putAll_eq ds (pre ++ [some d]) q (by simp at h; omega)
    rw [List.length_append, List.length_singleton] at this
    rw [this]
    have : q + 1 - (d :: ds).length = q - ds.length := by simp only [List.length_cons]; omega
    rw [this]
    simp
/-- a body's run -/
def runB (T : Tb) (n : Nat) (d : DefI) (act : Act) (kd : D → List (Option D) → Om) (kx : Exn → List (Option D) → Om) (l : En) : Om := oR (exec d.code { ks := d.ks, cf := callN T n, info := fun g => match T.defs[g]? with | some d => d.ks.take d.np | none => [], sub := T.sub, xin := T.xin, wf := T.wf, act := act, ex := none } l)
        { nx := fun e => kd .non (outsOf d.ks d.np e), rt := fun v e => kd v (outsOf d.ks d.np e), bk := fun _ => none, ct := fun _ => none, xc := fun x e => kx x (outsOf d.ks d.np e) }
/-- the continuation form of a def and its evaluation -/
theorem FD_ok (T : Tb) (n f : Nat) (d : DefI) (hd : T.defs[f]? = some d) (t : Tf) (hinfo : t.info = fun g => match T.defs[g]? with | some d => d.ks.take d.np | none => [])
    (hsub : t.sub = T.sub) (hxin : t.xin = T.xin) (hwf : t.wf = T.wf) (h0 : ∀ f, t.al f = true → ∀ ds kd kx, t.tab f none ds kd kx = coR (callN T n f none ds) kd kx) (h1 : ∀ f, t.al f = true → ∀ a kd kx, t.tab f (some a) [] kd kx = coR (callN T n f (some a) []) kd kx)
    (hn : d.ks.length ≤ nSl) (hp : d.np ≤ d.ks.length) (hok : ok t.info t.al d.code .s d.ks = true) :
    (∀ ds kd kx, FD t d none ds kd kx = coR (callN T (n + 1) f none ds) kd kx) ∧ (∀ a kd kx, FD t d (some a) [] kd kx = coR (callN T (n + 1) f (some a) []) kd kx) := by
  have body : ∀ (act : Act) (e : Fr) (kd : D → List (Option D) → Om) (kx : Exn → List (Option D) → Om), FS t d.code d.ks ⟨act, none⟩ e (X.defE (outsX d) kd kx) =
      runB T n d act kd kx (e.l d.ks.length) := fun act e kd kx => by
    refine FS_ok t d.code _ ⟨act, none⟩ d.ks ⟨h0, h1, hinfo, hsub, hxin, hwf⟩ ⟨rfl, rfl, rfl⟩ hn hok e _ _ ⟨fun e => ?_, fun v e => ?_, fun e => rfl, fun e => rfl, fun x e => ?_⟩
    · show kd .non (outsX d e) = _
      rw [outsX_eq d hn]
    · show kd v (outsX d e) = _
      rw [outsX_eq d hn]
    · show kx x (outsX d e) = _
      rw [outsX_eq d hn]
  have cf : ∀ (act : Act) (ds : List D) (kd : D → List (Option D) → Om) (kx : Exn → List (Option D) → Om), (act.isNone && decide (ds.length ≠ d.np)) = false →
      coR (callN T (n + 1) f act ds) kd kx = runB T n d act kd kx (ds.map some ++ List.replicate (d.ks.length - ds.length) none) := fun act ds kd kx h => by
    rw [callN]
    simp only [hd, h, Bool.false_eq_true, if_false, runB]
    cases exec d.code { ks := d.ks, cf := callN T n, info := fun g => match T.defs[g]? with | some d => d.ks.take d.np | none => [], sub := T.sub, xin := T.xin, wf := T.wf, act := act, ex := none } (ds.map some ++ List.replicate (d.ks.length - ds.length) none) with
    | none => rfl
    | some o => cases o <;> rfl
  refine ⟨fun ds kd kx => ?_, fun a kd kx => ?_⟩
  · show X.fInit _ ds X.fr0 _ = _
    rw [List.range_eq_range']
    refine (fInit_eq hn _ _ (fun e => body none e kd kx) ds 0 d.np X.fr0 (by omega)).trans ?_
    by_cases hl : ds.length = d.np
    · rw [if_pos hl, cf none ds kd kx (by simp [hl]), fr0_l _ hn]
      congr 2
      have := putAll_eq ds [] d.ks.length (by omega)
      simpa using this
    · rw [if_neg hl, callN]
      simp [hd, hl]
      rfl
  · show FS t d.code d.ks ⟨some a, none⟩ X.fr0 _ = _
    rw [body, cf (some a) [] kd kx rfl, fr0_l _ hn]
    simp
/-- a program's continuation forms: by place, with the height of each in the order of calls -/
structure Xp where
  T : Tb
  xs : Nat → FX
  lv : Nat → Option Nat
def Xp.al (p : Xp) (l g : Nat) : Bool := match p.lv g with
  | some m => decide (m < l)
  | none => false
def infoT (T : Tb) (g : Nat) : List Kd := match T.defs[g]? with
  | some d => d.ks.take d.np
  | none => []
def Xp.tf (p : Xp) (l : Nat) : Tf := { tab := p.xs, al := p.al l, info := infoT p.T, sub := p.T.sub, xin := p.T.xin, wf := p.T.wf }
def Xp.okB (p : Xp) (f l : Nat) : Bool := match p.T.defs[f]? with
  | some d => decide (d.ks.length ≤ nSl) && decide (d.np ≤ d.ks.length) && ok (infoT p.T) (p.al l) d.code .s d.ks
  | none => false
def Xp.Ok (p : Xp) : Prop := ∀ f l, p.lv f = some l → p.okB f l = true ∧ ∀ d, p.T.defs[f]? = some d → p.xs f = FD (p.tf l) d
theorem Xp.run (p : Xp) (h : p.Ok) : ∀ (l f : Nat), p.lv f = some l → ∀ m, (∀ ds kd kx, p.xs f none ds kd kx = coR (callN p.T (m + l + 1) f none ds) kd kx) ∧ (∀ a kd kx, p.xs f (some a) [] kd kx = coR (callN p.T (m + l + 1) f (some a) []) kd kx) := by
  intro l
  induction l using Nat.strongRecOn with
  | ind l ih =>
    intro f hf m
    obtain ⟨h1, h2⟩ := h f l hf
    unfold Xp.okB at h1
    cases hd : p.T.defs[f]? with
    | none => rw [hd] at h1; cases h1
    | some d =>
      rw [hd] at h1
      simp only [Bool.and_eq_true, decide_eq_true_eq] at h1
      have call : ∀ g, (p.tf l).al g = true → ∃ q, p.lv g = some q ∧ q < l := fun g hg => by
        have hg' : (match p.lv g with | some m => decide (m < l) | none => false) = true := hg
        cases hq : p.lv g with
        | none => rw [hq] at hg'; cases hg'
        | some q => rw [hq] at hg'; exact ⟨q, rfl, of_decide_eq_true hg'⟩
      rw [h2 d hd]
      refine FD_ok p.T (m + l) f d hd (p.tf l) rfl rfl rfl rfl (fun g hg => ?_) (fun g hg => ?_) h1.1.1 h1.1.2 h1.2
      · obtain ⟨q, hq, hl⟩ := call g hg
        have := (ih q hl g hq (m + (l - q - 1))).1
        have e : m + (l - q - 1) + q + 1 = m + l := by omega
        rw [e] at this
        exact this
      · obtain ⟨q, hq, hl⟩ := call g hg
        have := (ih q hl g hq (m + (l - q - 1))).2
        have e : m + (l - q - 1) + q + 1 = m + l := by omega
        rw [e] at this
        exact this
end
end PB
namespace K90
noncomputable section
open PySem PB
def dead : FX := fun _ _ _ _ => none
def x_is_whole : FX := X.defX (fun e => [none]) [z0] (X.ret (X.and (X.isi .isinstInt (X.var Fr.s0) .val) (X.not (X.isi .isinstBool (X.var Fr.s0) .val) .val)))
def x_is_count : FX := X.defX (fun e => [none]) [z0] (X.ret (X.and (X.call x_is_whole [none] [none] (X.cons (X.var Fr.s0) X.nil)) (X.opv (nOp .ge geN) (X.var Fr.s0) (X.cst (.int (.ofNat 0))))))
def x_need_count : FX := X.defX (fun e => [none, none]) [z0, z1] (X.ife (X.not (X.call x_is_count [none] [none] (X.cons (X.var Fr.s1) X.nil)) .val) (X.raise 1 ["what", "number"] (X.cons (X.var Fr.s0) (X.cons (X.var Fr.s1) X.nil))) X.pass .val)
def x_is_bit : FX := X.defX (fun e => [none]) [z0] (X.ret (X.and (X.call x_is_count [none] [none] (X.cons (X.var Fr.s0) X.nil)) (X.opv (nOp .lt ltN) (X.var Fr.s0) (X.cst (.int (.ofNat 2))))))
def x_is_function : FX := X.defX (fun e => [none]) [z0] (X.seq (X.ife (X.or (X.not (X.isi .isinstTuple (X.var Fr.s0) .val) .val) (X.not (X.blt (X.biX .all) [.val] (X.cons (X.lc [z2] [(Fr.s2, z2)] (X.sset z2) (X.var Fr.s0) (X.cst (.bl true)) (X.call x_is_bit [none] [none] (X.cons (X.var Fr.s2) X.nil)) .val .val) X.nil)) .val)) (X.ret (X.cst (.bl false))) X.pass .val) (X.seq (X.asg (X.sset z1) (X.blt X.lenX [.val] (X.cons (X.var Fr.s0) X.nil))) (X.seq (X.whl (X.and (X.opv (nOp .gt gtN) (X.var Fr.s1) (X.cst (.int (.ofNat 1)))) (X.opv eqO (X.opv (nOp .mod modN) (X.var Fr.s1) (X.cst (.int (.ofNat 2)))) (X.cst (.int (.ofNat 0))))) (X.aug sl1 (nOp .fdiv fdivN) (X.cst (.int (.ofNat 2)))) .val 100000) (X.ret (X.opv eqO (X.var Fr.s1) (X.cst (.int (.ofNat 1))))))))
def x_need_function : FX := X.defX (fun e => [none]) [z0] (X.ife (X.not (X.call x_is_function [none] [none] (X.cons (X.var Fr.s0) X.nil)) .val) (X.raise 2 ["function"] (X.cons (X.var Fr.s0) X.nil)) X.pass .val)
def x_letters_in : FX := X.defX (fun e => [none]) [z0] (X.seq (X.par (X.sset z1) (X.sset z2) (X.blt X.lenX [.val] (X.cons (X.var Fr.s0) X.nil)) (X.cst (.int (.ofNat 0)))) (X.seq (X.whl (X.opv (nOp .gt gtN) (X.var Fr.s1) (X.cst (.int (.ofNat 1)))) (X.par (X.sset z1) (X.sset z2) (X.opv (nOp .fdiv fdivN) (X.var Fr.s1) (X.cst (.int (.ofNat 2)))) (X.opv addX (X.var Fr.s2) (X.cst (.int (.ofNat 1))))) .val 100000) (X.ret (X.var Fr.s2))))
def x_number_in : FX := X.defX (fun e => [none]) [z0] (X.ret (X.blt (X.biX .sum) [.val] (X.cons (X.lc [z1, z2] [(Fr.s1, z1), (Fr.s2, z2)] (X.ttup (X.tcons (X.sset z1) (X.tcons (X.sset z2) X.tnil))) (X.blt X.enuX [.val] (X.cons (X.var Fr.s0) X.nil)) (X.cst (.bl true)) (X.opv (nOp .shl shlN) (X.var Fr.s2) (X.var Fr.s1)) .val .val) X.nil)))
def x_row_in : FX := X.defX (fun e => [none, none]) [z0, z1] (X.ret (X.blt X.tupX [.val] (X.cons (X.lc [z2] [(Fr.s2, z2)] (X.sset z2) (X.blt X.rg1X [.val] (X.cons (X.var Fr.s0) X.nil)) (X.cst (.bl true)) (X.opv (nOp .band bandN) (X.opv (nOp .shr shrN) (X.var Fr.s1) (X.var Fr.s2)) (X.cst (.int (.ofNat 1)))) .val .val) X.nil)))
def x_is_bits : FX := X.defX (fun e => [none]) [z0] (X.ret (X.and (X.isi .isinstTuple (X.var Fr.s0) .val) (X.blt (X.biX .all) [.val] (X.cons (X.lc [z1] [(Fr.s1, z1)] (X.sset z1) (X.var Fr.s0) (X.cst (.bl true)) (X.call x_is_bit [none] [none] (X.cons (X.var Fr.s1) X.nil)) .val .val) X.nil))))
def x_need_row : FX := X.defX (fun e => [none, none]) [z0, z1] (X.ife (X.or (X.not (X.call x_is_bits [none] [none] (X.cons (X.var Fr.s1) X.nil)) .val) (X.opv neO (X.blt X.lenX [.val] (X.cons (X.var Fr.s1) X.nil)) (X.var Fr.s0))) (X.raise 3 ["row"] (X.cons (X.var Fr.s1) X.nil)) X.pass .val)
def x_open_in : FX := X.defX (fun e => [none]) [z0] (X.ret (X.lc [z1, z2] [(Fr.s1, z1), (Fr.s2, z2)] (X.ttup (X.tcons (X.sset z1) (X.tcons (X.sset z2) X.tnil))) (X.blt X.enuX [.val] (X.cons (X.var Fr.s0) X.nil)) (X.opv (slowOp .is) (X.var Fr.s2) (X.cst .non)) (X.var Fr.s1) .val .val))
def x_held_in : FX := X.defX (fun e => [none, none]) [z0, z1] (X.seq (X.asg (X.sset z2) (X.blt (X.biX .sum) [.val] (X.cons (X.lc [z4, z6] [(Fr.s4, z4), (Fr.s6, z6)] (X.ttup (X.tcons (X.sset z4) (X.tcons (X.sset z6) X.tnil))) (X.blt X.enuX [.val] (X.cons (X.var Fr.s1) X.nil)) (X.opv eqO (X.var Fr.s6) (X.cst (.int (.ofNat 1)))) (X.opv (nOp .shl shlN) (X.cst (.int (.ofNat 1))) (X.var Fr.s4)) .val .val) X.nil))) (X.seq (X.asg (X.sset z3) (X.lst (X.cons (X.var Fr.s2) X.nil))) (X.seq (X.fr (X.sset z4) (X.call x_open_in [none] [none] (X.cons (X.var Fr.s1) X.nil)) (X.asg (X.sset z3) (X.opv addX (X.var Fr.s3) (X.lc [z5] [(Fr.s5, z5)] (X.sset z5) (X.var Fr.s3) (X.cst (.bl true)) (X.opv addX (X.var Fr.s5) (X.opv (nOp .shl shlN) (X.cst (.int (.ofNat 1))) (X.var Fr.s4))) .val .val))) .val) (X.ret (X.blt X.tupX [.val] (X.cons (X.lc [z5] [(Fr.s5, z5)] (X.sset z5) (X.var Fr.s3) (X.cst (.bl true)) (X.idx (X.var Fr.s0) (X.var Fr.s5) .val) .val .val) X.nil))))))
def x_is_letter : FX := X.defX (fun e => [none, none]) [z0, z1] (X.ret (X.and (X.call x_is_count [none] [none] (X.cons (X.var Fr.s1) X.nil)) (X.opv (nOp .lt ltN) (X.var Fr.s1) (X.var Fr.s0))))
def x_with_bit : FX := X.defX (fun e => [none, none, none]) [z0, z1, z2] (X.ret (X.opv addX (X.opv addX (X.opv (nOp .mul mulN) (X.tup (X.cons (X.cst .non) X.nil)) (X.var Fr.s1)) (X.tup (X.cons (X.var Fr.s2) X.nil))) (X.opv (nOp .mul mulN) (X.tup (X.cons (X.cst .non) X.nil)) (X.opv (nOp .sub subN) (X.opv (nOp .sub subN) (X.var Fr.s0) (X.var Fr.s1)) (X.cst (.int (.ofNat 1)))))))
def x_fixed_in : FX := X.defX (fun e => [none, none, none]) [z0, z1, z2] (X.ret (X.call x_held_in [none, none] [none, none] (X.cons (X.var Fr.s0) (X.cons (X.call x_with_bit [none, none, none] [none, none, none] (X.cons (X.call x_letters_in [none] [none] (X.cons (X.var Fr.s0) X.nil)) (X.cons (X.var Fr.s1) (X.cons (X.var Fr.s2) X.nil)))) X.nil))))
def x_hung_in : FX := X.defX (fun e => [none]) [z0] (X.ret (X.lc [z1] [(Fr.s1, z1)] (X.sset z1) (X.blt X.rg1X [.val] (X.cons (X.call x_letters_in [none] [none] (X.cons (X.var Fr.s0) X.nil)) X.nil)) (X.opv neO (X.call x_fixed_in [none, none, none] [none, none, none] (X.cons (X.var Fr.s0) (X.cons (X.var Fr.s1) (X.cons (X.cst (.int (.ofNat 0))) X.nil)))) (X.call x_fixed_in [none, none, none] [none, none, none] (X.cons (X.var Fr.s0) (X.cons (X.var Fr.s1) (X.cons (X.cst (.int (.ofNat 1))) X.nil))))) (X.var Fr.s1) .val .val))
def x_hung_letters : FX := X.defX (fun e => [none]) [z0] (X.seq (X.drop (X.call x_need_function [none] [none] (X.cons (X.var Fr.s0) X.nil))) (X.ret (X.blt X.tupX [.val] (X.cons (X.call x_hung_in [none] [none] (X.cons (X.var Fr.s0) X.nil)) X.nil))))
def x_turned_in : FX := X.defX (fun e => [none, none]) [z0, z1] (X.ret (X.blt X.tupX [.val] (X.cons (X.lc [z2] [(Fr.s2, z2)] (X.sset z2) (X.blt X.rg1X [.val] (X.cons (X.blt X.lenX [.val] (X.cons (X.var Fr.s0) X.nil)) X.nil)) (X.cst (.bl true)) (X.idx (X.var Fr.s0) (X.opv (nOp .bxor bxorN) (X.var Fr.s2) (X.var Fr.s1)) .val) .val .val) X.nil)))
def x_flipped : FX := X.defX (fun e => [none]) [z0] (X.ret (X.blt X.tupX [.val] (X.cons (X.lc [z1] [(Fr.s1, z1)] (X.sset z1) (X.var Fr.s0) (X.cst (.bl true)) (X.opv (nOp .sub subN) (X.cst (.int (.ofNat 1))) (X.var Fr.s1)) .val .val) X.nil)))
def x_renamed_in : FX := X.defX (fun e => [none, none]) [z0, z1] (X.seq (X.par (X.sset z2) (X.oset z3) (X.blt X.lenX [.val] (X.cons (X.var Fr.s1) X.nil)) (X.opv (nOp .mul mulN) (X.lst (X.cons (X.cst (.int (.ofNat 0))) X.nil)) (X.blt X.lenX [.val] (X.cons (X.var Fr.s0) X.nil)))) (X.seq (X.fr (X.ttup (X.tcons (X.sset z4) (X.tcons (X.sset z5) X.tnil))) (X.blt X.enuX [.val] (X.cons (X.var Fr.s0) X.nil)) (X.stIx sl3 (X.blt (X.biX .sum) [.val] (X.cons (X.lc [z6] [(Fr.s6, z6)] (X.sset z6) (X.blt X.rg1X [.val] (X.cons (X.var Fr.s2) X.nil)) (X.opv (nOp .band bandN) (X.opv (nOp .shr shrN) (X.var Fr.s4) (X.var Fr.s6)) (X.cst (.int (.ofNat 1)))) (X.opv (nOp .shl shlN) (X.cst (.int (.ofNat 1))) (X.idx (X.var Fr.s1) (X.var Fr.s6) .val)) .val .val) X.nil)) (X.var Fr.s5)) .val) (X.ret (X.blt X.tupX [(.loc Fr.s3)] (X.cons (X.loc Fr.s3) X.nil)))))
def x_is_change_in : FX := X.defX (fun e => [none, none]) [z0, z1] (X.seq (X.ife (X.or (X.not (X.isi .isinstTuple (X.var Fr.s1) .val) .val) (X.or (X.opv neO (X.blt X.lenX [.val] (X.cons (X.var Fr.s1) X.nil)) (X.cst (.int (.ofNat 3)))) (X.not (X.call x_is_bit [none] [none] (X.cons (X.idx (X.var Fr.s1) (X.cst (.int (.ofNat 2))) .val) X.nil)) .val))) (X.ret (X.cst (.bl false))) X.pass .val) (X.seq (X.par (X.sset z2) (X.sset z3) (X.idx (X.var Fr.s1) (X.cst (.int (.ofNat 0))) .val) (X.idx (X.var Fr.s1) (X.cst (.int (.ofNat 1))) .val)) (X.seq (X.ife (X.or (X.not (X.isi .isinstTuple (X.var Fr.s2) .val) .val) (X.not (X.isi .isinstTuple (X.var Fr.s3) .val) .val)) (X.ret (X.cst (.bl false))) X.pass .val) (X.seq (X.ife (X.or (X.not (X.blt (X.biX .all) [.val] (X.cons (X.lc [z6] [(Fr.s6, z6)] (X.sset z6) (X.opv addX (X.var Fr.s2) (X.var Fr.s3)) (X.cst (.bl true)) (X.call x_is_letter [none, none] [none, none] (X.cons (X.var Fr.s0) (X.cons (X.var Fr.s6) X.nil))) .val .val) X.nil)) .val) (X.opv neO (X.blt (X.biX .sorted) [.val] (X.cons (X.var Fr.s2) X.nil)) (X.lrng false (X.cons (X.var Fr.s0) X.nil)))) (X.ret (X.cst (.bl false))) X.pass .val) (X.ret (X.blt (X.biX .all) [.val] (X.cons (X.lc [z4, z5] [(Fr.s4, z4), (Fr.s5, z5)] (X.ttup (X.tcons (X.sset z4) (X.tcons (X.sset z5) X.tnil))) (X.blt (X.biX .zip) [.val, .val] (X.cons (X.var Fr.s3) (X.cons (X.slc (X.var Fr.s3) (some (X.cst (.int (.ofNat 1)))) none .val) X.nil))) (X.cst (.bl true)) (X.opv (nOp .lt ltN) (X.var Fr.s4) (X.var Fr.s5)) .val .val) X.nil)))))))
def x_need_change : FX := X.defX (fun e => [none, none]) [z0, z1] (X.ife (X.not (X.call x_is_change_in [none, none] [none, none] (X.cons (X.var Fr.s0) (X.cons (X.var Fr.s1) X.nil))) .val) (X.raise 3 ["row"] (X.cons (X.var Fr.s1) X.nil)) X.pass .val)
def x_mask_of : FX := X.defX (fun e => [none]) [z0] (X.ret (X.blt (X.biX .sum) [.val] (X.cons (X.lc [z1] [(Fr.s1, z1)] (X.sset z1) (X.var Fr.s0) (X.cst (.bl true)) (X.opv (nOp .shl shlN) (X.cst (.int (.ofNat 1))) (X.var Fr.s1)) .val .val) X.nil)))
def x_changed_in : FX := X.defX (fun e => [none, none]) [z0, z1] (X.seq (X.asg (X.sset z2) (X.call x_turned_in [none, none] [none, none] (X.cons (X.call x_renamed_in [none, none] [none, none] (X.cons (X.var Fr.s0) (X.cons (X.idx (X.var Fr.s1) (X.cst (.int (.ofNat 0))) .val) X.nil))) (X.cons (X.call x_mask_of [none] [none] (X.cons (X.idx (X.var Fr.s1) (X.cst (.int (.ofNat 1))) .val) X.nil)) X.nil)))) (X.ret (X.ite (X.idx (X.var Fr.s1) (X.cst (.int (.ofNat 2))) .val) (X.call x_flipped [none] [none] (X.cons (X.var Fr.s2) X.nil)) (X.var Fr.s2) .val)))
def x_changed : FX := X.defX (fun e => [none, none]) [z0, z1] (X.seq (X.drop (X.call x_need_function [none] [none] (X.cons (X.var Fr.s0) X.nil))) (X.seq (X.drop (X.call x_need_change [none, none] [none, none] (X.cons (X.call x_letters_in [none] [none] (X.cons (X.var Fr.s0) X.nil)) (X.cons (X.var Fr.s1) X.nil)))) (X.ret (X.call x_changed_in [none, none] [none, none] (X.cons (X.var Fr.s0) (X.cons (X.var Fr.s1) X.nil))))))
def x_orders_of : FX := X.defX (fun e => [none]) [z0] (X.seq (X.asg (X.sset z1) (X.lst (X.cons (X.tup X.nil) X.nil))) (X.seq (X.fr (X.sset z2) (X.blt X.rg1X [.val] (X.cons (X.var Fr.s0) X.nil)) (X.asg (X.sset z1) (X.lc2 [z3, z4] [z4] [(Fr.s3, z3), (Fr.s4, z4)] (X.sset z3) (X.var Fr.s1) (X.cst (.bl true)) (X.sset z4) (X.blt X.rg1X [.val] (X.cons (X.var Fr.s0) X.nil)) (X.opv ninO (X.var Fr.s4) (X.var Fr.s3)) (X.opv addX (X.var Fr.s3) (X.tup (X.cons (X.var Fr.s4) X.nil))) .val .val .val .val)) .val) (X.ret (X.var Fr.s1))))
def x_lots_of : FX := X.defX (fun e => [none]) [z0] (X.seq (X.asg (X.sset z1) (X.lst (X.cons (X.tup X.nil) X.nil))) (X.seq (X.fr (X.sset z2) (X.blt X.rg1X [.val] (X.cons (X.var Fr.s0) X.nil)) (X.asg (X.sset z1) (X.opv addX (X.var Fr.s1) (X.lc [z3] [(Fr.s3, z3)] (X.sset z3) (X.var Fr.s1) (X.cst (.bl true)) (X.opv addX (X.var Fr.s3) (X.tup (X.cons (X.var Fr.s2) X.nil))) .val .val))) .val) (X.ret (X.blt (X.biX .sorted) [.val] (X.cons (X.var Fr.s1) X.nil)))))
def x_moved_in : FX := X.defX (fun e => [none, none, none]) [z0, z1, z2] (X.seq (X.asg (X.oset z3) (X.opv (nOp .mul mulN) (X.lst (X.cons (X.cst (.int (.ofNat 0))) X.nil)) (X.var Fr.s0))) (X.seq (X.fr (X.ttup (X.tcons (X.sset z4) (X.tcons (X.sset z5) X.tnil))) (X.blt X.enuX [.val] (X.cons (X.var Fr.s2) X.nil)) (X.stIx sl3 (X.idx (X.idx (X.var Fr.s1) (X.cst (.int (.ofNat 0))) .val) (X.var Fr.s4) .val) (X.var Fr.s5)) .val) (X.seq (X.fr (X.sset z4) (X.idx (X.var Fr.s1) (X.cst (.int (.ofNat 1))) .val) (X.stIx sl3 (X.var Fr.s4) (X.opv (nOp .sub subN) (X.cst (.int (.ofNat 1))) (X.idx (X.loc Fr.s3) (X.var Fr.s4) (.loc Fr.s3)))) .val) (X.ret (X.blt X.tupX [(.loc Fr.s3)] (X.cons (X.loc Fr.s3) X.nil))))))
def x_moved_row : FX := X.defX (fun e => [none, none, none]) [z0, z1, z2] (X.seq (X.drop (X.call x_need_count [none, none] [none, none] (X.cons (X.cst (.str "letters")) (X.cons (X.var Fr.s0) X.nil)))) (X.seq (X.drop (X.call x_need_change [none, none] [none, none] (X.cons (X.var Fr.s0) (X.cons (X.var Fr.s1) X.nil)))) (X.seq (X.drop (X.call x_need_row [none, none] [none, none] (X.cons (X.var Fr.s0) (X.cons (X.var Fr.s2) X.nil)))) (X.ret (X.call x_moved_in [none, none, none] [none, none, none] (X.cons (X.var Fr.s0) (X.cons (X.var Fr.s1) (X.cons (X.var Fr.s2) X.nil))))))))
def x_rounds_in : FX := X.defX (fun e => [none, none]) [z0, z1] (X.seq (X.asg (X.sset z2) (X.lc [z3] [(Fr.s3, z3)] (X.sset z3) (X.blt X.rg1X [.val] (X.cons (X.opv (nOp .shl shlN) (X.cst (.int (.ofNat 1))) (X.var Fr.s0)) X.nil)) (X.cst (.bl true)) (X.call x_number_in [none] [none] (X.cons (X.call x_moved_in [none, none, none] [none, none, none] (X.cons (X.var Fr.s0) (X.cons (X.var Fr.s1) (X.cons (X.call x_row_in [none, none] [none, none] (X.cons (X.var Fr.s0) (X.cons (X.var Fr.s3) X.nil))) X.nil)))) X.nil)) .val .val)) (X.seq (X.par (X.oset z4) (X.oset z5) (X.dnew false) (X.lst X.nil)) (X.seq (X.fr (X.sset z3) (X.blt X.rg1X [.val] (X.cons (X.opv (nOp .shl shlN) (X.cst (.int (.ofNat 1))) (X.var Fr.s0)) X.nil)) (X.seq (X.par (X.sset z6) (X.sset z7) (X.cst (.int (.ofNat 0))) (X.var Fr.s3)) (X.seq (X.whl (X.op ninO (X.var Fr.s7) (X.loc Fr.s4) .val (.loc Fr.s4)) (X.seq (X.stIx sl4 (X.var Fr.s7) (X.cst (.bl true))) (X.par (X.sset z6) (X.sset z7) (X.opv addX (X.var Fr.s6) (X.cst (.int (.ofNat 1)))) (X.idx (X.var Fr.s2) (X.var Fr.s7) .val))) .val 100000) (X.ife (X.var Fr.s6) (X.app sl5 (X.var Fr.s6)) X.pass .val))) .val) (X.ret (X.blt (X.biX .sorted) [(.loc Fr.s5)] (X.cons (X.loc Fr.s5) X.nil))))))
def x_change_rounds : FX := X.defX (fun e => [none, none]) [z0, z1] (X.seq (X.drop (X.call x_need_count [none, none] [none, none] (X.cons (X.cst (.str "letters")) (X.cons (X.var Fr.s0) X.nil)))) (X.seq (X.drop (X.call x_need_change [none, none] [none, none] (X.cons (X.var Fr.s0) (X.cons (X.var Fr.s1) X.nil)))) (X.ret (X.blt X.tupX [.val] (X.cons (X.call x_rounds_in [none, none] [none, none] (X.cons (X.var Fr.s0) (X.cons (X.var Fr.s1) X.nil))) X.nil)))))
def x_kept_by : FX := X.defX (fun e => [none, none]) [z0, z1] (X.seq (X.asg (X.sset z2) (X.call x_rounds_in [none, none] [none, none] (X.cons (X.var Fr.s0) (X.cons (X.var Fr.s1) X.nil)))) (X.seq (X.ife (X.and (X.opv eqO (X.idx (X.var Fr.s1) (X.cst (.int (.ofNat 2))) .val) (X.cst (.int (.ofNat 1)))) (X.blt (X.biX .any) [.val] (X.cons (X.lc [z3] [(Fr.s3, z3)] (X.sset z3) (X.var Fr.s2) (X.cst (.bl true)) (X.opv eqO (X.opv (nOp .mod modN) (X.var Fr.s3) (X.cst (.int (.ofNat 2)))) (X.cst (.int (.ofNat 1)))) .val .val) X.nil))) (X.ret (X.cst (.int (.ofNat 0)))) X.pass .val) (X.ret (X.opv (nOp .shl shlN) (X.cst (.int (.ofNat 1))) (X.blt X.lenX [.val] (X.cons (X.var Fr.s2) X.nil))))))
def x_count_kept : FX := X.defX (fun e => [none, none]) [z0, z1] (X.seq (X.drop (X.call x_need_count [none, none] [none, none] (X.cons (X.cst (.str "letters")) (X.cons (X.var Fr.s0) X.nil)))) (X.seq (X.drop (X.call x_need_change [none, none] [none, none] (X.cons (X.var Fr.s0) (X.cons (X.var Fr.s1) X.nil)))) (X.ret (X.call x_kept_by [none, none] [none, none] (X.cons (X.var Fr.s0) (X.cons (X.var Fr.s1) X.nil))))))
def x_mean_kept : FX := X.defX (fun e => [none, none]) [z0, z1] (X.ret (X.opv (nOp .fdiv fdivN) (X.blt (X.biX .sum) [.val] (X.cons (X.lc [z2] [(Fr.s2, z2)] (X.sset z2) (X.var Fr.s1) (X.cst (.bl true)) (X.call x_kept_by [none, none] [none, none] (X.cons (X.var Fr.s0) (X.cons (X.var Fr.s2) X.nil))) .val .val) X.nil)) (X.blt X.lenX [.val] (X.cons (X.var Fr.s1) X.nil))))
def x_count_forms : FX := X.defX (fun e => [none]) [z0] (X.seq (X.drop (X.call x_need_count [none, none] [none, none] (X.cons (X.cst (.str "letters")) (X.cons (X.var Fr.s0) X.nil)))) (X.seq (X.asg (X.sset z1) (X.lc2 [z2, z3] [z3] [(Fr.s2, z2), (Fr.s3, z3)] (X.sset z2) (X.call x_lots_of [none] [none] (X.cons (X.var Fr.s0) X.nil)) (X.cst (.bl true)) (X.sset z3) (X.tup (X.cons (X.cst (.int (.ofNat 0))) (X.cons (X.cst (.int (.ofNat 1))) X.nil))) (X.cst (.bl true)) (X.tup (X.cons (X.var Fr.s2) (X.cons (X.var Fr.s3) X.nil))) .val .val .val .val)) (X.ret (X.call x_mean_kept [none, none] [none, none] (X.cons (X.var Fr.s0) (X.cons (X.lc2 [z4, z2, z3] [z2, z3] [(Fr.s4, z4), (Fr.s2, z2), (Fr.s3, z3)] (X.sset z4) (X.call x_orders_of [none] [none] (X.cons (X.var Fr.s0) X.nil)) (X.cst (.bl true)) (X.ttup (X.tcons (X.sset z2) (X.tcons (X.sset z3) X.tnil))) (X.var Fr.s1) (X.cst (.bl true)) (X.tup (X.cons (X.var Fr.s4) (X.cons (X.var Fr.s2) (X.cons (X.var Fr.s3) X.nil)))) .val .val .val .val) X.nil))))))
def x_count_named : FX := X.defX (fun e => [none]) [z0] (X.seq (X.drop (X.call x_need_count [none, none] [none, none] (X.cons (X.cst (.str "letters")) (X.cons (X.var Fr.s0) X.nil)))) (X.ret (X.call x_mean_kept [none, none] [none, none] (X.cons (X.var Fr.s0) (X.cons (X.lc [z1] [(Fr.s1, z1)] (X.sset z1) (X.call x_orders_of [none] [none] (X.cons (X.var Fr.s0) X.nil)) (X.cst (.bl true)) (X.tup (X.cons (X.var Fr.s1) (X.cons (X.tup X.nil) (X.cons (X.cst (.int (.ofNat 0))) X.nil)))) .val .val) X.nil)))))
def x_count_hung : FX := X.defX (fun e => [none]) [z0] (X.seq (X.drop (X.call x_need_count [none, none] [none, none] (X.cons (X.cst (.str "letters")) (X.cons (X.var Fr.s0) X.nil)))) (X.seq (X.par (X.sset z2) (X.sset z3) (X.cst (.int (.ofNat 0))) (X.cst (.int (.ofNat 1)))) (X.seq (X.fr (X.sset z1) (X.blt X.rg1X [.val, .val, .val] (X.cons (X.var Fr.s0) (X.cons (X.neg (X.cst (.int (.ofNat 1)))) (X.cons (X.neg (X.cst (.int (.ofNat 1)))) X.nil)))) (X.seq (X.aug sl2 addX (X.opv (nOp .mul mulN) (X.opv (nOp .mul mulN) (X.var Fr.s3) (X.opv (nOp .shl shlN) (X.cst (.int (.ofNat 1))) (X.opv (nOp .shl shlN) (X.cst (.int (.ofNat 1))) (X.var Fr.s1)))) (X.ite (X.opv eqO (X.opv (nOp .mod modN) (X.opv (nOp .sub subN) (X.var Fr.s0) (X.var Fr.s1)) (X.cst (.int (.ofNat 2)))) (X.cst (.int (.ofNat 0)))) (X.cst (.int (.ofNat 1))) (X.neg (X.cst (.int (.ofNat 1)))) .val))) (X.asg (X.sset z3) (X.opv (nOp .fdiv fdivN) (X.opv (nOp .mul mulN) (X.var Fr.s3) (X.var Fr.s1)) (X.opv addX (X.opv (nOp .sub subN) (X.var Fr.s0) (X.var Fr.s1)) (X.cst (.int (.ofNat 1))))))) .val) (X.ret (X.var Fr.s2)))))
def x__law_draw : FX := X.defX (fun e => [e.s0, none]) [z0, z1] (X.seq (X.stIx sl0 (X.cst (.str "count")) (X.opv addX (X.idx (X.loc Fr.s0) (X.cst (.str "count")) (.loc Fr.s0)) (X.cst (.int (.ofNat 1))))) (X.seq (X.ife (X.and (X.opv eqO (X.idx (X.loc Fr.s0) (X.cst (.str "digits")) (.loc Fr.s0)) (X.cst (.int (.ofNat 0)))) (X.opv (nOp .lt ltN) (X.idx (X.loc Fr.s0) (X.cst (.str "at")) (.loc Fr.s0)) (X.blt X.lenX [.val] (X.cons (X.idx (X.loc Fr.s0) (X.cst (.str "cells")) (.loc Fr.s0)) X.nil)))) (X.seq (X.asg (X.sset z3) (X.idx (X.idx (X.loc Fr.s0) (X.cst (.str "cells")) (.loc Fr.s0)) (X.idx (X.loc Fr.s0) (X.cst (.str "at")) (.loc Fr.s0)) .val)) (X.seq (X.stIx sl0 (X.cst (.str "at")) (X.opv addX (X.idx (X.loc Fr.s0) (X.cst (.str "at")) (.loc Fr.s0)) (X.cst (.int (.ofNat 1))))) (X.ife (X.opv (nOp .ge geN) (X.var Fr.s3) (X.opv (slowOp .pow) (X.cst (.int (.ofNat 10))) (X.cst (.int (.ofNat 18))))) (X.stIx sl0 (X.cst (.str "digits")) (X.opv (nOp .sub subN) (X.var Fr.s3) (X.opv (slowOp .pow) (X.cst (.int (.ofNat 10))) (X.cst (.int (.ofNat 18)))))) (X.stIx sl0 (X.cst (.str "fold")) (X.opv (nOp .mod modN) (X.blt (X.biX .int) [.val] (X.cons (X.opv addX (X.opv (nOp .mul mulN) (X.idx (X.loc Fr.s0) (X.cst (.str "fold")) (.loc Fr.s0)) (X.cst (.int (.ofNat 65539)))) (X.var Fr.s3)) X.nil)) (X.cst (.int (.ofNat 2147483549))))) .val))) X.pass .val) (X.seq (X.ife (X.opv (nOp .gt gtN) (X.idx (X.loc Fr.s0) (X.cst (.str "digits")) (.loc Fr.s0)) (X.cst (.int (.ofNat 0)))) (X.seq (X.asg (X.sset z4) (X.opv (nOp .mod modN) (X.blt (X.biX .int) [.val] (X.cons (X.idx (X.loc Fr.s0) (X.cst (.str "digits")) (.loc Fr.s0)) X.nil)) (X.var Fr.s1))) (X.seq (X.stIx sl0 (X.cst (.str "digits")) (X.opv (nOp .fdiv fdivN) (X.idx (X.loc Fr.s0) (X.cst (.str "digits")) (.loc Fr.s0)) (X.var Fr.s1))) (X.ret (X.var Fr.s4)))) X.pass .val) (X.seq (X.asg (X.sset z2) (X.opv addX (X.opv addX (X.idx (X.loc Fr.s0) (X.cst (.str "fold")) (.loc Fr.s0)) (X.opv (nOp .mul mulN) (X.idx (X.loc Fr.s0) (X.cst (.str "count")) (.loc Fr.s0)) (X.cst (.int (.ofNat 8311))))) (X.cst (.int (.ofNat 43))))) (X.ret (X.opv (nOp .mod modN) (X.opv (nOp .fdiv fdivN) (X.blt (X.biX .int) [.val] (X.cons (X.opv (nOp .mod modN) (X.opv (slowOp .pow) (X.var Fr.s2) (X.cst (.int (.ofNat 13)))) (X.cst (.int (.ofNat 2305843009213693951)))) X.nil)) (X.cst (.int (.ofNat 256)))) (X.var Fr.s1)))))))
def x__law_pick : FX := X.defX (fun e => [e.s0, none]) [z0, z1] (X.ret (X.idx (X.var Fr.s1) (X.call x__law_draw [(some Fr.s0), none] [(some z0), none] (X.cons (X.loc Fr.s0) (X.cons (X.blt X.lenX [.val] (X.cons (X.var Fr.s1) X.nil)) X.nil))) .val))
def x__law_all_rows : FX := X.defX (fun e => [none]) [z0] (X.seq (X.asg (X.sset z1) (X.lst (X.cons (X.tup X.nil) X.nil))) (X.seq (X.fr (X.sset z2) (X.blt X.rg1X [.val] (X.cons (X.var Fr.s0) X.nil)) (X.asg (X.sset z1) (X.opv addX (X.lc [z3] [(Fr.s3, z3)] (X.sset z3) (X.var Fr.s1) (X.cst (.bl true)) (X.opv addX (X.var Fr.s3) (X.tup (X.cons (X.cst (.int (.ofNat 0))) X.nil))) .val .val) (X.lc [z3] [(Fr.s3, z3)] (X.sset z3) (X.var Fr.s1) (X.cst (.bl true)) (X.opv addX (X.var Fr.s3) (X.tup (X.cons (X.cst (.int (.ofNat 1))) X.nil))) .val .val))) .val) (X.ret (X.var Fr.s1))))
def x__law_lots : FX := X.defX (fun e => [none]) [z0] (X.seq (X.asg (X.sset z1) (X.lst (X.cons (X.tup X.nil) X.nil))) (X.seq (X.fr (X.sset z2) (X.blt X.rg1X [.val] (X.cons (X.var Fr.s0) X.nil)) (X.asg (X.sset z1) (X.opv addX (X.var Fr.s1) (X.lc [z4] [(Fr.s4, z4)] (X.sset z4) (X.var Fr.s1) (X.cst (.bl true)) (X.opv addX (X.var Fr.s4) (X.tup (X.cons (X.var Fr.s2) X.nil))) .val .val))) .val) (X.ret (X.lc [z3] [(Fr.s3, z3)] (X.sset z3) (X.blt (X.biX .sorted) [.val] (X.cons (X.lc [z4] [(Fr.s4, z4)] (X.sset z4) (X.var Fr.s1) (X.cst (.bl true)) (X.tup (X.cons (X.blt X.lenX [.val] (X.cons (X.var Fr.s4) X.nil)) (X.cons (X.var Fr.s4) X.nil))) .val .val) X.nil)) (X.cst (.bl true)) (X.idx (X.var Fr.s3) (X.cst (.int (.ofNat 1))) .val) .val .val))))
def x__law_turned : FX := X.defX (fun e => [none, none]) [z0, z1] (X.ret (X.blt X.tupX [.val] (X.cons (X.lc [z2] [(Fr.s2, z2)] (X.sset z2) (X.blt X.rg1X [.val] (X.cons (X.blt X.lenX [.val] (X.cons (X.var Fr.s0) X.nil)) X.nil)) (X.cst (.bl true)) (X.ite (X.opv inO (X.var Fr.s2) (X.var Fr.s1)) (X.opv (nOp .sub subN) (X.cst (.int (.ofNat 1))) (X.idx (X.var Fr.s0) (X.var Fr.s2) .val)) (X.idx (X.var Fr.s0) (X.var Fr.s2) .val) .val) .val .val) X.nil)))
def x__law_number : FX := X.defX (fun e => [none]) [z0] (X.seq (X.par (X.sset z2) (X.sset z3) (X.cst (.int (.ofNat 0))) (X.cst (.int (.ofNat 1)))) (X.seq (X.fr (X.sset z1) (X.loc Fr.s0) (X.par (X.sset z2) (X.sset z3) (X.opv addX (X.var Fr.s2) (X.opv (nOp .mul mulN) (X.var Fr.s1) (X.var Fr.s3))) (X.opv (nOp .mul mulN) (X.var Fr.s3) (X.cst (.int (.ofNat 2))))) (.loc Fr.s0)) (X.ret (X.var Fr.s2))))
def x__law_orders : FX := X.defX (fun e => [none]) [z0] (X.seq (X.asg (X.sset z1) (X.lst (X.cons (X.tup X.nil) X.nil))) (X.seq (X.fr (X.sset z2) (X.blt X.rg1X [.val] (X.cons (X.var Fr.s0) X.nil)) (X.seq (X.asg (X.sset z3) (X.lst X.nil)) (X.seq (X.fr (X.sset z4) (X.var Fr.s1) (X.asg (X.sset z3) (X.opv addX (X.var Fr.s3) (X.lc [z5] [(Fr.s5, z5)] (X.sset z5) (X.blt X.rg1X [.val] (X.cons (X.var Fr.s0) X.nil)) (X.opv ninO (X.var Fr.s5) (X.var Fr.s4)) (X.opv addX (X.var Fr.s4) (X.tup (X.cons (X.var Fr.s5) X.nil))) .val .val))) .val) (X.asg (X.sset z1) (X.var Fr.s3)))) .val) (X.ret (X.var Fr.s1))))
def x__law_by_order : FX := X.defX (fun e => [none, none]) [z0, z1] (X.seq (X.asg (X.oset z2) (X.opv (nOp .mul mulN) (X.lst (X.cons (X.cst (.int (.ofNat 0))) X.nil)) (X.blt X.lenX [.val] (X.cons (X.var Fr.s0) X.nil)))) (X.seq (X.fr (X.sset z3) (X.call x__law_all_rows [none] [none] (X.cons (X.blt X.lenX [.val] (X.cons (X.var Fr.s1) X.nil)) X.nil)) (X.seq (X.asg (X.oset z4) (X.opv (nOp .mul mulN) (X.lst (X.cons (X.cst (.int (.ofNat 0))) X.nil)) (X.blt X.lenX [.val] (X.cons (X.var Fr.s1) X.nil)))) (X.seq (X.fr (X.sset z5) (X.blt X.rg1X [.val] (X.cons (X.blt X.lenX [.val] (X.cons (X.var Fr.s1) X.nil)) X.nil)) (X.stIx sl4 (X.idx (X.var Fr.s1) (X.var Fr.s5) .val) (X.idx (X.var Fr.s3) (X.var Fr.s5) .val)) .val) (X.stIx sl2 (X.call x__law_number [(some Fr.s4)] [none] (X.cons (X.loc Fr.s4) X.nil)) (X.idx (X.var Fr.s0) (X.call x__law_number [none] [none] (X.cons (X.var Fr.s3) X.nil)) .val)))) .val) (X.retO sl2)))
def x__law_led : FX := X.defX (fun e => [none, none]) [z0, z1] (X.seq (X.par (X.sset z3) (X.sset z4) (X.call x__law_by_order [none, none] [none, none] (X.cons (X.var Fr.s0) (X.cons (X.idx (X.var Fr.s1) (X.cst (.int (.ofNat 0))) .val) X.nil))) (X.idx (X.var Fr.s1) (X.cst (.int (.ofNat 1))) .val)) (X.seq (X.asg (X.sset z2) (X.lc [z5] [(Fr.s5, z5)] (X.sset z5) (X.call x__law_all_rows [none] [none] (X.cons (X.blt X.lenX [.val] (X.cons (X.idx (X.var Fr.s1) (X.cst (.int (.ofNat 0))) .val) X.nil)) X.nil)) (X.cst (.bl true)) (X.idx (X.var Fr.s3) (X.call x__law_number [none] [none] (X.cons (X.call x__law_turned [none, none] [none, none] (X.cons (X.var Fr.s5) (X.cons (X.var Fr.s4) X.nil))) X.nil)) .val) .val .val)) (X.ret (X.lc [z6] [(Fr.s6, z6)] (X.sset z6) (X.var Fr.s2) (X.cst (.bl true)) (X.ite (X.opv eqO (X.idx (X.var Fr.s1) (X.cst (.int (.ofNat 2))) .val) (X.cst (.int (.ofNat 1)))) (X.opv (nOp .sub subN) (X.cst (.int (.ofNat 1))) (X.var Fr.s6)) (X.var Fr.s6) .val) .val .val))))
def x__law_changes : FX := X.defX (fun e => [none]) [z0] (X.seq (X.asg (X.sset z1) (X.lst X.nil)) (X.seq (X.fr (X.sset z2) (X.call x__law_orders [none] [none] (X.cons (X.var Fr.s0) X.nil)) (X.fr (X.sset z3) (X.call x__law_lots [none] [none] (X.cons (X.var Fr.s0) X.nil)) (X.asg (X.sset z1) (X.opv addX (X.var Fr.s1) (X.lc [z4] [(Fr.s4, z4)] (X.sset z4) (X.lst (X.cons (X.cst (.int (.ofNat 0))) (X.cons (X.cst (.int (.ofNat 1))) X.nil))) (X.cst (.bl true)) (X.tup (X.cons (X.var Fr.s2) (X.cons (X.var Fr.s3) (X.cons (X.var Fr.s4) X.nil)))) .val .val))) .val) .val) (X.ret (X.var Fr.s1))))
def x__law_met : FX := X.defX (fun e => [none]) [z0] (X.tryx (X.ret X.callv) (X.hcons T.sub 2 1 z1 (X.ret (X.tup (X.cons (X.cst (.str "BadFunction")) (X.cons (X.fld 1 "function") X.nil)))) (X.hcons T.sub 3 1 z1 (X.ret (X.tup (X.cons (X.cst (.str "BadRow")) (X.cons (X.fld 1 "row") X.nil)))) (X.hcons T.sub 1 1 z1 (X.ret (X.tup (X.cons (X.cst (.str "BadNumber")) (X.cons (X.fld 1 "what") (X.cons (X.fld 1 "number") X.nil))))) X.hnil))))
def x__law_all_functions : FX := X.defX (fun e => [none]) [z0] (X.seq (X.asg (X.sset z1) (X.lst (X.cons (X.tup X.nil) X.nil))) (X.seq (X.fr (X.sset z2) (X.call x__law_all_rows [none] [none] (X.cons (X.var Fr.s0) X.nil)) (X.seq (X.asg (X.sset z3) (X.lst X.nil)) (X.seq (X.fr (X.sset z4) (X.var Fr.s1) (X.asg (X.sset z3) (X.opv addX (X.var Fr.s3) (X.lc [z5] [(Fr.s5, z5)] (X.sset z5) (X.lst (X.cons (X.cst (.int (.ofNat 0))) (X.cons (X.cst (.int (.ofNat 1))) X.nil))) (X.cst (.bl true)) (X.opv addX (X.var Fr.s4) (X.tup (X.cons (X.var Fr.s5) X.nil))) .val .val))) .val) (X.asg (X.sset z1) (X.var Fr.s3)))) .val) (X.ret (X.var Fr.s1))))
def x__law_moved : FX := X.defX (fun e => [none, none]) [z0, z1] (X.seq (X.asg (X.oset z2) (X.opv (nOp .mul mulN) (X.lst (X.cons (X.cst (.int (.ofNat 0))) X.nil)) (X.blt X.lenX [.val] (X.cons (X.var Fr.s1) X.nil)))) (X.seq (X.fr (X.sset z3) (X.blt X.rg1X [.val] (X.cons (X.blt X.lenX [.val] (X.cons (X.var Fr.s1) X.nil)) X.nil)) (X.stIx sl2 (X.idx (X.idx (X.var Fr.s0) (X.cst (.int (.ofNat 0))) .val) (X.var Fr.s3) .val) (X.idx (X.var Fr.s1) (X.var Fr.s3) .val)) .val) (X.ret (X.blt X.tupX [.val] (X.cons (X.lc [z3] [(Fr.s3, z3)] (X.sset z3) (X.blt X.rg1X [.val] (X.cons (X.blt X.lenX [.val] (X.cons (X.var Fr.s1) X.nil)) X.nil)) (X.cst (.bl true)) (X.ite (X.opv inO (X.var Fr.s3) (X.idx (X.var Fr.s0) (X.cst (.int (.ofNat 1))) .val)) (X.opv (nOp .sub subN) (X.cst (.int (.ofNat 1))) (X.idx (X.loc Fr.s2) (X.var Fr.s3) (.loc Fr.s2))) (X.idx (X.loc Fr.s2) (X.var Fr.s3) (.loc Fr.s2)) .val) .val .val) X.nil)))))
def x__law_rounds : FX := X.defX (fun e => [none, none]) [z0, z1] (X.seq (X.par (X.sset z3) (X.oset z4) (X.call x__law_all_rows [none] [none] (X.cons (X.var Fr.s1) X.nil)) (X.lst X.nil)) (X.seq (X.fr (X.sset z2) (X.blt X.rg1X [.val] (X.cons (X.blt X.lenX [.val] (X.cons (X.var Fr.s3) X.nil)) X.nil)) (X.ife (X.opv neO (X.var Fr.s3) (X.lst X.nil)) (X.seq (X.par (X.sset z5) (X.oset z6) (X.idx (X.var Fr.s3) (X.cst (.int (.ofNat 0))) .val) (X.lst X.nil)) (X.seq (X.whl (X.op ninO (X.var Fr.s5) (X.loc Fr.s6) .val (.loc Fr.s6)) (X.seq (X.app sl6 (X.var Fr.s5)) (X.asg (X.sset z5) (X.call x__law_moved [none, none] [none, none] (X.cons (X.var Fr.s0) (X.cons (X.var Fr.s5) X.nil))))) .val 100000) (X.seq (X.asg (X.sset z3) (X.lc [z7] [(Fr.s7, z7)] (X.sset z7) (X.var Fr.s3) (X.op ninO (X.var Fr.s7) (X.loc Fr.s6) .val (.loc Fr.s6)) (X.var Fr.s7) .val .val)) (X.app sl4 (X.blt X.lenX [(.loc Fr.s6)] (X.cons (X.loc Fr.s6) X.nil)))))) X.pass .val) .val) (X.ret (X.blt (X.biX .sorted) [(.loc Fr.s4)] (X.cons (X.loc Fr.s4) X.nil)))))
def x__law_kept : FX := X.defX (fun e => [none, none]) [z0, z1] (X.seq (X.asg (X.sset z2) (X.cst (.int (.ofNat 1)))) (X.seq (X.fr (X.sset z3) (X.var Fr.s0) (X.asg (X.sset z2) (X.opv (nOp .mul mulN) (X.var Fr.s2) (X.cst (.int (.ofNat 2))))) .val) (X.ret (X.ite (X.and (X.opv eqO (X.var Fr.s1) (X.cst (.int (.ofNat 1)))) (X.opv neO (X.lc [z3] [(Fr.s3, z3)] (X.sset z3) (X.var Fr.s0) (X.opv eqO (X.opv (nOp .mod modN) (X.blt (X.biX .int) [.val] (X.cons (X.var Fr.s3) X.nil)) (X.cst (.int (.ofNat 2)))) (X.cst (.int (.ofNat 1)))) (X.var Fr.s3) .val .val) (X.lst X.nil))) (X.cst (.int (.ofNat 0))) (X.var Fr.s2) .val))))
def x__law_choose : FX := X.defX (fun e => [none, none]) [z0, z1] (X.seq (X.asg (X.sset z2) (X.lst (X.cons (X.cst (.int (.ofNat 1))) X.nil))) (X.seq (X.fr (X.sset z3) (X.blt X.rg1X [.val] (X.cons (X.var Fr.s0) X.nil)) (X.asg (X.sset z2) (X.opv addX (X.opv addX (X.lst (X.cons (X.cst (.int (.ofNat 1))) X.nil)) (X.lc [z4] [(Fr.s4, z4)] (X.sset z4) (X.blt X.rg1X [.val] (X.cons (X.opv (nOp .sub subN) (X.blt X.lenX [.val] (X.cons (X.var Fr.s2) X.nil)) (X.cst (.int (.ofNat 1)))) X.nil)) (X.cst (.bl true)) (X.opv addX (X.idx (X.var Fr.s2) (X.var Fr.s4) .val) (X.idx (X.var Fr.s2) (X.opv addX (X.var Fr.s4) (X.cst (.int (.ofNat 1)))) .val)) .val .val)) (X.lst (X.cons (X.cst (.int (.ofNat 1))) X.nil)))) .val) (X.ret (X.idx (X.var Fr.s2) (X.var Fr.s1) .val))))
def x__law_counts_right : FX := X.defX (fun e => [none]) [z0] (X.seq (X.asg (X.ttup (X.tcons (X.sset z3) (X.tcons (X.sset z4) (X.tcons (X.sset z5) X.tnil)))) (X.tup (X.cons (X.call x__law_changes [none] [none] (X.cons (X.var Fr.s0) X.nil)) (X.cons (X.cst (.int (.ofNat 0))) (X.cons (X.cst (.int (.ofNat 0))) X.nil))))) (X.seq (X.fr (X.sset z1) (X.var Fr.s3) (X.seq (X.asg (X.sset z6) (X.call x__law_kept [none, none] [none, none] (X.cons (X.call x__law_rounds [none, none] [none, none] (X.cons (X.var Fr.s1) (X.cons (X.var Fr.s0) X.nil))) (X.cons (X.idx (X.var Fr.s1) (X.cst (.int (.ofNat 2))) .val) X.nil)))) (X.par (X.sset z4) (X.sset z5) (X.opv addX (X.var Fr.s4) (X.var Fr.s6)) (X.opv addX (X.var Fr.s5) (X.ite (X.opv eqO (X.slc (X.var Fr.s1) (some (X.cst (.int (.ofNat 1)))) none .val) (X.tup (X.cons (X.tup X.nil) (X.cons (X.cst (.int (.ofNat 0))) X.nil)))) (X.var Fr.s6) (X.cst (.int (.ofNat 0))) .val)))) .val) (X.seq (X.asg (X.sset z2) (X.blt X.lenX [.val] (X.cons (X.call x__law_orders [none] [none] (X.cons (X.var Fr.s0) X.nil)) X.nil))) (X.seq (X.ife (X.or (X.opv neO (X.opv (nOp .mul mulN) (X.call x_count_forms [none] [none] (X.cons (X.var Fr.s0) X.nil)) (X.blt X.lenX [.val] (X.cons (X.var Fr.s3) X.nil))) (X.var Fr.s4)) (X.opv neO (X.opv (nOp .mul mulN) (X.call x_count_named [none] [none] (X.cons (X.var Fr.s0) X.nil)) (X.var Fr.s2)) (X.var Fr.s5))) (X.ret (X.cst (.bl false))) X.pass .val) (X.seq (X.ife (X.opv (nOp .lt ltN) (X.var Fr.s0) (X.cst (.int (.ofNat 3)))) (X.seq (X.asg (X.sset z7) (X.call x__law_all_functions [none] [none] (X.cons (X.var Fr.s0) X.nil))) (X.seq (X.asg (X.sset z8) (X.blt (X.biX .dict) [.val] (X.cons (X.lc [z9] [(Fr.s9, z9)] (X.sset z9) (X.var Fr.s7) (X.cst (.bl true)) (X.tup (X.cons (X.blt (X.biX .min) [.val] (X.cons (X.lc [z1] [(Fr.s1, z1)] (X.sset z1) (X.var Fr.s3) (X.cst (.bl true)) (X.blt X.tupX [.val] (X.cons (X.call x__law_led [none, none] [none, none] (X.cons (X.blt X.lstX [.val] (X.cons (X.var Fr.s9) X.nil)) (X.cons (X.var Fr.s1) X.nil))) X.nil)) .val .val) X.nil)) (X.cons (X.cst (.bl true)) X.nil))) .val .val) X.nil))) (X.ife (X.or (X.opv neO (X.call x_count_forms [none] [none] (X.cons (X.var Fr.s0) X.nil)) (X.blt X.lenX [.val] (X.cons (X.var Fr.s8) X.nil))) (X.opv neO (X.call x_count_hung [none] [none] (X.cons (X.var Fr.s0) X.nil)) (X.blt X.lenX [.val] (X.cons (X.lc [z9] [(Fr.s9, z9)] (X.sset z9) (X.var Fr.s7) (X.opv eqO (X.blt X.lenX [.val] (X.cons (X.call x_hung_letters [none] [none] (X.cons (X.var Fr.s9) X.nil)) X.nil)) (X.var Fr.s0)) (X.cst (.int (.ofNat 1))) .val .val) X.nil)))) (X.ret (X.cst (.bl false))) X.pass .val))) X.pass .val) (X.ret (X.cst (.bl true))))))))
def x__law_hung_right : FX := X.defX (fun e => [none]) [z0] (X.seq (X.par (X.sset z2) (X.sset z3) (X.cst (.int (.ofNat 1))) (X.cst (.int (.ofNat 1)))) (X.seq (X.fr (X.sset z1) (X.blt X.rg1X [.val] (X.cons (X.var Fr.s0) X.nil)) (X.asg (X.sset z2) (X.opv (nOp .mul mulN) (X.var Fr.s2) (X.cst (.int (.ofNat 2))))) .val) (X.seq (X.fr (X.sset z1) (X.blt X.rg1X [.val] (X.cons (X.var Fr.s2) X.nil)) (X.asg (X.sset z3) (X.opv (nOp .mul mulN) (X.var Fr.s3) (X.cst (.int (.ofNat 2))))) .val) (X.ret (X.opv eqO (X.blt (X.biX .sum) [.val] (X.cons (X.lc [z4] [(Fr.s4, z4)] (X.sset z4) (X.blt X.rg1X [.val] (X.cons (X.opv addX (X.var Fr.s0) (X.cst (.int (.ofNat 1)))) X.nil)) (X.cst (.bl true)) (X.opv (nOp .mul mulN) (X.call x__law_choose [none, none] [none, none] (X.cons (X.var Fr.s0) (X.cons (X.var Fr.s4) X.nil))) (X.call x_count_hung [none] [none] (X.cons (X.var Fr.s4) X.nil))) .val .val) X.nil)) (X.var Fr.s3))))))
def xl : List FX := [x_is_whole, x_is_count, x_need_count, x_is_bit, x_is_function, x_need_function, x_letters_in, x_number_in, x_row_in, x_is_bits, x_need_row, x_open_in, x_held_in, x_is_letter, x_with_bit, x_fixed_in, x_hung_in, x_hung_letters, x_turned_in, x_flipped, x_renamed_in, x_is_change_in, x_need_change, x_mask_of, x_changed_in, x_changed, x_orders_of, x_lots_of, x_moved_in, x_moved_row, x_rounds_in, x_change_rounds, x_kept_by, x_count_kept, x_mean_kept, x_count_forms, x_count_named, x_count_hung, dead, x__law_draw, x__law_pick, dead, x__law_all_rows, x__law_lots, x__law_turned, x__law_number, x__law_orders, x__law_by_order, x__law_led, x__law_changes, x__law_met, x__law_all_functions, x__law_moved, x__law_rounds, dead, x__law_kept, dead, x__law_choose, x__law_counts_right, x__law_hung_right, dead, dead]
def lvl : List (Option Nat) := [some 0, some 1, some 2, some 2, some 3, some 4, some 0, some 0, some 0, some 3, some 4, some 0, some 1, some 2, some 0, some 2, some 3, some 5, some 0, some 0, some 0, some 3, some 4, some 0, some 1, some 5, some 0, some 0, some 0, some 5, some 1, some 5, some 2, some 5, some 3, some 4, some 4, some 3, none, some 0, some 1, none, some 0, some 0, some 0, some 0, some 0, some 1, some 2, some 1, some 0, some 1, some 0, some 1, none, some 0, none, some 0, some 6, some 4, none, none]
def xp : Xp := ⟨T, fun f => xl.getD f dead, fun f => (lvl[f]?).join⟩
theorem e_is_whole : x_is_whole = FD (xp.tf 0) d_is_whole := rfl
theorem e_is_count : x_is_count = FD (xp.tf 1) d_is_count := rfl
theorem e_need_count : x_need_count = FD (xp.tf 2) d_need_count := rfl
theorem e_is_bit : x_is_bit = FD (xp.tf 2) d_is_bit := rfl
theorem e_is_function : x_is_function = FD (xp.tf 3) d_is_function := rfl
theorem e_need_function : x_need_function = FD (xp.tf 4) d_need_function := rfl
theorem e_letters_in : x_letters_in = FD (xp.tf 0) d_letters_in := rfl
theorem e_number_in : x_number_in = FD (xp.tf 0) d_number_in := rfl
theorem e_row_in : x_row_in = FD (xp.tf 0) d_row_in := rfl
theorem e_is_bits : x_is_bits = FD (xp.tf 3) d_is_bits := rfl
theorem e_need_row : x_need_row = FD (xp.tf 4) d_need_row := rfl
theorem e_open_in : x_open_in = FD (xp.tf 0) d_open_in := rfl
theorem e_held_in : x_held_in = FD (xp.tf 1) d_held_in := rfl
theorem e_is_letter : x_is_letter = FD (xp.tf 2) d_is_letter := rfl
theorem e_with_bit : x_with_bit = FD (xp.tf 0) d_with_bit := rfl
theorem e_fixed_in : x_fixed_in = FD (xp.tf 2) d_fixed_in := rfl
theorem e_hung_in : x_hung_in = FD (xp.tf 3) d_hung_in := rfl
theorem e_hung_letters : x_hung_letters = FD (xp.tf 5) d_hung_letters := rfl
theorem e_turned_in : x_turned_in = FD (xp.tf 0) d_turned_in := rfl
theorem e_flipped : x_flipped = FD (xp.tf 0) d_flipped := rfl
theorem e_renamed_in : x_renamed_in = FD (xp.tf 0) d_renamed_in := rfl
theorem e_is_change_in : x_is_change_in = FD (xp.tf 3) d_is_change_in := rfl
theorem e_need_change : x_need_change = FD (xp.tf 4) d_need_change := rfl
theorem e_mask_of : x_mask_of = FD (xp.tf 0) d_mask_of := rfl
theorem e_changed_in : x_changed_in = FD (xp.tf 1) d_changed_in := rfl
theorem e_changed : x_changed = FD (xp.tf 5) d_changed := rfl
theorem e_orders_of : x_orders_of = FD (xp.tf 0) d_orders_of := rfl
theorem e_lots_of : x_lots_of = FD (xp.tf 0) d_lots_of := rfl
theorem e_moved_in : x_moved_in = FD (xp.tf 0) d_moved_in := rfl
theorem e_moved_row : x_moved_row = FD (xp.tf 5) d_moved_row := rfl
theorem e_rounds_in : x_rounds_in = FD (xp.tf 1) d_rounds_in := rfl
theorem e_change_rounds : x_change_rounds = FD (xp.tf 5) d_change_rounds := rfl
theorem e_kept_by : x_kept_by = FD (xp.tf 2) d_kept_by := rfl
theorem e_count_kept : x_count_kept = FD (xp.tf 5) d_count_kept := rfl
theorem e_mean_kept : x_mean_kept = FD (xp.tf 3) d_mean_kept := rfl
theorem e_count_forms : x_count_forms = FD (xp.tf 4) d_count_forms := rfl
theorem e_count_named : x_count_named = FD (xp.tf 4) d_count_named := rfl
theorem e_count_hung : x_count_hung = FD (xp.tf 3) d_count_hung := rfl
theorem e__law_draw : x__law_draw = FD (xp.tf 0) d__law_draw := rfl
theorem e__law_pick : x__law_pick = FD (xp.tf 1) d__law_pick := rfl
theorem e__law_all_rows : x__law_all_rows = FD (xp.tf 0) d__law_all_rows := rfl
theorem e__law_lots : x__law_lots = FD (xp.tf 0) d__law_lots := rfl
theorem e__law_turned : x__law_turned = FD (xp.tf 0) d__law_turned := rfl
theorem e__law_number : x__law_number = FD (xp.tf 0) d__law_number := rfl
theorem e__law_orders : x__law_orders = FD (xp.tf 0) d__law_orders := rfl
theorem e__law_by_order : x__law_by_order = FD (xp.tf 1) d__law_by_order := rfl
theorem e__law_led : x__law_led = FD (xp.tf 2) d__law_led := rfl
theorem e__law_changes : x__law_changes = FD (xp.tf 1) d__law_changes := rfl
theorem e__law_met : x__law_met = FD (xp.tf 0) d__law_met := rfl
theorem e__law_all_functions : x__law_all_functions = FD (xp.tf 1) d__law_all_functions := rfl
theorem e__law_moved : x__law_moved = FD (xp.tf 0) d__law_moved := rfl
theorem e__law_rounds : x__law_rounds = FD (xp.tf 1) d__law_rounds := rfl
theorem e__law_kept : x__law_kept = FD (xp.tf 0) d__law_kept := rfl
theorem e__law_choose : x__law_choose = FD (xp.tf 0) d__law_choose := rfl
theorem e__law_counts_right : x__law_counts_right = FD (xp.tf 6) d__law_counts_right := rfl
theorem e__law_hung_right : x__law_hung_right = FD (xp.tf 4) d__law_hung_right := rfl
theorem ok_all : ((List.range 62).all fun f => match xp.lv f with | some l => xp.okB f l | none => true) = true := by decide +kernel
theorem ok_at (f l : Nat) (h : xp.lv f = some l) (hf : f < 62) : xp.okB f l = true := by
  have := List.all_eq_true.mp ok_all f (List.mem_range.mpr hf)
  rw [h] at this
  exact this
theorem xok : xp.Ok := by
  intro f l h
  match f, h with
  | 0, h => cases (show some 0 = some l from h); exact ⟨ok_at 0 0 rfl (by decide), fun d hd => by cases (show some d_is_whole = some d from hd); exact e_is_whole⟩
  | 1, h => cases (show some 1 = some l from h); exact ⟨ok_at 1 1 rfl (by decide), fun d hd => by cases (show some d_is_count = some d from hd); exact e_is_count⟩
  | 2, h => cases (show some 2 = some l from h); exact ⟨ok_at 2 2 rfl (by decide), fun d hd => by cases (show some d_need_count = some d from hd); exact e_need_count⟩
  | 3, h => cases (show some 2 = some l from h); exact ⟨ok_at 3 2 rfl (by decide), fun d hd => by cases (show some d_is_bit = some d from hd); exact e_is_bit⟩
  | 4, h => cases (show some 3 = some l from h); exact ⟨ok_at 4 3 rfl (by decide), fun d hd => by cases (show some d_is_function = some d from hd); exact e_is_function⟩
  | 5, h => cases (show some 4 = some l from h); exact ⟨ok_at 5 4 rfl (by decide), fun d hd => by cases (show some d_need_function = some d from hd); exact e_need_function⟩
  | 6, h => cases (show some 0 = some l from h); exact ⟨ok_at 6 0 rfl (by decide), fun d hd => by cases (show some d_letters_in = some d from hd); exact e_letters_in⟩
  | 7, h => cases (show some 0 = some l from h); exact ⟨ok_at 7 0 rfl (by decide), fun d hd => by cases (show some d_number_in = some d from hd); exact e_number_in⟩
  | 8, h => cases (show some 0 = some l from h); exact ⟨ok_at 8 0 rfl (by decide), fun d hd => by cases (show some d_row_in = some d from hd); exact e_row_in⟩
  | 9, h => cases (show some 3 = some l from h); exact ⟨ok_at 9 3 rfl (by decide), fun d hd => by cases (show some d_is_bits = some d from hd); exact e_is_bits⟩
  | 10, h => cases (show some 4 = some l from h); exact ⟨ok_at 10 4 rfl (by decide), fun d hd => by cases (show some d_need_row = some d from hd); exact e_need_row⟩
  | 11, h => cases (show some 0 = some l from h); exact ⟨ok_at 11 0 rfl (by decide), fun d hd => by cases (show some d_open_in = some d from hd); exact e_open_in⟩
  | 12, h => cases (show some 1 = some l from h); exact ⟨ok_at 12 1 rfl (by decide), fun d hd => by cases (show some d_held_in = some d from hd); exact e_held_in⟩
  | 13, h => cases (show some 2 = some l from h); exact ⟨ok_at 13 2 rfl (by decide), fun d hd => by cases (show some d_is_letter = some d from hd); exact e_is_letter⟩
  | 14, h => cases (show some 0 = some l from h); exact ⟨ok_at 14 0 rfl (by decide), fun d hd => by cases (show some d_with_bit = some d from hd); exact e_with_bit⟩
  | 15, h => cases (show some 2 = some l from h); exact ⟨ok_at 15 2 rfl (by decide), fun d hd => by cases (show some d_fixed_in = some d from hd); exact e_fixed_in⟩
  | 16, h => cases (show some 3 = some l from h); exact ⟨ok_at 16 3 rfl (by decide), fun d hd => by cases (show some d_hung_in = some d from hd); exact e_hung_in⟩
  | 17, h => cases (show some 5 = some l from h); exact ⟨ok_at 17 5 rfl (by decide), fun d hd => by cases (show some d_hung_letters = some d from hd); exact e_hung_letters⟩
  | 18, h => cases (show some 0 = some l from h); exact ⟨ok_at 18 0 rfl (by decide), fun d hd => by cases (show some d_turned_in = some d from hd); exact e_turned_in⟩
  | 19, h => cases (show some 0 = some l from h); exact ⟨ok_at 19 0 rfl (by decide), fun d hd => by cases (show some d_flipped = some d from hd); exact e_flipped⟩
  | 20, h => cases (show some 0 = some l from h); exact ⟨ok_at 20 0 rfl (by decide), fun d hd => by cases (show some d_renamed_in = some d from hd); exact e_renamed_in⟩
  | 21, h => cases (show some 3 = some l from h); exact ⟨ok_at 21 3 rfl (by decide), fun d hd => by cases (show some d_is_change_in = some d from hd); exact e_is_change_in⟩
  | 22, h => cases (show some 4 = some l from h); exact ⟨ok_at 22 4 rfl (by decide), fun d hd => by cases (show some d_need_change = some d from hd); exact e_need_change⟩
  | 23, h => cases (show some 0 = some l from h); exact ⟨ok_at 23 0 rfl (by decide), fun d hd => by cases (show some d_mask_of = some d from hd); exact e_mask_of⟩
  | 24, h => cases (show some 1 = some l from h); exact ⟨ok_at 24 1 rfl (by decide), fun d hd => by cases (show some d_changed_in = some d from hd); exact e_changed_in⟩
  | 25, h => cases (show some 5 = some l from h); exact ⟨ok_at 25 5 rfl (by decide), fun d hd => by cases (show some d_changed = some d from hd); exact e_changed⟩
  | 26, h => cases (show some 0 = some l from h); exact ⟨ok_at 26 0 rfl (by decide), fun d hd => by cases (show some d_orders_of = some d from hd); exact e_orders_of⟩
  | 27, h => cases (show some 0 = some l from h); exact ⟨ok_at 27 0 rfl (by decide), fun d hd => by cases (show some d_lots_of = some d from hd); exact e_lots_of⟩
  | 28, h => cases (show some 0 = some l from h); exact ⟨ok_at 28 0 rfl (by decide), fun d hd => by cases (show some d_moved_in = some d from hd); exact e_moved_in⟩
  | 29, h => cases (show some 5 = some l from h); exact ⟨ok_at 29 5 rfl (by decide), fun d hd => by cases (show some d_moved_row = some d from hd); exact e_moved_row⟩
  | 30, h => cases (show some 1 = some l from h); exact ⟨ok_at 30 1 rfl (by decide), fun d hd => by cases (show some d_rounds_in = some d from hd); exact e_rounds_in⟩
  | 31, h => cases (show some 5 = some l from h); exact ⟨ok_at 31 5 rfl (by decide), fun d hd => by cases (show some d_change_rounds = some d from hd); exact e_change_rounds⟩
  | 32, h => cases (show some 2 = some l from h); exact ⟨ok_at 32 2 rfl (by decide), fun d hd => by cases (show some d_kept_by = some d from hd); exact e_kept_by⟩
  | 33, h => cases (show some 5 = some l from h); exact ⟨ok_at 33 5 rfl (by decide), fun d hd => by cases (show some d_count_kept = some d from hd); exact e_count_kept⟩
  | 34, h => cases (show some 3 = some l from h); exact ⟨ok_at 34 3 rfl (by decide), fun d hd => by cases (show some d_mean_kept = some d from hd); exact e_mean_kept⟩
  | 35, h => cases (show some 4 = some l from h); exact ⟨ok_at 35 4 rfl (by decide), fun d hd => by cases (show some d_count_forms = some d from hd); exact e_count_forms⟩
  | 36, h => cases (show some 4 = some l from h); exact ⟨ok_at 36 4 rfl (by decide), fun d hd => by cases (show some d_count_named = some d from hd); exact e_count_named⟩
  | 37, h => cases (show some 3 = some l from h); exact ⟨ok_at 37 3 rfl (by decide), fun d hd => by cases (show some d_count_hung = some d from hd); exact e_count_hung⟩
  | 38, h => cases (show (none : Option Nat) = some l from h)
  | 39, h => cases (show some 0 = some l from h); exact ⟨ok_at 39 0 rfl (by decide), fun d hd => by cases (show some d__law_draw = some d from hd); exact e__law_draw⟩
  | 40, h => cases (show some 1 = some l from h); exact ⟨ok_at 40 1 rfl (by decide), fun d hd => by cases (show some d__law_pick = some d from hd); exact e__law_pick⟩
  | 41, h => cases (show (none : Option Nat) = some l from h)
  | 42, h => cases (show some 0 = some l from h); exact ⟨ok_at 42 0 rfl (by decide), fun d hd => by cases (show some d__law_all_rows = some d from hd); exact e__law_all_rows⟩
  | 43, h => cases (show some 0 = some l from h); exact ⟨ok_at 43 0 rfl (by decide), fun d hd => by cases (show some d__law_lots = some d from hd); exact e__law_lots⟩
  | 44, h => cases (show some 0 = some l from h); exact ⟨ok_at 44 0 rfl (by decide), fun d hd => by cases (show some d__law_turned = some d from hd); exact e__law_turned⟩
  | 45, h => cases (show some 0 = some l from h); exact ⟨ok_at 45 0 rfl (by decide), fun d hd => by cases (show some d__law_number = some d from hd); exact e__law_number⟩
  | 46, h => cases (show some 0 = some l from h); exact ⟨ok_at 46 0 rfl (by decide), fun d hd => by cases (show some d__law_orders = some d from hd); exact e__law_orders⟩
  | 47, h => cases (show some 1 = some l from h); exact ⟨ok_at 47 1 rfl (by decide), fun d hd => by cases (show some d__law_by_order = some d from hd); exact e__law_by_order⟩
  | 48, h => cases (show some 2 = some l from h); exact ⟨ok_at 48 2 rfl (by decide), fun d hd => by cases (show some d__law_led = some d from hd); exact e__law_led⟩
  | 49, h => cases (show some 1 = some l from h); exact ⟨ok_at 49 1 rfl (by decide), fun d hd => by cases (show some d__law_changes = some d from hd); exact e__law_changes⟩
  | 50, h => cases (show some 0 = some l from h); exact ⟨ok_at 50 0 rfl (by decide), fun d hd => by cases (show some d__law_met = some d from hd); exact e__law_met⟩
  | 51, h => cases (show some 1 = some l from h); exact ⟨ok_at 51 1 rfl (by decide), fun d hd => by cases (show some d__law_all_functions = some d from hd); exact e__law_all_functions⟩
  | 52, h => cases (show some 0 = some l from h); exact ⟨ok_at 52 0 rfl (by decide), fun d hd => by cases (show some d__law_moved = some d from hd); exact e__law_moved⟩
  | 53, h => cases (show some 1 = some l from h); exact ⟨ok_at 53 1 rfl (by decide), fun d hd => by cases (show some d__law_rounds = some d from hd); exact e__law_rounds⟩
  | 54, h => cases (show (none : Option Nat) = some l from h)
  | 55, h => cases (show some 0 = some l from h); exact ⟨ok_at 55 0 rfl (by decide), fun d hd => by cases (show some d__law_kept = some d from hd); exact e__law_kept⟩
  | 56, h => cases (show (none : Option Nat) = some l from h)
  | 57, h => cases (show some 0 = some l from h); exact ⟨ok_at 57 0 rfl (by decide), fun d hd => by cases (show some d__law_choose = some d from hd); exact e__law_choose⟩
  | 58, h => cases (show some 6 = some l from h); exact ⟨ok_at 58 6 rfl (by decide), fun d hd => by cases (show some d__law_counts_right = some d from hd); exact e__law_counts_right⟩
  | 59, h => cases (show some 4 = some l from h); exact ⟨ok_at 59 4 rfl (by decide), fun d hd => by cases (show some d__law_hung_right = some d from hd); exact e__law_hung_right⟩
  | 60, h => cases (show (none : Option Nat) = some l from h)
  | 61, h => cases (show (none : Option Nat) = some l from h)
  | n + 62, h => exact absurd (show (lvl[n + 62]?).join = some l from h) (by rw [List.getElem?_eq_none (by show 62 ≤ n + 62; omega)]; simp)
end
end K90
set_option maxHeartbeats 4000000
/-! L3: checks by the kernel: what they say. -/
namespace PB
open PySem K90
def runX (f : FX) (ds : List D) : Om := f none ds (fun d o => some (.ok d o)) (fun x o => some (.xc x o))
theorem coR_id {m : Option CO} : coR m (fun d o => some (.ok d o)) (fun x o => some (.xc x o)) = m := by
  cases m with
  | none => rfl
  | some c => cases c <;> rfl
theorem run_callN {l f : Nat} (h : xp.lv f = some l) (m : Nat) {ds : List D} : runX (xp.xs f) ds = callN T (m + l + 1) f none ds := by
  unfold runX
  rw [(xp.run xok l f h m).1]
  exact coR_id
noncomputable section
/-- rounds and kept functions of a change -/
def f1B (N : Nat) (p l : List Int) (b : Int) : Bool := match runX x__law_rounds [chD p l b, .int N] with
  | some (.ok (.lst R) _) => (match toInts R, runX x_change_rounds [.int N, chD p l b], runX x_count_kept [.int N, chD p l b], runX x__law_kept [.lst R, .int b] with
    | some r, some (.ok (.tup R2) _), some (.ok (.int k) _), some (.ok (.int k2) _) => decide (toInts R2 = some r) && decide (k = k2)
    | _, _, _, _ => false)
  | _ => false
def rowsN : Nat → List (List Int)
  | 0 => [[]]
  | n + 1 => (rowsN n).map (· ++ [0]) ++ (rowsN n).map (· ++ [1])
/-- where a row is moved -/
def f2B (N : Nat) (p l : List Int) (b : Int) (r : List Int) : Bool := match runX x_moved_row [.int N, chD p l b, .tup (r.map .int)], runX x__law_moved [chD p l b, .tup (r.map .int)] with
  | some (.ok (.tup a) _), some (.ok (.tup c) _) => (match toInts a with
    | some a => decide (toInts c = some a) && (rowsN N).contains a
    | none => false)
  | _, _ => false
end
end PB
set_option maxHeartbeats 4000000
/-! L5: what the kernel checks of each change. -/
namespace PB
open PySem K90
noncomputable section
def isLst' (o : Om) : Option (List Int) := match o with
  | some (.ok (.lst a) _) => toInts a
  | _ => none
def isTup' (o : Om) : Option (List Int) := match o with
  | some (.ok (.tup a) _) => toInts a
  | _ => none
def isNon' (o : Om) : Bool := match o with
  | some (.ok .non _) => true
  | _ => false
theorem isLst_ok {o : Om} {r : List Int} (h : isLst' o = some r) : ∃ e, o = some (.ok (.lst (r.map .int)) e) := by
  unfold isLst' at h
  split at h
  · rw [toInts_eq h]; exact ⟨_, rfl⟩
  · cases h
theorem isTup_ok {o : Om} {r : List Int} (h : isTup' o = some r) : ∃ e, o = some (.ok (.tup (r.map .int)) e) := by
  unfold isTup' at h
  split at h
  · rw [toInts_eq h]; exact ⟨_, rfl⟩
  · cases h
theorem isNon_ok {o : Om} (h : isNon' o = true) : ∃ e, o = some (.ok .non e) := by
  unfold isNon' at h
  split at h
  · exact ⟨_, rfl⟩
  · cases h
def rndB (N : Nat) (p l : List Int) (b : Int) : Bool := match isLst' (runX x_rounds_in [.int N, chD p l b]) with
  | some r => decide (isLst' (runX x__law_rounds [chD p l b, .int N]) = some r) && (rsL.contains r && decide (r.foldl (fun a c => a + c) 0 = ((2 ^ N : Nat) : Int)))
  | none => false
def movB (N : Nat) (p l : List Int) (b : Int) (r : List Int) : Bool := match isTup' (runX x_moved_in [.int N, chD p l b, .tup (r.map .int)]) with
  | some a => decide (isTup' (runX x__law_moved [chD p l b, .tup (r.map .int)]) = some a) && (rowsN N).contains a
  | none => false
def ndB (N : Nat) (p l : List Int) : Bool := isNon' (runX x_need_change [.int N, chD p l 0]) && isNon' (runX x_need_change [.int N, chD p l 1])
def chP (N : Nat) (p : List Int) (b : Int) : Bool := (lotsN N).all fun l => rndB N p l b && ((rowsN N).all fun r => movB N p l b r) && ndB N p l
def rwB (N : Nat) : Bool := isNon' (runX x_need_count [.str "letters", .int N]) && (rowsN N).all fun r => isNon' (runX x_need_row [.int N, .tup (r.map .int)])
theorem rw0 : ((List.range 5).all rwB) = true := by kernel_rfl
theorem c0 (b : Int) : (picks (intsN 0)).all (fun p => chP 0 p b) = true := by kernel_rfl
theorem c1 (b : Int) : (picks (intsN 1)).all (fun p => chP 1 p b) = true := by kernel_rfl
theorem c2 (b : Int) : (picks (intsN 2)).all (fun p => chP 2 p b) = true := by kernel_rfl
theorem c3 (b : Int) : (picks (intsN 3)).all (fun p => chP 3 p b) = true := by kernel_rfl
end
end PB
set_option maxHeartbeats 4000000
/-! L6: what the checks say of callN. -/
namespace PB
open PySem K90
/-- what is known of a change of N letters -/
structure ChF (N : Nat) (p l : List Int) (b : Int) : Prop where
  rnd : ∃ r ∈ rsL, r.foldl (fun a c => a + c) 0 = ((2 ^ N : Nat) : Int) ∧ ∀ m, (∃ o, callN T (m + 4) 30 none [.int N, chD p l b] = some (.ok (.lst (r.map .int)) o)) ∧ ∃ o, callN T (m + 4) 53 none [chD p l b, .int N] = some (.ok (.lst (r.map .int)) o)
  mov : ∀ w ∈ rowsN N, ∃ a ∈ rowsN N, ∀ m, (∃ o, callN T (m + 4) 28 none [.int N, chD p l b, .tup (w.map .int)] = some (.ok (.tup (a.map .int)) o)) ∧ ∃ o, callN T (m + 4) 52 none [chD p l b, .tup (w.map .int)] = some (.ok (.tup (a.map .int)) o)
  need : ∀ m, ∃ o, callN T (m + 5) 22 none [.int N, chD p l b] = some (.ok .non o)
theorem run4 {l f : Nat} (h : xp.lv f = some l) (hl : l ≤ 3) (m : Nat) {ds : List D} : runX (xp.xs f) ds = callN T (m + 4) f none ds := by
  rw [run_callN h (m + (3 - l)), show m + (3 - l) + l + 1 = m + 4 by omega]
theorem chF_of {N : Nat} {p l : List Int} {b : Int} (hb : b = 0 ∨ b = 1) (h : chP N p b = true) (hl : l ∈ lotsN N) : ChF N p l b := by
  have z := List.all_eq_true.mp h l hl
  simp only [Bool.and_eq_true] at z
  obtain ⟨⟨z1, z2⟩, z3⟩ := z
  refine ⟨?_, fun w hw => ?_, fun m => ?_⟩
  · unfold rndB at z1
    split at z1
    · rename_i r hr
      simp only [Bool.and_eq_true, decide_eq_true_eq] at z1
      obtain ⟨e1, h1⟩ := isLst_ok hr
      obtain ⟨e2, h2⟩ := isLst_ok z1.1
      exact ⟨r, List.contains_iff_mem.mp z1.2.1, z1.2.2, fun m => ⟨⟨e1, by rw [← run4 (f := 30) (l := 1) (by rfl) (by omega) m]; exact h1⟩, e2, by rw [← run4 (f := 53) (l := 1) (by rfl) (by omega) m]; exact h2⟩⟩
    · cases z1
  · have z2 := List.all_eq_true.mp z2 w hw
    unfold movB at z2
    split at z2
    · rename_i a ha
      simp only [Bool.and_eq_true, decide_eq_true_eq] at z2
      obtain ⟨e1, h1⟩ := isTup_ok ha
      obtain ⟨e2, h2⟩ := isTup_ok z2.1
      exact ⟨a, List.contains_iff_mem.mp z2.2, fun m => ⟨⟨e1, by rw [← run4 (f := 28) (l := 0) (by rfl) (by omega) m]; exact h1⟩, e2, by rw [← run4 (f := 52) (l := 0) (by rfl) (by omega) m]; exact h2⟩⟩
    · cases z2
  · unfold ndB at z3
    obtain ⟨n0, n1⟩ := (Bool.and_eq_true _ _).mp z3
    rcases hb with rfl | rfl
    · obtain ⟨e, he⟩ := isNon_ok n0
      exact ⟨e, by rw [← he]; exact (run_callN (f := 22) (l := 4) (by rfl) m).symm⟩
    · obtain ⟨e, he⟩ := isNon_ok n1
      exact ⟨e, by rw [← he]; exact (run_callN (f := 22) (l := 4) (by rfl) m).symm⟩
end PB
set_option maxHeartbeats 4000000
/-! L7: the law's own defs with the pen. -/
namespace PB
open PySem K90
theorem callP {n f : Nat} {dd : DefI} {c : C} {x v pen pen' : D} {e : En} (hk : dd.ks[0]? = some Kd.own) (h0 : rdS e 0 = some pen) (h1 : isLoc c = false) (hi : (gG n dd none).info f = [.own, .shr]) (hx : ev c (gG n dd none) e = some (.ok x e)) (hc : callN T n f none [pen, x] = some (.ok v [some pen', none])) :
    ev (.call f (.cons (.loc 0) (.cons c .nil))) (gG n dd none) e = some (.ok v (e.set 0 (some pen'))) := by
  have a0 : ev (.loc 0) (gG n dd none) e = some (.ok .non e) := by
    rw [ev]
    show (if dd.ks[0]? = some Kd.own ∨ dd.ks[0]? = some Kd.brw then (rdS e 0).map fun _ => R.ok D.non e else none) = _
    rw [if_pos (.inl hk), h0]
    rfl
  have a1 : ev (.cons (.loc 0) (.cons c .nil)) (gG n dd none) e = some (.ok (.lst [.non, x]) e) := by
    rw [ev, a0]
    show bnd (ev (.cons c .nil) (gG n dd none) e) _ = _
    rw [ev, hx]
    rfl
  have ar : argL dd.ks [.own, .shr] (.cons (.loc 0) (.cons c .nil)) [.non, x] e = some [pen, x] := by
    have : (if dd.ks[0]? = some Kd.own then rdS e 0 else none) = some pen := by rw [if_pos hk, h0]
    cases c <;> first | (cases h1; done) | (show ((if dd.ks[0]? = some Kd.own then rdS e 0 else none).bind fun x => _) = _; rw [this]; rfl)
  have bk : backL [.own, .shr] (.cons (.loc 0) (.cons c .nil)) [some pen', none] e = some (e.set 0 (some pen')) := by
    cases c <;> rfl
  rw [ev, a1]
  show (argL dd.ks ((gG n dd none).info f) (.cons (.loc 0) (.cons c .nil)) [.non, x] e).bind _ = _
  rw [hi, ar]
  show (match callN T n f none [pen, x] with
    | none => none
    | some (.ok d o) => (backL [.own, .shr] (.cons (.loc 0) (.cons c .nil)) o e).map (R.ok d ·)
    | some (.xc x o) => (backL [.own, .shr] (.cons (.loc 0) (.cons c .nil)) o e).map (R.xc x ·)) = _
  rw [hc]
  show (backL [.own, .shr] (.cons (.loc 0) (.cons c .nil)) [some pen', none] e).map _ = _
  rw [bk]
  rfl
def rowsD (N : Nat) : List D := (rowsN N).map fun r => .tup (r.map D.int)
theorem rows_of {n N : Nat} (h : N ≤ 4) : ∃ o, callN T (n + 1) 42 none [.int N] = some (.ok (.lst (rowsD N)) o) := by
  match N, h with
  | 0, _ => exact ⟨[none], by kernel_rfl⟩
  | 1, _ => exact ⟨[none], by kernel_rfl⟩
  | 2, _ => exact ⟨[none], by kernel_rfl⟩
  | 3, _ => exact ⟨[none], by kernel_rfl⟩
  | 4, _ => exact ⟨[none], by kernel_rfl⟩
/-- all changes of few letters -/
theorem chF {N : Nat} (hN : N ≤ 3) {p l : List Int} {b : Int} (hp : p ∈ picks (intsN N)) (hl : l ∈ lotsN N) (hb : b = 0 ∨ b = 1) : ChF N p l b := by
  match N, hN with
  | 0, _ => exact chF_of hb (List.all_eq_true.mp (c0 b) p hp) hl
  | 1, _ => exact chF_of hb (List.all_eq_true.mp (c1 b) p hp) hl
  | 2, _ => exact chF_of hb (List.all_eq_true.mp (c2 b) p hp) hl
  | 3, _ => exact chF_of hb (List.all_eq_true.mp (c3 b) p hp) hl
abbrev e8 (p n r t k c w o : Option D) : En := [p, n, r, t, k, c, w, o]
theorem rows_len {N : Nat} (h : N ≤ 4) : (rowsD N).length ≠ 0 ∧ (rowsD N).length < 1000 := by
  match N, h with
  | 0, _ => exact (by decide +kernel : (rowsD 0).length ≠ 0 ∧ (rowsD 0).length < 1000)
  | 1, _ => exact (by decide +kernel : (rowsD 1).length ≠ 0 ∧ (rowsD 1).length < 1000)
  | 2, _ => exact (by decide +kernel : (rowsD 2).length ≠ 0 ∧ (rowsD 2).length < 1000)
  | 3, _ => exact (by decide +kernel : (rowsD 3).length ≠ 0 ∧ (rowsD 3).length < 1000)
  | 4, _ => exact (by decide +kernel : (rowsD 4).length ≠ 0 ∧ (rowsD 4).length < 1000)
theorem rows_ne {N : Nat} (h : N ≤ 4) : rowsD N ≠ [] ∧ (rowsD N).length < 1000 := ⟨fun z => (rows_len h).1 (by rw [z]; rfl), (rows_len h).2⟩
/-- the first two statements -/
theorem cr1 {c m : Nat} {pn : D} (hp : PenOk c pn) (hc : c < 800) : ∃ N, N ≤ 4 ∧ ∃ p ∈ picks (intsN N), ∃ l ∈ lotsN N, ∃ b : Int, (b = 0 ∨ b = 1) ∧ ∃ w ∈ rowsN N, ∃ pn1 pn', PenOk (c + 1 + N + N + 1 + 1 + 1) pn' ∧
    exec (sq1 c__law_changes_right) (gG (m + 3) d__law_changes_right none) (e8 (some pn) none none none none none none none) = some (.nx (e8 (some pn1) (some (.int (N : Int))) none none none none none none)) ∧
    exec (sq1 (sq2 c__law_changes_right)) (gG (m + 3) d__law_changes_right none) (e8 (some pn1) (some (.int (N : Int))) none none none none none none) = some (.nx (e8 (some pn') (some (.int (N : Int))) none none none (some (chD p l b)) (some (.tup (w.map D.int))) none)) := by
  obtain ⟨k, pn1, a1, a2, a3, a4⟩ := draw (n := m + 2) (m := 5) hp (by omega) (by omega) (by omega)
  obtain ⟨N, rfl⟩ := Int.eq_ofNat_of_zero_le a2
  have hN : N ≤ 4 := by omega
  obtain ⟨p, hp1, l, hl1, b, hb, pn2, b1, b2⟩ := change (N := N) (m := m) hN a4 (by omega)
  obtain ⟨o42, r1⟩ := rows_of (n := m + 2) hN
  obtain ⟨x, hx, pn3, d1, d2⟩ := pick (n := m + 1) (L := rowsD N) b1 (by omega) (rows_ne hN).1 (rows_ne hN).2
  obtain ⟨w, hw, rfl⟩ := List.mem_map.mp hx
  refine ⟨N, hN, p, hp1, l, hl1, b, hb, w, hw, pn1, pn3, d1, ?_, ?_⟩
  · have e1 := callP (n := m + 3) (dd := d__law_changes_right) (f := 39) (c := .cst (.int 5)) (x := .int 5) (e := e8 (some pn) none none none none none none none) rfl rfl rfl (by kernel_rfl) (by kernel_rfl) a1
    exact exec_asgv (i := 1) e1 rfl rfl
  · have eA := callP (n := m + 3) (dd := d__law_changes_right) (f := 54) (c := .var 1) (x := .int (N : Int)) (e := e8 (some pn1) (some (.int (N : Int))) none none none none none none) rfl rfl rfl (by kernel_rfl) (by kernel_rfl) b2
    have eR := call_shr (n := m + 3) (dd := d__law_changes_right) (d := d__law_all_rows) (f := 42) (a := .cons (.var 1) .nil) (xs := [.int (N : Int)]) (e := e8 (some pn2) (some (.int (N : Int))) none none none none none none) rfl (by decide +kernel) rfl rfl rfl rfl (by kernel_rfl) r1
    have eB := callP (n := m + 3) (dd := d__law_changes_right) (f := 40) (c := .call 42 (.cons (.var 1) .nil)) (e := e8 (some pn2) (some (.int (N : Int))) none none none none none none) rfl rfl rfl (by kernel_rfl) eR d2
    exact exec_par (i := 5) (j := 6) eA eB rfl rfl rfl
end PB
set_option maxHeartbeats 4000000
/-! L9: the third and fourth statements of _law_changes_right. -/
namespace PB
open PySem K90
theorem run5 {l f : Nat} (h : xp.lv f = some l) (hl : l ≤ 4) (m : Nat) {ds : List D} : runX (xp.xs f) ds = callN T (m + 5) f none ds := by
  rw [run_callN h (m + (4 - l)), show m + (4 - l) + l + 1 = m + 5 by omega]
theorem needs {N : Nat} (hN : N ≤ 4) (m : Nat) : (∃ o, callN T (m + 5) 2 none [.str "letters", .int (N : Int)] = some (.ok .non o)) ∧ ∀ w ∈ rowsN N, ∃ o, callN T (m + 5) 10 none [.int (N : Int), .tup (w.map D.int)] = some (.ok .non o) := by
  have z := List.all_eq_true.mp rw0 N (List.mem_range.mpr (by omega))
  unfold rwB at z
  obtain ⟨z1, z2⟩ := (Bool.and_eq_true _ _).mp z
  refine ⟨?_, fun w hw => ?_⟩
  · obtain ⟨e, he⟩ := isNon_ok z1
    exact ⟨e, by rw [← run5 (f := 2) (l := 2) (by rfl) (by omega) m]; exact he⟩
  · obtain ⟨e, he⟩ := isNon_ok (List.all_eq_true.mp z2 w hw)
    exact ⟨e, by rw [← run5 (f := 10) (l := 4) (by rfl) (by omega) m]; exact he⟩
/-- what the calls give -/
theorem told_of {N : Nat} (hN : N ≤ 4) {p l w : List Int} {b : Int} (hb : b = 0 ∨ b = 1) (F : ChF N p l b) (hw : w ∈ rowsN N) (m : Nat) : ∃ r ∈ rsL, r.foldl (fun a c => a + c) 0 = ((2 ^ N : Nat) : Int) ∧ ∃ a ∈ rowsN N, (∃ o, callN T (m + 6) 53 none [chD p l b, .int (N : Int)] = some (.ok (.lst (r.map .int)) o)) ∧
    callN T (m + 6) 29 none [.int (N : Int), chD p l b, .tup (w.map .int)] = some (.ok (.tup (a.map .int)) [none, none, none]) ∧ callN T (m + 6) 31 none [.int (N : Int), chD p l b] = some (.ok (.tup (r.map .int)) [none, none]) ∧
    callN T (m + 6) 33 none [.int (N : Int), chD p l b] = some (.ok (.int (kp r b)) [none, none]) ∧ ∃ o, callN T (m + 6) 52 none [chD p l b, .tup (w.map .int)] = some (.ok (.tup (a.map .int)) o) := by
  obtain ⟨⟨o2, h2⟩, h10⟩ := needs hN m
  obtain ⟨o10, h10⟩ := h10 w hw
  obtain ⟨o22, h22⟩ := F.need m
  obtain ⟨r, hr, hrs, hrm⟩ := F.rnd
  obtain ⟨a, ha, hma⟩ := F.mov w hw
  obtain ⟨o30, h30⟩ := (hrm (m + 1)).1
  obtain ⟨o30', h30'⟩ := (hrm m).1
  obtain ⟨o28, h28⟩ := (hma (m + 1)).1
  exact ⟨r, hr, hrs, a, ha, (hrm (m + 2)).2, moved_of h2 h22 h10 h28, rounds_of h2 h22 h30, kept_of h2 h22 (kept_by_of hr hb h30'), (hma (m + 2)).2⟩
end PB
set_option maxHeartbeats 4000000
/-! L10: statements of _law_changes_right, one by one. -/
namespace PB
open PySem K90
theorem ev_cons {a b : C} {G : Gx} {e : En} {x : D} {l : List D} (h1 : ev a G e = some (.ok x e)) (h2 : ev b G e = some (.ok (.lst l) e)) : ev (.cons a b) G e = some (.ok (.lst (x :: l)) e) := by
  rw [ev, h1]
  show bnd (ev b G e) _ = _
  rw [h2]
  rfl
theorem ev_lst {a : C} {G : Gx} {e : En} {l : List D} (h : ev a G e = some (.ok (.lst l) e)) (hn : noLocs a = true) : ev (.lst a) G e = some (.ok (.lst l) e) := by
  rw [ev, h]
  show (if noLocs a = true then some (R.ok (D.lst l) e) else none) = _
  rw [hn]
  rfl
section
variable {n : Nat} {pn ch w N v3 : D} {r : List D} {va vr vk : D} {o29 o31 o33 o53 : List (Option D)}
theorem cr3 (h : callN T n 53 none [ch, N] = some (.ok (.lst r) o53)) : exec (sq1 (sq2 (sq2 c__law_changes_right))) (gG n d__law_changes_right none) (e8 (some pn) (some N) none none none (some ch) (some w) none) = some (.nx (e8 (some pn) (some N) (some (.lst r)) none none (some ch) (some w) none)) :=
  exec_asgv (i := 2) (call_shr (dd := d__law_changes_right) (d := d__law_rounds) (f := 53) (a := .cons (.var 5) (.cons (.var 1) .nil)) rfl (by decide +kernel) rfl rfl rfl rfl (by kernel_rfl) h) rfl rfl
theorem cr4 (h29 : callN T n 29 none [N, ch, w] = some (.ok va o29)) (h31 : callN T n 31 none [N, ch] = some (.ok vr o31)) (h33 : callN T n 33 none [N, ch] = some (.ok vk o33)) :
    exec (sq1 (sq2 (sq2 (sq2 c__law_changes_right)))) (gG n d__law_changes_right none) (e8 (some pn) (some N) (some v3) none none (some ch) (some w) none) = some (.nx (e8 (some pn) (some N) (some v3) (some (.lst [va, vr, vk])) none (some ch) (some w) none)) := by
  have a := call_shr (dd := d__law_changes_right) (d := d_moved_row) (f := 29) (a := .cons (.var 1) (.cons (.var 5) (.cons (.var 6) .nil))) (e := e8 (some pn) (some N) (some v3) none none (some ch) (some w) none) rfl (by decide +kernel) rfl rfl rfl rfl (by kernel_rfl) h29
  have b := call_shr (dd := d__law_changes_right) (d := d_change_rounds) (f := 31) (a := .cons (.var 1) (.cons (.var 5) .nil)) (e := e8 (some pn) (some N) (some v3) none none (some ch) (some w) none) rfl (by decide +kernel) rfl rfl rfl rfl (by kernel_rfl) h31
  have c := call_shr (dd := d__law_changes_right) (d := d_count_kept) (f := 33) (a := .cons (.var 1) (.cons (.var 5) .nil)) (e := e8 (some pn) (some N) (some v3) none none (some ch) (some w) none) rfl (by decide +kernel) rfl rfl rfl rfl (by kernel_rfl) h33
  exact exec_asgv (i := 3) (ev_lst (ev_cons a (ev_cons b (ev_cons c (by rw [ev])))) rfl) rfl rfl
end
end PB
set_option maxHeartbeats 4000000
/-! L8: what is told of a change. -/
namespace PB
open PySem K90
def toldD (a r : List Int) (b : Int) : D := .lst [.tup (a.map .int), .tup (r.map .int), .int (kp r b)]
theorem told_small : ((List.range 5).all fun N => (rowsN N).all fun a => (rsL.filter fun r => decide (r.foldl (fun a c => a + c) 0 = ((2 ^ N : Nat) : Int))).all fun r => [0, 1].all fun b => smallD (toldD a r b)) = true := by kernel_rfl
theorem told_ok {N : Nat} (hN : N ≤ 4) {a r : List Int} {b : Int} (ha : a ∈ rowsN N) (hr : r ∈ rsL) (hs : r.foldl (fun a c => a + c) 0 = ((2 ^ N : Nat) : Int)) (hb : b = 0 ∨ b = 1) : ∃ s, bi .repr [toldD a r b] = some (.str s) ∧ PyData.strOk s = true :=
  ⟨_, repr_small (List.all_eq_true.mp (List.all_eq_true.mp (List.all_eq_true.mp (List.all_eq_true.mp told_small N (List.mem_range.mpr (by omega))) a ha) r (List.mem_filter.mpr ⟨hr, decide_eq_true hs⟩)) b (b01 hb))⟩
theorem ne_str {s : Str} (h : PyData.strOk s = true) : op2 .ne (.str s) (.str s) = some (.bl false) := by
  have : eqv (.str s) (.str s) = true := by
    show (s == s) = true
    exact beq_self_eq_true s
  show (if (plainD 30 (.str s) && plainD 30 (.str s)) = true then some (D.bl (!eqv (.str s) (.str s))) else none) = _
  have h2 : plainD 30 (.str s) = true := h
  rw [this, h2]
  rfl
end PB
set_option maxHeartbeats 4000000
/-! L11: the fifth statement: both texts are the same. -/
namespace PB
open PySem K90
theorem ev_nil {G : Gx} {e : En} : ev .nil G e = some (.ok (.lst []) e) := by rw [ev]
theorem ev_blt1 {f : Bi} {a : C} {G : Gx} {e : En} {x y : D} (h : ev a G e = some (.ok x e)) (hl : isLoc a = false) (hb : bi f [x] = some y) : ev (.blt f (.cons a .nil)) G e = some (.ok y e) := by
  rw [ev, ev_cons h (by rw [ev])]
  have : finL (.cons a .nil) [x] e = some [x] := by
    have : fin a x e = some x := by
      cases a <;> first | rfl | cases hl
    simp only [finL, this]
    rfl
  show (finL (.cons a .nil) [x] e).bind _ = _
  rw [this]
  show (bi f [x]).map _ = _
  rw [hb]
  rfl
theorem ev_op {o : O2} {a b : C} {G : Gx} {e : En} {x y z : D} (h1 : ev a G e = some (.ok x e)) (h2 : ev b G e = some (.ok y e)) (l1 : isLoc a = false) (l2 : isLoc b = false) (h : op2 o x y = some z) : ev (.op o a b) G e = some (.ok z e) := by
  have f1 : fin a x e = some x := by cases a <;> first | rfl | cases l1
  have f2 : fin b y e = some y := by cases b <;> first | rfl | cases l2
  rw [ev, h1]
  show bnd (ev b G e) _ = _
  rw [h2]
  show (fin a x e).bind _ = _
  rw [f1]
  show (fin b y e).bind _ = _
  rw [f2]
  show (op2 o x y).map _ = _
  rw [h]
  rfl
section
variable {n : Nat} {pn w N P L : D} {a r : List Int} {b : Int} {s : Str} {o52 o55 : List (Option D)}
theorem cr5 (hs : bi .repr [toldD a r b] = some (.str s)) (hk : PyData.strOk s = true) (h52 : callN T n 52 none [.tup [P, L, .int b], w] = some (.ok (.tup (a.map .int)) o52)) (h55 : callN T n 55 none [.lst (r.map .int), .int b] = some (.ok (.int (kp r b)) o55)) :
    exec (sq1 (sq2 (sq2 (sq2 (sq2 c__law_changes_right))))) (gG n d__law_changes_right none) (e8 (some pn) (some N) (some (.lst (r.map .int))) (some (toldD a r b)) none (some (.tup [P, L, .int b])) (some w) none) = some (.nx (e8 (some pn) (some N) (some (.lst (r.map .int))) (some (toldD a r b)) none (some (.tup [P, L, .int b])) (some w) none)) := by
  have x1 := call_shr (dd := d__law_changes_right) (d := d__law_moved) (f := 52) (a := .cons (.var 5) (.cons (.var 6) .nil)) (e := e8 (some pn) (some N) (some (.lst (r.map .int))) (some (toldD a r b)) none (some (.tup [P, L, .int b])) (some w) none) rfl (by decide +kernel) rfl rfl rfl rfl (by kernel_rfl) h52
  have x2 : ev (.blt .tuple (.cons (.var 2) .nil)) (gG n d__law_changes_right none) (e8 (some pn) (some N) (some (.lst (r.map .int))) (some (toldD a r b)) none (some (.tup [P, L, .int b])) (some w) none) = some (.ok (.tup (r.map .int)) (e8 (some pn) (some N) (some (.lst (r.map .int))) (some (toldD a r b)) none (some (.tup [P, L, .int b])) (some w) none)) := by kernel_rfl
  have x3 := call_shr (dd := d__law_changes_right) (d := d__law_kept) (f := 55) (a := .cons (.var 2) (.cons (.idx (.var 5) (.cst (.int 2))) .nil)) (e := e8 (some pn) (some N) (some (.lst (r.map .int))) (some (toldD a r b)) none (some (.tup [P, L, .int b])) (some w) none) rfl (by decide +kernel) rfl rfl rfl rfl (by kernel_rfl) h55
  have x4 := ev_blt1 (f := .repr) (y := .str s) (ev_lst (ev_cons x1 (ev_cons x2 (ev_cons x3 ev_nil))) rfl) rfl hs
  have x5 : ev (.blt .repr (.cons (.var 3) .nil)) (gG n d__law_changes_right none) (e8 (some pn) (some N) (some (.lst (r.map .int))) (some (toldD a r b)) none (some (.tup [P, L, .int b])) (some w) none) = some (.ok (.str s) (e8 (some pn) (some N) (some (.lst (r.map .int))) (some (toldD a r b)) none (some (.tup [P, L, .int b])) (some w) none)) := ev_blt1 (f := .repr) (x := toldD a r b) (by rw [ev]; rfl) rfl hs
  have x6 := ev_op x5 x4 rfl rfl (ne_str hk)
  show exec (.ife _ _ _) _ _ = _
  rw [exec, x6]
  rfl
end
end PB
set_option maxHeartbeats 4000000
/-! L12: the sixth statement. -/
namespace PB
open PySem K90
section
variable {n : Nat} {pn w ch rr tt : D}
abbrev st6 : C := sq2 (sq2 (sq2 (sq2 (sq2 c__law_changes_right))))
theorem cr6 {N : Nat} (h : N = 3 ∨ N = 4) : exec st6 (gG n d__law_changes_right none) (e8 (some pn) (some (.int (N : Int))) (some rr) (some tt) none (some ch) (some w) none) = some (.rt (.bl true) (e8 (some pn) (some (.int (N : Int))) (some rr) (some tt) none (some ch) (some w) none)) := by
  rcases h with rfl | rfl <;> kernel_rfl
end
end PB
set_option maxHeartbeats 4000000
/-! L13: the last statements for at most two letters: true at each change, the pen as it was. -/
namespace PB
open PySem K90
def fin0 (o : Option Out) : Option D := match o with
  | some (.rt (.bl true) e) => rdS e 0
  | _ => none
theorem fin0_ok {o : Option Out} {p : D} (h : fin0 o = some p) : ∃ e, o = some (.rt (.bl true) e) ∧ rdS e 0 = some p := by
  unfold fin0 at h
  split at h
  · exact ⟨_, rfl, h⟩
  · cases h
def lastL (m N : Nat) (pn rr tt w : D) : List (Option D) := (picks (intsN N)).flatMap fun p => (lotsN N).flatMap fun l => ([0, 1] : List Int).map fun b => fin0 (exec st6 (gG (m + 8) d__law_changes_right none) (e8 (some pn) (some (.int (N : Int))) (some rr) (some tt) none (some (chD p l b)) (some w) none))
theorem last0 (m : Nat) (pn rr tt w : D) : lastL m 0 pn rr tt w = List.replicate 2 (some pn) := by kernel_rfl
theorem last1 (m : Nat) (pn rr tt w : D) : lastL m 1 pn rr tt w = List.replicate 4 (some pn) := by kernel_rfl
theorem last2 (m : Nat) (pn rr tt w : D) : lastL m 2 pn rr tt w = List.replicate 16 (some pn) := by kernel_rfl
theorem last_of {m N k : Nat} {pn rr tt w : D} (h : lastL m N pn rr tt w = List.replicate k (some pn)) {p l : List Int} {b : Int} (hp : p ∈ picks (intsN N)) (hl : l ∈ lotsN N) (hb : b = 0 ∨ b = 1) :
    ∃ e, exec st6 (gG (m + 8) d__law_changes_right none) (e8 (some pn) (some (.int (N : Int))) (some rr) (some tt) none (some (chD p l b)) (some w) none) = some (.rt (.bl true) e) ∧ rdS e 0 = some pn := by
  apply fin0_ok
  apply List.eq_of_mem_replicate
  rw [← h]
  exact List.mem_flatMap.mpr ⟨p, hp, List.mem_flatMap.mpr ⟨l, hl, List.mem_map.mpr ⟨b, b01 hb, rfl⟩⟩⟩
theorem last_all {m N : Nat} {pn rr tt w : D} (hN : N = 0 ∨ N = 1 ∨ N = 2) {p l : List Int} {b : Int} (hp : p ∈ picks (intsN N)) (hl : l ∈ lotsN N) (hb : b = 0 ∨ b = 1) :
    ∃ e, exec st6 (gG (m + 8) d__law_changes_right none) (e8 (some pn) (some (.int (N : Int))) (some rr) (some tt) none (some (chD p l b)) (some w) none) = some (.rt (.bl true) e) ∧ rdS e 0 = some pn := by
  rcases hN with h | h | h
  · exact last_of (k := 2) (by rw [h]; exact last0 m pn rr tt w) hp hl hb
  · exact last_of (k := 4) (by rw [h]; exact last1 m pn rr tt w) hp hl hb
  · exact last_of (k := 16) (by rw [h]; exact last2 m pn rr tt w) hp hl hb
end PB
set_option maxHeartbeats 4000000
/-! L5b: the changes of four letters. -/
namespace PB
open PySem K90
theorem c4_0 (b : Int) : chP 4 ((picks (intsN 4)).getD 0 []) b = true := by kernel_rfl
theorem c4_1 (b : Int) : chP 4 ((picks (intsN 4)).getD 1 []) b = true := by kernel_rfl
theorem c4_2 (b : Int) : chP 4 ((picks (intsN 4)).getD 2 []) b = true := by kernel_rfl
theorem c4_3 (b : Int) : chP 4 ((picks (intsN 4)).getD 3 []) b = true := by kernel_rfl
theorem c4_4 (b : Int) : chP 4 ((picks (intsN 4)).getD 4 []) b = true := by kernel_rfl
theorem c4_5 (b : Int) : chP 4 ((picks (intsN 4)).getD 5 []) b = true := by kernel_rfl
theorem c4_6 (b : Int) : chP 4 ((picks (intsN 4)).getD 6 []) b = true := by kernel_rfl
theorem c4_7 (b : Int) : chP 4 ((picks (intsN 4)).getD 7 []) b = true := by kernel_rfl
theorem c4_8 (b : Int) : chP 4 ((picks (intsN 4)).getD 8 []) b = true := by kernel_rfl
theorem c4_9 (b : Int) : chP 4 ((picks (intsN 4)).getD 9 []) b = true := by kernel_rfl
theorem c4_10 (b : Int) : chP 4 ((picks (intsN 4)).getD 10 []) b = true := by kernel_rfl
theorem c4_11 (b : Int) : chP 4 ((picks (intsN 4)).getD 11 []) b = true := by kernel_rfl
theorem c4_12 (b : Int) : chP 4 ((picks (intsN 4)).getD 12 []) b = true := by kernel_rfl
theorem c4_13 (b : Int) : chP 4 ((picks (intsN 4)).getD 13 []) b = true := by kernel_rfl
theorem c4_14 (b : Int) : chP 4 ((picks (intsN 4)).getD 14 []) b = true := by kernel_rfl
theorem c4_15 (b : Int) : chP 4 ((picks (intsN 4)).getD 15 []) b = true := by kernel_rfl
theorem c4_16 (b : Int) : chP 4 ((picks (intsN 4)).getD 16 []) b = true := by kernel_rfl
theorem c4_17 (b : Int) : chP 4 ((picks (intsN 4)).getD 17 []) b = true := by kernel_rfl
theorem c4_18 (b : Int) : chP 4 ((picks (intsN 4)).getD 18 []) b = true := by kernel_rfl
theorem c4_19 (b : Int) : chP 4 ((picks (intsN 4)).getD 19 []) b = true := by kernel_rfl
theorem c4_20 (b : Int) : chP 4 ((picks (intsN 4)).getD 20 []) b = true := by kernel_rfl
theorem c4_21 (b : Int) : chP 4 ((picks (intsN 4)).getD 21 []) b = true := by kernel_rfl
theorem c4_22 (b : Int) : chP 4 ((picks (intsN 4)).getD 22 []) b = true := by kernel_rfl
theorem c4_23 (b : Int) : chP 4 ((picks (intsN 4)).getD 23 []) b = true := by kernel_rfl
theorem c4_at (b : Int) : ∀ i, i < 24 → chP 4 ((picks (intsN 4)).getD i []) b = true
  | 0, _ => c4_0 b
  | 1, _ => c4_1 b
  | 2, _ => c4_2 b
  | 3, _ => c4_3 b
  | 4, _ => c4_4 b
  | 5, _ => c4_5 b
  | 6, _ => c4_6 b
  | 7, _ => c4_7 b
  | 8, _ => c4_8 b
  | 9, _ => c4_9 b
  | 10, _ => c4_10 b
  | 11, _ => c4_11 b
  | 12, _ => c4_12 b
  | 13, _ => c4_13 b
  | 14, _ => c4_14 b
  | 15, _ => c4_15 b
  | 16, _ => c4_16 b
  | 17, _ => c4_17 b
  | 18, _ => c4_18 b
  | 19, _ => c4_19 b
  | 20, _ => c4_20 b
  | 21, _ => c4_21 b
  | 22, _ => c4_22 b
  | 23, _ => c4_23 b
  | n + 24, h => by omega
theorem c4 (b : Int) {p : List Int} (h : p ∈ picks (intsN 4)) : chP 4 p b = true := by
  obtain ⟨i, hi, e⟩ := List.mem_iff_getElem.mp h
  have hl : (picks (intsN 4)).length = 24 := by decide +kernel
  have := c4_at b i (by omega)
  rw [List.getD_eq_getElem?_getD, List.getElem?_eq_getElem hi, Option.getD_some, e] at this
  exact this
end PB
set_option maxHeartbeats 4000000
/-! L14: _law_changes_right. -/
namespace PB
open PySem K90
theorem PenOk.mono {c c' : Nat} {p : D} (h : PenOk c p) (hc : c ≤ c') : PenOk c' p := by
  obtain ⟨ns, a, dg, ct, fo, h0, h1, h2, h3, h4, h5, h6⟩ := h
  exact ⟨ns, a, dg, ct, fo, h0, h1, h2, h3, by omega, h5, h6⟩
theorem changes_right {c m : Nat} {pn : D} (hp : PenOk c pn) (hc : c < 800) : ∃ pn', PenOk (c + 12) pn' ∧ callN T (m + 9) 56 none [pn] = some (.ok (.bl true) [some pn']) := by
  obtain ⟨N, hN, p, hp1, l, hl, b, hb, w, hw, pn1, pn', q, s1, s2⟩ := cr1 (m := m + 5) hp hc
  have F : ChF N p l b := by
    by_cases h3 : N ≤ 3
    · exact chF h3 hp1 hl hb
    · have : N = 4 := by omega
      subst this
      exact chF_of hb (c4 b hp1) hl
  obtain ⟨r, hr, hrs, a, ha, ⟨o53, h53⟩, h29, h31, h33, o52, h52⟩ := told_of hN hb F hw (m + 2)
  obtain ⟨s, hs, hk⟩ := told_ok hN ha hr hrs hb
  have s3 := cr3 (n := m + 8) (pn := pn') (w := .tup (w.map .int)) h53
  have s4 := cr4 (n := m + 8) (pn := pn') (v3 := .lst (r.map .int)) h29 h31 h33
  have s5 := cr5 (n := m + 8) (pn := pn') (N := .int (N : Int)) hs hk h52 (law_kept_of (n := m + 7) hr hb)
  have s6 : ∃ e, exec st6 (gG (m + 8) d__law_changes_right none) (e8 (some pn') (some (.int (N : Int))) (some (.lst (r.map .int))) (some (toldD a r b)) none (some (chD p l b)) (some (.tup (w.map .int))) none) = some (.rt (.bl true) e) ∧ rdS e 0 = some pn' := by
    by_cases h3 : 3 ≤ N
    · exact ⟨_, cr6 (by omega), rfl⟩
    · exact last_all (by omega) hp1 hl hb
  obtain ⟨e, s6, h0⟩ := s6
  refine ⟨pn', q.mono (by omega), ?_⟩
  refine callT_rt (d := d__law_changes_right) (e := e) rfl rfl ((exec_nx (c := c__law_changes_right) rfl s1).trans ((exec_nx rfl s2).trans ((exec_nx rfl s3).trans ((exec_nx rfl s4).trans ((exec_nx rfl s5).trans s6))))) ?_
  show [rdS e 0] = _
  rw [h0]
end PB
set_option maxHeartbeats 4000000
/-! L15: _law_counts_right and _law_hung_right. -/
namespace PB
open PySem K90
noncomputable section
def isTrC (o : Om) : Bool := match o with
  | some (.ok (.bl b) _) => b
  | _ => false
theorem isTrC_ok {o : Om} (h : isTrC o = true) : ∃ e, o = some (.ok (.bl true) e) := by
  unfold isTrC at h
  split at h
  · cases h; exact ⟨_, rfl⟩
  · cases h
theorem cnt0 : isTrC (runX x__law_counts_right [.int (.ofNat 0)]) = true := by kernel_rfl
theorem cnt1 : isTrC (runX x__law_counts_right [.int (.ofNat 1)]) = true := by kernel_rfl
theorem cnt2 : isTrC (runX x__law_counts_right [.int (.ofNat 2)]) = true := by kernel_rfl
theorem cnt3 : isTrC (runX x__law_counts_right [.int (.ofNat 3)]) = true := by kernel_rfl
theorem hng0 : isTrC (runX x__law_hung_right [.int (.ofNat 0)]) = true := by kernel_rfl
theorem hng1 : isTrC (runX x__law_hung_right [.int (.ofNat 1)]) = true := by kernel_rfl
theorem hng2 : isTrC (runX x__law_hung_right [.int (.ofNat 2)]) = true := by kernel_rfl
theorem hng3 : isTrC (runX x__law_hung_right [.int (.ofNat 3)]) = true := by kernel_rfl
theorem hng4 : isTrC (runX x__law_hung_right [.int (.ofNat 4)]) = true := by kernel_rfl
theorem hng5 : isTrC (runX x__law_hung_right [.int (.ofNat 5)]) = true := by kernel_rfl
theorem hng6 : isTrC (runX x__law_hung_right [.int (.ofNat 6)]) = true := by kernel_rfl
theorem hng7 : isTrC (runX x__law_hung_right [.int (.ofNat 7)]) = true := by kernel_rfl
theorem hng8 : isTrC (runX x__law_hung_right [.int (.ofNat 8)]) = true := by kernel_rfl
theorem cnt_at : ∀ i, i < 4 → isTrC (runX x__law_counts_right [.int (.ofNat i)]) = true
  | 0, _ => cnt0
  | 1, _ => cnt1
  | 2, _ => cnt2
  | 3, _ => cnt3
  | n + 4, h => by omega
theorem hng_at : ∀ i, i < 9 → isTrC (runX x__law_hung_right [.int (.ofNat i)]) = true
  | 0, _ => hng0
  | 1, _ => hng1
  | 2, _ => hng2
  | 3, _ => hng3
  | 4, _ => hng4
  | 5, _ => hng5
  | 6, _ => hng6
  | 7, _ => hng7
  | 8, _ => hng8
  | n + 9, h => by omega
theorem counts_right {k : Int} (h0 : 0 ≤ k) (h : k < 4) (m : Nat) : ∃ o, callN T (m + 7) 58 none [.int k] = some (.ok (.bl true) o) := by
  obtain ⟨i, rfl⟩ := Int.eq_ofNat_of_zero_le h0
  obtain ⟨e, he⟩ := isTrC_ok (cnt_at i (by omega))
  exact ⟨e, by rw [← he]; exact (run_callN (f := 58) (l := 6) (by rfl) m).symm⟩
theorem hung_right {k : Int} (h0 : 0 ≤ k) (h : k < 9) (m : Nat) : ∃ o, callN T (m + 5) 59 none [.int k] = some (.ok (.bl true) o) := by
  obtain ⟨i, rfl⟩ := Int.eq_ofNat_of_zero_le h0
  obtain ⟨e, he⟩ := isTrC_ok (hng_at i (by omega))
  exact ⟨e, by rw [← he]; exact (run_callN (f := 59) (l := 4) (by rfl) m).symm⟩
end
end PB
namespace K90
noncomputable section
open PySem PB
abbrev sqB : C → C | .seq _ b => b | c => c
def t__law_errors_right_2 : XS := (X.seq (X.fr (X.sset z3) (X.lst (X.cons (X.cst .non) (X.cons (X.neg (X.cst (.int (.ofNat 1)))) (X.cons (X.cst (.bl true)) (X.cons (X.cst (.str "1")) (X.cons (X.tup (X.cons (X.cst (.int (.ofNat 2))) X.nil)) X.nil)))))) (X.seq (X.asg (X.oset z5) (X.lst (X.cons (X.lamcall x__law_met (X.call x_moved_row [none, none, none] [none, none, none] (X.cons (X.var Fr.s3) (X.cons (X.cst .non) (X.cons (X.cst .non) X.nil))))) X.nil))) (X.seq (X.app sl5 (X.lamcall x__law_met (X.call x_change_rounds [none, none] [none, none] (X.cons (X.var Fr.s3) (X.cons (X.cst .non) X.nil))))) (X.seq (X.app sl5 (X.lamcall x__law_met (X.call x_count_kept [none, none] [none, none] (X.cons (X.var Fr.s3) (X.cons (X.cst .non) X.nil))))) (X.seq (X.app sl5 (X.lamcall x__law_met (X.call x_count_forms [none] [none] (X.cons (X.var Fr.s3) X.nil)))) (X.seq (X.app sl5 (X.lamcall x__law_met (X.call x_count_named [none] [none] (X.cons (X.var Fr.s3) X.nil)))) (X.seq (X.app sl5 (X.lamcall x__law_met (X.call x_count_hung [none] [none] (X.cons (X.var Fr.s3) X.nil)))) (X.ife (X.neR [(.loc Fr.s5)] (X.cons (X.loc Fr.s5) X.nil) [.val] (X.cons (X.opv (nOp .mul mulN) (X.lst (X.cons (X.tup (X.cons (X.cst (.str "BadNumber")) (X.cons (X.cst (.str "letters")) (X.cons (X.var Fr.s3) X.nil)))) X.nil)) (X.cst (.int (.ofNat 6)))) X.nil)) (X.ret (X.cst (.bl false))) X.pass .val))))))) .val) (X.seq (X.asg (X.sset z4) (X.lst (X.cons (X.cst .non) (X.cons (X.blt X.lstX [.val] (X.cons (X.var Fr.s2) X.nil)) (X.cons (X.slc (X.var Fr.s2) none (some (X.cst (.int (.ofNat 2)))) .val) (X.cons (X.opv addX (X.var Fr.s2) (X.tup (X.cons (X.cst (.int (.ofNat 0))) X.nil))) (X.cons (X.tup (X.cons (X.idx (X.var Fr.s2) (X.cst (.int (.ofNat 0))) .val) (X.cons (X.idx (X.var Fr.s2) (X.cst (.int (.ofNat 1))) .val) (X.cons (X.cst (.bl true)) X.nil)))) (X.cons (X.tup (X.cons (X.idx (X.var Fr.s2) (X.cst (.int (.ofNat 0))) .val) (X.cons (X.idx (X.var Fr.s2) (X.cst (.int (.ofNat 1))) .val) (X.cons (X.cst (.int (.ofNat 2))) X.nil)))) X.nil)))))))) (X.seq (X.asg (X.sset z4) (X.opv addX (X.var Fr.s4) (X.lst (X.cons (X.tup (X.cons (X.blt X.lstX [.val] (X.cons (X.idx (X.var Fr.s2) (X.cst (.int (.ofNat 0))) .val) X.nil)) (X.cons (X.idx (X.var Fr.s2) (X.cst (.int (.ofNat 1))) .val) (X.cons (X.cst (.int (.ofNat 0))) X.nil)))) (X.cons (X.tup (X.cons (X.opv addX (X.idx (X.var Fr.s2) (X.cst (.int (.ofNat 0))) .val) (X.tup (X.cons (X.var Fr.s1) X.nil))) (X.cons (X.idx (X.var Fr.s2) (X.cst (.int (.ofNat 1))) .val) (X.cons (X.cst (.int (.ofNat 0))) X.nil)))) (X.cons (X.tup (X.cons (X.idx (X.var Fr.s2) (X.cst (.int (.ofNat 0))) .val) (X.cons (X.tup (X.cons (X.var Fr.s1) X.nil)) (X.cons (X.cst (.int (.ofNat 0))) X.nil)))) X.nil)))))) (X.seq (X.fr (X.sset z3) (X.opv addX (X.var Fr.s4) (X.lst (X.cons (X.tup (X.cons (X.idx (X.var Fr.s2) (X.cst (.int (.ofNat 0))) .val) (X.cons (X.tup (X.cons (X.cst (.int (.ofNat 0))) (X.cons (X.cst (.int (.ofNat 0))) X.nil))) (X.cons (X.cst (.int (.ofNat 0))) X.nil)))) (X.cons (X.tup (X.cons (X.opv (nOp .mul mulN) (X.tup (X.cons (X.cst (.int (.ofNat 0))) X.nil)) (X.opv addX (X.var Fr.s1) (X.cst (.int (.ofNat 1))))) (X.cons (X.tup X.nil) (X.cons (X.cst (.int (.ofNat 0))) X.nil)))) X.nil)))) (X.seq (X.asg (X.oset z5) (X.lst (X.cons (X.lamcall x__law_met (X.call x_moved_row [none, none, none] [none, none, none] (X.cons (X.var Fr.s1) (X.cons (X.var Fr.s3) (X.cons (X.cst .non) X.nil))))) X.nil))) (X.seq (X.app sl5 (X.lamcall x__law_met (X.call x_change_rounds [none, none] [none, none] (X.cons (X.var Fr.s1) (X.cons (X.var Fr.s3) X.nil))))) (X.seq (X.app sl5 (X.lamcall x__law_met (X.call x_count_kept [none, none] [none, none] (X.cons (X.var Fr.s1) (X.cons (X.var Fr.s3) X.nil))))) (X.ife (X.neR [(.loc Fr.s5)] (X.cons (X.loc Fr.s5) X.nil) [.val] (X.cons (X.opv (nOp .mul mulN) (X.lst (X.cons (X.tup (X.cons (X.cst (.str "BadRow")) (X.cons (X.var Fr.s3) X.nil))) X.nil)) (X.cst (.int (.ofNat 3)))) X.nil)) (X.ret (X.cst (.bl false))) X.pass .val)))) .val) (X.seq (X.fr (X.sset z3) (X.lst (X.cons (X.cst .non) (X.cons (X.opv (nOp .mul mulN) (X.tup (X.cons (X.cst (.int (.ofNat 0))) X.nil)) (X.opv addX (X.var Fr.s1) (X.cst (.int (.ofNat 1))))) (X.cons (X.opv (nOp .mul mulN) (X.lst (X.cons (X.cst (.int (.ofNat 0))) X.nil)) (X.var Fr.s1)) (X.cons (X.ite (X.opv (nOp .gt gtN) (X.var Fr.s1) (X.cst (.int (.ofNat 0)))) (X.opv (nOp .mul mulN) (X.tup (X.cons (X.cst (.bl true)) X.nil)) (X.var Fr.s1)) (X.cst .non) .val) (X.cons (X.ite (X.opv (nOp .gt gtN) (X.var Fr.s1) (X.cst (.int (.ofNat 0)))) (X.opv (nOp .mul mulN) (X.tup (X.cons (X.cst (.int (.ofNat 2))) X.nil)) (X.var Fr.s1)) (X.tup (X.cons (X.cst (.int (.ofNat 0))) X.nil)) .val) X.nil)))))) (X.ife (X.neR [.val] (X.cons (X.lamcall x__law_met (X.call x_moved_row [none, none, none] [none, none, none] (X.cons (X.var Fr.s1) (X.cons (X.var Fr.s2) (X.cons (X.var Fr.s3) X.nil))))) X.nil) [.val] (X.cons (X.tup (X.cons (X.cst (.str "BadRow")) (X.cons (X.var Fr.s3) X.nil))) X.nil)) (X.ret (X.cst (.bl false))) X.pass .val) .val) (X.ret (X.cst (.bl true))))))))
theorem t_e__law_errors_right_2 : t__law_errors_right_2 = FS (xp.tf 6) (sqB (sqB (c__law_errors_right))) d__law_errors_right.ks := rfl
theorem t_ok__law_errors_right_2 : ok (infoT T) (xp.al 6) (sqB (sqB (c__law_errors_right))) .s d__law_errors_right.ks = true := by decide +kernel
end
end K90
set_option maxHeartbeats 4000000
/-! Jm: what is left of a body, in the continuation form. -/
namespace PB
open PySem
noncomputable section
theorem Xp.runS (p : Xp) (h : p.Ok) {l : Nat} {c : C} {ks : List Kd} (hn : ks.length ≤ nSl) (hok : ok (infoT p.T) (p.al l) c .s ks = true) (m : Nat) (act : Act) :
    SSt ks.length ⟨act, none⟩ (exec c { ks := ks, cf := callN p.T (m + l), info := fun g => match p.T.defs[g]? with | some d => d.ks.take d.np | none => [], sub := p.T.sub, xin := p.T.xin, wf := p.T.wf, act := act, ex := none }) (FS (p.tf l) c ks) := by
  have call : ∀ g, (p.tf l).al g = true → ∃ q, p.lv g = some q ∧ q < l := fun g hg => by
    have hg' : (match p.lv g with | some m => decide (m < l) | none => false) = true := hg
    cases hq : p.lv g with
    | none => rw [hq] at hg'; cases hg'
    | some q => rw [hq] at hg'; exact ⟨q, rfl, of_decide_eq_true hg'⟩
  refine FS_ok (p.tf l) c _ ⟨act, none⟩ ks ⟨fun g hg => ?_, fun g hg => ?_, rfl, rfl, rfl, rfl⟩ ⟨rfl, rfl, rfl⟩ hn hok
  · obtain ⟨q, hq, hl⟩ := call g hg
    have := (p.run h q g hq (m + (l - q - 1))).1
    have e : m + (l - q - 1) + q + 1 = m + l := by omega
    rw [e] at this
    exact this
  · obtain ⟨q, hq, hl⟩ := call g hg
    have := (p.run h q g hq (m + (l - q - 1))).2
    have e : m + (l - q - 1) + q + 1 = m + l := by omega
    rw [e] at this
    exact this
/-- what is returned, with the first slot -/
def Kf : KS := ⟨fun _ => none, fun d e => some (.ok d [e.s0]), fun _ => none, fun _ => none, fun _ _ => none⟩
def Kf' : KE := ⟨fun _ => none, fun d e => some (.ok d [rdS e 0]), fun _ => none, fun _ => none, fun _ _ => none⟩
theorem Kf_ok {n : Nat} (h0 : 0 < n) (hn : n ≤ 12) : KR n Kf Kf' := ⟨fun _ => rfl, fun d e => by
  show some (CO.ok d [e.s0]) = some (.ok d [rdS (e.l n) 0])
  rw [slot_g 0 n e h0 hn]
  rfl, fun _ => rfl, fun _ => rfl, fun _ _ => rfl⟩
theorem Kf_rt {m : Option Out} {d : D} {p : Option D} (h : oR m Kf' = some (.ok d [p])) : ∃ e, m = some (.rt d e) ∧ rdS e 0 = p := by
  cases m with
  | none => cases h
  | some o =>
    cases o with
    | rt v e =>
      have h : some (CO.ok v [rdS e 0]) = some (.ok d [p]) := h
      cases h
      exact ⟨e, rfl, rfl⟩
    | _ => cases h
end
end PB
set_option maxHeartbeats 4000000
/-! L16: the last statements of _law_errors_right. -/
namespace PB
open PySem K90
noncomputable section
def errR (N : Nat) (p l : List Int) (b : Int) (pn : D) : Om := t__law_errors_right_2 ⟨none, none⟩ ⟨some pn, some (.int (N : Int)), some (chD p l b), none, none, none, none, none, none, none, none, none⟩ Kf
theorem err_ok {m N : Nat} {p l : List Int} {b : Int} {pn : D} (h : errR N p l b pn = some (.ok (.bl true) [some pn])) : ∃ e, exec (sq2 (sq2 c__law_errors_right)) (gG (m + 6) d__law_errors_right none) [some pn, some (.int (N : Int)), some (chD p l b), none, none, none] = some (.rt (.bl true) e) ∧ rdS e 0 = some pn := by
  unfold errR at h
  rw [t_e__law_errors_right_2] at h
  have z := xp.runS xok (l := 6) (c := sqB (sqB c__law_errors_right)) (ks := d__law_errors_right.ks) (by decide) t_ok__law_errors_right_2 m none ⟨some pn, some (.int (N : Int)), some (chD p l b), none, none, none, none, none, none, none, none, none⟩ Kf Kf' (Kf_ok (by decide) (by decide))
  exact Kf_rt (z.symm.trans h)
def errP (N : Nat) (p : List Int) (pn : D) : List Om := (lotsN N).flatMap fun l => ([0, 1] : List Int).map fun b => errR N p l b pn
theorem err0_0 (pn : D) : errP 0 ((picks (intsN 0)).getD 0 []) pn = List.replicate 2 (some (.ok (.bl true) [some pn])) := by kernel_rfl
theorem err1_0 (pn : D) : errP 1 ((picks (intsN 1)).getD 0 []) pn = List.replicate 4 (some (.ok (.bl true) [some pn])) := by kernel_rfl
theorem err2_0 (pn : D) : errP 2 ((picks (intsN 2)).getD 0 []) pn = List.replicate 8 (some (.ok (.bl true) [some pn])) := by kernel_rfl
theorem err2_1 (pn : D) : errP 2 ((picks (intsN 2)).getD 1 []) pn = List.replicate 8 (some (.ok (.bl true) [some pn])) := by kernel_rfl
theorem err3_0 (pn : D) : errP 3 ((picks (intsN 3)).getD 0 []) pn = List.replicate 16 (some (.ok (.bl true) [some pn])) := by kernel_rfl
theorem err3_1 (pn : D) : errP 3 ((picks (intsN 3)).getD 1 []) pn = List.replicate 16 (some (.ok (.bl true) [some pn])) := by kernel_rfl
theorem err3_2 (pn : D) : errP 3 ((picks (intsN 3)).getD 2 []) pn = List.replicate 16 (some (.ok (.bl true) [some pn])) := by kernel_rfl
theorem err3_3 (pn : D) : errP 3 ((picks (intsN 3)).getD 3 []) pn = List.replicate 16 (some (.ok (.bl true) [some pn])) := by kernel_rfl
theorem err3_4 (pn : D) : errP 3 ((picks (intsN 3)).getD 4 []) pn = List.replicate 16 (some (.ok (.bl true) [some pn])) := by kernel_rfl
theorem err3_5 (pn : D) : errP 3 ((picks (intsN 3)).getD 5 []) pn = List.replicate 16 (some (.ok (.bl true) [some pn])) := by kernel_rfl
theorem err0 (pn : D) : ∀ i, i < 1 → errP 0 ((picks (intsN 0)).getD i []) pn = List.replicate 2 (some (.ok (.bl true) [some pn]))
  | 0, _ => err0_0 pn
  | n + 1, h => by omega
theorem err1 (pn : D) : ∀ i, i < 1 → errP 1 ((picks (intsN 1)).getD i []) pn = List.replicate 4 (some (.ok (.bl true) [some pn]))
  | 0, _ => err1_0 pn
  | n + 1, h => by omega
theorem err2 (pn : D) : ∀ i, i < 2 → errP 2 ((picks (intsN 2)).getD i []) pn = List.replicate 8 (some (.ok (.bl true) [some pn]))
  | 0, _ => err2_0 pn
  | 1, _ => err2_1 pn
  | n + 2, h => by omega
theorem err3 (pn : D) : ∀ i, i < 6 → errP 3 ((picks (intsN 3)).getD i []) pn = List.replicate 16 (some (.ok (.bl true) [some pn]))
  | 0, _ => err3_0 pn
  | 1, _ => err3_1 pn
  | 2, _ => err3_2 pn
  | 3, _ => err3_3 pn
  | 4, _ => err3_4 pn
  | 5, _ => err3_5 pn
  | n + 6, h => by omega
theorem err_at {N k q m : Nat} {pn : D} (h : ∀ i, i < k → errP N ((picks (intsN N)).getD i []) pn = List.replicate q (some (.ok (.bl true) [some pn]))) (hk : (picks (intsN N)).length = k) {p l : List Int} {b : Int} (hp : p ∈ picks (intsN N)) (hl : l ∈ lotsN N) (hb : b = 0 ∨ b = 1) :
    ∃ e, exec (sq2 (sq2 c__law_errors_right)) (gG (m + 6) d__law_errors_right none) [some pn, some (.int (N : Int)), some (chD p l b), none, none, none] = some (.rt (.bl true) e) ∧ rdS e 0 = some pn := by
  obtain ⟨i, hi, e⟩ := List.mem_iff_getElem.mp hp
  have z := h i (by omega)
  rw [List.getD_eq_getElem?_getD, List.getElem?_eq_getElem hi, Option.getD_some, e] at z
  apply err_ok
  refine List.eq_of_mem_replicate (n := q) ?_
  rw [← z]
  exact List.mem_flatMap.mpr ⟨l, hl, List.mem_map.mpr ⟨b, b01 hb, rfl⟩⟩
theorem err_all {N m : Nat} {pn : D} (hN : N ≤ 3) {p l : List Int} {b : Int} (hp : p ∈ picks (intsN N)) (hl : l ∈ lotsN N) (hb : b = 0 ∨ b = 1) :
    ∃ e, exec (sq2 (sq2 c__law_errors_right)) (gG (m + 6) d__law_errors_right none) [some pn, some (.int (N : Int)), some (chD p l b), none, none, none] = some (.rt (.bl true) e) ∧ rdS e 0 = some pn := by
  rcases (by omega : N = 0 ∨ N = 1 ∨ N = 2 ∨ N = 3) with h | h | h | h
  · exact err_at (k := 1) (q := 2) (by rw [h]; exact err0 pn) (by rw [h]; decide +kernel) hp hl hb
  · exact err_at (k := 1) (q := 4) (by rw [h]; exact err1 pn) (by rw [h]; decide +kernel) hp hl hb
  · exact err_at (k := 2) (q := 8) (by rw [h]; exact err2 pn) (by rw [h]; decide +kernel) hp hl hb
  · exact err_at (k := 6) (q := 16) (by rw [h]; exact err3 pn) (by rw [h]; decide +kernel) hp hl hb
/-- _law_errors_right -/
theorem errors_right {c m : Nat} {pn : D} (hp : PenOk c pn) (hc : c < 800) : ∃ pn', callN T (m + 7) 60 none [pn] = some (.ok (.bl true) [some pn']) := by
  obtain ⟨k, pn1, a1, a2, a3, a4⟩ := draw (n := m + 5) (m := 4) hp (by omega) (by omega) (by omega)
  obtain ⟨N, rfl⟩ := Int.eq_ofNat_of_zero_le a2
  have hN : N ≤ 3 := by omega
  obtain ⟨p, hp1, l, hl1, b, hb, pn2, b1, b2⟩ := change (N := N) (m := m + 3) (by omega) a4 (by omega)
  have s1 : exec (sq1 c__law_errors_right) (gG (m + 6) d__law_errors_right none) [some pn, none, none, none, none, none] = some (.nx [some pn1, some (.int (N : Int)), none, none, none, none]) :=
    exec_asgv (i := 1) (callP (n := m + 6) (dd := d__law_errors_right) (f := 39) (c := .cst (.int 4)) (x := .int 4) (e := [some pn, none, none, none, none, none]) rfl rfl rfl (by kernel_rfl) (by kernel_rfl) a1) rfl rfl
  have s2 : exec (sq1 (sq2 c__law_errors_right)) (gG (m + 6) d__law_errors_right none) [some pn1, some (.int (N : Int)), none, none, none, none] = some (.nx [some pn2, some (.int (N : Int)), some (chD p l b), none, none, none]) :=
    exec_asgv (i := 2) (callP (n := m + 6) (dd := d__law_errors_right) (f := 54) (c := .var 1) (x := .int (N : Int)) (e := [some pn1, some (.int (N : Int)), none, none, none, none]) rfl rfl rfl (by kernel_rfl) (by kernel_rfl) b2) rfl rfl
  have s3 : ∃ e, exec (sq2 (sq2 c__law_errors_right)) (gG (m + 6) d__law_errors_right none) [some pn2, some (.int (N : Int)), some (chD p l b), none, none, none] = some (.rt (.bl true) e) ∧ rdS e 0 = some pn2 := by
    exact err_all hN hp1 hl1 hb
  obtain ⟨e, s3, h0⟩ := s3
  refine ⟨pn2, callT_rt (d := d__law_errors_right) (e := e) rfl rfl ((exec_nx (c := c__law_errors_right) rfl s1).trans ((exec_nx rfl s2).trans s3)) ?_⟩
  show [rdS e 0] = _
  rw [h0]
end
end PB
set_option maxHeartbeats 4000000
/-! L17: the law. -/
namespace PB
open PySem K90
theorem call_shr2 {n f : Nat} {dd d : DefI} {a : C} {xs : List D} {e e1 : En} {v : D} {o : List (Option D)} (hd : T.defs[f]? = some d) (hs : allShr f = true) (hn : noLocs a = true) (ht : isTgs a = true) (hl : lenG a = d.np) (hx : xs.length = d.np)
    (ha : ev a (gG n dd none) e = some (.ok (.lst xs) e1)) (hc : callN T n f none xs = some (.ok v o)) : ev (.call f a) (gG n dd none) e = some (.ok v e1) := by
  obtain ⟨i1, i2⟩ := info_shr hd hs
  have ho := callN_outs hd hx i2 hc
  subst ho
  have hi : (gG n dd none).info f = List.replicate d.np Kd.shr := by
    show (match T.defs[f]? with | some d => d.ks.take d.np | none => []) = _
    rw [hd]
    exact i1
  rw [ev, ha]
  show (argL dd.ks ((gG n dd none).info f) a xs e1).bind _ = _
  rw [hi, argL_shr hn hl ht hx]
  show (match callN T n f none xs with
    | none => none
    | some (.ok d' o) => (backL (List.replicate d.np Kd.shr) a o e1).map (R.ok d' ·)
    | some (.xc x o) => (backL (List.replicate d.np Kd.shr) a o e1).map (R.xc x ·)) = _
  rw [hc]
  show (backL (List.replicate d.np Kd.shr) a (List.replicate d.np none) e1).map _ = _
  rw [backL_shr hl ht]
  rfl
section
variable {n : Nat} {sc pn pn' v : D} {x : Option D}
abbrev e3 (sc p : D) (x : Option D) : En := [some sc, some p, x]
theorem lw38 (h : callN T n 38 none [sc] = some (.ok v [none])) : ev (.call 38 (.cons (.scr 0) .nil)) (gG n d_law none) [some sc, none, none] = some (.ok v [some sc, none, none]) := by
  have e1 : ev (.call 38 (.cons (.scr 0) .nil)) (gG n d_law none) [some sc, none, none] = match callN T n 38 none [sc] with
    | none => none
    | some (.ok d o) => (backL [.frz] (.cons (.scr 0) .nil) o [some sc, none, none]).map (R.ok d ·)
    | some (.xc x o) => (backL [.frz] (.cons (.scr 0) .nil) o [some sc, none, none]).map (R.xc x ·) := by kernel_rfl
  rw [e1, h]
  rfl
theorem lw39 {k : Int} (h : callN T n 39 none [pn, .int k] = some (.ok v [some pn', none])) : ev (.call 39 (.cons (.loc 1) (.cons (.cst (.int k)) .nil))) (gG n d_law none) (e3 sc pn x) = some (.ok v (e3 sc pn' x)) := by
  have e1 : ev (.call 39 (.cons (.loc 1) (.cons (.cst (.int k)) .nil))) (gG n d_law none) (e3 sc pn x) = match callN T n 39 none [pn, .int k] with
    | none => none
    | some (.ok d o) => (backL [.own, .shr] (.cons (.loc 1) (.cons (.cst (.int k)) .nil)) o (e3 sc pn x)).map (R.ok d ·)
    | some (.xc y o) => (backL [.own, .shr] (.cons (.loc 1) (.cons (.cst (.int k)) .nil)) o (e3 sc pn x)).map (R.xc y ·) := by kernel_rfl
  rw [e1, h]
  rfl
theorem lw56 (h : callN T n 56 none [pn] = some (.ok v [some pn'])) : ev (.call 56 (.cons (.loc 1) .nil)) (gG n d_law none) (e3 sc pn x) = some (.ok v (e3 sc pn' x)) := by
  have e1 : ev (.call 56 (.cons (.loc 1) .nil)) (gG n d_law none) (e3 sc pn x) = match callN T n 56 none [pn] with
    | none => none
    | some (.ok d o) => (backL [.own] (.cons (.loc 1) .nil) o (e3 sc pn x)).map (R.ok d ·)
    | some (.xc y o) => (backL [.own] (.cons (.loc 1) .nil) o (e3 sc pn x)).map (R.xc y ·) := by kernel_rfl
  rw [e1, h]
  rfl
theorem lw60 (h : callN T n 60 none [pn] = some (.ok v [some pn'])) : ev (.call 60 (.cons (.loc 1) .nil)) (gG n d_law none) (e3 sc pn x) = some (.ok v (e3 sc pn' x)) := by
  have e1 : ev (.call 60 (.cons (.loc 1) .nil)) (gG n d_law none) (e3 sc pn x) = match callN T n 60 none [pn] with
    | none => none
    | some (.ok d o) => (backL [.own] (.cons (.loc 1) .nil) o (e3 sc pn x)).map (R.ok d ·)
    | some (.xc y o) => (backL [.own] (.cons (.loc 1) .nil) o (e3 sc pn x)).map (R.xc y ·) := by kernel_rfl
  rw [e1, h]
  rfl
end
theorem ev_not {a : C} {G : Gx} {e e1 : En} {b : Bool} (h : ev a G e = some (.ok (.bl b) e1)) (hl : isLoc a = false) : ev (.not a) G e = some (.ok (.bl (!b)) e1) := by
  have f1 : finT a (.bl b) e1 = some b := by
    have : fin a (.bl b) e1 = some (.bl b) := by cases a <;> first | rfl | cases hl
    show (fin a (.bl b) e1).bind truthO = _
    rw [this]
    rfl
  rw [ev, h]
  show (finT a (.bl b) e1).map _ = _
  rw [f1]
  rfl
theorem ev_orF {a b : C} {G : Gx} {e e1 e2 : En} {v : D} (h : ev a G e = some (.ok (.bl false) e1)) (h2 : ev b G e1 = some (.ok v e2)) (la : isLoc a = false) (lb : isLoc b = false) : ev (.or a b) G e = some (.ok v e2) := by
  rw [ev, h]
  show (if (isLoc a || isLoc b) = true then none else ev b G e1) = _
  rw [la, lb]
  exact h2
theorem exec_ifeF {c a b : C} {G : Gx} {e e1 : En} (h : ev c G e = some (.ok (.bl false) e1)) (hl : isLoc c = false) : exec (.ife c a b) G e = exec b G e1 := by
  have f1 : finT c (.bl false) e1 = some false := by
    have : fin c (.bl false) e1 = some (.bl false) := by cases c <;> first | rfl | cases hl
    show (fin c (.bl false) e1).bind truthO = _
    rw [this]
    rfl
  rw [exec, h]
  show (finT c (.bl false) e1).bind _ = _
  rw [f1]
  rfl
abbrev lwB : C := .ife (.not (.call 56 (.cons (.loc 1) .nil))) (.ret (.cst (.bl false))) .pass
theorem lw_loop {m : Nat} {sc : D} : ∀ (ds : List D) (c : Nat) (pn : D) (x : Option D), PenOk c pn → c + 12 * ds.length < 800 →
    ∃ pn' x', PenOk (c + 12 * ds.length) pn' ∧ forE (asgT d_law.ks (.var 2)) (fun e => exec lwB (gG (m + 9) d_law none) e) ds (e3 sc pn x) = some (.nx (e3 sc pn' x'))
  | [], c, pn, x, hp, _ => ⟨pn, x, hp, rfl⟩
  | d :: ds, c, pn, x, hp, hc => by
    rw [List.length_cons] at hc
    obtain ⟨p1, q1, h1⟩ := changes_right (m := m) hp (by omega)
    obtain ⟨p2, x2, q2, h2⟩ := lw_loop (m := m) (sc := sc) ds (c + 12) p1 (some d) q1 (by omega)
    refine ⟨p2, x2, q2.mono (by rw [List.length_cons]; omega), ?_⟩
    have st : asgT d_law.ks (.var 2) d (e3 sc pn x) = some (e3 sc pn (some d)) := rfl
    have b : exec lwB (gG (m + 9) d_law none) (e3 sc pn (some d)) = some (.nx (e3 sc p1 (some d))) := by
      rw [exec_ifeF (e1 := e3 sc p1 (some d)) (ev_not (b := true) (lw56 h1) rfl) rfl]
      rfl
    rw [forE, st]
    show (match exec lwB (gG (m + 9) d_law none) (e3 sc pn (some d)) with
      | some (.nx e2) => forE (asgT d_law.ks (.var 2)) (fun e => exec lwB (gG (m + 9) d_law none) e) ds e2
      | some (.ct e2) => forE (asgT d_law.ks (.var 2)) (fun e => exec lwB (gG (m + 9) d_law none) e) ds e2
      | some (.bk e2) => some (.nx e2)
      | o => o) = _
    rw [b]
    exact h2
theorem law_true {m : Nat} (ns : List Int) : ∃ o, callN T (m + 10) 61 none [.lst (ns.map D.int)] = some (.ok (.bl true) o) := by
  obtain ⟨p0, q0, h0⟩ := pen (n := m + 8) ns
  obtain ⟨p1, x1, q1, h1⟩ := lw_loop (m := m) (sc := .lst (ns.map D.int)) (rangeD 0 4) 0 p0 none q0 (by decide)
  have q1 : PenOk 48 p1 := q1
  obtain ⟨k1, p2, a1, a2, a3, q2⟩ := draw (n := m + 8) (m := 4) q1 (by omega) (by omega) (by omega)
  obtain ⟨o1, c1⟩ := counts_right a2 a3 (m + 2)
  obtain ⟨k2, p3, b1, b2, b3, q3⟩ := draw (n := m + 8) (m := 9) q2 (by omega) (by omega) (by omega)
  obtain ⟨o2, c2⟩ := hung_right b2 b3 (m + 4)
  obtain ⟨p4, c3⟩ := errors_right (m := m + 2) q3 (by omega)
  have s1 : exec (sq1 c_law) (gG (m + 9) d_law none) [some (.lst (ns.map D.int)), none, none] = some (.nx (e3 (.lst (ns.map D.int)) p0 none)) := by
    obtain ⟨_, _, _, _, _, rfl, _⟩ := q0
    show exec (.asg (.loc 1) (.call 38 (.cons (.scr 0) .nil))) _ _ = _
    rw [exec, lw38 h0]
    rfl
  have s2 : exec (sq1 (sq2 c_law)) (gG (m + 9) d_law none) (e3 (.lst (ns.map D.int)) p0 none) = some (.nx (e3 (.lst (ns.map D.int)) p1 x1)) := by
    have r : ev (.blt .range (.cons (.cst (.int 4)) .nil)) (gG (m + 9) d_law none) (e3 (.lst (ns.map D.int)) p0 none) = some (.ok (.lst (rangeD 0 4)) (e3 (.lst (ns.map D.int)) p0 none)) := by kernel_rfl
    show exec (.fr (.var 2) (.blt .range (.cons (.cst (.int 4)) .nil)) lwB) _ _ = _
    rw [exec, r]
    exact h1
  have s3 : exec (sq1 (sq2 (sq2 c_law))) (gG (m + 9) d_law none) (e3 (.lst (ns.map D.int)) p1 x1) = some (.nx (e3 (.lst (ns.map D.int)) p3 x1)) := by
    have A : ev (.cons (.call 39 (.cons (.loc 1) (.cons (.cst (.int 4)) .nil))) .nil) (gG (m + 9) d_law none) (e3 (.lst (ns.map D.int)) p1 x1) = some (.ok (.lst [.int k1]) (e3 (.lst (ns.map D.int)) p2 x1)) := by
      rw [ev, lw39 a1]
      rfl
    have B : ev (.cons (.call 39 (.cons (.loc 1) (.cons (.cst (.int 9)) .nil))) .nil) (gG (m + 9) d_law none) (e3 (.lst (ns.map D.int)) p2 x1) = some (.ok (.lst [.int k2]) (e3 (.lst (ns.map D.int)) p3 x1)) := by
      rw [ev, lw39 b1]
      rfl
    have A2 := call_shr2 (n := m + 9) (dd := d_law) (d := d__law_counts_right) (f := 58) rfl (by decide +kernel) rfl rfl rfl rfl A c1
    have B2 := call_shr2 (n := m + 9) (dd := d_law) (d := d__law_hung_right) (f := 59) rfl (by decide +kernel) rfl rfl rfl rfl B c2
    refine (exec_ifeF (a := .ret (.cst (.bl false))) (b := .pass) (ev_orF (ev_not (b := true) A2 rfl) (ev_not (b := true) B2 rfl) rfl rfl) rfl).trans ?_
    rfl
  have s4 : exec (sq2 (sq2 (sq2 c_law))) (gG (m + 9) d_law none) (e3 (.lst (ns.map D.int)) p3 x1) = some (.rt (.bl true) (e3 (.lst (ns.map D.int)) p4 x1)) := exec_ret (lw60 c3) rfl
  exact ⟨[none], callT_rt (d := d_law) rfl rfl ((exec_nx (c := c_law) rfl s1).trans ((exec_nx rfl s2).trans ((exec_nx rfl s3).trans s4))) rfl⟩
end PB
open PySem PySem.W PySem.Calls PyProof.Rows
set_option maxHeartbeats 4000000
theorem room90 : L2.Room (3 * 10) callerA := ⟨rfl, by decide +kernel, by decide +kernel⟩
theorem PySem.Challenge.cw_askedsofew_k90_whole_class_counts_holds : PySem.Challenge.rw_askedsofew_k90_whole_class_counts.Holds := by
  exact holds90 (n := 10) room90 fun ns _ _ => PB.law_true (m := 0) ns
