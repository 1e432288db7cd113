import PyProof.Rows.All
import Wide.All
import OpenK.AllK
import Wide.FinOn
import PySem.Challenge.RW_outlines_k02_whole_sketches
import KE.KStateDown
import HandS.ForMost
import HandS.Exc
import HandS.ExcOwn
import HandS.ExcValue
import HandS.Walk
import HandS.IsInst
import HandS.Style
import HandS.SortInts
import HandS.TupAny
import HandS.TupMul
import HandS.Deep
import HandS.Conv
import HandS.Zip
import HandS.NoneIn
import HandS.WordsExc
import PyProof.ExcBaseAll.ValueError
import HandS.Defaults
import HandS.More
import HandS.Head0
import HandS.Head1
import HandS.Head2
import HandS.HeadEnd
import HandS.HeadHook1
import HandS.HeadHook2
import KE.KTupSum
import KE.GoesEnum
section
/-! Core: a pure language of combinators. Data are trees, an environment of slots; results ok, raise, stuck. -/
namespace O

inductive D where
  | non | bl (b : Bool) | int (i : Int) | str (s : List Nat) | lst (xs : List D) | tup (xs : List D)
  deriving Inhabited, Repr

/-- a field of an object: a value owned to a depth, or a dict of pairs -/
inductive Fld where
  | val (k : Nat) (d : D) | dT (ks : List (Int × Int))
  deriving Inhabited, Repr

/-- a slot: nothing; a value owned to a depth (0: shared); one that is lent; an exception; a dict of ints; an object; the script -/
inductive Slot where
  | no | val (k : Nat) (d : D) | bor (k : Nat) (d : D) | exc (c : Nat) | dI (ks : List Int) | obj (c : Nat) (fs : List (Nat × Fld)) | scr (ns : List Int)
  deriving Inhabited, Repr

abbrev Env := List Slot

inductive Res (α : Type) where
  | ok (a : α) (r : Env) | raise (c : Nat) (r : Env) | stuck
  deriving Repr

def Res.bind {α β : Type} (x : Res α) (f : α → Env → Res β) : Res β := match x with
  | .ok a r => f a r
  | .raise c r => .raise c r
  | .stuck => .stuck
/-- what is raised within is not carried -/
def Res.bindN {α β : Type} (x : Res α) (f : α → Env → Res β) : Res β := match x with
  | .ok a r => f a r
  | .raise _ _ => .stuck
  | .stuck => .stuck

inductive CRes where
  | ok (d : D) (outs : List Slot) | raise (c : Nat) (outs : List Slot) | stuck
  deriving Repr

inductive Flow where
  | nx | rt (d : D) | bk | ct
  deriving Repr

abbrev E := Env → Res D
abbrev ES := Env → Res Slot
abbrev S := Env → Res Flow
abbrev Calls := Nat → List Slot → CRes

def LIM : Nat := 16777216
def getS (r : Env) (i : Nat) : Slot := r.getD i .no
def lift (o : Option D) (r : Env) : Res D := match o with
  | some d => .ok d r
  | none => .stuck

/-! ### data -/
mutual
/-- == of data -/
def eqD : D → D → Bool
  | .non, .non => true
  | .bl a, .bl b => a == b
  | .bl a, .int j => decide ((if a then 1 else 0) = j)
  | .int i, .bl b => decide (i = (if b then 1 else 0))
  | .int i, .int j => decide (i = j)
  | .str a, .str b => decide (a = b)
  | .lst a, .lst b => eqDs a b
  | .tup a, .tup b => eqDs a b
  | _, _ => false
def eqDs : List D → List D → Bool
  | [], [] => true
  | x :: xs, y :: ys => eqD x y && eqDs xs ys
  | _, _ => false
end

/-- not deeper than n -/
def shp : Nat → D → Bool
  | 0, .lst _ => false
  | 0, .tup _ => false
  | n + 1, .lst xs => xs.all (shp n)
  | n + 1, .tup xs => xs.all (shp n)
  | _, _ => true
def eqO (x y : D) : Option D := if shp 9 x && shp 9 y then some (.bl (eqD x y)) else none
def neO (x y : D) : Option D := if shp 9 x && shp 9 y then some (.bl (!eqD x y)) else none

def repL {α : Type} (xs : List α) : Nat → List α
  | 0 => []
  | n + 1 => xs ++ repL xs n

def addD : D → D → Option D
  | .int a, .int b => some (.int (a + b))
  | .lst a, .lst b => if a.length + b.length ≤ LIM then some (.lst (a ++ b)) else none
  | .tup a, .tup b => if a.length + b.length ≤ LIM then some (.tup (a ++ b)) else none
  | .str a, .str b => if a.length + b.length ≤ LIM then some (.str (a ++ b)) else none
  | _, _ => none
def addI : D → D → Option D
  | .int a, .int b => some (.int (a + b))
  | _, _ => none
def subD : D → D → Option D
  | .int a, .int b => some (.int (a - b))
  | _, _ => none
def mulD : D → D → Option D
  | .int a, .int b => if -18446744073709551616 < a ∧ a < 18446744073709551616 then some (.int (a * b)) else none
  | .lst a, .int b => if -1000 ≤ b ∧ b ≤ 1000 ∧ a.length * b.toNat ≤ 100000 then some (.lst (repL a b.toNat)) else none
  | .tup a, .int b => if 1 ≤ b ∧ b ≤ 1000 ∧ 1 ≤ a.length ∧ a.length ≤ 1000 then some (.tup (repL a b.toNat)) else none
  | _, _ => none
def fdivD : D → D → Option D
  | .int a, .int b => if 0 < b ∧ b < 1073741824 then some (.int (a / b)) else none
  | _, _ => none
def modD : D → D → Option D
  | .int a, .int b => if 0 < b then some (.int (a % b)) else none
  | _, _ => none
def negD : D → Option D
  | .int a => some (.int (-a))
  | _ => none
def ltD : D → D → Option D
  | .int a, .int b => some (.bl (decide (a < b)))
  | _, _ => none
def leD : D → D → Option D
  | .int a, .int b => some (.bl (decide (a ≤ b)))
  | _, _ => none
def gtD : D → D → Option D
  | .int a, .int b => some (.bl (decide (b < a)))
  | _, _ => none
def geD : D → D → Option D
  | .int a, .int b => some (.bl (decide (b ≤ a)))
  | _, _ => none
def isNone : D → Bool
  | .non => true
  | _ => false
def isnO (x : D) : Option D := some (.bl (isNone x))
def notnO (x : D) : Option D := some (.bl (!isNone x))
def isbO (b : Bool) : D → Option D
  | .bl c => some (.bl (decide (c = b)))
  | _ => none
def notbO (b : Bool) : D → Option D
  | .bl c => some (.bl (!decide (c = b)))
  | _ => none
def flatD : D → Bool
  | .lst _ => false
  | .tup _ => false
  | _ => true
/-- x in c -/
def inD : D → D → Option D
  | x, .lst ys => if shp 9 x && ys.all (shp 8) then some (.bl (ys.any fun y => eqD y x)) else none
  | x, .tup ys => if flatD x && ys.all flatD then some (.bl (ys.any fun y => eqD y x)) else none
  | .str [c], .str ys => some (.bl (ys.contains c))
  | _, _ => none
def notD : D → Option D
  | .bl b => some (.bl (!b))
  | _ => none
def notinO (x y : D) : Option D := (inD x y).bind notD
/-- a place, counted from behind if it is negative -/
def atI {α : Type} (xs : List α) (i : Int) : Option α := if 0 ≤ i then xs[i.toNat]? else if 0 ≤ i + xs.length then xs[(i + xs.length).toNat]? else none
def idxD : D → D → Option D
  | .lst xs, .int i => atI xs i
  | .tup xs, .int i => atI xs i
  | _, _ => none
def posI (n : Nat) (i : Int) : Option Nat := if 0 ≤ i then (if i.toNat < n then some i.toNat else none) else if 0 ≤ i + n then some (i + n).toNat else none
def setD : D → D → D → Option D
  | .lst xs, .int i, v => (posI xs.length i).map fun j => .lst (xs.set j v)
  | _, _, _ => none
/-- an end of a slice -/
def cutAt (n : Nat) (i : Int) : Nat := if i < 0 then (i + n).toNat else min i.toNat n
def cutL {α : Type} (xs : List α) (lo hi : Option Int) : List α :=
  let a := match lo with
    | some i => cutAt xs.length i
    | none => 0
  let b := match hi with
    | some i => cutAt xs.length i
    | none => xs.length
  (xs.take b).drop a
def sliceD : D → Option Int → Option Int → Option D
  | .lst xs, lo, hi => some (.lst (cutL xs lo hi))
  | .tup xs, lo, hi => some (.tup (cutL xs lo hi))
  | .str xs, lo, hi => some (.str (cutL xs lo hi))
  | _, _, _ => none
def lenD : D → Option D
  | .lst xs => some (.int xs.length)
  | .tup xs => some (.int xs.length)
  | .str xs => some (.int xs.length)
  | _ => none
def intsOf : List D → Option (List Int)
  | [] => some []
  | .int i :: r => (intsOf r).map fun l => i :: l
  | _ :: _ => none
def boolsOf : List D → Option (List Bool)
  | [] => some []
  | .bl i :: r => (boolsOf r).map fun l => i :: l
  | _ :: _ => none
def sumD : D → Option D
  | .lst xs => (intsOf xs).map fun l => .int l.sum
  | .tup xs => (intsOf xs).map fun l => .int l.sum
  | _ => none
def allD : D → Option D
  | .lst xs => (boolsOf xs).map fun l => .bl (l.all id)
  | _ => none
def anyD : D → Option D
  | .lst xs => (boolsOf xs).map fun l => .bl (l.any id)
  | _ => none
def insI (x : Int) : List Int → List Int
  | [] => [x]
  | y :: r => if x ≤ y then x :: y :: r else y :: insI x r
def sortI : List Int → List Int
  | [] => []
  | x :: r => insI x (sortI r)
def sortedD : D → Option D
  | .lst xs => (intsOf xs).map fun l => .lst ((sortI l).map .int)
  | _ => none
def sortedTD : D → Option D
  | .tup xs => (intsOf xs).map fun l => .lst ((sortI l).map .int)
  | _ => none
/-- the first ones of equal ints -/
def nubI : List Int → List Int
  | [] => []
  | x :: r => x :: (nubI r).filter fun y => y != x
def lenSetD : D → Option D
  | .lst xs => (intsOf xs).map fun l => .int (nubI l).length
  | _ => none
def sortedSetD : D → Option D
  | .lst xs => (intsOf xs).map fun l => .lst ((sortI (nubI l)).map .int)
  | _ => none
def listD : D → Option D
  | .lst xs => some (.lst xs)
  | .tup xs => some (.lst xs)
  | _ => none
def tupleD : D → Option D
  | .lst xs => some (.tup xs)
  | .tup xs => some (.tup xs)
  | _ => none
def rangeL (n : Int) : List D := (List.range n.toNat).map fun i => .int (i : Nat)
def listRangeD : D → Option D
  | .int n => if 0 ≤ n ∧ n ≤ LIM then some (.lst (rangeL n)) else none
  | _ => none
def tupleRangeD : D → Option D
  | .int n => if 0 ≤ n ∧ n ≤ LIM then some (.tup (rangeL n)) else none
  | _ => none
def min2D : D → D → Option D
  | .int a, .int b => some (.int (if b < a then b else a))
  | _, _ => none
def max2D : D → D → Option D
  | .int a, .int b => some (.int (if b > a then b else a))
  | _, _ => none
def maxI : List Int → Int → Int
  | [], m => m
  | x :: r, m => maxI r (if x > m then x else m)
def max1D : D → Option D
  | .lst xs => (intsOf xs).bind fun l => match l with
    | [] => none
    | x :: r => some (.int (maxI r x))
  | _ => none
inductive Ty where
  | int | bool | list | tuple | str
  deriving Repr, DecidableEq
def isTy : Ty → D → Bool
  | .int, .int _ => true
  | .int, .bl _ => true
  | .bool, .bl _ => true
  | .list, .lst _ => true
  | .tuple, .tup _ => true
  | .str, .str _ => true
  | _, _ => false
def istyO (t : Ty) (x : D) : Option D := some (.bl (isTy t x))
def isLst : D → Bool
  | .lst _ => true
  | _ => false
def isTup : D → Bool
  | .tup _ => true
  | _ => false
def isTxt : D → Bool
  | .str _ => true
  | _ => false
def indexL (y : D) : List D → Option Nat
  | [] => none
  | x :: r => if eqD x y then some 0 else (indexL y r).map (· + 1)
def indexD : D → D → Option D
  | .lst xs, y => if flatD y && xs.all flatD then (indexL y xs).map fun (n : Nat) => .int n else none
  | _, _ => none
def indexTD : D → D → Option D
  | .tup xs, y => if flatD y && xs.all flatD then (indexL y xs).map fun (n : Nat) => .int n else none
  | _, _ => none
def countD : D → D → Option D
  | .lst xs, y => if flatD y && xs.all flatD then some (.int (xs.countP fun x => eqD x y)) else none
  | _, _ => none
/-- signs of a number -/
def digN : Nat → Nat → List Nat → List Nat
  | 0, _, acc => acc
  | f + 1, n, acc => if n < 10 then (48 + n) :: acc else digN f (n / 10) ((48 + n % 10) :: acc)
def showI (i : Int) : List Nat := if i < 0 then 45 :: digN 1000 i.natAbs [] else digN 1000 i.natAbs []
def strD : D → Option D
  | .int i => if -1000000 < i ∧ i < 1000000 then some (.str (showI i)) else none
  | _ => none
def readN : List Nat → Nat → Option Nat
  | [], n => some n
  | c :: r, n => if 48 ≤ c ∧ c ≤ 57 then readN r (10 * n + (c - 48)) else none
def intD : D → Option D
  | .str s => if s ≠ [] ∧ s.length ≤ 600 then (readN s 0).map fun (n : Nat) => .int n else none
  | _ => none
def strsOf : List D → Option (List (List Nat))
  | [] => some []
  | .str i :: r => (strsOf r).map fun l => i :: l
  | _ :: _ => none
def joinL (sep : List Nat) : List (List Nat) → List Nat
  | [] => []
  | [x] => x
  | x :: y :: r => x ++ sep ++ joinL sep (y :: r)
def joinD : D → D → Option D
  | .str s, .lst xs => (strsOf xs).bind fun l => if (joinL s l).length ≤ 1000000 then some (.str (joinL s l)) else none
  | _, _ => none
def splitL (c : Nat) : List Nat → List Nat → List (List Nat)
  | [], w => [w]
  | x :: r, w => if x = c then w :: splitL c r [] else splitL c r (w ++ [x])
def splitD : D → D → Option D
  | .str s, .str [c] => if s.length ≤ 1000000 then some (.lst ((splitL c s []).map .str)) else none
  | _, _ => none
/-- rows by the first sign -/
def insK (k : Int) (x : D) : List (Int × D) → List (Int × D)
  | [] => [(k, x)]
  | (j, y) :: r => if k < j then (k, x) :: (j, y) :: r else (j, y) :: insK k x r
def headI : D → Option Int
  | .lst (.int k :: _) => some k
  | _ => none
def sortK : List D → List (Int × D) → Option (List (Int × D))
  | [], acc => some acc
  | x :: r, acc => (headI x).bind fun k => sortK r (insK k x acc)
def sortKeyD : D → Option D
  | .lst xs => (sortK xs []).map fun l => .lst (l.map (·.2))
  | _ => none

/-! ### expressions -/
namespace E
def var (i : Nat) : E := fun r => match getS r i with
  | .val 0 d => .ok d r
  | .bor 0 d => .ok d r
  | _ => .stuck
def int (n : Int) : E := fun r => .ok (.int n) r
def bl (b : Bool) : E := fun r => .ok (.bl b) r
def non : E := fun r => .ok .non r
def str (s : List Nat) : E := fun r => .ok (.str s) r
/-- a constant of the module -/
def con (d : D) : E := fun r => .ok d r
def un (f : D → Option D) (a : E) : E := fun r => (a r).bind fun x r => lift (f x) r
def bin (f : D → D → Option D) (a b : E) : E := fun r => (a r).bind fun x r => (b r).bind fun y r => lift (f x y) r
/-- x.f(y): x is looked at ahead of y -/
def binM (ok : D → Bool) (f : D → D → Option D) (a b : E) : E := fun r => (a r).bind fun x r => if ok x then (b r).bind fun y r => lift (f x y) r else .stuck
def eq (a b : E) : E := bin eqO a b
def ne (a b : E) : E := bin neO a b
def isn (a : E) : E := un isnO a
def notn (a : E) : E := un notnO a
def isb (b : Bool) (a : E) : E := un (isbO b) a
def notb (b : Bool) (a : E) : E := un (notbO b) a
def inn (a b : E) : E := bin inD a b
def notin (a b : E) : E := bin notinO a b
def not (a : E) : E := un notD a
def and (a b : E) : E := fun r => (a r).bind fun x r => match x with
  | .bl true => b r
  | .bl false => .ok (.bl false) r
  | _ => .stuck
def or (a b : E) : E := fun r => (a r).bind fun x r => match x with
  | .bl true => .ok (.bl true) r
  | .bl false => b r
  | _ => .stuck
def ite (c a b : E) : E := fun r => (c r).bind fun x r => match x with
  | .bl true => a r
  | .bl false => b r
  | _ => .stuck
/-- a op b op' c -/
def chain (f g : D → D → Option D) (a b c : E) : E := fun r => (a r).bind fun x r => (b r).bind fun y r => match f x y with
  | some (.bl true) => (c r).bind fun z r => lift (g y z) r
  | some (.bl false) => .ok (.bl false) r
  | _ => .stuck
def seqs : List E → Env → Res (List D)
  | [], r => .ok [] r
  | e :: es, r => (e r).bind fun x r => (seqs es r).bind fun xs r => .ok (x :: xs) r
def lst (es : List E) : E := fun r => (seqs es r).bind fun xs r => .ok (.lst xs) r
def tup (es : List E) : E := fun r => (seqs es r).bind fun xs r => .ok (.tup xs) r
def idx (a b : E) : E := bin idxD a b
def optI (o : Option E) (r : Env) : Res (Option Int) := match o with
  | none => .ok none r
  | some e => (e r).bind fun x r => match x with
    | .int i => .ok (some i) r
    | _ => .stuck
def slice (a : E) (lo hi : Option E) : E := fun r => (a r).bind fun x r => (optI lo r).bind fun i r => (optI hi r).bind fun j r => lift (sliceD x i j) r
def path : List E → D → Env → Res D
  | [], d, r => .ok d r
  | e :: es, d, r => (e r).bind fun x r => match idxD d x with
    | some y => path es y r
    | none => .stuck
/-- read along a path to what is not owned -/
def pth (i : Nat) (es : List E) : E := fun r => match getS r i with
  | .val k d => if k ≤ es.length then path es d r else .stuck
  | .bor k d => if k ≤ es.length then path es d r else .stuck
  | _ => .stuck
/-- a look at what may be owned -/
def pk (i : Nat) (es : List E) : E := fun r => match getS r i with
  | .val _ d => path es d r
  | .bor _ d => path es d r
  | _ => .stuck
/-- .. whose items are not owned -/
def pki (i : Nat) (es : List E) : E := fun r => match getS r i with
  | .val k d => if k ≤ es.length + 1 then path es d r else .stuck
  | .bor k d => if k ≤ es.length + 1 then path es d r else .stuck
  | _ => .stuck
def fldOf (r : Env) (i f : Nat) : Option Fld := match getS r i with
  | .obj _ fs => fs.lookup f
  | _ => none
def fpth (i f : Nat) (es : List E) : E := fun r => match fldOf r i f with
  | some (.val k d) => if k ≤ es.length then path es d r else .stuck
  | _ => .stuck
def fpk (i f : Nat) (es : List E) : E := fun r => match fldOf r i f with
  | some (.val _ d) => path es d r
  | _ => .stuck
def fpki (i f : Nat) (es : List E) : E := fun r => match fldOf r i f with
  | some (.val k d) => if k ≤ es.length + 1 then path es d r else .stuck
  | _ => .stuck
def din (i : Nat) (a : E) : E := fun r => (a r).bind fun x r => match x, getS r i with
  | .int n, .dI ks => .ok (.bl (ks.contains n)) r
  | _, _ => .stuck
def dnotin (i : Nat) (a : E) : E := fun r => (a r).bind fun x r => match x, getS r i with
  | .int n, .dI ks => .ok (.bl (!ks.contains n)) r
  | _, _ => .stuck
def fdin (i f : Nat) (a b : E) : E := fun r => (a r).bind fun x r => (b r).bind fun y r => match x, y, fldOf r i f with
  | .int n, .int m, some (.dT ks) => .ok (.bl (ks.contains (n, m))) r
  | _, _, _ => .stuck
def fdnotin (i f : Nat) (a b : E) : E := fun r => (a r).bind fun x r => (b r).bind fun y r => match x, y, fldOf r i f with
  | .int n, .int m, some (.dT ks) => .ok (.bl (!ks.contains (n, m))) r
  | _, _, _ => .stuck
def isty (t : Ty) (a : E) : E := un (istyO t) a
/-- isinstance(e, C) of an exception in a slot, or None -/
def isexc (i : Nat) (p : Nat → Bool) : E := fun r => match getS r i with
  | .exc c => .ok (.bl (p c)) r
  | _ => .stuck
/-- x is None, x an exception or a value -/
def excNone (i : Nat) : E := fun r => match getS r i with
  | .exc _ => .ok (.bl false) r
  | .val 0 d => .ok (.bl (isNone d)) r
  | _ => .stuck
def scrNe (i : Nat) : E := fun r => match getS r i with
  | .scr ns => .ok (.bl (decide (ns ≠ []))) r
  | _ => .stuck
def scrList (i : Nat) : E := fun r => match getS r i with
  | .scr ns => .ok (.lst (ns.map .int)) r
  | _ => .stuck

/-! what is walked -/
abbrev It := Env → Res (List D)
def iSeq (a : E) : It := fun r => (a r).bind fun x r => match x with
  | .lst xs => .ok xs r
  | .tup xs => .ok xs r
  | .str s => .ok (s.map fun c => .str [c]) r
  | _ => .stuck
def iRange (a : E) : It := fun r => (a r).bind fun x r => match x with
  | .int n => if -100000 ≤ n ∧ n ≤ 100000 then .ok (rangeL n) r else .stuck
  | _ => .stuck
def iRange2 (a b : E) : It := fun r => (a r).bind fun x r => (b r).bind fun y r => match x, y with
  | .int m, .int n => if (-100000 ≤ m ∧ m ≤ 100000) ∧ -100000 ≤ n ∧ n ≤ 100000 then .ok ((List.range (n - m).toNat).map fun i => .int (m + (i : Nat))) r else .stuck
  | _, _ => .stuck
def iRange3 (a b c : E) : It := fun r => (a r).bind fun x r => (b r).bind fun y r => (c r).bind fun z r => match x, y, z with
  | .int m, .int n, .int k => if 0 < k ∧ k ≤ 1000 ∧ (-100000 ≤ m ∧ m ≤ 100000) ∧ -100000 ≤ n ∧ n ≤ 100000 then .ok ((List.range ((n - m + k - 1) / k).toNat).map fun i => .int (m + (i : Nat) * k)) r else .stuck
  | _, _, _ => .stuck
def enumL : Nat → List D → List D
  | _, [] => []
  | n, x :: r => .tup [.int n, x] :: enumL (n + 1) r
def iEnum (a : E) : It := fun r => (a r).bind fun x r => match x with
  | .lst xs => if xs.length ≤ LIM then .ok (enumL 0 xs) r else .stuck
  | _ => .stuck
def iEnumT (a : E) : It := fun r => (a r).bind fun x r => match x with
  | .tup xs => if xs.length ≤ LIM then .ok (enumL 0 xs) r else .stuck
  | _ => .stuck
def zipL : List D → List D → List D
  | x :: xs, y :: ys => .tup [x, y] :: zipL xs ys
  | _, _ => []
def iZip (a b : E) : It := fun r => (a r).bind fun x r => (b r).bind fun y r => match x, y with
  | .lst xs, .lst ys => if xs.length ≤ LIM then .ok (zipL xs ys) r else .stuck
  | _, _ => .stuck
def setMany : List Nat → List D → Env → Option Env
  | [], [], r => some r
  | i :: is, d :: ds, r => setMany is ds (r.set i (.val 0 d))
  | _, _, _ => none
/-- a target: one name, or several -/
inductive Tg where
  | one (i : Nat) | many (is : List Nat)
def Tg.put : Tg → D → Env → Option Env
  | .one i, d, r => some (r.set i (.val 0 d))
  | .many is, .tup ds, r => setMany is ds r
  | .many is, .lst ds, r => setMany is ds r
  | .many _, _, _ => none
def Tg.own : Tg → List Nat
  | .one i => [i]
  | .many is => is
/-- own slots as they were -/
def back (r0 : Env) : List Nat → Env → Env
  | [], r => r
  | i :: is, r => back r0 is (r.set i (getS r0 i))
def wipe : List Nat → Env → Env
  | [], r => r
  | i :: is, r => wipe is (r.set i .no)
/-- a comprehension's turns -/
def turns (tg : Tg) (cond : E) (elt : Env → Res (List D)) : List D → Env → Res (List D)
  | [], r => .ok [] r
  | x :: xs, r => match tg.put x r with
    | none => .stuck
    | some r => (cond r).bindN fun c r => match c with
      | .bl true => (elt r).bindN fun ys r => (turns tg cond elt xs r).bindN fun zs r => .ok (ys ++ zs) r
      | .bl false => turns tg cond elt xs r
      | _ => .stuck
def yes : E := bl true
def one (e : E) : Env → Res (List D) := fun r => (e r).bindN fun d r => .ok [d] r
/-- the items of a comprehension -/
def items (tg : Tg) (it : It) (cond : E) (elt : Env → Res (List D)) : It := fun r => (it r).bind fun xs r1 => (turns tg cond elt xs (wipe tg.own r1)).bindN fun ys r2 => .ok ys (back r1 tg.own r2)
/-- turns over what is lent -/
def turnsB (j k : Nat) (cond elt : E) : List D → Env → Res (List D)
  | [], r => .ok [] r
  | x :: xs, r => (cond (r.set j (.bor k x))).bindN fun c r => match c with
      | .bl true => (elt r).bindN fun y r => (turnsB j k cond elt xs r).bindN fun zs r => .ok (y :: zs) r
      | .bl false => turnsB j k cond elt xs r
      | _ => .stuck
/-- [elt for j in x[es] if cond], x owned -/
def compB (j i : Nat) (es : List E) (cond elt : E) : E := fun r => match getS r i with
  | .val k d => (path es d r).bind fun y r1 => (match y with
    | .lst xs => (turnsB j (k - es.length - 1) cond elt xs r1).bindN fun ys r2 => .ok (.lst ys) (r2.set j (getS r1 j))
    | _ => .stuck)
  | _ => .stuck
def comp (tg : Tg) (it : It) (cond elt : E) : E := fun r => (items tg it cond (one elt) r).bind fun ys r => .ok (.lst ys) r
/-- turns of the outer of two clauses: the inner names are forgotten each time -/
def turnsW (ws : List Nat) (tg : Tg) (cond : E) (elt : Env → Res (List D)) : List D → Env → Res (List D)
  | [], r => .ok [] r
  | x :: xs, r => match tg.put x (wipe ws r) with
    | none => .stuck
    | some r => (cond r).bindN fun c r => match c with
      | .bl true => (elt r).bindN fun ys r => (turnsW ws tg cond elt xs r).bindN fun zs r => .ok (ys ++ zs) r
      | .bl false => turnsW ws tg cond elt xs r
      | _ => .stuck
/-- two clauses; the names of both are wiped and restored by the outer -/
def items2 (tg : Tg) (it : It) (cond : E) (tg2 : Tg) (it2 : It) (cond2 elt : E) : It := fun r => (it r).bind fun xs r1 =>
  (turnsW tg2.own tg cond (fun r => (it2 r).bindN fun ys r => turns tg2 cond2 (one elt) ys r) xs (wipe (tg.own ++ tg2.own) r1)).bindN fun ys r2 => .ok ys (back r1 (tg.own ++ tg2.own) r2)
def comp2 (tg : Tg) (it : It) (cond : E) (tg2 : Tg) (it2 : It) (cond2 elt : E) : E := fun r => (items2 tg it cond tg2 it2 cond2 elt r).bind fun ys r => if ys.length ≤ LIM then .ok (.lst ys) r else .stuck

/-! calls -/
inductive Arg where
  | v (e : E) | io (i : Nat) | x (i : Nat) | fs (e : ES) | bw (i : Nat)
def bound : Slot → Bool
  | .no => false
  | _ => true
def evalArgs : List Arg → Env → Res (List Slot)
  | [], r => .ok [] r
  | .v e :: as, r => (e r).bind fun d r => (evalArgs as r).bind fun ss r => .ok (.val 0 d :: ss) r
  | .fs e :: as, r => (e r).bind fun s r => (evalArgs as r).bind fun ss r => .ok (s :: ss) r
  | .io i :: as, r => if bound (getS r i) then (evalArgs as r).bind fun ss r => .ok (.no :: ss) r else .stuck
  | .x i :: as, r => if bound (getS r i) then (evalArgs as r).bind fun ss r => .ok (.no :: ss) r else .stuck
  | .bw i :: as, r => if bound (getS r i) then (evalArgs as r).bind fun ss r => .ok (.no :: ss) r else .stuck
def lent : Slot → Slot
  | .val _ d => .val 0 d
  | _ => .no
/-- what is handed on as it is: an error, the script, a shared value -/
def xOnly : Slot → Slot
  | .exc c => .exc c
  | .scr ns => .scr ns
  | .val 0 d => .val 0 d
  | _ => .no
def resolve : List Arg → List Slot → Env → List Slot
  | .io i :: as, _ :: ss, r => getS r i :: resolve as ss r
  | .x i :: as, _ :: ss, r => xOnly (getS r i) :: resolve as ss r
  | .bw i :: as, _ :: ss, r => lent (getS r i) :: resolve as ss r
  | _ :: as, s :: ss, r => s :: resolve as ss r
  | _, _, _ => []
def putOuts : List Arg → List Slot → Env → Option Env
  | [], [], r => some r
  | .io i :: as, o :: os, r => putOuts as os (r.set i o)
  | .fs _ :: as, _ :: os, r => putOuts as os r
  | .v _ :: as, os, r => putOuts as os r
  | .x _ :: as, os, r => putOuts as os r
  | .bw _ :: as, os, r => putOuts as os r
  | _, _, _ => none
def call (cf : Calls) (f : Nat) (as : List Arg) : E := fun r => (evalArgs as r).bind fun ss r => match cf f (resolve as ss r) with
  | .ok d outs => (match putOuts as outs r with
    | some r => .ok d r
    | none => .stuck)
  | .raise c outs => (match putOuts as outs r with
    | some r => .raise c r
    | none => .stuck)
  | .stuck => .stuck
def scalar : D → Bool
  | .lst _ => false
  | .tup _ => false
  | _ => true
/-- a call that is lent owned things and hands back a flat one -/
def callB (cf : Calls) (f : Nat) (as : List Arg) : E := fun r => (call cf f as r).bind fun d r => if scalar d then .ok d r else .stuck
/-- a new object of class c by its __init__ f -/
def new (cf : Calls) (c f : Nat) (as : List Arg) : ES := fun r => (evalArgs as r).bind fun ss r => match cf f (.obj c [] :: resolve as ss r) with
  | .ok _ (o :: outs) => (match putOuts as outs r with
    | some r => .ok o r
    | none => .stuck)
  | .raise k (_ :: outs) => (match putOuts as outs r with
    | some r => .raise k r
    | none => .stuck)
  | _ => .stuck
def newDict : ES := fun r => .ok (.dI []) r
end E

/-- along a path of lists -/
def pathI : List E → D → Env → Res (List Int × D)
  | [], d, r => .ok ([], d) r
  | e :: es, d, r => (e r).bind fun x r => match d, x, idxD d x with
    | .lst _, .int j, some y => (pathI es y r).bind fun z r => .ok (j :: z.1, z.2) r
    | _, _, _ => .stuck
def setAt : D → List Int → D → D → Option D
  | d, [], x, v => setD d x v
  | d, j :: js, x, v => (idxD d (.int j)).bind fun y => (setAt y js x v).bind fun y' => setD d (.int j) y'
/-! ### statements -/
namespace S
open E (Tg It path)
def seq (a b : S) : S := fun r => match a r with
  | .ok .nx r => b r
  | x => x
def pass : S := fun r => .ok .nx r
def brk : S := fun r => .ok .bk r
def asg (i k : Nat) (e : E) : S := fun r => (e r).bind fun d r => .ok .nx (r.set i (.val k d))
/-- a slot is no longer owned (nothing of the text) -/
def frz (i : Nat) : S := fun r => match getS r i with
  | .val _ d => .ok .nx (r.set i (.val 0 d))
  | _ => .stuck
def unpack (is : List Nat) (e : E) : S := fun r => (e r).bind fun d r => match (Tg.many is).put d r with
  | some r => .ok .nx r
  | none => .stuck
def expr (e : E) : S := fun r => (e r).bind fun _ r => .ok .nx r
def ret (e : E) : S := fun r => (e r).bind fun d r => .ok (.rt d) r
/-- an object is handed back that nobody looks at -/
def retObj (e : ES) : S := fun r => (e r).bind fun _ r => .ok (.rt .non) r
/-- an owned slot is handed back -/
def retO (i k : Nat) : S := fun r => match getS r i with
  | .val j d => if j = k then .ok (.rt d) r else .stuck
  | _ => .stuck
def raise (c : Nat) : S := fun r => .raise c r
def ite (c : E) (a b : S) : S := fun r => (c r).bind fun x r => match x with
  | .bl true => a r
  | .bl false => b r
  | _ => .stuck
def forGo (tg : Tg) (b : S) : List D → S
  | [], r => .ok .nx r
  | x :: xs, r => match tg.put x r with
    | none => .stuck
    | some r => match b r with
      | .ok .nx r => forGo tg b xs r
      | .ok .ct r => forGo tg b xs r
      | .ok .bk r => .ok .nx r
      | x => x
def for_ (tg : Tg) (it : It) (b : S) : S := fun r => (it r).bind fun xs r => forGo tg b xs r
def whl (c : E) (b : S) : Nat → S
  | 0, _ => .stuck
  | n + 1, r => (c r).bind fun x r => match x with
    | .bl false => .ok .nx r
    | .bl true => (match b r with
      | .ok .nx r => whl c b n r
      | .ok .ct r => whl c b n r
      | .ok .bk r => .ok .nx r
      | x => x)
    | _ => .stuck
/-- x.append(e), x owned to the depth k -/
def isL : Slot → Bool
  | .val _ (.lst _) => true
  | _ => false
def app (i k : Nat) (e : E) : S := fun r => if isL (getS r i) then (e r).bind fun d r => (match getS r i with
  | .val j (.lst xs) => if j = k ∧ xs.length < LIM then .ok .nx (r.set i (.val j (.lst (xs ++ [d])))) else .stuck
  | _ => .stuck) else .stuck
def ins (i : Nat) (a e : E) : S := fun r => if isL (getS r i) then (a r).bind fun p r => (e r).bind fun d r => (match p, getS r i with
  | .int p, .val 1 (.lst xs) => if 0 ≤ p ∧ p ≤ LIM ∧ xs.length < LIM then .ok .nx (r.set i (.val 1 (.lst (xs.take p.toNat ++ [d] ++ xs.drop p.toNat)))) else .stuck
  | _, _ => .stuck) else .stuck
/-- xs += ys -/
def ext (i : Nat) (e : E) : S := fun r => if isL (getS r i) then (e r).bind fun d r => (match d, getS r i with
  | .lst ys, .val 1 (.lst xs) => if xs.length + ys.length ≤ LIM then .ok .nx (r.set i (.val 1 (.lst (xs ++ ys)))) else .stuck
  | _, _ => .stuck) else .stuck
/-- x += e of ints -/
def augI (i : Nat) (e : E) : S := fun r => match getS r i with
  | .val 0 (.int a) => (e r).bind fun d r => match d with
    | .int b => .ok .nx (r.set i (.val 0 (.int (a + b))))
    | _ => .stuck
  | _ => .stuck
def setGo : List E → D → D → Env → Res D
  | [], _, _, _ => .stuck
  | [e], v, d, r => (e r).bind fun x r => lift (setD d x v) r
  | e :: e' :: es, v, d, r => (e r).bind fun x r => match d, idxD d x with
    | .lst _, some y => (setGo (e' :: es) v y r).bind fun y' r => lift (setD d x y') r
    | _, _ => .stuck
/-- x[..].. = v -/
def putp (i : Nat) (es : List E) (v : D) : S := fun r => match getS r i with
  | .val k d => if k = es.length then (setGo es v d r).bind fun d' r => .ok .nx (r.set i (.val k d')) else .stuck
  | _ => .stuck
def setp (i : Nat) (es : List E) (e : E) : S := fun r => (e r).bind fun v r => putp i es v r
/-- several places, from a tuple's items -/
def puts : List (Nat × List E) → List D → S
  | [], [], r => .ok .nx r
  | (i, es) :: ts, v :: vs, r => (match putp i es v r with
    | .ok .nx r => puts ts vs r
    | x => x)
  | _, _, _ => .stuck
def setps (ts : List (Nat × List E)) (es : List E) : S := fun r => (E.seqs es r).bind fun vs r => puts ts vs r
/-- x[..].. op= e -/
def augp (i : Nat) (es : List E) (q : E) (f : D → D → Option D) (e : E) : S := fun r => match getS r i with
  | .val k d => if k = es.length + 1 then (pathI es d r).bind fun z r => (q r).bind fun x r => (match z.2, x, idxD z.2 x with
    | .lst _, .int _, some y => (e r).bind fun w r => (match f y w with
      | some v => (match setAt d z.1 x v with
        | some d' => .ok .nx (r.set i (.val k d'))
        | none => .stuck)
      | none => .stuck)
    | _, _, _ => .stuck) else .stuck
  | _ => .stuck
/-- own = x[es]; at = e; own[at] = own[at] + 1 -/
def bump (i : Nat) (es : List E) (jo ja : Nat) (e : E) : S := fun r => match getS r i with
  | .val k d => if k = es.length + 1 then (pathI es d r).bind fun z r => (e (r.set jo .no)).bind fun a r => (match z.2, a, idxD z.2 a with
    | .lst _, .int _, some y => (match addI y (.int 1) with
      | some v => (match setAt d z.1 a v with
        | some d' => .ok .nx ((r.set i (.val k d')).set ja (.val 0 a))
        | none => .stuck)
      | none => .stuck)
    | _, _, _ => .stuck) else .stuck
  | _ => .stuck
/-- x[a], x[b] = x[b], x[a], items owned -/
def swap (i : Nat) (a b : E) : S := fun r => match getS r i with
  | .val k d => if 1 ≤ k then (a r).bind fun x r => (b r).bind fun y r => (match idxD d x, idxD d y with
    | some p, some q => (match (setD d x q).bind fun d1 => setD d1 y p with
      | some d2 => .ok .nx (r.set i (.val k d2))
      | none => .stuck)
    | _, _ => .stuck) else .stuck
  | _ => .stuck
/-- x = y.pop() -/
def popTo (j i : Nat) : S := fun r => match getS r i with
  | .val 1 (.lst xs) => (match xs.getLast? with
    | some d => .ok .nx ((r.set i (.val 1 (.lst xs.dropLast))).set j (.val 0 d))
    | none => .stuck)
  | _ => .stuck
/-- d[e] = True -/
def dset (i : Nat) (a : E) : S := fun r => (a r).bind fun x r => match x, getS r i with
  | .int n, .dI ks => .ok .nx (r.set i (.dI (if ks.contains n then ks else ks ++ [n])))
  | _, _ => .stuck
def putFld (f : Nat) (v : Fld) : List (Nat × Fld) → List (Nat × Fld)
  | [] => [(f, v)]
  | (g, w) :: r => if g = f then (f, v) :: r else (g, w) :: putFld f v r
def fldPut (r : Env) (i f : Nat) (v : Fld) : Res Flow := match getS r i with
  | .obj c fs => .ok .nx (r.set i (.obj c (putFld f v fs)))
  | _ => .stuck
def fset (i f k : Nat) (e : E) : S := fun r => (e r).bind fun d r => fldPut r i f (.val k d)
def fsetD (i f : Nat) : S := fun r => fldPut r i f (.dT [])
/-- a field is no longer owned (nothing of the text) -/
def ffrz (i f : Nat) : S := fun r => match E.fldOf r i f with
  | some (.val _ d) => fldPut r i f (.val 0 d)
  | _ => .stuck
def fapp (i f : Nat) (e : E) : S := fun r => (e r).bind fun d r => match E.fldOf r i f with
  | some (.val 1 (.lst xs)) => if xs.length < LIM then fldPut r i f (.val 1 (.lst (xs ++ [d]))) else .stuck
  | _ => .stuck
def fsetp (i f : Nat) (es : List E) (e : E) : S := fun r => (e r).bind fun v r => match E.fldOf r i f with
  | some (.val k d) => if k = es.length then (setGo es v d r).bind fun d' r => fldPut r i f (.val k d') else .stuck
  | _ => .stuck
def faugp (i f : Nat) (es : List E) (g : D → D → Option D) (e : E) : S := fun r => match E.fldOf r i f with
  | some (.val k d) => if k = es.length then (path es d r).bind fun y r => (e r).bind fun z r => (match g y z with
    | some v => (setGo es v d r).bind fun d' r => fldPut r i f (.val k d')
    | none => .stuck) else .stuck
  | _ => .stuck
/-- self.g = self.f.pop() -/
def fpop (i f g : Nat) : S := fun r => match E.fldOf r i f with
  | some (.val 1 (.lst xs)) => (match xs.getLast?, getS r i with
    | some d, .obj c fs => .ok .nx (r.set i (.obj c (putFld g (.val 0 d) (putFld f (.val 1 (.lst xs.dropLast)) fs))))
    | _, _ => .stuck)
  | _ => .stuck
def fdset (i f : Nat) (a b : E) : S := fun r => (a r).bind fun x r => (b r).bind fun y r => match x, y, E.fldOf r i f with
  | .int n, .int m, some (.dT ks) => fldPut r i f (.dT (if ks.contains (n, m) then ks else ks ++ [(n, m)]))
  | _, _, _ => .stuck
def fdpop (i f : Nat) (a b : E) : S := fun r => (a r).bind fun x r => (b r).bind fun y r => match x, y, E.fldOf r i f with
  | .int n, .int m, some (.dT ks) => if ks.contains (n, m) then fldPut r i f (.dT (ks.filter fun k => k != (n, m))) else .stuck
  | _, _, _ => .stuck
/-- x = C(..) -/
def asgS (i : Nat) (e : ES) : S := fun r => (e r).bind fun s r => .ok .nx (r.set i s)
/-- C(..) alone -/
def exprS (e : ES) : S := fun r => (e r).bind fun _ r => .ok .nx r
/-- try: b; except SquareError as e (slot i): caught (slot j) = e -/
def tryc (b : S) (i j : Nat) : S := fun r => match b r with
  | .raise c r => .ok .nx ((r.set j (.exc c)).set i .no)
  | x => x
/-- f(..)[..].. .append(c), what f hands back being new and dropped -/
def tmpApp (e : E) (es : List E) (v : E) : S := fun r => (e r).bind fun d r => (path es d r).bind fun y r => (v r).bind fun _ r => match y with
  | .lst _ => .ok .nx r
  | _ => .stuck
def retS (i : Nat) : S := fun r => match getS r i with
  | .val 0 d => .ok (.rt d) r
  | _ => .stuck
end S

/-! ### defs -/
structure Def where
  np : Nat
  ns : Nat
  io : List Nat
  rk : Nat
  body : Calls → S
def Def.run (d : Def) (cf : Calls) (args : List Slot) : CRes := if args.length = d.np then
    (match d.body cf (args ++ List.replicate (d.ns - d.np) .no) with
    | .ok (.rt x) r => .ok x (d.io.map (getS r))
    | .ok .nx r => .ok .non (d.io.map (getS r))
    | .raise c r => .raise c (d.io.map (getS r))
    | _ => .stuck)
  else .stuck

/-! ### the draw of the laws, as a function of the numbers and the count -/
def drawF (nums : List Int) (c n : Int) : Int × List Int × Int :=
  let c1 := c + 1
  let p := (c1 % nums.length).toNat
  let cell := nums.getD p 0
  if cell ≥ 1000000000000000000 then (cell % n, nums.set p (cell / n), c1)
  else
    let m := (cell + 104729 * c1) % 4294967291
    let m := m ^ 5 % 4294967279
    ((m / 64 * 69621 + m) % 4294967231 / 8 % n, nums, c1)
/-- the town: numbers and count -/
def townD (nums : List Int) (c : Int) : D := .lst [.lst (nums.map .int), .int c]
def drawBody : S := fun r => match getS r 0, getS r 1 with
  | .val 2 (.lst [.lst ns, .int c]), .val 0 (.int n) => (match intsOf ns with
    | some nums => if 0 < n ∧ n < 1000000 ∧ nums ≠ [] ∧ 0 ≤ c ∧ c < 1000000 then
        let q := drawF nums c n
        .ok (.rt (.int q.1)) (r.set 0 (.val 2 (townD q.2.1 q.2.2)))
      else .stuck
    | none => .stuck)
  | _, _ => .stuck
def drawDef : Def := ⟨2, 6, [0], 0, fun _ => drawBody⟩
end O
end
section
/-! CoreL: sorted lists of ints. -/
namespace O
theorem insI_perm (x : Int) : ∀ l : List Int, (insI x l).Perm (x :: l)
  | [] => .refl _
  | y :: r => by
    unfold insI
    split
    · exact .refl _
    · exact ((insI_perm x r).cons y).trans (.swap x y r)
theorem sortI_perm : ∀ l : List Int, (sortI l).Perm l
  | [] => .refl _
  | x :: r => (insI_perm x (sortI r)).trans ((sortI_perm r).cons x)
theorem insI_sorted (x : Int) : ∀ l : List Int, l.Pairwise (· ≤ ·) → (insI x l).Pairwise (· ≤ ·)
  | [], _ => by unfold insI; simp
  | y :: r, h => by
    obtain ⟨h1, h2⟩ := List.pairwise_cons.mp h
    unfold insI
    split
    · rename_i hxy
      refine List.pairwise_cons.mpr ⟨fun z hz => ?_, h⟩
      rcases List.mem_cons.mp hz with e | hz
      · rw [e]; exact hxy
      · exact Int.le_trans hxy (h1 z hz)
    · rename_i hxy
      refine List.pairwise_cons.mpr ⟨fun z hz => ?_, insI_sorted x r h2⟩
      rcases List.mem_cons.mp ((insI_perm x r).mem_iff.mp hz) with e | hz
      · rw [e]; omega
      · exact h1 z hz
theorem sortI_sorted : ∀ l : List Int, (sortI l).Pairwise (· ≤ ·)
  | [] => .nil
  | x :: r => insI_sorted x _ (sortI_sorted r)
/-- two sorted arrangements are one -/
theorem sorted_one : ∀ {l m : List Int}, l.Perm m → l.Pairwise (· ≤ ·) → m.Pairwise (· ≤ ·) → l = m
  | [], m, p, _, _ => by rw [p.nil_eq]
  | x :: l, [], p, _, _ => by have := p.length_eq; simp at this
  | x :: l, y :: m, p, h1, h2 => by
    obtain ⟨a1, a2⟩ := List.pairwise_cons.mp h1
    obtain ⟨b1, b2⟩ := List.pairwise_cons.mp h2
    have hx : x ∈ y :: m := p.mem_iff.mp List.mem_cons_self
    have hy : y ∈ x :: l := p.mem_iff.mpr List.mem_cons_self
    have e : x = y := by
      have h3 : y ≤ x := by
        rcases List.mem_cons.mp hx with e | h
        · omega
        · exact b1 x h
      have h4 : x ≤ y := by
        rcases List.mem_cons.mp hy with e | h
        · omega
        · exact a1 y h
      omega
    subst e
    rw [sorted_one (p.cons_inv) a2 b2]
end O
end
section
set_option maxRecDepth 10000
set_option linter.unusedVariables false
namespace O
namespace E
def never : E := fun _ => .stuck
end E
abbrev i_is_whole : Nat := 0
abbrev i_look_size : Nat := 1
abbrev i_is_table : Nat := 2
abbrev i_columns_of : Nat := 3
abbrev i_is_square : Nat := 4
abbrev i_look_square : Nat := 5
abbrev i_even_square : Nat := 6
abbrev i_where : Nat := 7
abbrev i_l_town : Nat := 8
abbrev i_l_draw : Nat := 9
abbrev i_l_is : Nat := 10
abbrev i_l_order : Nat := 11
abbrev i_l_square : Nat := 12
abbrev i_l_is_square : Nat := 13
abbrev i_law_k01 : Nat := 14
abbrev i_are_widths : Nat := 15
abbrev i_look_widths : Nat := 16
abbrev i_lot_of : Nat := 17
abbrev i_counts_of : Nat := 18
abbrev i_outline_of : Nat := 19
abbrev i_is_sketch : Nat := 20
abbrev i_look_sketch : Nat := 21
abbrev i_wrong_sums : Nat := 22
abbrev i_bars : Nat := 23
abbrev i_is_outline : Nat := 24
abbrev i_size_of : Nat := 25
abbrev i_l_pick : Nat := 26
abbrev i_l_side : Nat := 27
abbrev i_l_widths : Nat := 28
abbrev i_l_lots : Nat := 29
abbrev i_l_counts : Nat := 30
abbrev i_l_bars : Nat := 31
abbrev i_l_sketch : Nat := 32
abbrev i_law_k02 : Nat := 33
abbrev i_look_outline : Nat := 34
abbrev i_Rounding__init : Nat := 35
abbrev i_Rounding_is_broken : Nat := 36
abbrev i_Rounding_lead : Nat := 37
abbrev i_Rounding_shared : Nat := 38
abbrev i_shared : Nat := 39
abbrev i_turn_sides : Nat := 40
abbrev i_with_split : Nat := 41
abbrev i_split : Nat := 42
abbrev i_all_apart : Nat := 43
abbrev i_square_of : Nat := 44
abbrev i_l_refusal : Nat := 45
abbrev i_l_told_k03 : Nat := 46
abbrev i_law_k03 : Nat := 47
abbrev i_look_lot : Nat := 48
abbrev i_taken_apart : Nat := 49
abbrev i_put_together : Nat := 50
abbrev i_l_told_k04 : Nat := 51
abbrev i_law_k04 : Nat := 52
abbrev i_coarsened : Nat := 53
abbrev i_l_told_k05 : Nat := 54
abbrev i_l_joined : Nat := 55
abbrev i_l_ends : Nat := 56
abbrev i_law_k05 : Nat := 57
abbrev i_grown : Nat := 58
abbrev i_all_squares : Nat := 59
abbrev i_look_small : Nat := 60
abbrev i_squares_of : Nat := 61
abbrev i_how_many : Nat := 62
abbrev i_l_rows : Nat := 63
abbrev i_l_all : Nat := 64
abbrev i_law_k06 : Nat := 65
abbrev i_is_corner : Nat := 66
abbrev i_corner_fits : Nat := 67
abbrev i_look_corner : Nat := 68
abbrev i_often_in : Nat := 69
abbrev i_least_often : Nat := 70
abbrev i_too_seldom : Nat := 71
abbrev i_lacking : Nat := 72
abbrev i_goes_on : Nat := 73
abbrev i_sketch_of : Nat := 74
abbrev i_outline_of_corner : Nat := 75
abbrev i_finished : Nat := 76
abbrev i_highest : Nat := 77
abbrev i_turned_corner : Nat := 78
abbrev i_l_corner : Nat := 79
abbrev i_l_often : Nat := 80
abbrev i_l_lacks : Nat := 81
abbrev i_l_filled : Nat := 82
abbrev i_l_told_k07 : Nat := 83
abbrev i_law_k07 : Nat := 84
abbrev i_l_fills : Nat := 85
abbrev i_law_k08 : Nat := 86
abbrev i_look_open : Nat := 87
abbrev i_pressed : Nat := 88
abbrev i_Matching__init : Nat := 89
abbrev i_Matching_seat : Nat := 90
abbrev i_Matching_fill : Nat := 91
abbrev i_Matching_found : Nat := 92
abbrev i_must_stand : Nat := 93
abbrev i_next_row : Nat := 94
abbrev i_may_stand : Nat := 95
abbrev i_choices : Nat := 96
abbrev i_law_k09 : Nat := 97
abbrev i_least_square : Nat := 98
abbrev i_sure_lots : Nat := 99
abbrev i_square_at : Nat := 100
abbrev i_l_told_k10 : Nat := 101
abbrev i_law_k10 : Nat := 102
abbrev i_is_order : Nat := 103
abbrev i_look_sides : Nat := 104
abbrev i_exchanged : Nat := 105
abbrev i_outline_exchanged : Nat := 106
abbrev i_l_exchanged : Nat := 107
abbrev i_law_k11 : Nat := 108
abbrev i_renamed : Nat := 109
abbrev i_plain : Nat := 110
abbrev i_first_unlike : Nat := 111
abbrev i_l_plain : Nat := 112
abbrev i_law_k12 : Nat := 113
abbrev i_Corner__init : Nat := 114
abbrev i_Corner_with_row : Nat := 115
abbrev i_Corner_with_column : Nat := 116
abbrev i_Corner_look : Nat := 117
abbrev i_Corner_lacks_with_row : Nat := 118
abbrev i_Corner_lacks_with_column : Nat := 119
abbrev i_Corner_put : Nat := 120
abbrev i_Corner_add_row : Nat := 121
abbrev i_Corner_add_column : Nat := 122
abbrev i_Corner_undo_k13 : Nat := 123
abbrev i_Corner_stands : Nat := 124
abbrev i_Corner_finish : Nat := 125
abbrev i_Corner__len : Nat := 126
abbrev i_l_step_k13 : Nat := 127
abbrev i_l_asked_k13 : Nat := 128
abbrev i_l_fine : Nat := 129
abbrev i_law_k13 : Nat := 130
abbrev i_wall : Nat := 131
abbrev i_Corner_undo_k14 : Nat := 132
abbrev i_law_k14 : Nat := 133
abbrev i_Taking__init : Nat := 134
abbrev i_Taking_look_open : Nat := 135
abbrev i_Taking_is_choice : Nat := 136
abbrev i_Taking_may_take : Nat := 137
abbrev i_Taking_take : Nat := 138
abbrev i_Taking_take_any_k15 : Nat := 139
abbrev i_Taking_undo_k15 : Nat := 140
abbrev i_Taking_stands : Nat := 141
abbrev i_Taking__len : Nat := 142
abbrev i_l_step_k15 : Nat := 143
abbrev i_l_front : Nat := 144
abbrev i_l_good : Nat := 145
abbrev i_l_mix : Nat := 146
abbrev i_l_left : Nat := 147
abbrev i_law_k15 : Nat := 148
abbrev i_Taking_take_any_k16 : Nat := 149
abbrev i_l_choice : Nat := 150
abbrev i_law_k16 : Nat := 151
abbrev i_corner_text : Nat := 152
abbrev i_corner_read : Nat := 153
abbrev i_outline_text : Nat := 154
abbrev i_number_in : Nat := 155
abbrev i_outline_read : Nat := 156
abbrev i_l_lines : Nat := 157
abbrev i_l_words : Nat := 158
abbrev i_l_read : Nat := 159
abbrev i_l_none : Nat := 160
abbrev i_law_k17 : Nat := 161
abbrev i_Taking_undo_k18 : Nat := 162
abbrev i_l_does_k18 : Nat := 163
abbrev i_l_asked_k18 : Nat := 164
abbrev i_l_squared : Nat := 165
abbrev i_l_squares : Nat := 166
abbrev i_l_steps_refused : Nat := 167
abbrev i_l_take : Nat := 168
abbrev i_l_choices_refused : Nat := 169
abbrev i_law_k18 : Nat := 170
abbrev i_l_does_k19 : Nat := 171
abbrev i_l_asked_k19 : Nat := 172
abbrev i_l_step_k19 : Nat := 173
abbrev i_l_growing : Nat := 174
abbrev i_law_k19 : Nat := 175
abbrev i_l_step_k19n : Nat := 176
def s_is_whole (cf : Calls) : S := (S.ret (E.and (E.isty .int (E.var 0)) (E.and (E.not (E.isty .bool (E.var 0))) (E.chain leD leD (E.var 1) (E.var 0) (E.var 2)))))
def d_is_whole : Def := ⟨3, 3, [], 0, s_is_whole⟩
def s_look_size (cf : Calls) : S := (S.ite (E.not (E.call cf i_is_whole [.v (E.var 0), .v (E.int 1), .v (E.con (.int 7))])) (S.raise 1) S.pass)
def d_look_size : Def := ⟨1, 1, [], 0, s_look_size⟩
def s_is_table (cf : Calls) : S := (S.seq (S.ite (E.or (E.not (E.isty .list (E.var 0))) (E.or (E.ne (E.un lenD (E.var 0)) (E.var 1)) (E.not (E.un allD (E.comp (.one 4) (E.iSeq (E.var 0)) E.yes (E.isty .list (E.var 4))))))) (S.ret (E.bl false)) S.pass) (S.ret (E.un allD (E.comp (.one 4) (E.iSeq (E.var 0)) E.yes (E.and (E.eq (E.un lenD (E.var 4)) (E.var 2)) (E.un allD (E.comp (.one 5) (E.iSeq (E.var 4)) E.yes (E.call cf i_is_whole [.v (E.var 5), .v (E.int 0), .v (E.bin subD (E.var 3) (E.int 1))]))))))))
def d_is_table : Def := ⟨4, 6, [], 0, s_is_table⟩
def s_columns_of (cf : Calls) : S := (S.ret (E.comp (.one 1) (E.iRange (E.un lenD (E.idx (E.var 0) (E.int 0)))) E.yes (E.comp (.one 2) (E.iSeq (E.var 0)) E.yes (E.idx (E.var 2) (E.var 1)))))
def d_columns_of : Def := ⟨1, 3, [], 0, s_columns_of⟩
def s_is_square (cf : Calls) : S := (S.seq (S.ite (E.or (E.not (E.isty .list (E.var 0))) (E.not (E.chain leD leD (E.int 1) (E.un lenD (E.var 0)) (E.con (.int 7))))) (S.ret (E.bl false)) S.pass) (S.seq (S.asg 1 0 (E.un lenD (E.var 0))) (S.seq (S.ite (E.not (E.call cf i_is_table [.v (E.var 0), .v (E.var 1), .v (E.var 1), .v (E.var 1)])) (S.ret (E.bl false)) S.pass) (S.ret (E.un allD (E.comp (.one 2) (E.iSeq (E.bin addD (E.var 0) (E.call cf i_columns_of [.v (E.var 0)]))) E.yes (E.eq (E.un sortedD (E.var 2)) (E.un listRangeD (E.var 1)))))))))
def d_is_square : Def := ⟨1, 3, [], 0, s_is_square⟩
def s_look_square (cf : Calls) : S := (S.ite (E.not (E.call cf i_is_square [.v (E.var 0)])) (S.raise 2) S.pass)
def d_look_square : Def := ⟨1, 1, [], 0, s_look_square⟩
def s_even_square (cf : Calls) : S := (S.seq (S.expr (E.call cf i_look_size [.v (E.var 0)])) (S.ret (E.comp (.one 1) (E.iRange (E.var 0)) E.yes (E.comp (.one 2) (E.iRange (E.var 0)) E.yes (E.bin modD (E.bin addD (E.var 1) (E.var 2)) (E.var 0))))))
def d_even_square : Def := ⟨1, 3, [], 0, s_even_square⟩
def s_where (cf : Calls) : S := (S.seq (S.expr (E.call cf i_look_square [.v (E.var 0)])) (S.seq (S.ite (E.not (E.call cf i_is_whole [.v (E.var 1), .v (E.int 0), .v (E.bin subD (E.un lenD (E.var 0)) (E.int 1))])) (S.raise 1) S.pass) (S.ret (E.comp (.one 2) (E.iSeq (E.var 0)) E.yes (E.binM isLst indexD (E.var 2) (E.var 1))))))
def d_where : Def := ⟨2, 3, [], 0, s_where⟩
def s_l_town (cf : Calls) : S := (S.ret (E.lst [(E.ite (E.scrNe 0) (E.scrList 0) (E.lst [(E.int 0)])), (E.int 0)]))
def d_l_town : Def := ⟨1, 1, [], 2, s_l_town⟩
def d_l_draw : Def := drawDef
def s_l_is (cf : Calls) : S := (S.ret (E.and (E.isty .bool (E.var 0)) (E.eq (E.var 0) (E.var 1))))
def d_l_is : Def := ⟨2, 2, [], 0, s_l_is⟩
def s_l_order (cf : Calls) : S := (S.seq (S.asg 2 1 (E.lst [])) (S.seq (S.for_ (.one 3) (E.iRange (E.var 1)) (S.ins 2 (E.call cf i_l_draw [.io 0, .v (E.bin addD (E.un lenD (E.pk 2 [])) (E.int 1))]) (E.var 3))) (S.ret (E.un tupleD (E.pki 2 [])))))
def d_l_order : Def := ⟨2, 4, [0], 0, s_l_order⟩
def s_l_square (cf : Calls) : S := (S.seq (S.asg 2 0 (E.comp (.one 7) (E.iRange (E.int 3)) E.yes (E.call cf i_l_order [.io 0, .v (E.var 1)]))) (S.seq (S.asg 3 2 (E.lst [])) (S.seq (S.for_ (.one 4) (E.iRange (E.var 1)) (S.app 3 2 (E.comp (.one 12) (E.iRange (E.var 1)) E.yes (E.idx (E.idx (E.var 2) (E.int 2)) (E.bin modD (E.bin addD (E.idx (E.idx (E.var 2) (E.int 0)) (E.var 4)) (E.idx (E.idx (E.var 2) (E.int 1)) (E.var 12))) (E.var 1)))))) (S.seq (S.for_ (.one 5) (E.iRange (E.call cf i_l_draw [.io 0, .v (E.int 4)])) (S.seq (S.unpack [8, 9] (E.tup [(E.call cf i_l_draw [.io 0, .v (E.var 1)]), (E.call cf i_l_draw [.io 0, .v (E.var 1)])])) (S.for_ (.one 6) (E.iRange (E.var 1)) (S.seq (S.asg 10 0 (E.binM isLst indexD (E.pk 3 [(E.var 9)]) (E.pk 3 [(E.var 8), (E.var 6)]))) (S.ite (E.and (E.ne (E.var 8) (E.var 9)) (E.eq (E.pk 3 [(E.var 9), (E.var 6)]) (E.pk 3 [(E.var 8), (E.var 10)]))) (S.seq (S.asg 11 0 (E.tup [(E.pth 3 [(E.var 8), (E.var 6)]), (E.pth 3 [(E.var 9), (E.var 6)])])) (S.seq (S.setps [(3, [(E.var 8), (E.var 6)]), (3, [(E.var 9), (E.var 6)])] [(E.idx (E.var 11) (E.int 1)), (E.idx (E.var 11) (E.int 0))]) (S.seq (S.setps [(3, [(E.var 8), (E.var 10)]), (3, [(E.var 9), (E.var 10)])] [(E.idx (E.var 11) (E.int 0)), (E.idx (E.var 11) (E.int 1))]) S.brk))) S.pass))))) (S.seq (S.frz 3) (S.ret (E.var 3)))))))
def d_l_square : Def := ⟨2, 13, [0], 0, s_l_square⟩
def s_l_is_square (cf : Calls) : S := (S.seq (S.ite (E.or (E.not (E.isty .list (E.var 0))) (E.ne (E.un lenD (E.var 0)) (E.var 1))) (S.ret (E.bl false)) S.pass) (S.seq (S.ite (E.ne (E.comp (.one 2) (E.iSeq (E.var 0)) (E.or (E.not (E.isty .list (E.var 2))) (E.ne (E.un sortedD (E.var 2)) (E.un listRangeD (E.var 1)))) (E.var 2)) (E.lst [])) (S.ret (E.bl false)) S.pass) (S.ret (E.eq (E.comp (.one 3) (E.iRange (E.var 1)) (E.ne (E.un sortedD (E.comp (.one 2) (E.iSeq (E.var 0)) E.yes (E.idx (E.var 2) (E.var 3)))) (E.un listRangeD (E.var 1))) (E.var 3)) (E.lst [])))))
def d_l_is_square : Def := ⟨2, 4, [], 0, s_l_is_square⟩
def s_law_k01 (cf : Calls) : S := (S.seq (S.asg 1 2 (E.call cf i_l_town [.x 0])) (S.seq (S.asg 2 0 (E.bin addD (E.int 1) (E.call cf i_l_draw [.io 1, .v (E.int 7)]))) (S.seq (S.asg 3 0 (E.call cf i_l_square [.io 1, .v (E.var 2)])) (S.seq (S.ite (E.or (E.notb true (E.call cf i_is_square [.v (E.var 3)])) (E.not (E.call cf i_l_is_square [.v (E.var 3), .v (E.var 2)]))) (S.ret (E.bl false)) S.pass) (S.seq (S.asg 4 0 (E.call cf i_l_draw [.io 1, .v (E.var 2)])) (S.seq (S.ite (E.ne (E.call cf i_where [.v (E.var 3), .v (E.var 4)]) (E.comp (.one 9) (E.iSeq (E.var 3)) E.yes (E.binM isLst indexD (E.var 9) (E.var 4)))) (S.ret (E.bl false)) S.pass) (S.seq (S.asg 5 0 (E.call cf i_even_square [.v (E.var 2)])) (S.seq (S.for_ (.one 6) (E.iRange (E.var 2)) (S.ite (E.ne (E.idx (E.var 5) (E.var 6)) (E.comp (.one 10) (E.iRange (E.var 2)) E.yes (E.bin modD (E.bin addD (E.var 6) (E.var 10)) (E.var 2)))) (S.ret (E.bl false)) S.pass)) (S.seq (S.asg 7 2 (E.comp (.one 9) (E.iSeq (E.var 3)) E.yes (E.un listD (E.var 9)))) (S.seq (S.for_ (.one 8) (E.iRange (E.bin addD (E.int 1) (E.call cf i_l_draw [.io 1, .v (E.int 3)]))) (S.seq (S.unpack [6, 10] (E.tup [(E.call cf i_l_draw [.io 1, .v (E.var 2)]), (E.call cf i_l_draw [.io 1, .v (E.var 2)])])) (S.seq (S.unpack [11, 12] (E.tup [(E.call cf i_l_draw [.io 1, .v (E.var 2)]), (E.call cf i_l_draw [.io 1, .v (E.var 2)])])) (S.ite (E.eq (E.call cf i_l_draw [.io 1, .v (E.int 2)]) (E.int 0)) (S.setps [(7, [(E.var 6), (E.var 11)]), (7, [(E.var 6), (E.var 12)])] [(E.pth 7 [(E.var 6), (E.var 12)]), (E.pth 7 [(E.var 6), (E.var 11)])]) (S.setps [(7, [(E.var 11), (E.var 10)]), (7, [(E.var 12), (E.var 10)])] [(E.pth 7 [(E.var 12), (E.var 10)]), (E.pth 7 [(E.var 11), (E.var 10)])]))))) (S.seq (S.ite (E.or (E.not (E.callB cf i_l_is [.v (E.callB cf i_is_square [.bw 7]), .v (E.callB cf i_l_is_square [.bw 7, .v (E.var 2)])])) (E.ne (E.un lenD (E.var 5)) (E.var 2))) (S.ret (E.bl false)) S.pass) (S.seq (S.setp 7 [(E.call cf i_l_draw [.io 1, .v (E.var 2)]), (E.call cf i_l_draw [.io 1, .v (E.var 2)])] (E.call cf i_l_draw [.io 1, .v (E.var 2)])) (S.ret (E.and (E.callB cf i_l_is [.v (E.callB cf i_is_square [.bw 7]), .v (E.callB cf i_l_is_square [.bw 7, .v (E.var 2)])]) (E.isb true (E.call cf i_is_square [.v (E.var 5)]))))))))))))))))
def d_law_k01 : Def := ⟨1, 13, [], 0, s_law_k01⟩
def s_are_widths (cf : Calls) : S := (S.seq (S.ite (E.or (E.not (E.isty .tuple (E.var 1))) (E.not (E.un allD (E.comp (.one 2) (E.iSeq (E.var 1)) E.yes (E.call cf i_is_whole [.v (E.var 2), .v (E.int 1), .v (E.var 0)]))))) (S.ret (E.bl false)) S.pass) (S.ret (E.eq (E.un sumD (E.var 1)) (E.var 0))))
def d_are_widths : Def := ⟨2, 3, [], 0, s_are_widths⟩
def s_look_widths (cf : Calls) : S := (S.ite (E.or (E.not (E.isty .tuple (E.var 1))) (E.or (E.ne (E.un lenD (E.var 1)) (E.int 3)) (E.not (E.un allD (E.comp (.one 2) (E.iSeq (E.var 1)) E.yes (E.call cf i_are_widths [.v (E.var 0), .v (E.var 2)])))))) (S.raise 3) S.pass)
def d_look_widths : Def := ⟨2, 3, [], 0, s_look_widths⟩
def s_lot_of (cf : Calls) : S := (S.ret (E.comp2 (.many [2, 3]) (E.iEnumT (E.var 0)) E.yes (.one 1) (E.iRange (E.var 3)) E.yes (E.var 2)))
def d_lot_of : Def := ⟨1, 4, [], 0, s_lot_of⟩
def s_counts_of (cf : Calls) : S := (S.seq (S.unpack [3, 4, 5] (E.comp (.one 8) (E.iSeq (E.var 1)) E.yes (E.call cf i_lot_of [.v (E.var 8)]))) (S.seq (S.asg 2 3 (E.comp (.one 9) (E.iSeq (E.idx (E.var 1) (E.int 0))) E.yes (E.comp (.one 12) (E.iSeq (E.idx (E.var 1) (E.int 1))) E.yes (E.comp (.one 13) (E.iSeq (E.idx (E.var 1) (E.int 2))) E.yes (E.int 0))))) (S.seq (S.for_ (.many [6, 7]) (E.iEnum (E.var 0)) (S.for_ (.many [10, 11]) (E.iEnum (E.var 7)) (S.augp 2 [(E.idx (E.var 3) (E.var 6)), (E.idx (E.var 4) (E.var 10))] (E.idx (E.var 5) (E.var 11)) addI (E.int 1)))) (S.seq (S.frz 2) (S.ret (E.var 2))))))
def d_counts_of : Def := ⟨2, 14, [], 0, s_counts_of⟩
def s_outline_of (cf : Calls) : S := (S.seq (S.expr (E.call cf i_look_square [.v (E.var 0)])) (S.seq (S.expr (E.call cf i_look_widths [.v (E.un lenD (E.var 0)), .v (E.var 1)])) (S.ret (E.tup [(E.var 1), (E.call cf i_counts_of [.v (E.var 0), .v (E.var 1)])]))))
def d_outline_of : Def := ⟨2, 2, [], 0, s_outline_of⟩
def s_is_sketch (cf : Calls) : S := (S.seq (S.ite (E.or (E.not (E.isty .tuple (E.var 0))) (E.or (E.ne (E.un lenD (E.var 0)) (E.int 2)) (E.or (E.not (E.isty .tuple (E.idx (E.var 0) (E.int 0)))) (E.ne (E.un lenD (E.idx (E.var 0) (E.int 0))) (E.int 3))))) (S.ret (E.bl false)) S.pass) (S.seq (S.unpack [3, 4] (E.var 0)) (S.seq (S.ite (E.or (E.not (E.isty .tuple (E.idx (E.var 3) (E.int 0)))) (E.not (E.un allD (E.comp (.one 6) (E.iSeq (E.idx (E.var 3) (E.int 0))) E.yes (E.call cf i_is_whole [.v (E.var 6), .v (E.int 1), .v (E.con (.int 7))]))))) (S.ret (E.bl false)) S.pass) (S.seq (S.asg 1 0 (E.un sumD (E.idx (E.var 3) (E.int 0)))) (S.seq (S.ite (E.or (E.not (E.chain leD leD (E.int 1) (E.var 1) (E.con (.int 7)))) (E.not (E.un allD (E.comp (.one 6) (E.iSeq (E.var 3)) E.yes (E.call cf i_are_widths [.v (E.var 1), .v (E.var 6)]))))) (S.ret (E.bl false)) S.pass) (S.seq (S.ite (E.or (E.not (E.isty .list (E.var 4))) (E.ne (E.un lenD (E.var 4)) (E.un lenD (E.idx (E.var 3) (E.int 0))))) (S.ret (E.bl false)) S.pass) (S.seq (S.for_ (.one 2) (E.iSeq (E.var 4)) (S.seq (S.ite (E.or (E.not (E.isty .list (E.var 2))) (E.ne (E.un lenD (E.var 2)) (E.un lenD (E.idx (E.var 3) (E.int 1))))) (S.ret (E.bl false)) S.pass) (S.for_ (.one 5) (E.iSeq (E.var 2)) (S.seq (S.ite (E.or (E.not (E.isty .list (E.var 5))) (E.ne (E.un lenD (E.var 5)) (E.un lenD (E.idx (E.var 3) (E.int 2))))) (S.ret (E.bl false)) S.pass) (S.ite (E.not (E.un allD (E.comp (.one 6) (E.iSeq (E.var 5)) E.yes (E.call cf i_is_whole [.v (E.var 6), .v (E.int 0), .v (E.bin mulD (E.con (.int 7)) (E.con (.int 7)))])))) (S.ret (E.bl false)) S.pass))))) (S.ret (E.bl true)))))))))
def d_is_sketch : Def := ⟨1, 7, [], 0, s_is_sketch⟩
def s_look_sketch (cf : Calls) : S := (S.ite (E.not (E.call cf i_is_sketch [.v (E.var 0)])) (S.raise 4) S.pass)
def d_look_sketch : Def := ⟨1, 1, [], 0, s_look_sketch⟩
def s_wrong_sums (cf : Calls) : S := (S.seq (S.unpack [4, 5] (E.var 0)) (S.seq (S.asg 1 1 (E.lst [])) (S.seq (S.for_ (.one 2) (E.iRange (E.un lenD (E.idx (E.var 4) (E.int 1)))) (S.for_ (.one 6) (E.iRange (E.un lenD (E.idx (E.var 4) (E.int 2)))) (S.app 1 1 (E.tup [(E.int 0), (E.var 2), (E.var 6), (E.un sumD (E.comp (.one 8) (E.iSeq (E.var 5)) E.yes (E.idx (E.idx (E.var 8) (E.var 2)) (E.var 6)))), (E.bin mulD (E.idx (E.idx (E.var 4) (E.int 1)) (E.var 2)) (E.idx (E.idx (E.var 4) (E.int 2)) (E.var 6)))])))) (S.seq (S.for_ (.one 3) (E.iRange (E.un lenD (E.idx (E.var 4) (E.int 0)))) (S.for_ (.one 6) (E.iRange (E.un lenD (E.idx (E.var 4) (E.int 2)))) (S.app 1 1 (E.tup [(E.int 1), (E.var 3), (E.var 6), (E.un sumD (E.comp (.one 9) (E.iSeq (E.idx (E.var 5) (E.var 3))) E.yes (E.idx (E.var 9) (E.var 6)))), (E.bin mulD (E.idx (E.idx (E.var 4) (E.int 0)) (E.var 3)) (E.idx (E.idx (E.var 4) (E.int 2)) (E.var 6)))])))) (S.seq (S.for_ (.one 3) (E.iRange (E.un lenD (E.idx (E.var 4) (E.int 0)))) (S.for_ (.one 2) (E.iRange (E.un lenD (E.idx (E.var 4) (E.int 1)))) (S.app 1 1 (E.tup [(E.int 2), (E.var 3), (E.var 2), (E.un sumD (E.idx (E.idx (E.var 5) (E.var 3)) (E.var 2))), (E.bin mulD (E.idx (E.idx (E.var 4) (E.int 0)) (E.var 3)) (E.idx (E.idx (E.var 4) (E.int 1)) (E.var 2)))])))) (S.seq (S.frz 1) (S.ret (E.comp (.one 7) (E.iSeq (E.var 1)) (E.ne (E.idx (E.var 7) (E.int 3)) (E.idx (E.var 7) (E.int 4))) (E.var 7)))))))))
def d_wrong_sums : Def := ⟨1, 10, [], 0, s_wrong_sums⟩
def s_bars (cf : Calls) : S := (S.seq (S.expr (E.call cf i_look_sketch [.v (E.var 0)])) (S.ret (E.call cf i_wrong_sums [.v (E.var 0)])))
def d_bars : Def := ⟨1, 1, [], 0, s_bars⟩
def s_is_outline (cf : Calls) : S := (S.ret (E.and (E.call cf i_is_sketch [.v (E.var 0)]) (E.eq (E.call cf i_wrong_sums [.v (E.var 0)]) (E.lst []))))
def d_is_outline : Def := ⟨1, 1, [], 0, s_is_outline⟩
def s_size_of (cf : Calls) : S := (S.seq (S.expr (E.call cf i_look_sketch [.v (E.var 0)])) (S.ret (E.un sumD (E.idx (E.idx (E.var 0) (E.int 0)) (E.int 0)))))
def d_size_of : Def := ⟨1, 1, [], 0, s_size_of⟩
def s_l_pick (cf : Calls) : S := (S.ret (E.idx (E.var 1) (E.call cf i_l_draw [.io 0, .v (E.un lenD (E.var 1))])))
def d_l_pick : Def := ⟨2, 2, [0], 0, s_l_pick⟩
def s_l_side (cf : Calls) : S := (S.seq (S.asg 2 1 (E.lst [])) (S.seq (S.whl (E.bin ltD (E.un sumD (E.pk 2 [])) (E.var 1)) (S.app 2 1 (E.bin addD (E.int 1) (E.call cf i_l_draw [.io 0, .v (E.bin min2D (E.bin subD (E.var 1) (E.un sumD (E.pk 2 []))) (E.call cf i_l_pick [.io 0, .v (E.lst [(E.int 1), (E.int 2), (E.int 3), (E.var 1)])]))]))) 1000) (S.ret (E.un tupleD (E.pki 2 [])))))
def d_l_side : Def := ⟨2, 3, [0], 0, s_l_side⟩
def s_l_widths (cf : Calls) : S := (S.ret (E.un tupleD (E.comp (.one 2) (E.iRange (E.int 3)) E.yes (E.call cf i_l_side [.io 0, .v (E.var 1)]))))
def d_l_widths : Def := ⟨2, 3, [0], 0, s_l_widths⟩
def s_l_lots (cf : Calls) : S := (S.seq (S.asg 1 0 (E.lst [])) (S.seq (S.for_ (.one 2) (E.iRange (E.un lenD (E.var 0))) (S.asg 1 0 (E.bin addD (E.var 1) (E.bin mulD (E.lst [(E.var 2)]) (E.idx (E.var 0) (E.var 2)))))) (S.ret (E.var 1))))
def d_l_lots : Def := ⟨1, 3, [], 0, s_l_lots⟩
def s_l_counts (cf : Calls) : S := (S.seq (S.unpack [4, 5, 6] (E.comp (.one 8) (E.iSeq (E.var 1)) E.yes (E.call cf i_l_lots [.v (E.var 8)]))) (S.seq (S.asg 2 3 (E.lst [])) (S.seq (S.for_ (.one 3) (E.iSeq (E.idx (E.var 1) (E.int 0))) (S.app 2 3 (E.comp (.one 7) (E.iSeq (E.idx (E.var 1) (E.int 1))) E.yes (E.bin mulD (E.lst [(E.int 0)]) (E.un lenD (E.idx (E.var 1) (E.int 2))))))) (S.seq (S.for_ (.one 3) (E.iRange (E.un lenD (E.var 0))) (S.for_ (.one 7) (E.iRange (E.un lenD (E.var 0))) (S.bump 2 [(E.idx (E.var 4) (E.var 3)), (E.idx (E.var 5) (E.var 7))] 9 10 (E.idx (E.var 6) (E.idx (E.idx (E.var 0) (E.var 3)) (E.var 7)))))) (S.retO 2 3)))))
def d_l_counts : Def := ⟨2, 11, [], 3, s_l_counts⟩
def s_l_bars (cf : Calls) : S := (S.seq (S.asg 2 1 (E.lst [])) (S.seq (S.for_ (.one 3) (E.iRange (E.un lenD (E.idx (E.var 0) (E.int 1)))) (S.for_ (.one 5) (E.iRange (E.un lenD (E.idx (E.var 0) (E.int 2)))) (S.app 2 1 (E.tup [(E.int 0), (E.var 3), (E.var 5), (E.un sumD (E.comp (.one 7) (E.iSeq (E.var 1)) E.yes (E.idx (E.idx (E.var 7) (E.var 3)) (E.var 5)))), (E.bin mulD (E.idx (E.idx (E.var 0) (E.int 1)) (E.var 3)) (E.idx (E.idx (E.var 0) (E.int 2)) (E.var 5)))])))) (S.seq (S.for_ (.one 4) (E.iRange (E.un lenD (E.idx (E.var 0) (E.int 0)))) (S.for_ (.one 5) (E.iRange (E.un lenD (E.idx (E.var 0) (E.int 2)))) (S.app 2 1 (E.tup [(E.int 1), (E.var 4), (E.var 5), (E.un sumD (E.comp (.one 8) (E.iSeq (E.idx (E.var 1) (E.var 4))) E.yes (E.idx (E.var 8) (E.var 5)))), (E.bin mulD (E.idx (E.idx (E.var 0) (E.int 0)) (E.var 4)) (E.idx (E.idx (E.var 0) (E.int 2)) (E.var 5)))])))) (S.seq (S.for_ (.one 4) (E.iRange (E.un lenD (E.idx (E.var 0) (E.int 0)))) (S.for_ (.one 3) (E.iRange (E.un lenD (E.idx (E.var 0) (E.int 1)))) (S.app 2 1 (E.tup [(E.int 2), (E.var 4), (E.var 3), (E.un sumD (E.idx (E.idx (E.var 1) (E.var 4)) (E.var 3))), (E.bin mulD (E.idx (E.idx (E.var 0) (E.int 0)) (E.var 4)) (E.idx (E.idx (E.var 0) (E.int 1)) (E.var 3)))])))) (S.seq (S.frz 2) (S.ret (E.comp (.one 6) (E.iSeq (E.var 2)) (E.ne (E.idx (E.var 6) (E.int 3)) (E.idx (E.var 6) (E.int 4))) (E.var 6))))))))
def d_l_bars : Def := ⟨2, 9, [], 0, s_l_bars⟩
def s_l_sketch (cf : Calls) : S := (S.seq (S.asg 2 0 (E.call cf i_l_widths [.io 0, .v (E.var 1)])) (S.seq (S.asg 3 3 (E.call cf i_l_counts [.v (E.call cf i_l_square [.io 0, .v (E.var 1)]), .v (E.var 2)])) (S.seq (S.asg 4 0 (E.call cf i_l_draw [.io 0, .v (E.int 4)])) (S.seq (S.unpack [5, 6, 7] (E.tup [(E.call cf i_l_draw [.io 0, .v (E.un lenD (E.idx (E.var 2) (E.int 0)))]), (E.call cf i_l_draw [.io 0, .v (E.un lenD (E.idx (E.var 2) (E.int 1)))]), (E.call cf i_l_draw [.io 0, .v (E.un lenD (E.idx (E.var 2) (E.int 2)))])])) (S.seq (S.ite (E.eq (E.var 4) (E.int 0)) (S.setp 3 [(E.var 5), (E.var 6), (E.var 7)] (E.bin min2D (E.int 49) (E.bin max2D (E.int 0) (E.bin subD (E.bin addD (E.pth 3 [(E.var 5), (E.var 6), (E.var 7)]) (E.call cf i_l_draw [.io 0, .v (E.int 3)])) (E.int 1))))) (S.ite (E.eq (E.var 4) (E.int 1)) (S.seq (S.asg 8 0 (E.call cf i_l_draw [.io 0, .v (E.un lenD (E.idx (E.var 2) (E.int 2)))])) (S.ite (E.bin gtD (E.pk 3 [(E.var 5), (E.var 6), (E.var 7)]) (E.int 0)) (S.seq (S.setp 3 [(E.var 5), (E.var 6), (E.var 7)] (E.bin subD (E.pth 3 [(E.var 5), (E.var 6), (E.var 7)]) (E.int 1))) (S.setp 3 [(E.var 5), (E.var 6), (E.var 8)] (E.bin addD (E.pth 3 [(E.var 5), (E.var 6), (E.var 8)]) (E.int 1)))) S.pass)) S.pass)) (S.seq (S.frz 3) (S.ret (E.tup [(E.var 2), (E.var 3)]))))))))
def d_l_sketch : Def := ⟨2, 9, [0], 0, s_l_sketch⟩
def s_law_k02_2 (cf : Calls) : S := (S.seq (S.for_ (.one 8) (E.iSeq (E.idx (E.call cf i_outline_of [.v (E.var 9), .v (E.bin mulD (E.tup [(E.bin mulD (E.tup [(E.int 1)]) (E.var 2))]) (E.int 3))]) (E.int 1))) (S.app 7 1 (E.comp (.one 11) (E.iSeq (E.var 8)) E.yes (E.binM isLst indexD (E.var 11) (E.int 1))))) (S.ret (E.eq (E.pk 7 []) (E.var 9))))
def s_law_k02_1 (cf : Calls) : S := (S.seq (S.asg 5 0 (E.call cf i_l_bars [.v (E.idx (E.var 4) (E.int 0)), .v (E.idx (E.var 4) (E.int 1))])) (S.seq (S.ite (E.or (E.ne (E.call cf i_bars [.v (E.var 4)]) (E.var 5)) (E.not (E.call cf i_l_is [.v (E.call cf i_is_outline [.v (E.var 4)]), .v (E.eq (E.var 5) (E.lst []))]))) (S.ret (E.bl false)) S.pass) (S.seq (S.ite (E.or (E.ne (E.call cf i_size_of [.v (E.var 4)]) (E.var 2)) (E.ne (E.call cf i_size_of [.v (E.var 3)]) (E.var 2))) (S.ret (E.bl false)) S.pass) (S.seq (S.asg 6 0 (E.tup [(E.tup [(E.var 2)]), (E.tup [(E.var 2)]), (E.tup [(E.var 2)])])) (S.seq (S.ite (E.ne (E.call cf i_outline_of [.v (E.var 9), .v (E.var 6)]) (E.tup [(E.var 6), (E.lst [(E.lst [(E.lst [(E.bin mulD (E.var 2) (E.var 2))])])])])) (S.ret (E.bl false)) S.pass) (S.seq (S.asg 7 1 (E.lst [])) (s_law_k02_2 cf)))))))
def s_law_k02 (cf : Calls) : S := (S.seq (S.asg 1 2 (E.call cf i_l_town [.x 0])) (S.seq (S.asg 2 0 (E.bin addD (E.int 1) (E.call cf i_l_draw [.io 1, .v (E.int 7)]))) (S.seq (S.unpack [9, 10] (E.tup [(E.call cf i_l_square [.io 1, .v (E.var 2)]), (E.call cf i_l_widths [.io 1, .v (E.var 2)])])) (S.seq (S.asg 3 0 (E.tup [(E.var 10), (E.call cf i_l_counts [.v (E.var 9), .v (E.var 10)])])) (S.seq (S.ite (E.or (E.ne (E.call cf i_outline_of [.v (E.var 9), .v (E.var 10)]) (E.var 3)) (E.or (E.ne (E.call cf i_bars [.v (E.var 3)]) (E.lst [])) (E.notb true (E.call cf i_is_outline [.v (E.var 3)])))) (S.ret (E.bl false)) S.pass) (S.seq (S.asg 4 0 (E.call cf i_l_sketch [.io 1, .v (E.var 2)])) (s_law_k02_1 cf)))))))
def d_law_k02 : Def := ⟨1, 12, [], 0, s_law_k02⟩
def s_look_outline (cf : Calls) : S := (S.ite (E.not (E.call cf i_is_outline [.v (E.var 0)])) (S.raise 4) S.pass)
def d_look_outline : Def := ⟨1, 1, [], 0, s_look_outline⟩
def s_Rounding__init (cf : Calls) : S := (S.seq (S.fset 0 0 0 (E.var 1)) (S.seq (S.fset 0 1 0 (E.var 2)) (S.seq (S.fsetD 0 2) (S.seq (S.fset 0 3 1 (E.lst [])) (S.for_ (.one 3) (E.iRange (E.un lenD (E.idx (E.var 1) (E.int 0)))) (S.seq (S.asg 4 0 (E.un sumD (E.comp (.one 5) (E.iSeq (E.var 1)) E.yes (E.idx (E.var 5) (E.var 3))))) (S.fapp 0 3 (E.bin subD (E.bin fdivD (E.var 4) (E.var 2)) (E.un sumD (E.comp (.one 5) (E.iSeq (E.var 1)) E.yes (E.bin fdivD (E.idx (E.var 5) (E.var 3)) (E.var 2))))))))))))
def d_Rounding__init : Def := ⟨3, 6, [0], 0, s_Rounding__init⟩
def s_Rounding_is_broken (cf : Calls) : S := (S.ret (E.ne (E.bin modD (E.fpth 0 0 [(E.var 1), (E.var 2)]) (E.fpth 0 1 [])) (E.int 0)))
def d_Rounding_is_broken : Def := ⟨3, 3, [0], 0, s_Rounding_is_broken⟩
def s_Rounding_lead (cf : Calls) : S := (S.seq (S.for_ (.one 3) (E.iRange (E.un lenD (E.fpk 0 3 []))) (S.ite (E.and (E.dnotin 2 (E.var 3)) (E.and (E.call cf i_Rounding_is_broken [.io 0, .v (E.var 1), .v (E.var 3)]) (E.fdnotin 0 2 (E.var 1) (E.var 3)))) (S.seq (S.dset 2 (E.var 3)) (S.seq (S.ite (E.bin gtD (E.fpk 0 3 [(E.var 3)]) (E.int 0)) (S.seq (S.faugp 0 3 [(E.var 3)] subD (E.int 1)) (S.seq (S.fdset 0 2 (E.var 1) (E.var 3)) (S.ret (E.bl true)))) S.pass) (S.for_ (.one 4) (E.iRange (E.un lenD (E.fpk 0 0 []))) (S.ite (E.fdin 0 2 (E.var 4) (E.var 3)) (S.seq (S.fdpop 0 2 (E.var 4) (E.var 3)) (S.seq (S.ite (E.call cf i_Rounding_lead [.io 0, .v (E.var 4), .io 2]) (S.seq (S.fdset 0 2 (E.var 1) (E.var 3)) (S.ret (E.bl true))) S.pass) (S.fdset 0 2 (E.var 4) (E.var 3)))) S.pass)))) S.pass)) (S.ret (E.bl false)))
def d_Rounding_lead : Def := ⟨3, 5, [0, 2], 0, s_Rounding_lead⟩
def s_Rounding_shared (cf : Calls) : S := (S.seq (S.for_ (.one 1) (E.iRange (E.un lenD (E.fpk 0 0 []))) (S.seq (S.asg 3 0 (E.bin subD (E.bin fdivD (E.un sumD (E.fpk 0 0 [(E.var 1)])) (E.fpth 0 1 [])) (E.un sumD (E.comp (.one 6) (E.iSeq (E.fpth 0 0 [(E.var 1)])) E.yes (E.bin fdivD (E.var 6) (E.fpth 0 1 [])))))) (S.for_ (.one 4) (E.iRange (E.var 3)) (S.expr (E.call cf i_Rounding_lead [.io 0, .v (E.var 1), .fs E.newDict]))))) (S.seq (S.asg 2 1 (E.lst [])) (S.seq (S.for_ (.one 1) (E.iRange (E.un lenD (E.fpk 0 0 []))) (S.seq (S.asg 5 0 (E.comp (.one 6) (E.iSeq (E.fpth 0 0 [(E.var 1)])) E.yes (E.bin fdivD (E.var 6) (E.fpth 0 1 [])))) (S.app 2 1 (E.comp (.one 7) (E.iRange (E.un lenD (E.var 5))) E.yes (E.bin addD (E.idx (E.var 5) (E.var 7)) (E.ite (E.fdin 0 2 (E.var 1) (E.var 7)) (E.int 1) (E.int 0))))))) (S.seq (S.frz 2) (S.ret (E.var 2))))))
def d_Rounding_shared : Def := ⟨1, 8, [0], 0, s_Rounding_shared⟩
def s_shared (cf : Calls) : S := (S.ret (E.call cf i_Rounding_shared [.fs (E.new cf 0 i_Rounding__init [.v (E.var 0), .v (E.var 1)])]))
def d_shared : Def := ⟨2, 2, [], 0, s_shared⟩
def s_turn_sides (cf : Calls) : S := (S.seq (S.unpack [5, 6] (E.var 0)) (S.seq (S.asg 2 0 (E.un tupleD (E.comp (.one 11) (E.iSeq (E.var 1)) E.yes (E.idx (E.var 5) (E.var 11))))) (S.seq (S.asg 3 1 (E.lst [])) (S.seq (S.for_ (.one 4) (E.iRange (E.un lenD (E.idx (E.var 2) (E.int 0)))) (S.seq (S.asg 7 1 (E.lst [])) (S.seq (S.for_ (.one 8) (E.iRange (E.un lenD (E.idx (E.var 2) (E.int 1)))) (S.seq (S.asg 9 1 (E.lst [])) (S.seq (S.for_ (.one 10) (E.iRange (E.un lenD (E.idx (E.var 2) (E.int 2)))) (S.seq (S.asg 12 1 (E.lst [(E.int 0), (E.int 0), (E.int 0)])) (S.seq (S.setps [(12, [(E.idx (E.var 1) (E.int 0))]), (12, [(E.idx (E.var 1) (E.int 1))]), (12, [(E.idx (E.var 1) (E.int 2))])] [(E.var 4), (E.var 8), (E.var 10)]) (S.app 9 1 (E.idx (E.idx (E.idx (E.var 6) (E.pth 12 [(E.int 0)])) (E.pth 12 [(E.int 1)])) (E.pth 12 [(E.int 2)])))))) (S.seq (S.frz 9) (S.app 7 1 (E.var 9)))))) (S.seq (S.frz 7) (S.app 3 1 (E.var 7)))))) (S.seq (S.frz 3) (S.ret (E.tup [(E.var 2), (E.var 3)])))))))
def d_turn_sides : Def := ⟨2, 13, [], 0, s_turn_sides⟩
def s_with_split (cf : Calls) : S := (S.seq (S.unpack [8, 9] (E.call cf i_turn_sides [.v (E.var 0), .v (E.idx (E.con (.tup [(.tup [(.int 0), (.int 1), (.int 2)]), (.tup [(.int 1), (.int 0), (.int 2)]), (.tup [(.int 2), (.int 0), (.int 1)])])) (E.var 1))])) (S.seq (S.asg 4 0 (E.idx (E.var 9) (E.var 2))) (S.seq (S.asg 5 0 (E.comp (.one 10) (E.iRange (E.un lenD (E.var 4))) E.yes (E.comp (.one 11) (E.iRange (E.un lenD (E.idx (E.var 4) (E.var 10)))) E.yes (E.bin subD (E.idx (E.idx (E.var 4) (E.var 10)) (E.var 11)) (E.idx (E.idx (E.var 3) (E.var 10)) (E.var 11)))))) (S.seq (S.asg 6 0 (E.bin addD (E.bin addD (E.slice (E.idx (E.var 8) (E.int 0)) none (some (E.var 2))) (E.tup [(E.int 1), (E.bin subD (E.idx (E.idx (E.var 8) (E.int 0)) (E.var 2)) (E.int 1))])) (E.slice (E.idx (E.var 8) (E.int 0)) (some (E.bin addD (E.var 2) (E.int 1))) none))) (S.seq (S.asg 7 0 (E.tup [(E.bin addD (E.tup [(E.var 6)]) (E.slice (E.var 8) (some (E.int 1)) none)), (E.bin addD (E.bin addD (E.slice (E.var 9) none (some (E.var 2))) (E.lst [(E.comp (.one 12) (E.iSeq (E.var 3)) E.yes (E.un listD (E.var 12))), (E.var 5)])) (E.slice (E.var 9) (some (E.bin addD (E.var 2) (E.int 1))) none))])) (S.ret (E.call cf i_turn_sides [.v (E.var 7), .v (E.idx (E.con (.tup [(.tup [(.int 0), (.int 1), (.int 2)]), (.tup [(.int 1), (.int 0), (.int 2)]), (.tup [(.int 1), (.int 2), (.int 0)])])) (E.var 1))])))))))
def d_with_split : Def := ⟨4, 13, [], 0, s_with_split⟩
def s_split (cf : Calls) : S := (S.seq (S.asg 3 0 (E.idx (E.idx (E.call cf i_turn_sides [.v (E.var 0), .v (E.idx (E.con (.tup [(.tup [(.int 0), (.int 1), (.int 2)]), (.tup [(.int 1), (.int 0), (.int 2)]), (.tup [(.int 2), (.int 0), (.int 1)])])) (E.var 1))]) (E.int 1)) (E.var 2))) (S.ret (E.call cf i_with_split [.v (E.var 0), .v (E.var 1), .v (E.var 2), .v (E.call cf i_shared [.v (E.var 3), .v (E.idx (E.idx (E.idx (E.var 0) (E.int 0)) (E.var 1)) (E.var 2))])])))
def d_split : Def := ⟨3, 4, [], 0, s_split⟩
def s_all_apart (cf : Calls) : S := (S.seq (S.for_ (.one 1) (E.iRange (E.int 3)) (S.seq (S.asg 2 0 (E.int 0)) (S.whl (E.bin ltD (E.var 2) (E.un lenD (E.idx (E.idx (E.var 0) (E.int 0)) (E.var 1)))) (S.seq (S.ite (E.bin gtD (E.idx (E.idx (E.idx (E.var 0) (E.int 0)) (E.var 1)) (E.var 2)) (E.int 1)) (S.asg 0 0 (E.call cf i_split [.v (E.var 0), .v (E.var 1), .v (E.var 2)])) S.pass) (S.augI 2 (E.int 1))) 1000))) (S.ret (E.var 0)))
def d_all_apart : Def := ⟨1, 3, [], 0, s_all_apart⟩
def s_square_of (cf : Calls) : S := (S.seq (S.expr (E.call cf i_look_outline [.v (E.var 0)])) (S.seq (S.asg 1 0 (E.idx (E.call cf i_all_apart [.v (E.var 0)]) (E.int 1))) (S.ret (E.comp (.one 2) (E.iSeq (E.var 1)) E.yes (E.comp (.one 3) (E.iSeq (E.var 2)) E.yes (E.binM isLst indexD (E.var 3) (E.int 1)))))))
def d_square_of : Def := ⟨1, 4, [], 0, s_square_of⟩
def s_l_refusal (cf : Calls) : S := (S.seq (S.asg 1 0 (E.lst [(E.isexc 0 (fun c => c == 1)), (E.isexc 0 (fun c => c == 2)), (E.isexc 0 (fun c => c == 3))])) (S.seq (S.asg 1 0 (E.bin addD (E.var 1) (E.lst [(E.isexc 0 (fun c => c == 4)), (E.isexc 0 (fun c => c == 5)), (E.isexc 0 (fun c => c == 6))]))) (S.seq (S.asg 1 0 (E.bin addD (E.var 1) (E.lst [(E.isexc 0 (fun c => c == 7)), (E.isexc 0 (fun c => c == 8))]))) (S.seq (S.ite (E.or (E.ne (E.binM isLst countD (E.var 1) (E.bl true)) (E.int 1)) (E.or (E.not (E.isexc 0 (fun _ => true))) (E.not (E.isexc 0 (fun _ => true))))) (S.ret (E.str [111, 100, 100])) S.pass) (S.ret (E.idx (E.lst [(E.str [115, 105, 122, 101]), (E.str [115, 113, 117, 97, 114, 101]), (E.str [119, 105, 100, 116, 104, 115]), (E.str [111, 117, 116, 108, 105, 110, 101]), (E.str [99, 111, 114, 110, 101, 114]), (E.str [99, 104, 111, 105, 99, 101]), (E.str [116, 101, 120, 116]), (E.str [110, 111, 110, 101])]) (E.binM isLst indexD (E.var 1) (E.bl true))))))))
def d_l_refusal : Def := ⟨1, 2, [], 0, s_l_refusal⟩
def s_l_told_k03 (cf : Calls) : S := (S.seq (S.asg 1 0 E.non) (S.seq (S.asg 2 0 E.non) (S.seq (S.tryc (S.asg 1 0 (E.call cf i_square_of [.v (E.var 0)])) 3 2) (S.ret (E.ite (E.excNone 2) (E.var 1) (E.call cf i_l_refusal [.x 2]))))))
def d_l_told_k03 : Def := ⟨1, 4, [], 0, s_l_told_k03⟩
def s_law_k03_1 (cf : Calls) : S := (S.seq (S.ite (E.ne (E.idx (E.var 3) (E.int 1)) (E.pk 4 [])) (S.ret (E.bl false)) S.pass) (S.seq (S.ite (E.ne (E.call cf i_l_bars [.v (E.idx (E.var 3) (E.int 0)), .v (E.idx (E.var 3) (E.int 1))]) (E.lst [])) (S.ret (E.eq (E.var 6) (E.str [111, 117, 116, 108, 105, 110, 101]))) S.pass) (S.seq (S.ite (E.not (E.call cf i_l_is_square [.v (E.var 6), .v (E.var 2)])) (S.ret (E.bl false)) S.pass) (S.ret (E.and (E.eq (E.call cf i_l_counts [.v (E.var 6), .v (E.idx (E.var 3) (E.int 0))]) (E.idx (E.var 3) (E.int 1))) (E.eq (E.call cf i_outline_of [.v (E.var 6), .v (E.idx (E.var 3) (E.int 0))]) (E.var 3)))))))
def s_law_k03 (cf : Calls) : S := (S.seq (S.asg 1 2 (E.call cf i_l_town [.x 0])) (S.seq (S.asg 2 0 (E.bin addD (E.int 1) (E.call cf i_l_draw [.io 1, .v (E.int 7)]))) (S.seq (S.asg 3 0 (E.call cf i_l_sketch [.io 1, .v (E.var 2)])) (S.seq (S.asg 4 1 (E.lst [])) (S.seq (S.for_ (.one 5) (E.iSeq (E.idx (E.var 3) (E.int 1))) (S.app 4 1 (E.comp (.one 7) (E.iSeq (E.var 5)) E.yes (E.un listD (E.var 7))))) (S.seq (S.asg 6 0 (E.call cf i_l_told_k03 [.v (E.var 3)])) (s_law_k03_1 cf)))))))
def d_law_k03 : Def := ⟨1, 8, [], 0, s_law_k03⟩
def s_look_lot (cf : Calls) : S := (S.ite (E.or (E.not (E.call cf i_is_whole [.v (E.var 1), .v (E.int 0), .v (E.int 2)])) (E.not (E.call cf i_is_whole [.v (E.var 2), .v (E.int 0), .v (E.bin subD (E.un lenD (E.idx (E.idx (E.var 0) (E.int 0)) (E.var 1))) (E.int 1))]))) (S.raise 6) S.pass)
def d_look_lot : Def := ⟨3, 3, [], 0, s_look_lot⟩
def s_taken_apart (cf : Calls) : S := (S.seq (S.expr (E.call cf i_look_outline [.v (E.var 0)])) (S.seq (S.expr (E.call cf i_look_lot [.v (E.var 0), .v (E.var 1), .v (E.var 2)])) (S.seq (S.ite (E.eq (E.idx (E.idx (E.idx (E.var 0) (E.int 0)) (E.var 1)) (E.var 2)) (E.int 1)) (S.raise 8) S.pass) (S.ret (E.call cf i_split [.v (E.var 0), .v (E.var 1), .v (E.var 2)])))))
def d_taken_apart : Def := ⟨3, 3, [], 0, s_taken_apart⟩
def s_put_together (cf : Calls) : S := (S.seq (S.expr (E.call cf i_look_outline [.v (E.var 0)])) (S.seq (S.expr (E.call cf i_look_lot [.v (E.var 0), .v (E.var 1), .v (E.var 2)])) (S.seq (S.ite (E.eq (E.var 2) (E.bin subD (E.un lenD (E.idx (E.idx (E.var 0) (E.int 0)) (E.var 1))) (E.int 1))) (S.raise 8) S.pass) (S.seq (S.unpack [6, 7] (E.call cf i_turn_sides [.v (E.var 0), .v (E.idx (E.con (.tup [(.tup [(.int 0), (.int 1), (.int 2)]), (.tup [(.int 1), (.int 0), (.int 2)]), (.tup [(.int 2), (.int 0), (.int 1)])])) (E.var 1))])) (S.seq (S.unpack [8, 9] (E.tup [(E.idx (E.var 7) (E.var 2)), (E.idx (E.var 7) (E.bin addD (E.var 2) (E.int 1)))])) (S.seq (S.asg 3 0 (E.comp (.one 10) (E.iRange (E.un lenD (E.var 8))) E.yes (E.comp (.one 11) (E.iRange (E.un lenD (E.idx (E.var 8) (E.var 10)))) E.yes (E.bin addD (E.idx (E.idx (E.var 8) (E.var 10)) (E.var 11)) (E.idx (E.idx (E.var 9) (E.var 10)) (E.var 11)))))) (S.seq (S.asg 4 0 (E.bin addD (E.bin addD (E.slice (E.idx (E.var 6) (E.int 0)) none (some (E.var 2))) (E.tup [(E.bin addD (E.idx (E.idx (E.var 6) (E.int 0)) (E.var 2)) (E.idx (E.idx (E.var 6) (E.int 0)) (E.bin addD (E.var 2) (E.int 1))))])) (E.slice (E.idx (E.var 6) (E.int 0)) (some (E.bin addD (E.var 2) (E.int 2))) none))) (S.seq (S.asg 5 0 (E.tup [(E.bin addD (E.tup [(E.var 4)]) (E.slice (E.var 6) (some (E.int 1)) none)), (E.bin addD (E.bin addD (E.slice (E.var 7) none (some (E.var 2))) (E.lst [(E.var 3)])) (E.slice (E.var 7) (some (E.bin addD (E.var 2) (E.int 2))) none))])) (S.ret (E.call cf i_turn_sides [.v (E.var 5), .v (E.idx (E.con (.tup [(.tup [(.int 0), (.int 1), (.int 2)]), (.tup [(.int 1), (.int 0), (.int 2)]), (.tup [(.int 1), (.int 2), (.int 0)])])) (E.var 1))]))))))))))
def d_put_together : Def := ⟨3, 12, [], 0, s_put_together⟩
def s_l_told_k04 (cf : Calls) : S := (S.seq (S.asg 3 0 E.non) (S.seq (S.asg 4 0 E.non) (S.seq (S.tryc (S.asg 3 0 (E.call cf i_taken_apart [.v (E.var 0), .v (E.var 1), .v (E.var 2)])) 5 4) (S.ret (E.ite (E.excNone 4) (E.var 3) (E.call cf i_l_refusal [.x 4]))))))
def d_l_told_k04 : Def := ⟨3, 6, [], 0, s_l_told_k04⟩
def s_law_k04 (cf : Calls) : S := (S.seq (S.asg 1 2 (E.call cf i_l_town [.x 0])) (S.seq (S.asg 2 0 (E.bin addD (E.int 1) (E.call cf i_l_draw [.io 1, .v (E.int 7)]))) (S.seq (S.asg 3 0 (E.call cf i_l_widths [.io 1, .v (E.var 2)])) (S.seq (S.asg 4 0 (E.tup [(E.var 3), (E.call cf i_l_counts [.v (E.call cf i_l_square [.io 1, .v (E.var 2)]), .v (E.var 3)])])) (S.seq (S.for_ (.one 5) (E.iRange (E.int 3)) (S.seq (S.asg 6 0 (E.call cf i_l_draw [.io 1, .v (E.int 3)])) (S.seq (S.asg 7 0 (E.call cf i_l_draw [.io 1, .v (E.un lenD (E.idx (E.idx (E.var 4) (E.int 0)) (E.var 6)))])) (S.seq (S.asg 8 0 (E.call cf i_l_told_k04 [.v (E.var 4), .v (E.var 6), .v (E.var 7)])) (S.ite (E.eq (E.idx (E.idx (E.idx (E.var 4) (E.int 0)) (E.var 6)) (E.var 7)) (E.int 1)) (S.ite (E.ne (E.var 8) (E.str [110, 111, 110, 101])) (S.ret (E.bl false)) S.pass) (S.seq (S.asg 9 0 (E.idx (E.idx (E.var 4) (E.int 0)) (E.var 6))) (S.seq (S.asg 10 0 (E.bin addD (E.bin addD (E.slice (E.var 9) none (some (E.var 7))) (E.tup [(E.int 1), (E.bin subD (E.idx (E.var 9) (E.var 7)) (E.int 1))])) (E.slice (E.var 9) (some (E.bin addD (E.var 7) (E.int 1))) none))) (S.seq (S.asg 11 0 (E.bin addD (E.bin addD (E.slice (E.idx (E.var 4) (E.int 0)) none (some (E.var 6))) (E.tup [(E.var 10)])) (E.slice (E.idx (E.var 4) (E.int 0)) (some (E.bin addD (E.var 6) (E.int 1))) none))) (S.seq (S.ite (E.or (E.not (E.isty .tuple (E.var 8))) (E.or (E.ne (E.idx (E.var 8) (E.int 0)) (E.var 11)) (E.notb true (E.call cf i_is_outline [.v (E.var 8)])))) (S.ret (E.bl false)) S.pass) (S.seq (S.ite (E.or (E.ne (E.call cf i_l_bars [.v (E.idx (E.var 8) (E.int 0)), .v (E.idx (E.var 8) (E.int 1))]) (E.lst [])) (E.ne (E.call cf i_put_together [.v (E.var 8), .v (E.var 6), .v (E.var 7)]) (E.var 4))) (S.ret (E.bl false)) S.pass) (S.asg 4 0 (E.var 8)))))))))))) (S.ret (E.call cf i_l_is_square [.v (E.call cf i_square_of [.v (E.var 4)]), .v (E.var 2)])))))))
def d_law_k04 : Def := ⟨1, 12, [], 0, s_law_k04⟩
def s_coarsened (cf : Calls) : S := (S.seq (S.expr (E.call cf i_look_outline [.v (E.var 0)])) (S.seq (S.ite (E.or (E.not (E.isty .tuple (E.var 1))) (E.ne (E.un lenD (E.var 1)) (E.int 3))) (S.raise 3) S.pass) (S.seq (S.for_ (.one 2) (E.iRange (E.int 3)) (S.seq (S.ite (E.not (E.call cf i_are_widths [.v (E.un sumD (E.idx (E.idx (E.var 0) (E.int 0)) (E.int 0))), .v (E.idx (E.var 1) (E.var 2))])) (S.raise 3) S.pass) (S.seq (S.asg 3 0 (E.comp (.one 5) (E.iRange (E.bin addD (E.un lenD (E.idx (E.idx (E.var 0) (E.int 0)) (E.var 2))) (E.int 1))) E.yes (E.un sumD (E.slice (E.idx (E.idx (E.var 0) (E.int 0)) (E.var 2)) none (some (E.var 5)))))) (S.ite (E.un anyD (E.comp (.one 5) (E.iRange (E.un lenD (E.idx (E.var 1) (E.var 2)))) E.yes (E.notin (E.un sumD (E.slice (E.idx (E.var 1) (E.var 2)) none (some (E.var 5)))) (E.var 3)))) (S.raise 3) S.pass)))) (S.seq (S.for_ (.one 2) (E.iRange (E.int 3)) (S.for_ (.one 4) (E.iRange (E.un lenD (E.idx (E.var 1) (E.var 2)))) (S.whl (E.bin ltD (E.idx (E.idx (E.idx (E.var 0) (E.int 0)) (E.var 2)) (E.var 4)) (E.idx (E.idx (E.var 1) (E.var 2)) (E.var 4))) (S.asg 0 0 (E.call cf i_put_together [.v (E.var 0), .v (E.var 2), .v (E.var 4)])) 1000))) (S.ret (E.call cf i_turn_sides [.v (E.var 0), .v (E.tup [(E.int 0), (E.int 1), (E.int 2)])]))))))
def d_coarsened : Def := ⟨2, 6, [], 0, s_coarsened⟩
def s_l_told_k05 (cf : Calls) : S := (S.seq (S.asg 2 0 E.non) (S.seq (S.asg 3 0 E.non) (S.seq (S.tryc (S.asg 2 0 (E.call cf i_coarsened [.v (E.var 0), .v (E.var 1)])) 4 3) (S.ret (E.ite (E.excNone 3) (E.var 2) (E.call cf i_l_refusal [.x 3]))))))
def d_l_told_k05 : Def := ⟨2, 5, [], 0, s_l_told_k05⟩
def s_l_joined (cf : Calls) : S := (S.seq (S.asg 2 1 (E.lst [])) (S.seq (S.for_ (.one 3) (E.iSeq (E.var 1)) (S.ite (E.and (E.ne (E.pk 2 []) (E.lst [])) (E.eq (E.call cf i_l_draw [.io 0, .v (E.int 2)]) (E.int 0))) (S.setp 2 [(E.un negD (E.int 1))] (E.bin addD (E.pth 2 [(E.un negD (E.int 1))]) (E.var 3))) (S.app 2 1 (E.var 3)))) (S.ret (E.un tupleD (E.pki 2 [])))))
def d_l_joined : Def := ⟨2, 4, [0], 0, s_l_joined⟩
def s_l_ends (cf : Calls) : S := (S.ret (E.comp (.one 1) (E.iRange (E.bin addD (E.un lenD (E.var 0)) (E.int 1))) E.yes (E.un sumD (E.slice (E.var 0) none (some (E.var 1))))))
def d_l_ends : Def := ⟨1, 2, [], 0, s_l_ends⟩
def s_law_k05_2 (cf : Calls) : S := (S.seq (S.asg 7 0 (E.call cf i_square_of [.v (E.var 3)])) (S.ret (E.and (E.eq (E.call cf i_outline_of [.v (E.var 7), .v (E.var 4)]) (E.call cf i_coarsened [.v (E.var 3), .v (E.var 4)])) (E.eq (E.var 3) (E.tup [(E.var 10), (E.call cf i_l_counts [.v (E.var 9), .v (E.var 10)])])))))
def s_law_k05_1 (cf : Calls) : S := (S.seq (S.asg 5 0 (E.call cf i_l_widths [.io 1, .v (E.var 2)])) (S.seq (S.asg 6 0 (E.comp (.one 15) (E.iRange (E.int 3)) (E.ne (E.comp (.one 16) (E.iSeq (E.call cf i_l_ends [.v (E.idx (E.var 5) (E.var 15))])) (E.notin (E.var 16) (E.call cf i_l_ends [.v (E.idx (E.var 10) (E.var 15))])) (E.var 16)) (E.lst [])) (E.var 15))) (S.seq (S.asg 7 0 (E.call cf i_l_told_k05 [.v (E.var 3), .v (E.var 5)])) (S.seq (S.ite (E.ne (E.var 7) (E.ite (E.ne (E.var 6) (E.lst [])) (E.str [119, 105, 100, 116, 104, 115]) (E.tup [(E.var 5), (E.call cf i_l_counts [.v (E.var 9), .v (E.var 5)])]))) (S.ret (E.bl false)) S.pass) (S.seq (S.asg 8 0 (E.call cf i_l_draw [.io 1, .v (E.int 3)])) (S.seq (S.ite (E.bin gtD (E.un lenD (E.idx (E.var 10) (E.var 8))) (E.int 1)) (S.seq (S.asg 11 0 (E.call cf i_l_draw [.io 1, .v (E.bin subD (E.un lenD (E.idx (E.var 10) (E.var 8))) (E.int 1))])) (S.seq (S.asg 12 0 (E.idx (E.var 10) (E.var 8))) (S.seq (S.asg 13 0 (E.bin addD (E.bin addD (E.slice (E.var 12) none (some (E.var 11))) (E.tup [(E.bin addD (E.idx (E.var 12) (E.var 11)) (E.idx (E.var 12) (E.bin addD (E.var 11) (E.int 1))))])) (E.slice (E.var 12) (some (E.bin addD (E.var 11) (E.int 2))) none))) (S.seq (S.asg 14 0 (E.bin addD (E.bin addD (E.slice (E.var 10) none (some (E.var 8))) (E.tup [(E.var 13)])) (E.slice (E.var 10) (some (E.bin addD (E.var 8) (E.int 1))) none))) (S.ite (E.ne (E.call cf i_put_together [.v (E.var 3), .v (E.var 8), .v (E.var 11)]) (E.tup [(E.var 14), (E.call cf i_l_counts [.v (E.var 9), .v (E.var 14)])])) (S.ret (E.bl false)) S.pass))))) S.pass) (s_law_k05_2 cf)))))))
def s_law_k05 (cf : Calls) : S := (S.seq (S.asg 1 2 (E.call cf i_l_town [.x 0])) (S.seq (S.asg 2 0 (E.bin addD (E.int 1) (E.call cf i_l_draw [.io 1, .v (E.int 7)]))) (S.seq (S.unpack [9, 10] (E.tup [(E.call cf i_l_square [.io 1, .v (E.var 2)]), (E.call cf i_l_widths [.io 1, .v (E.var 2)])])) (S.seq (S.asg 3 0 (E.tup [(E.var 10), (E.call cf i_l_counts [.v (E.var 9), .v (E.var 10)])])) (S.seq (S.asg 4 0 (E.un tupleD (E.comp (.one 16) (E.iSeq (E.var 10)) E.yes (E.call cf i_l_joined [.io 1, .v (E.var 16)])))) (S.seq (S.ite (E.ne (E.call cf i_l_told_k05 [.v (E.var 3), .v (E.var 4)]) (E.tup [(E.var 4), (E.call cf i_l_counts [.v (E.var 9), .v (E.var 4)])])) (S.ret (E.bl false)) S.pass) (s_law_k05_1 cf)))))))
def d_law_k05 : Def := ⟨1, 17, [], 0, s_law_k05⟩
def s_grown (cf : Calls) : S := (S.seq (S.asg 2 0 (E.lst [(E.lst [])])) (S.seq (S.for_ (.one 3) (E.iRange (E.var 1)) (S.seq (S.asg 4 1 (E.lst [])) (S.seq (S.for_ (.one 5) (E.iSeq (E.var 2)) (S.seq (S.asg 6 0 (E.bin addD (E.var 5) (E.comp (.one 8) (E.iSeq (E.var 0)) E.yes (E.idx (E.var 8) (E.var 3))))) (S.ext 4 (E.comp (.one 7) (E.iRange (E.var 1)) (E.notin (E.var 7) (E.var 6)) (E.bin addD (E.var 5) (E.lst [(E.var 7)])))))) (S.seq (S.frz 4) (S.asg 2 0 (E.var 4)))))) (S.ret (E.var 2))))
def d_grown : Def := ⟨2, 9, [], 0, s_grown⟩
def s_all_squares (cf : Calls) : S := (S.seq (S.asg 1 0 (E.lst [(E.lst [])])) (S.seq (S.for_ (.one 2) (E.iRange (E.var 0)) (S.asg 1 0 (E.comp2 (.one 3) (E.iSeq (E.var 1)) E.yes (.one 4) (E.iSeq (E.call cf i_grown [.v (E.var 3), .v (E.var 0)])) E.yes (E.bin addD (E.var 3) (E.lst [(E.var 4)]))))) (S.ret (E.var 1))))
def d_all_squares : Def := ⟨1, 5, [], 0, s_all_squares⟩
def s_look_small (cf : Calls) : S := (S.seq (S.expr (E.call cf i_look_outline [.v (E.var 0)])) (S.ite (E.bin gtD (E.un sumD (E.idx (E.idx (E.var 0) (E.int 0)) (E.int 0))) (E.con (.int 4))) (S.raise 1) S.pass))
def d_look_small : Def := ⟨1, 1, [], 0, s_look_small⟩
def s_squares_of (cf : Calls) : S := (S.seq (S.asg 1 0 (E.un sumD (E.idx (E.idx (E.var 0) (E.int 0)) (E.int 0)))) (S.ret (E.comp (.one 2) (E.iSeq (E.call cf i_all_squares [.v (E.var 1)])) (E.eq (E.call cf i_counts_of [.v (E.var 2), .v (E.idx (E.var 0) (E.int 0))]) (E.idx (E.var 0) (E.int 1))) (E.var 2))))
def d_squares_of : Def := ⟨1, 3, [], 0, s_squares_of⟩
def s_how_many (cf : Calls) : S := (S.seq (S.expr (E.call cf i_look_small [.v (E.var 0)])) (S.ret (E.un lenD (E.call cf i_squares_of [.v (E.var 0)]))))
def d_how_many : Def := ⟨1, 1, [], 0, s_how_many⟩
def s_l_rows (cf : Calls) : S := (S.seq (S.ite (E.eq (E.un lenD (E.var 3)) (E.var 2)) (S.ret (E.lst [(E.var 3)])) S.pass) (S.seq (S.asg 4 0 (E.lst [])) (S.seq (S.asg 5 0 (E.bin addD (E.var 3) (E.comp (.one 8) (E.iSeq (E.var 0)) E.yes (E.idx (E.var 8) (E.un lenD (E.var 3)))))) (S.seq (S.for_ (.one 6) (E.iSeq (E.comp (.one 7) (E.iRange (E.var 1)) (E.notin (E.var 7) (E.var 5)) (E.var 7))) (S.asg 4 0 (E.bin addD (E.var 4) (E.call cf i_l_rows [.v (E.var 0), .v (E.var 1), .v (E.var 2), .v (E.bin addD (E.var 3) (E.lst [(E.var 6)]))])))) (S.ret (E.var 4))))))
def d_l_rows : Def := ⟨4, 9, [], 0, s_l_rows⟩
def s_l_all (cf : Calls) : S := (S.seq (S.asg 1 0 (E.lst [(E.lst [])])) (S.seq (S.for_ (.one 2) (E.iRange (E.var 0)) (S.seq (S.asg 3 0 (E.lst [])) (S.seq (S.for_ (.one 4) (E.iSeq (E.var 1)) (S.asg 3 0 (E.bin addD (E.var 3) (E.comp (.one 5) (E.iSeq (E.call cf i_l_rows [.v (E.var 4), .v (E.var 0), .v (E.var 0), .v (E.lst [])])) E.yes (E.bin addD (E.var 4) (E.lst [(E.var 5)])))))) (S.asg 1 0 (E.var 3))))) (S.ret (E.var 1))))
def d_l_all : Def := ⟨1, 6, [], 0, s_l_all⟩
def s_law_k06_1 (cf : Calls) : S := (S.seq (S.asg 6 0 (E.comp (.one 11) (E.iSeq (E.call cf i_l_all [.v (E.var 2)])) (E.eq (E.call cf i_l_counts [.v (E.var 11), .v (E.var 3)]) (E.pk 4 [])) (E.var 11))) (S.seq (S.frz 4) (S.seq (S.ite (E.not (E.call cf i_l_is [.v (E.call cf i_is_outline [.v (E.tup [(E.var 3), (E.var 4)])]), .v (E.ne (E.var 6) (E.lst []))])) (S.ret (E.bl false)) S.pass) (S.seq (S.frz 4) (S.ret (E.or (E.eq (E.var 6) (E.lst [])) (E.eq (E.call cf i_how_many [.v (E.tup [(E.var 3), (E.var 4)])]) (E.un lenD (E.var 6)))))))))
def s_law_k06 (cf : Calls) : S := (S.seq (S.asg 1 2 (E.call cf i_l_town [.x 0])) (S.seq (S.asg 2 0 (E.call cf i_l_pick [.io 1, .v (E.lst [(E.int 2), (E.int 3), (E.int 3), (E.int 3), (E.int 4)])])) (S.seq (S.asg 3 0 (E.call cf i_l_widths [.io 1, .v (E.var 2)])) (S.seq (S.asg 4 3 (E.call cf i_l_counts [.v (E.call cf i_l_square [.io 1, .v (E.var 2)]), .v (E.var 3)])) (S.seq (S.for_ (.one 5) (E.iRange (E.call cf i_l_draw [.io 1, .v (E.int 3)])) (S.seq (S.unpack [9, 10] (E.tup [(E.call cf i_l_draw [.io 1, .v (E.un lenD (E.idx (E.var 3) (E.int 0)))]), (E.call cf i_l_draw [.io 1, .v (E.un lenD (E.idx (E.var 3) (E.int 1)))])])) (S.seq (S.unpack [11, 12] (E.tup [(E.call cf i_l_draw [.io 1, .v (E.un lenD (E.idx (E.var 3) (E.int 2)))]), (E.call cf i_l_draw [.io 1, .v (E.un lenD (E.idx (E.var 3) (E.int 2)))])])) (S.seq (S.asg 7 0 (E.call cf i_l_draw [.io 1, .v (E.un lenD (E.idx (E.var 3) (E.int 1)))])) (S.ite (E.and (E.bin gtD (E.pk 4 [(E.var 9), (E.var 10), (E.var 11)]) (E.int 0)) (E.and (E.bin gtD (E.pk 4 [(E.var 9), (E.var 7), (E.var 12)]) (E.int 0)) (E.and (E.ne (E.var 10) (E.var 7)) (E.ne (E.var 11) (E.var 12))))) (S.for_ (.many [13, 14, 15]) (E.iSeq (E.lst [(E.tup [(E.var 10), (E.var 11), (E.bin subD (E.int 0) (E.int 1))]), (E.tup [(E.var 10), (E.var 12), (E.int 1)]), (E.tup [(E.var 7), (E.var 12), (E.bin subD (E.int 0) (E.int 1))]), (E.tup [(E.var 7), (E.var 11), (E.int 1)])])) (S.setp 4 [(E.var 9), (E.var 13), (E.var 14)] (E.bin addD (E.pth 4 [(E.var 9), (E.var 13), (E.var 14)]) (E.var 15)))) S.pass))))) (S.seq (S.ite (E.eq (E.call cf i_l_draw [.io 1, .v (E.int 3)]) (E.int 0)) (S.seq (S.asg 8 0 (E.call cf i_l_draw [.io 1, .v (E.un lenD (E.idx (E.var 3) (E.int 0)))])) (S.ite (E.eq (E.idx (E.idx (E.var 3) (E.int 0)) (E.int 0)) (E.idx (E.idx (E.var 3) (E.int 0)) (E.var 8))) (S.swap 4 (E.int 0) (E.var 8)) S.pass)) S.pass) (s_law_k06_1 cf)))))))
def d_law_k06 : Def := ⟨1, 16, [], 0, s_law_k06⟩
def s_is_corner (cf : Calls) : S := (S.seq (S.expr (E.call cf i_look_size [.v (E.var 0)])) (S.ret (E.call cf i_corner_fits [.v (E.var 0), .v (E.var 1)])))
def d_is_corner : Def := ⟨2, 2, [], 0, s_is_corner⟩
def s_corner_fits (cf : Calls) : S := (S.seq (S.ite (E.or (E.not (E.isty .list (E.var 1))) (E.or (E.not (E.chain leD leD (E.int 1) (E.un lenD (E.var 1)) (E.var 0))) (E.not (E.isty .list (E.idx (E.var 1) (E.int 0)))))) (S.ret (E.bl false)) S.pass) (S.seq (S.ite (E.or (E.not (E.chain leD leD (E.int 1) (E.un lenD (E.idx (E.var 1) (E.int 0))) (E.var 0))) (E.not (E.call cf i_is_table [.v (E.var 1), .v (E.un lenD (E.var 1)), .v (E.un lenD (E.idx (E.var 1) (E.int 0))), .v (E.var 0)]))) (S.ret (E.bl false)) S.pass) (S.ret (E.un allD (E.comp (.one 2) (E.iSeq (E.bin addD (E.var 1) (E.call cf i_columns_of [.v (E.var 1)]))) E.yes (E.eq (E.un lenSetD (E.comp (.one 3) (E.iSeq (E.var 2)) E.yes (E.var 3))) (E.un lenD (E.var 2))))))))
def d_corner_fits : Def := ⟨2, 4, [], 0, s_corner_fits⟩
def s_look_corner (cf : Calls) : S := (S.seq (S.expr (E.call cf i_look_size [.v (E.var 0)])) (S.ite (E.not (E.call cf i_corner_fits [.v (E.var 0), .v (E.var 1)])) (S.raise 5) S.pass))
def d_look_corner : Def := ⟨2, 2, [], 0, s_look_corner⟩
def s_often_in (cf : Calls) : S := (S.ret (E.un lenD (E.comp2 (.one 2) (E.iSeq (E.var 0)) E.yes (.one 3) (E.iSeq (E.var 2)) (E.eq (E.var 3) (E.var 1)) (E.var 3))))
def d_often_in : Def := ⟨2, 4, [], 0, s_often_in⟩
def s_least_often (cf : Calls) : S := (S.ret (E.bin max2D (E.int 0) (E.bin subD (E.bin addD (E.un lenD (E.var 1)) (E.un lenD (E.idx (E.var 1) (E.int 0)))) (E.var 0))))
def d_least_often : Def := ⟨2, 2, [], 0, s_least_often⟩
def s_too_seldom (cf : Calls) : S := (S.seq (S.asg 2 0 (E.call cf i_least_often [.v (E.var 0), .v (E.var 1)])) (S.seq (S.asg 3 0 (E.comp (.one 4) (E.iRange (E.var 0)) E.yes (E.tup [(E.var 4), (E.call cf i_often_in [.v (E.var 1), .v (E.var 4)]), (E.var 2)]))) (S.ret (E.comp (.one 5) (E.iSeq (E.var 3)) (E.bin ltD (E.idx (E.var 5) (E.int 1)) (E.var 2)) (E.var 5)))))
def d_too_seldom : Def := ⟨2, 6, [], 0, s_too_seldom⟩
def s_lacking (cf : Calls) : S := (S.seq (S.expr (E.call cf i_look_corner [.v (E.var 0), .v (E.var 1)])) (S.ret (E.call cf i_too_seldom [.v (E.var 0), .v (E.var 1)])))
def d_lacking : Def := ⟨2, 2, [], 0, s_lacking⟩
def s_goes_on (cf : Calls) : S := (S.seq (S.expr (E.call cf i_look_corner [.v (E.var 0), .v (E.var 1)])) (S.ret (E.eq (E.call cf i_too_seldom [.v (E.var 0), .v (E.var 1)]) (E.lst []))))
def d_goes_on : Def := ⟨2, 2, [], 0, s_goes_on⟩
def s_sketch_of (cf : Calls) : S := (S.seq (S.unpack [7, 8] (E.tup [(E.un lenD (E.var 1)), (E.un lenD (E.idx (E.var 1) (E.int 0)))])) (S.seq (S.asg 2 1 (E.lst [])) (S.seq (S.for_ (.one 3) (E.iSeq (E.var 1)) (S.seq (S.asg 9 0 (E.comp (.one 11) (E.iSeq (E.var 3)) E.yes (E.comp (.one 12) (E.iRange (E.var 0)) E.yes (E.ite (E.eq (E.var 11) (E.var 12)) (E.int 1) (E.int 0))))) (S.app 2 1 (E.bin addD (E.var 9) (E.slice (E.lst [(E.comp (.one 12) (E.iRange (E.var 0)) E.yes (E.ite (E.inn (E.var 12) (E.var 3)) (E.int 0) (E.int 1)))]) none (some (E.bin subD (E.var 0) (E.var 8)))))))) (S.seq (S.asg 4 0 (E.comp (.one 10) (E.iSeq (E.call cf i_columns_of [.v (E.var 1)])) E.yes (E.comp (.one 12) (E.iRange (E.var 0)) E.yes (E.ite (E.inn (E.var 12) (E.var 10)) (E.int 0) (E.int 1))))) (S.seq (S.asg 5 0 (E.slice (E.lst [(E.comp (.one 12) (E.iRange (E.var 0)) E.yes (E.bin addD (E.bin subD (E.bin subD (E.var 0) (E.var 8)) (E.var 7)) (E.call cf i_often_in [.v (E.var 1), .v (E.var 12)])))]) none (some (E.bin subD (E.var 0) (E.var 8))))) (S.seq (S.asg 6 0 (E.tup [(E.bin addD (E.bin mulD (E.tup [(E.int 1)]) (E.var 7)) (E.tup [(E.bin subD (E.var 0) (E.var 7))])), (E.bin addD (E.bin mulD (E.tup [(E.int 1)]) (E.var 8)) (E.tup [(E.bin subD (E.var 0) (E.var 8))])), (E.bin mulD (E.tup [(E.int 1)]) (E.var 0))])) (S.seq (S.ite (E.bin ltD (E.var 7) (E.var 0)) (S.app 2 1 (E.bin addD (E.var 4) (E.var 5))) S.pass) (S.seq (S.frz 2) (S.ret (E.tup [(E.un tupleD (E.comp (.one 13) (E.iSeq (E.var 6)) E.yes (E.un tupleD (E.comp (.one 11) (E.iSeq (E.var 13)) (E.bin gtD (E.var 11) (E.int 0)) (E.var 11))))), (E.var 2)]))))))))))
def d_sketch_of : Def := ⟨2, 14, [], 0, s_sketch_of⟩
def s_outline_of_corner (cf : Calls) : S := (S.seq (S.expr (E.call cf i_look_corner [.v (E.var 0), .v (E.var 1)])) (S.seq (S.ite (E.ne (E.call cf i_too_seldom [.v (E.var 0), .v (E.var 1)]) (E.lst [])) (S.raise 5) S.pass) (S.ret (E.call cf i_sketch_of [.v (E.var 0), .v (E.var 1)]))))
def d_outline_of_corner : Def := ⟨2, 2, [], 0, s_outline_of_corner⟩
def s_finished (cf : Calls) : S := (S.seq (S.expr (E.call cf i_look_corner [.v (E.var 0), .v (E.var 1)])) (S.seq (S.ite (E.ne (E.call cf i_too_seldom [.v (E.var 0), .v (E.var 1)]) (E.lst [])) (S.raise 5) S.pass) (S.seq (S.asg 2 0 (E.idx (E.call cf i_all_apart [.v (E.call cf i_sketch_of [.v (E.var 0), .v (E.var 1)])]) (E.int 1))) (S.ret (E.comp (.one 3) (E.iSeq (E.var 2)) E.yes (E.comp (.one 4) (E.iSeq (E.var 3)) E.yes (E.binM isLst indexD (E.var 4) (E.int 1))))))))
def d_finished : Def := ⟨2, 5, [], 0, s_finished⟩
def s_highest (cf : Calls) : S := (S.seq (S.expr (E.call cf i_look_corner [.v (E.var 0), .v (E.var 1)])) (S.seq (S.asg 2 0 (E.int 0)) (S.seq (S.for_ (.one 3) (E.iRange2 (E.int 1) (E.bin addD (E.un lenD (E.var 1)) (E.int 1))) (S.ite (E.eq (E.call cf i_too_seldom [.v (E.var 0), .v (E.slice (E.var 1) none (some (E.var 3)))]) (E.lst [])) (S.asg 2 0 (E.var 3)) S.pass)) (S.ret (E.var 2)))))
def d_highest : Def := ⟨2, 4, [], 0, s_highest⟩
def s_turned_corner (cf : Calls) : S := (S.seq (S.expr (E.call cf i_look_corner [.v (E.var 0), .v (E.var 1)])) (S.ret (E.call cf i_columns_of [.v (E.var 1)])))
def d_turned_corner : Def := ⟨2, 2, [], 0, s_turned_corner⟩
def s_l_corner (cf : Calls) : S := (S.seq (S.unpack [4, 5] (E.tup [(E.bin addD (E.int 1) (E.call cf i_l_draw [.io 0, .v (E.var 1)])), (E.bin addD (E.int 1) (E.call cf i_l_draw [.io 0, .v (E.var 1)]))])) (S.seq (S.asg 2 2 (E.comp (.one 7) (E.iSeq (E.slice (E.call cf i_l_square [.io 0, .v (E.var 1)]) none (some (E.var 4)))) E.yes (E.slice (E.var 7) none (some (E.var 5))))) (S.seq (S.for_ (.one 3) (E.iRange (E.call cf i_l_pick [.io 0, .v (E.lst [(E.int 0), (E.int 0), (E.int 2), (E.int 6)])])) (S.seq (S.unpack [8, 9] (E.tup [(E.call cf i_l_draw [.io 0, .v (E.var 4)]), (E.call cf i_l_draw [.io 0, .v (E.var 5)])])) (S.seq (S.asg 6 0 (E.call cf i_l_draw [.io 0, .v (E.var 1)])) (S.ite (E.and (E.notin (E.var 6) (E.pk 2 [(E.var 8)])) (E.notin (E.var 6) (E.compB 7 2 [] E.yes (E.pth 7 [(E.var 9)])))) (S.setp 2 [(E.var 8), (E.var 9)] (E.var 6)) S.pass)))) (S.seq (S.frz 2) (S.ret (E.var 2))))))
def d_l_corner : Def := ⟨2, 10, [0], 0, s_l_corner⟩
def s_l_often (cf : Calls) : S := (S.ret (E.un sumD (E.comp (.one 2) (E.iSeq (E.var 0)) E.yes (E.binM isLst countD (E.var 2) (E.var 1)))))
def d_l_often : Def := ⟨2, 3, [], 0, s_l_often⟩
def s_l_lacks (cf : Calls) : S := (S.seq (S.asg 2 0 (E.bin max2D (E.int 0) (E.bin subD (E.bin addD (E.un lenD (E.var 1)) (E.un lenD (E.idx (E.var 1) (E.int 0)))) (E.var 0)))) (S.ret (E.comp (.one 3) (E.iRange (E.var 0)) (E.bin ltD (E.call cf i_l_often [.v (E.var 1), .v (E.var 3)]) (E.var 2)) (E.tup [(E.var 3), (E.call cf i_l_often [.v (E.var 1), .v (E.var 3)]), (E.var 2)]))))
def d_l_lacks : Def := ⟨2, 4, [], 0, s_l_lacks⟩
def s_l_filled (cf : Calls) : S := (S.seq (S.unpack [4, 5] (E.tup [(E.bin addD (E.int 1) (E.call cf i_l_draw [.io 0, .v (E.var 1)])), (E.bin addD (E.int 1) (E.call cf i_l_draw [.io 0, .v (E.var 1)]))])) (S.seq (S.asg 2 1 (E.lst [])) (S.seq (S.for_ (.one 3) (E.iRange (E.var 4)) (S.seq (S.asg 6 0 (E.lst [])) (S.seq (S.for_ (.one 7) (E.iRange (E.var 5)) (S.seq (S.asg 8 0 (E.comp (.one 9) (E.iRange (E.var 1)) (E.and (E.notin (E.var 9) (E.var 6)) (E.notin (E.var 9) (E.compB 10 2 [] E.yes (E.pth 10 [(E.var 7)])))) (E.var 9))) (S.asg 6 0 (E.bin addD (E.var 6) (E.ite (E.ne (E.var 8) (E.lst [])) (E.lst [(E.call cf i_l_pick [.io 0, .v (E.var 8)])]) (E.lst [])))))) (S.ite (E.eq (E.un lenD (E.var 6)) (E.var 5)) (S.app 2 1 (E.var 6)) S.pass)))) (S.seq (S.frz 2) (S.ret (E.var 2))))))
def d_l_filled : Def := ⟨2, 11, [0], 0, s_l_filled⟩
def s_l_told_k07 (cf : Calls) : S := (S.seq (S.asg 3 0 E.non) (S.seq (S.asg 4 0 E.non) (S.seq (S.tryc (S.asg 3 0 (E.ite (E.eq (E.var 0) (E.int 0)) (E.call cf i_finished [.v (E.var 1), .v (E.var 2)]) (E.call cf i_outline_of_corner [.v (E.var 1), .v (E.var 2)]))) 5 4) (S.ret (E.ite (E.excNone 4) (E.var 3) (E.call cf i_l_refusal [.x 4]))))))
def d_l_told_k07 : Def := ⟨3, 6, [], 0, s_l_told_k07⟩
def s_law_k07_2 (cf : Calls) : S := (S.seq (S.asg 7 0 (E.bin addD (E.bin mulD (E.tup [(E.int 1)]) (E.var 14)) (E.ite (E.bin ltD (E.var 14) (E.var 2)) (E.tup [(E.bin subD (E.var 2) (E.var 14))]) (E.tup [])))) (S.seq (S.asg 8 0 (E.tup [(E.var 6), (E.var 7), (E.bin mulD (E.tup [(E.int 1)]) (E.var 2))])) (S.seq (S.ite (E.or (E.ne (E.var 12) (E.tup [(E.var 8), (E.call cf i_l_counts [.v (E.var 11), .v (E.var 8)])])) (E.notb true (E.call cf i_is_outline [.v (E.var 12)]))) (S.ret (E.bl false)) S.pass) (S.seq (S.asg 9 0 (E.call cf i_square_of [.v (E.var 12)])) (S.seq (S.asg 10 0 (E.call cf i_turned_corner [.v (E.var 2), .v (E.var 3)])) (S.ret (E.and (E.eq (E.comp (.one 16) (E.iSeq (E.slice (E.var 9) none (some (E.var 13)))) E.yes (E.slice (E.var 16) none (some (E.var 14)))) (E.var 3)) (E.eq (E.call cf i_turned_corner [.v (E.var 2), .v (E.var 10)]) (E.var 3)))))))))
def s_law_k07_1 (cf : Calls) : S := (S.seq (S.unpack [13, 14] (E.tup [(E.un lenD (E.var 3)), (E.un lenD (E.idx (E.var 3) (E.int 0)))])) (S.seq (S.asg 5 0 (E.comp (.one 15) (E.iRange2 (E.int 1) (E.bin addD (E.var 13) (E.int 1))) (E.eq (E.call cf i_l_lacks [.v (E.var 2), .v (E.slice (E.var 3) none (some (E.var 15)))]) (E.lst [])) (E.var 15))) (S.seq (S.ite (E.or (E.ne (E.call cf i_highest [.v (E.var 2), .v (E.var 3)]) (E.un max1D (E.bin addD (E.lst [(E.int 0)]) (E.var 5)))) (E.not (E.call cf i_l_is [.v (E.call cf i_goes_on [.v (E.var 2), .v (E.var 3)]), .v (E.eq (E.var 4) (E.lst []))]))) (S.ret (E.bl false)) S.pass) (S.seq (S.ite (E.ne (E.var 4) (E.lst [])) (S.ret (E.and (E.eq (E.var 11) (E.str [99, 111, 114, 110, 101, 114])) (E.eq (E.var 12) (E.str [99, 111, 114, 110, 101, 114])))) S.pass) (S.seq (S.ite (E.or (E.not (E.call cf i_l_is_square [.v (E.var 11), .v (E.var 2)])) (E.ne (E.comp (.one 16) (E.iSeq (E.slice (E.var 11) none (some (E.var 13)))) E.yes (E.slice (E.var 16) none (some (E.var 14)))) (E.var 3))) (S.ret (E.bl false)) S.pass) (S.seq (S.asg 6 0 (E.bin addD (E.bin mulD (E.tup [(E.int 1)]) (E.var 13)) (E.ite (E.bin ltD (E.var 13) (E.var 2)) (E.tup [(E.bin subD (E.var 2) (E.var 13))]) (E.tup [])))) (s_law_k07_2 cf)))))))
def s_law_k07 (cf : Calls) : S := (S.seq (S.asg 1 2 (E.call cf i_l_town [.x 0])) (S.seq (S.asg 2 0 (E.bin addD (E.int 1) (E.call cf i_l_draw [.io 1, .v (E.int 7)]))) (S.seq (S.asg 3 0 (E.ite (E.eq (E.call cf i_l_draw [.io 1, .v (E.int 2)]) (E.int 0)) (E.call cf i_l_corner [.io 1, .v (E.var 2)]) (E.call cf i_l_filled [.io 1, .v (E.var 2)]))) (S.seq (S.asg 4 0 (E.call cf i_l_lacks [.v (E.var 2), .v (E.var 3)])) (S.seq (S.ite (E.or (E.notb true (E.call cf i_is_corner [.v (E.var 2), .v (E.var 3)])) (E.ne (E.call cf i_lacking [.v (E.var 2), .v (E.var 3)]) (E.var 4))) (S.ret (E.bl false)) S.pass) (S.seq (S.unpack [11, 12] (E.tup [(E.call cf i_l_told_k07 [.v (E.int 0), .v (E.var 2), .v (E.var 3)]), (E.call cf i_l_told_k07 [.v (E.int 1), .v (E.var 2), .v (E.var 3)])])) (s_law_k07_1 cf)))))))
def d_law_k07 : Def := ⟨1, 17, [], 0, s_law_k07⟩
def s_l_fills (cf : Calls) : S := (S.seq (S.ite (E.eq (E.var 2) (E.bin mulD (E.var 0) (E.var 0))) (S.ret (E.bl true)) S.pass) (S.seq (S.unpack [5, 6] (E.tup [(E.bin fdivD (E.var 2) (E.var 0)), (E.bin modD (E.var 2) (E.var 0))])) (S.seq (S.ite (E.notn (E.pk 1 [(E.var 5), (E.var 6)])) (S.ret (E.call cf i_l_fills [.v (E.var 0), .io 1, .v (E.bin addD (E.var 2) (E.int 1))])) S.pass) (S.seq (S.asg 3 0 (E.bin addD (E.compB 7 1 [(E.var 5)] (E.notn (E.var 7)) (E.var 7)) (E.compB 8 1 [] (E.notn (E.pk 8 [(E.var 6)])) (E.pth 8 [(E.var 6)])))) (S.seq (S.for_ (.one 4) (E.iRange (E.var 0)) (S.ite (E.notin (E.var 4) (E.var 3)) (S.seq (S.setp 1 [(E.var 5), (E.var 6)] (E.var 4)) (S.ite (E.call cf i_l_fills [.v (E.var 0), .io 1, .v (E.bin addD (E.var 2) (E.int 1))]) (S.ret (E.bl true)) S.pass)) S.pass)) (S.seq (S.setp 1 [(E.var 5), (E.var 6)] E.non) (S.ret (E.bl false))))))))
def d_l_fills : Def := ⟨3, 9, [1], 0, s_l_fills⟩
def s_law_k08_1 (cf : Calls) : S := (S.seq (S.asg 6 2 (E.bin addD (E.compB 9 3 [] E.yes (E.bin addD (E.var 9) (E.bin mulD (E.lst [E.non]) (E.bin subD (E.var 2) (E.var 8))))) (E.comp (.one 12) (E.iRange (E.bin subD (E.var 2) (E.var 5))) E.yes (E.bin mulD (E.lst [E.non]) (E.var 2))))) (S.seq (S.asg 7 0 (E.call cf i_l_fills [.v (E.var 2), .io 6, .v (E.int 0)])) (S.seq (S.frz 3) (S.seq (S.ite (E.not (E.call cf i_l_is [.v (E.call cf i_goes_on [.v (E.var 2), .v (E.var 3)]), .v (E.var 7)])) (S.ret (E.bl false)) S.pass) (S.seq (S.frz 3) (S.ret (E.and (E.eq (E.eq (E.call cf i_lacking [.v (E.var 2), .v (E.var 3)]) (E.lst [])) (E.var 7)) (E.call cf i_l_is [.v (E.call cf i_goes_on [.v (E.var 2), .v (E.call cf i_turned_corner [.v (E.var 2), .v (E.var 3)])]), .v (E.var 7)]))))))))
def s_law_k08 (cf : Calls) : S := (S.seq (S.asg 1 2 (E.call cf i_l_town [.x 0])) (S.seq (S.asg 2 0 (E.call cf i_l_pick [.io 1, .v (E.lst [(E.int 2), (E.int 3), (E.int 4), (E.int 4), (E.int 4), (E.int 5)])])) (S.seq (S.unpack [5, 8] (E.tup [(E.bin addD (E.int 1) (E.call cf i_l_draw [.io 1, .v (E.var 2)])), (E.bin addD (E.int 1) (E.call cf i_l_draw [.io 1, .v (E.var 2)]))])) (S.seq (S.asg 3 1 (E.lst [])) (S.seq (S.for_ (.one 4) (E.iRange (E.var 5)) (S.seq (S.asg 9 0 (E.lst [])) (S.seq (S.for_ (.one 10) (E.iRange (E.var 8)) (S.seq (S.asg 11 0 (E.comp (.one 12) (E.iRange (E.var 2)) (E.and (E.notin (E.var 12) (E.var 9)) (E.notin (E.var 12) (E.compB 13 3 [] E.yes (E.pth 13 [(E.var 10)])))) (E.var 12))) (S.asg 9 0 (E.bin addD (E.var 9) (E.ite (E.ne (E.var 11) (E.lst [])) (E.lst [(E.call cf i_l_pick [.io 1, .v (E.var 11)])]) (E.lst [])))))) (S.ite (E.eq (E.un lenD (E.var 9)) (E.var 8)) (S.app 3 1 (E.var 9)) S.pass)))) (S.seq (S.asg 5 0 (E.un lenD (E.pk 3 []))) (s_law_k08_1 cf)))))))
def d_law_k08 : Def := ⟨1, 14, [], 0, s_law_k08⟩
def s_look_open (cf : Calls) : S := (S.seq (S.expr (E.call cf i_look_corner [.v (E.var 0), .v (E.var 1)])) (S.seq (S.ite (E.ne (E.call cf i_too_seldom [.v (E.var 0), .v (E.var 1)]) (E.lst [])) (S.raise 5) S.pass) (S.ite (E.eq (E.un lenD (E.var 1)) (E.var 0)) (S.raise 8) S.pass)))
def d_look_open : Def := ⟨2, 2, [], 0, s_look_open⟩
def s_pressed (cf : Calls) : S := (S.seq (S.asg 2 0 (E.call cf i_least_often [.v (E.var 0), .v (E.bin addD (E.var 1) (E.lst [(E.idx (E.var 1) (E.int 0))]))])) (S.ret (E.comp (.one 3) (E.iRange (E.var 0)) (E.bin ltD (E.call cf i_often_in [.v (E.var 1), .v (E.var 3)]) (E.var 2)) (E.var 3))))
def d_pressed : Def := ⟨2, 4, [], 0, s_pressed⟩
def s_Matching__init (cf : Calls) : S := (S.seq (S.fset 0 4 0 (E.var 1)) (S.seq (S.fset 0 5 1 (E.lst [])) (S.seq (S.for_ (.many [4, 5]) (E.iEnum (E.call cf i_columns_of [.v (E.var 2)])) (S.seq (S.asg 6 0 (E.comp (.one 7) (E.iRange (E.var 1)) (E.notin (E.var 7) (E.var 5)) (E.var 7))) (S.seq (S.ite (E.notn (E.var 3)) (S.asg 6 0 (E.comp (.one 7) (E.iSeq (E.var 6)) (E.eq (E.eq (E.var 7) (E.idx (E.var 3) (E.int 1))) (E.eq (E.var 4) (E.idx (E.var 3) (E.int 0)))) (E.var 7))) S.pass) (S.fapp 0 5 (E.var 6))))) (S.seq (S.ffrz 0 5) (S.seq (S.fset 0 6 1 (E.comp (.one 4) (E.iSeq (E.fpth 0 5 [])) E.yes E.non)) (S.fset 0 7 0 (E.call cf i_pressed [.v (E.var 1), .v (E.var 2)])))))))
def d_Matching__init : Def := ⟨4, 8, [0], 0, s_Matching__init⟩
def s_Matching_seat (cf : Calls) : S := (S.seq (S.for_ (.one 3) (E.iRange (E.un lenD (E.fpk 0 5 []))) (S.ite (E.and (E.inn (E.var 1) (E.fpk 0 5 [(E.var 3)])) (E.dnotin 2 (E.var 3))) (S.seq (S.dset 2 (E.var 3)) (S.ite (E.or (E.isn (E.fpk 0 6 [(E.var 3)])) (E.call cf i_Matching_seat [.io 0, .v (E.fpth 0 6 [(E.var 3)]), .io 2])) (S.seq (S.fsetp 0 6 [(E.var 3)] (E.var 1)) (S.ret (E.bl true))) S.pass)) S.pass)) (S.ret (E.bl false)))
def d_Matching_seat : Def := ⟨3, 4, [0, 2], 0, s_Matching_seat⟩
def s_Matching_fill (cf : Calls) : S := (S.seq (S.for_ (.one 3) (E.iSeq (E.fpth 0 5 [(E.var 1)])) (S.ite (E.dnotin 2 (E.var 3)) (S.seq (S.dset 2 (E.var 3)) (S.seq (S.ite (E.notin (E.var 3) (E.fpk 0 6 [])) (S.seq (S.fsetp 0 6 [(E.var 1)] (E.var 3)) (S.ret (E.bl true))) S.pass) (S.seq (S.asg 4 0 (E.binM isLst indexD (E.fpk 0 6 []) (E.var 3))) (S.ite (E.call cf i_Matching_fill [.io 0, .v (E.var 4), .io 2]) (S.seq (S.fsetp 0 6 [(E.var 1)] (E.var 3)) (S.ret (E.bl true))) S.pass)))) S.pass)) (S.ret (E.bl false)))
def d_Matching_fill : Def := ⟨3, 5, [0, 2], 0, s_Matching_fill⟩
def s_Matching_found (cf : Calls) : S := (S.seq (S.for_ (.one 1) (E.iSeq (E.fpth 0 7 [])) (S.ite (E.and (E.notin (E.var 1) (E.fpk 0 6 [])) (E.not (E.call cf i_Matching_seat [.io 0, .v (E.var 1), .fs E.newDict]))) (S.ret E.non) S.pass)) (S.seq (S.for_ (.one 2) (E.iRange (E.un lenD (E.fpk 0 5 []))) (S.ite (E.and (E.isn (E.fpk 0 6 [(E.var 2)])) (E.not (E.call cf i_Matching_fill [.io 0, .v (E.var 2), .fs E.newDict]))) (S.ret E.non) S.pass)) (S.ret (E.un listD (E.fpki 0 6 [])))))
def d_Matching_found : Def := ⟨1, 3, [0], 0, s_Matching_found⟩
def s_must_stand (cf : Calls) : S := (S.seq (S.expr (E.call cf i_look_open [.v (E.var 0), .v (E.var 1)])) (S.ret (E.call cf i_pressed [.v (E.var 0), .v (E.var 1)])))
def d_must_stand : Def := ⟨2, 2, [], 0, s_must_stand⟩
def s_next_row (cf : Calls) : S := (S.seq (S.expr (E.call cf i_look_open [.v (E.var 0), .v (E.var 1)])) (S.ret (E.call cf i_Matching_found [.fs (E.new cf 1 i_Matching__init [.v (E.var 0), .v (E.var 1), .v E.non])])))
def d_next_row : Def := ⟨2, 2, [], 0, s_next_row⟩
def s_may_stand (cf : Calls) : S := (S.seq (S.expr (E.call cf i_look_open [.v (E.var 0), .v (E.var 1)])) (S.seq (S.ite (E.or (E.not (E.call cf i_is_whole [.v (E.var 2), .v (E.int 0), .v (E.bin subD (E.un lenD (E.idx (E.var 1) (E.int 0))) (E.int 1))])) (E.not (E.call cf i_is_whole [.v (E.var 3), .v (E.int 0), .v (E.bin subD (E.var 0) (E.int 1))]))) (S.raise 6) S.pass) (S.ret (E.notn (E.call cf i_Matching_found [.fs (E.new cf 1 i_Matching__init [.v (E.var 0), .v (E.var 1), .v (E.tup [(E.var 2), (E.var 3)])])])))))
def d_may_stand : Def := ⟨4, 4, [], 0, s_may_stand⟩
def s_choices (cf : Calls) : S := (S.seq (S.expr (E.call cf i_look_open [.v (E.var 0), .v (E.var 1)])) (S.seq (S.asg 2 1 (E.lst [])) (S.seq (S.for_ (.one 3) (E.iRange (E.un lenD (E.idx (E.var 1) (E.int 0)))) (S.app 2 1 (E.comp (.one 4) (E.iRange (E.var 0)) (E.notn (E.call cf i_Matching_found [.fs (E.new cf 1 i_Matching__init [.v (E.var 0), .v (E.var 1), .v (E.tup [(E.var 3), (E.var 4)])])])) (E.var 4)))) (S.seq (S.frz 2) (S.ret (E.var 2))))))
def d_choices : Def := ⟨2, 5, [], 0, s_choices⟩
def s_law_k09_2 (cf : Calls) : S := (S.seq (S.asg 8 0 (E.comp (.one 13) (E.iSeq (E.call cf i_l_rows [.v (E.var 3), .v (E.var 2), .v (E.var 4), .v (E.lst [])])) (E.eq (E.call cf i_l_lacks [.v (E.var 2), .v (E.bin addD (E.var 3) (E.lst [(E.var 13)]))]) (E.lst [])) (E.var 13))) (S.seq (S.asg 9 0 (E.comp (.one 14) (E.iRange (E.var 4)) E.yes (E.un sortedSetD (E.comp (.one 13) (E.iSeq (E.var 8)) E.yes (E.idx (E.var 13) (E.var 14)))))) (S.seq (S.ite (E.or (E.ne (E.call cf i_choices [.v (E.var 2), .v (E.var 3)]) (E.var 9)) (E.notin (E.var 7) (E.var 8))) (S.ret (E.bl false)) S.pass) (S.seq (S.unpack [10, 11] (E.tup [(E.call cf i_l_draw [.io 1, .v (E.var 4)]), (E.call cf i_l_draw [.io 1, .v (E.var 2)])])) (S.ret (E.call cf i_l_is [.v (E.call cf i_may_stand [.v (E.var 2), .v (E.var 3), .v (E.var 10), .v (E.var 11)]), .v (E.inn (E.var 11) (E.idx (E.var 9) (E.var 10)))]))))))
def s_law_k09_1 (cf : Calls) : S := (S.seq (S.asg 6 0 (E.comp (.one 12) (E.iRange (E.var 2)) (E.bin ltD (E.call cf i_l_often [.v (E.var 3), .v (E.var 12)]) (E.var 5)) (E.var 12))) (S.seq (S.ite (E.ne (E.call cf i_must_stand [.v (E.var 2), .v (E.var 3)]) (E.var 6)) (S.ret (E.bl false)) S.pass) (S.seq (S.asg 7 0 (E.call cf i_next_row [.v (E.var 2), .v (E.var 3)])) (S.seq (S.ite (E.or (E.notb true (E.call cf i_is_corner [.v (E.var 2), .v (E.bin addD (E.var 3) (E.lst [(E.var 7)]))])) (E.ne (E.call cf i_l_lacks [.v (E.var 2), .v (E.bin addD (E.var 3) (E.lst [(E.var 7)]))]) (E.lst []))) (S.ret (E.bl false)) S.pass) (S.seq (S.ite (E.ne (E.comp (.one 12) (E.iSeq (E.var 6)) (E.notin (E.var 12) (E.var 7)) (E.var 12)) (E.lst [])) (S.ret (E.bl false)) S.pass) (S.seq (S.ite (E.or (E.bin gtD (E.var 4) (E.int 4)) (E.bin gtD (E.var 2) (E.int 5))) (S.seq (S.asg 10 0 (E.call cf i_l_draw [.io 1, .v (E.var 4)])) (S.ret (E.isb true (E.call cf i_may_stand [.v (E.var 2), .v (E.var 3), .v (E.var 10), .v (E.idx (E.var 7) (E.var 10))])))) S.pass) (s_law_k09_2 cf)))))))
def s_law_k09 (cf : Calls) : S := (S.seq (S.asg 1 2 (E.call cf i_l_town [.x 0])) (S.seq (S.asg 2 0 (E.bin addD (E.int 2) (E.call cf i_l_draw [.io 1, .v (E.call cf i_l_pick [.io 1, .v (E.lst [(E.int 4), (E.int 6)])])]))) (S.seq (S.asg 3 0 (E.slice (E.call cf i_l_corner [.io 1, .v (E.var 2)]) none (some (E.bin subD (E.var 2) (E.int 1))))) (S.seq (S.ite (E.ne (E.call cf i_l_lacks [.v (E.var 2), .v (E.var 3)]) (E.lst [])) (S.seq (S.asg 4 0 (E.bin addD (E.int 1) (E.call cf i_l_draw [.io 1, .v (E.var 2)]))) (S.asg 3 0 (E.comp (.one 13) (E.iSeq (E.slice (E.call cf i_l_square [.io 1, .v (E.var 2)]) none (some (E.bin addD (E.int 1) (E.call cf i_l_draw [.io 1, .v (E.bin subD (E.var 2) (E.int 1))]))))) E.yes (E.slice (E.var 13) none (some (E.var 4)))))) S.pass) (S.seq (S.asg 4 0 (E.un lenD (E.idx (E.var 3) (E.int 0)))) (S.seq (S.asg 5 0 (E.bin max2D (E.int 0) (E.bin subD (E.bin addD (E.bin addD (E.un lenD (E.var 3)) (E.int 1)) (E.var 4)) (E.var 2)))) (s_law_k09_1 cf)))))))
def d_law_k09 : Def := ⟨1, 15, [], 0, s_law_k09⟩
def s_least_square (cf : Calls) : S := (S.seq (S.expr (E.call cf i_look_small [.v (E.var 0)])) (S.ret (E.idx (E.call cf i_squares_of [.v (E.var 0)]) (E.int 0))))
def d_least_square : Def := ⟨1, 1, [], 0, s_least_square⟩
def s_sure_lots (cf : Calls) : S := (S.seq (S.expr (E.call cf i_look_small [.v (E.var 0)])) (S.seq (S.asg 1 0 (E.call cf i_lot_of [.v (E.idx (E.idx (E.var 0) (E.int 0)) (E.int 2))])) (S.seq (S.asg 2 0 (E.call cf i_squares_of [.v (E.var 0)])) (S.seq (S.asg 3 1 (E.lst [])) (S.seq (S.for_ (.one 4) (E.iRange (E.un lenD (E.idx (E.var 2) (E.int 0)))) (S.seq (S.asg 5 1 (E.lst [])) (S.seq (S.for_ (.one 6) (E.iRange (E.un lenD (E.idx (E.var 2) (E.int 0)))) (S.seq (S.asg 7 0 (E.un sortedSetD (E.comp (.one 8) (E.iSeq (E.var 2)) E.yes (E.idx (E.var 1) (E.idx (E.idx (E.var 8) (E.var 4)) (E.var 6)))))) (S.app 5 1 (E.ite (E.eq (E.un lenD (E.var 7)) (E.int 1)) (E.idx (E.var 7) (E.int 0)) E.non)))) (S.seq (S.frz 5) (S.app 3 1 (E.var 5)))))) (S.seq (S.frz 3) (S.ret (E.var 3))))))))
def d_sure_lots : Def := ⟨1, 9, [], 0, s_sure_lots⟩
def s_square_at (cf : Calls) : S := (S.seq (S.expr (E.call cf i_look_small [.v (E.var 0)])) (S.seq (S.asg 2 0 (E.call cf i_squares_of [.v (E.var 0)])) (S.seq (S.ite (E.or (E.not (E.isty .int (E.var 1))) (E.or (E.isty .bool (E.var 1)) (E.not (E.chain leD ltD (E.int 0) (E.var 1) (E.un lenD (E.var 2)))))) (S.raise 8) S.pass) (S.ret (E.idx (E.var 2) (E.var 1))))))
def d_square_at : Def := ⟨2, 3, [], 0, s_square_at⟩
def s_l_told_k10 (cf : Calls) : S := (S.seq (S.asg 2 0 E.non) (S.seq (S.asg 3 0 E.non) (S.seq (S.tryc (S.asg 2 0 (E.call cf i_square_at [.v (E.var 0), .v (E.var 1)])) 4 3) (S.ret (E.ite (E.excNone 3) (E.var 2) (E.call cf i_l_refusal [.x 3]))))))
def d_l_told_k10 : Def := ⟨2, 5, [], 0, s_l_told_k10⟩
def s_law_k10_2 (cf : Calls) : S := (S.seq (S.for_ (.one 10) (E.iRange (E.var 2)) (S.seq (S.asg 11 1 (E.lst [])) (S.seq (S.for_ (.one 12) (E.iRange (E.var 2)) (S.seq (S.asg 14 0 (E.un sortedSetD (E.comp (.one 13) (E.iSeq (E.var 6)) E.yes (E.idx (E.var 8) (E.idx (E.idx (E.var 13) (E.var 10)) (E.var 12)))))) (S.app 11 1 (E.ite (E.eq (E.un lenD (E.var 14)) (E.int 1)) (E.idx (E.var 14) (E.int 0)) E.non)))) (S.seq (S.frz 11) (S.app 9 1 (E.var 11)))))) (S.seq (S.ite (E.or (E.ne (E.call cf i_sure_lots [.v (E.var 5)]) (E.pk 9 [])) (E.notin (E.call cf i_square_of [.v (E.var 5)]) (E.var 6))) (S.ret (E.bl false)) S.pass) (S.ret (E.eq (E.comp (.one 15) (E.iSeq (E.tup [E.non, (E.bin subD (E.int 0) (E.int 1)), (E.bl true), (E.un lenD (E.var 6))])) E.yes (E.call cf i_l_told_k10 [.v (E.var 5), .v (E.var 15)])) (E.bin mulD (E.lst [(E.str [110, 111, 110, 101])]) (E.int 4))))))
def s_law_k10_1 (cf : Calls) : S := (S.seq (S.ite (E.or (E.ne (E.call cf i_how_many [.v (E.var 5)]) (E.un lenD (E.var 6))) (E.or (E.ne (E.call cf i_least_square [.v (E.var 5)]) (E.idx (E.var 6) (E.int 0))) (E.notin (E.var 4) (E.var 6)))) (S.ret (E.bl false)) S.pass) (S.seq (S.ite (E.or (E.ne (E.call cf i_square_at [.v (E.var 5), .v (E.int 0)]) (E.idx (E.var 6) (E.int 0))) (E.ne (E.call cf i_square_at [.v (E.var 5), .v (E.bin subD (E.un lenD (E.var 6)) (E.int 1))]) (E.idx (E.var 6) (E.un negD (E.int 1))))) (S.ret (E.bl false)) S.pass) (S.seq (S.asg 7 0 (E.call cf i_l_draw [.io 1, .v (E.bin addD (E.un lenD (E.var 6)) (E.int 2))])) (S.seq (S.ite (E.ne (E.call cf i_l_told_k10 [.v (E.var 5), .v (E.var 7)]) (E.ite (E.bin ltD (E.var 7) (E.un lenD (E.var 6))) (E.idx (E.var 6) (E.var 7)) (E.str [110, 111, 110, 101]))) (S.ret (E.bl false)) S.pass) (S.seq (S.asg 8 0 (E.call cf i_l_lots [.v (E.idx (E.var 3) (E.int 2))])) (S.seq (S.asg 9 1 (E.lst [])) (s_law_k10_2 cf)))))))
def s_law_k10 (cf : Calls) : S := (S.seq (S.asg 1 2 (E.call cf i_l_town [.x 0])) (S.seq (S.asg 2 0 (E.call cf i_l_pick [.io 1, .v (E.lst [(E.int 1), (E.int 2), (E.int 3), (E.int 3), (E.int 3), (E.int 3), (E.int 3), (E.int 4)])])) (S.seq (S.asg 3 0 (E.call cf i_l_widths [.io 1, .v (E.var 2)])) (S.seq (S.asg 4 0 (E.call cf i_l_square [.io 1, .v (E.var 2)])) (S.seq (S.asg 5 0 (E.tup [(E.var 3), (E.call cf i_l_counts [.v (E.var 4), .v (E.var 3)])])) (S.seq (S.asg 6 0 (E.comp (.one 13) (E.iSeq (E.call cf i_l_all [.v (E.var 2)])) (E.eq (E.call cf i_l_counts [.v (E.var 13), .v (E.var 3)]) (E.idx (E.var 5) (E.int 1))) (E.var 13))) (s_law_k10_1 cf)))))))
def d_law_k10 : Def := ⟨1, 16, [], 0, s_law_k10⟩
def s_is_order (cf : Calls) : S := (S.seq (S.ite (E.or (E.not (E.isty .tuple (E.var 0))) (E.not (E.un allD (E.comp (.one 2) (E.iSeq (E.var 0)) E.yes (E.call cf i_is_whole [.v (E.var 2), .v (E.int 0), .v (E.bin subD (E.var 1) (E.int 1))]))))) (S.ret (E.bl false)) S.pass) (S.ret (E.eq (E.un sortedTD (E.var 0)) (E.un listRangeD (E.var 1)))))
def d_is_order : Def := ⟨2, 3, [], 0, s_is_order⟩
def s_look_sides (cf : Calls) : S := (S.ite (E.not (E.call cf i_is_order [.v (E.var 0), .v (E.int 3)])) (S.raise 6) S.pass)
def d_look_sides : Def := ⟨1, 1, [], 0, s_look_sides⟩
def s_exchanged (cf : Calls) : S := (S.seq (S.expr (E.call cf i_look_square [.v (E.var 0)])) (S.seq (S.expr (E.call cf i_look_sides [.v (E.var 1)])) (S.seq (S.asg 2 0 (E.un lenD (E.var 0))) (S.seq (S.asg 3 2 (E.comp (.one 4) (E.iRange (E.var 2)) E.yes (E.bin mulD (E.lst [(E.int 0)]) (E.var 2)))) (S.seq (S.for_ (.one 4) (E.iRange (E.var 2)) (S.for_ (.one 5) (E.iRange (E.var 2)) (S.seq (S.asg 6 0 (E.tup [(E.var 4), (E.var 5), (E.idx (E.idx (E.var 0) (E.var 4)) (E.var 5))])) (S.setp 3 [(E.idx (E.var 6) (E.idx (E.var 1) (E.int 0))), (E.idx (E.var 6) (E.idx (E.var 1) (E.int 1)))] (E.idx (E.var 6) (E.idx (E.var 1) (E.int 2))))))) (S.seq (S.frz 3) (S.ret (E.var 3))))))))
def d_exchanged : Def := ⟨2, 7, [], 0, s_exchanged⟩
def s_outline_exchanged (cf : Calls) : S := (S.seq (S.expr (E.call cf i_look_outline [.v (E.var 0)])) (S.seq (S.expr (E.call cf i_look_sides [.v (E.var 1)])) (S.ret (E.call cf i_turn_sides [.v (E.var 0), .v (E.var 1)]))))
def d_outline_exchanged : Def := ⟨2, 2, [], 0, s_outline_exchanged⟩
def s_l_exchanged (cf : Calls) : S := (S.seq (S.asg 2 0 (E.un lenD (E.var 0))) (S.seq (S.asg 3 2 (E.comp (.one 6) (E.iRange (E.var 2)) E.yes (E.bin mulD (E.lst [E.non]) (E.var 2)))) (S.seq (S.for_ (.one 4) (E.iRange (E.var 2)) (S.for_ (.one 5) (E.iRange (E.var 2)) (S.seq (S.asg 7 0 (E.tup [(E.var 4), (E.var 5), (E.idx (E.idx (E.var 0) (E.var 4)) (E.var 5))])) (S.setp 3 [(E.idx (E.var 7) (E.idx (E.var 1) (E.int 0))), (E.idx (E.var 7) (E.idx (E.var 1) (E.int 1)))] (E.idx (E.var 7) (E.idx (E.var 1) (E.int 2))))))) (S.seq (S.frz 3) (S.ret (E.var 3))))))
def d_l_exchanged : Def := ⟨2, 8, [], 0, s_l_exchanged⟩
def s_law_k11_2 (cf : Calls) : S := (S.seq (S.asg 8 0 (E.tup [(E.var 7), (E.call cf i_l_counts [.v (E.var 3), .v (E.var 7)])])) (S.seq (S.ite (E.or (E.ne (E.call cf i_outline_exchanged [.v (E.var 6), .v (E.var 14)]) (E.var 8)) (E.ne (E.call cf i_outline_exchanged [.v (E.var 8), .v (E.var 5)]) (E.var 6))) (S.ret (E.bl false)) S.pass) (S.seq (S.asg 9 0 (E.call cf i_l_draw [.io 1, .v (E.int 3)])) (S.seq (S.asg 10 0 (E.call cf i_l_draw [.io 1, .v (E.un lenD (E.idx (E.var 13) (E.idx (E.var 14) (E.var 9))))])) (S.seq (S.ite (E.eq (E.idx (E.idx (E.var 13) (E.idx (E.var 14) (E.var 9))) (E.var 10)) (E.int 1)) (S.ret (E.bl true)) S.pass) (S.seq (S.asg 11 0 (E.call cf i_outline_exchanged [.v (E.call cf i_taken_apart [.v (E.var 8), .v (E.var 9), .v (E.var 10)]), .v (E.var 5)])) (S.ret (E.and (E.eq (E.call cf i_put_together [.v (E.var 11), .v (E.idx (E.var 14) (E.var 9)), .v (E.var 10)]) (E.var 6)) (E.isb true (E.call cf i_is_outline [.v (E.var 11)]))))))))))
def s_law_k11_1 (cf : Calls) : S := (S.seq (S.asg 4 0 (E.un tupleD (E.comp (.one 16) (E.iRange (E.int 3)) E.yes (E.idx (E.var 14) (E.idx (E.var 15) (E.var 16)))))) (S.seq (S.ite (E.or (E.ne (E.call cf i_exchanged [.v (E.var 3), .v (E.var 15)]) (E.call cf i_exchanged [.v (E.var 12), .v (E.var 4)])) (E.ne (E.call cf i_exchanged [.v (E.var 12), .v (E.tup [(E.int 0), (E.int 1), (E.int 2)])]) (E.var 12))) (S.ret (E.bl false)) S.pass) (S.seq (S.asg 5 0 (E.un tupleD (E.comp (.one 16) (E.iRange (E.int 3)) E.yes (E.binM isTup indexTD (E.var 14) (E.var 16))))) (S.seq (S.ite (E.ne (E.call cf i_exchanged [.v (E.var 3), .v (E.var 5)]) (E.var 12)) (S.ret (E.bl false)) S.pass) (S.seq (S.asg 6 0 (E.tup [(E.var 13), (E.call cf i_l_counts [.v (E.var 12), .v (E.var 13)])])) (S.seq (S.asg 7 0 (E.un tupleD (E.comp (.one 16) (E.iSeq (E.var 14)) E.yes (E.idx (E.var 13) (E.var 16))))) (s_law_k11_2 cf)))))))
def s_law_k11 (cf : Calls) : S := (S.seq (S.asg 1 2 (E.call cf i_l_town [.x 0])) (S.seq (S.asg 2 0 (E.bin addD (E.int 1) (E.call cf i_l_draw [.io 1, .v (E.int 7)]))) (S.seq (S.unpack [12, 13] (E.tup [(E.call cf i_l_square [.io 1, .v (E.var 2)]), (E.call cf i_l_widths [.io 1, .v (E.var 2)])])) (S.seq (S.unpack [14, 15] (E.tup [(E.call cf i_l_order [.io 1, .v (E.int 3)]), (E.call cf i_l_order [.io 1, .v (E.int 3)])])) (S.seq (S.asg 3 0 (E.call cf i_exchanged [.v (E.var 12), .v (E.var 14)])) (S.seq (S.ite (E.or (E.ne (E.var 3) (E.call cf i_l_exchanged [.v (E.var 12), .v (E.var 14)])) (E.notb true (E.call cf i_is_square [.v (E.var 3)]))) (S.ret (E.bl false)) S.pass) (s_law_k11_1 cf)))))))
def d_law_k11 : Def := ⟨1, 17, [], 0, s_law_k11⟩
def s_renamed (cf : Calls) : S := (S.seq (S.expr (E.call cf i_look_square [.v (E.var 0)])) (S.seq (S.asg 4 0 (E.un lenD (E.var 0))) (S.seq (S.ite (E.not (E.un allD (E.comp (.one 8) (E.iSeq (E.tup [(E.var 1), (E.var 2), (E.var 3)])) E.yes (E.call cf i_is_order [.v (E.var 8), .v (E.var 4)])))) (S.raise 6) S.pass) (S.seq (S.asg 5 2 (E.comp (.one 6) (E.iRange (E.var 4)) E.yes (E.bin mulD (E.lst [(E.int 0)]) (E.var 4)))) (S.seq (S.for_ (.one 6) (E.iRange (E.var 4)) (S.for_ (.one 7) (E.iRange (E.var 4)) (S.setp 5 [(E.idx (E.var 1) (E.var 6)), (E.idx (E.var 2) (E.var 7))] (E.idx (E.var 3) (E.idx (E.idx (E.var 0) (E.var 6)) (E.var 7)))))) (S.seq (S.frz 5) (S.ret (E.var 5))))))))
def d_renamed : Def := ⟨4, 9, [], 0, s_renamed⟩
def s_plain (cf : Calls) : S := (S.seq (S.expr (E.call cf i_look_square [.v (E.var 0)])) (S.seq (S.asg 1 0 (E.un lenD (E.var 0))) (S.seq (S.asg 2 0 (E.comp (.one 4) (E.iRange (E.var 1)) E.yes (E.binM isLst indexD (E.idx (E.var 0) (E.int 0)) (E.var 4)))) (S.seq (S.asg 3 0 (E.comp (.one 5) (E.iSeq (E.var 0)) E.yes (E.comp (.one 6) (E.iSeq (E.var 2)) E.yes (E.idx (E.var 5) (E.var 6))))) (S.ret (E.un sortKeyD (E.var 3)))))))
def d_plain : Def := ⟨1, 7, [], 0, s_plain⟩
def s_first_unlike (cf : Calls) : S := (S.seq (S.expr (E.call cf i_look_square [.v (E.var 0)])) (S.seq (S.expr (E.call cf i_look_square [.v (E.var 1)])) (S.seq (S.ite (E.ne (E.un lenD (E.var 0)) (E.un lenD (E.var 1))) (S.raise 6) S.pass) (S.seq (S.for_ (.one 2) (E.iRange (E.un lenD (E.var 0))) (S.for_ (.one 3) (E.iRange (E.un lenD (E.var 0))) (S.ite (E.ne (E.idx (E.idx (E.var 0) (E.var 2)) (E.var 3)) (E.idx (E.idx (E.var 1) (E.var 2)) (E.var 3))) (S.ret (E.tup [(E.var 2), (E.var 3)])) S.pass))) (S.ret E.non)))))
def d_first_unlike : Def := ⟨2, 4, [], 0, s_first_unlike⟩
def s_l_plain (cf : Calls) : S := (S.seq (S.asg 1 0 (E.un lenD (E.var 0))) (S.seq (S.asg 2 0 (E.comp (.one 5) (E.iRange (E.var 1)) E.yes (E.binM isLst indexD (E.idx (E.var 0) (E.int 0)) (E.var 5)))) (S.seq (S.asg 3 0 (E.comp (.one 6) (E.iSeq (E.var 0)) E.yes (E.comp (.one 7) (E.iSeq (E.var 2)) E.yes (E.idx (E.var 6) (E.var 7))))) (S.seq (S.asg 4 0 (E.lst [])) (S.seq (S.for_ (.one 5) (E.iRange (E.var 1)) (S.asg 4 0 (E.bin addD (E.var 4) (E.comp (.one 6) (E.iSeq (E.var 3)) (E.eq (E.idx (E.var 6) (E.int 0)) (E.var 5)) (E.var 6))))) (S.ret (E.var 4)))))))
def d_l_plain : Def := ⟨1, 8, [], 0, s_l_plain⟩
def s_law_k12_2 (cf : Calls) : S := (S.seq (S.ite (E.or (E.ne (E.call cf i_plain [.v (E.call cf i_renamed [.v (E.var 3), .v (E.var 9), .v (E.var 14), .v (E.un tupleRangeD (E.var 2))])]) (E.var 8)) (E.ne (E.call cf i_plain [.v (E.var 8)]) (E.var 8))) (S.ret (E.bl false)) S.pass) (S.seq (S.ite (E.ne (E.call cf i_first_unlike [.v (E.var 3), .v (E.var 4)]) (E.ite (E.ne (E.var 5) (E.lst [])) (E.idx (E.var 5) (E.int 0)) E.non)) (S.ret (E.bl false)) S.pass) (S.seq (S.asg 10 0 (E.comp (.one 19) (E.iSeq (E.slice (E.var 3) none (some (E.bin addD (E.int 1) (E.bin fdivD (E.var 2) (E.int 3)))))) E.yes (E.slice (E.var 19) none (some (E.bin addD (E.int 1) (E.bin fdivD (E.var 2) (E.int 2))))))) (S.seq (S.ite (E.eq (E.un lenD (E.var 10)) (E.var 2)) (S.ret (E.bl true)) S.pass) (S.seq (S.asg 11 0 (E.comp (.one 19) (E.iSeq (E.var 10)) E.yes (E.comp (.one 18) (E.iSeq (E.var 19)) E.yes (E.idx (E.var 15) (E.var 18))))) (S.seq (S.asg 12 0 (E.un sortedD (E.comp (.one 18) (E.iSeq (E.call cf i_must_stand [.v (E.var 2), .v (E.var 10)])) E.yes (E.idx (E.var 15) (E.var 18))))) (S.ret (E.and (E.isb true (E.call cf i_goes_on [.v (E.var 2), .v (E.var 11)])) (E.eq (E.call cf i_must_stand [.v (E.var 2), .v (E.var 11)]) (E.var 12))))))))))
def s_law_k12_1 (cf : Calls) : S := (S.seq (S.for_ (.one 6) (E.iRange (E.var 2)) (S.seq (S.asg 5 0 (E.bin addD (E.var 5) (E.comp (.one 16) (E.iRange (E.var 2)) (E.ne (E.idx (E.idx (E.var 4) (E.var 6)) (E.var 16)) (E.idx (E.idx (E.var 3) (E.var 6)) (E.var 16))) (E.tup [(E.var 6), (E.var 16)])))) (S.for_ (.one 16) (E.iRange (E.var 2)) (S.ite (E.ne (E.idx (E.idx (E.var 4) (E.idx (E.var 13) (E.var 6))) (E.idx (E.var 14) (E.var 16))) (E.idx (E.var 15) (E.idx (E.idx (E.var 3) (E.var 6)) (E.var 16)))) (S.ret (E.bl false)) S.pass)))) (S.seq (S.asg 7 0 (E.comp (.one 18) (E.iSeq (E.tup [(E.var 13), (E.var 14), (E.var 15)])) E.yes (E.un tupleD (E.comp (.one 17) (E.iRange (E.var 2)) E.yes (E.binM isLst indexD (E.var 18) (E.var 17)))))) (S.seq (S.ite (E.or (E.notb true (E.call cf i_is_square [.v (E.var 4)])) (E.ne (E.call cf i_renamed [.v (E.var 4), .v (E.idx (E.var 7) (E.int 0)), .v (E.idx (E.var 7) (E.int 1)), .v (E.idx (E.var 7) (E.int 2))]) (E.var 3))) (S.ret (E.bl false)) S.pass) (S.seq (S.asg 8 0 (E.call cf i_plain [.v (E.var 3)])) (S.seq (S.ite (E.or (E.ne (E.var 8) (E.call cf i_l_plain [.v (E.var 3)])) (E.or (E.ne (E.idx (E.var 8) (E.int 0)) (E.un listRangeD (E.var 2))) (E.ne (E.comp (.one 19) (E.iSeq (E.var 8)) E.yes (E.idx (E.var 19) (E.int 0))) (E.idx (E.var 8) (E.int 0))))) (S.ret (E.bl false)) S.pass) (S.seq (S.asg 9 0 (E.bin addD (E.tup [(E.int 0)]) (E.un tupleD (E.comp (.one 17) (E.iSeq (E.call cf i_l_order [.io 1, .v (E.bin subD (E.var 2) (E.int 1))])) E.yes (E.bin addD (E.int 1) (E.var 17)))))) (s_law_k12_2 cf)))))))
def s_law_k12 (cf : Calls) : S := (S.seq (S.asg 1 2 (E.call cf i_l_town [.x 0])) (S.seq (S.asg 2 0 (E.bin addD (E.int 1) (E.call cf i_l_draw [.io 1, .v (E.int 7)]))) (S.seq (S.asg 3 0 (E.call cf i_l_square [.io 1, .v (E.var 2)])) (S.seq (S.unpack [13, 14, 15] (E.comp (.one 17) (E.iRange (E.int 3)) E.yes (E.call cf i_l_order [.io 1, .v (E.var 2)]))) (S.seq (S.asg 4 0 (E.call cf i_renamed [.v (E.var 3), .v (E.var 13), .v (E.var 14), .v (E.var 15)])) (S.seq (S.asg 5 0 (E.lst [])) (s_law_k12_1 cf)))))))
def d_law_k12 : Def := ⟨1, 20, [], 0, s_law_k12⟩
def s_Corner__init (cf : Calls) : S := (S.seq (S.expr (E.call cf i_look_size [.v (E.var 1)])) (S.seq (S.ite (E.not (E.call cf i_is_whole [.v (E.var 2), .v (E.int 0), .v (E.bin subD (E.var 1) (E.int 1))])) (S.raise 5) S.pass) (S.seq (S.fset 0 4 0 (E.var 1)) (S.seq (S.fset 0 8 0 (E.lst [(E.lst [(E.var 2)])])) (S.fset 0 9 1 (E.lst []))))))
def d_Corner__init : Def := ⟨3, 3, [0], 0, s_Corner__init⟩
def s_Corner_with_row (cf : Calls) : S := (S.ret (E.bin addD (E.fpth 0 8 []) (E.lst [(E.var 1)])))
def d_Corner_with_row : Def := ⟨2, 2, [0], 0, s_Corner_with_row⟩
def s_Corner_with_column (cf : Calls) : S := (S.seq (S.ite (E.or (E.not (E.isty .list (E.var 1))) (E.ne (E.un lenD (E.var 1)) (E.un lenD (E.fpk 0 8 [])))) (S.raise 5) S.pass) (S.ret (E.comp (.many [2, 3]) (E.iZip (E.fpth 0 8 []) (E.var 1)) E.yes (E.bin addD (E.var 2) (E.lst [(E.var 3)])))))
def d_Corner_with_column : Def := ⟨2, 4, [0], 0, s_Corner_with_column⟩
def s_Corner_look (cf : Calls) : S := (S.ite (E.not (E.call cf i_corner_fits [.v (E.fpth 0 4 []), .v (E.var 1)])) (S.raise 5) S.pass)
def d_Corner_look : Def := ⟨2, 2, [0], 0, s_Corner_look⟩
def s_Corner_lacks_with_row (cf : Calls) : S := (S.seq (S.asg 2 0 (E.call cf i_Corner_with_row [.io 0, .v (E.var 1)])) (S.seq (S.expr (E.call cf i_Corner_look [.io 0, .v (E.var 2)])) (S.ret (E.call cf i_too_seldom [.v (E.fpth 0 4 []), .v (E.var 2)]))))
def d_Corner_lacks_with_row : Def := ⟨2, 3, [0], 0, s_Corner_lacks_with_row⟩
def s_Corner_lacks_with_column (cf : Calls) : S := (S.seq (S.asg 2 0 (E.call cf i_Corner_with_column [.io 0, .v (E.var 1)])) (S.seq (S.expr (E.call cf i_Corner_look [.io 0, .v (E.var 2)])) (S.ret (E.call cf i_too_seldom [.v (E.fpth 0 4 []), .v (E.var 2)]))))
def d_Corner_lacks_with_column : Def := ⟨2, 3, [0], 0, s_Corner_lacks_with_column⟩
def s_Corner_put (cf : Calls) : S := (S.seq (S.expr (E.call cf i_Corner_look [.io 0, .v (E.var 1)])) (S.seq (S.ite (E.ne (E.call cf i_too_seldom [.v (E.fpth 0 4 []), .v (E.var 1)]) (E.lst [])) (S.raise 5) S.pass) (S.seq (S.fapp 0 9 (E.comp (.one 2) (E.iSeq (E.fpth 0 8 [])) E.yes (E.un listD (E.var 2)))) (S.fset 0 8 0 (E.comp (.one 2) (E.iSeq (E.var 1)) E.yes (E.un listD (E.var 2)))))))
def d_Corner_put : Def := ⟨2, 3, [0], 0, s_Corner_put⟩
def s_Corner_add_row (cf : Calls) : S := (S.expr (E.call cf i_Corner_put [.io 0, .v (E.call cf i_Corner_with_row [.io 0, .v (E.var 1)])]))
def d_Corner_add_row : Def := ⟨2, 2, [0], 0, s_Corner_add_row⟩
def s_Corner_add_column (cf : Calls) : S := (S.expr (E.call cf i_Corner_put [.io 0, .v (E.call cf i_Corner_with_column [.io 0, .v (E.var 1)])]))
def d_Corner_add_column : Def := ⟨2, 2, [0], 0, s_Corner_add_column⟩
def s_Corner_undo_k13 (cf : Calls) : S := (S.seq (S.ite (E.eq (E.fpk 0 9 []) (E.lst [])) (S.raise 8) S.pass) (S.fpop 0 9 8))
def d_Corner_undo_k13 : Def := ⟨1, 1, [0], 0, s_Corner_undo_k13⟩
def s_Corner_stands (cf : Calls) : S := (S.ret (E.comp (.one 1) (E.iSeq (E.fpth 0 8 [])) E.yes (E.un listD (E.var 1))))
def d_Corner_stands : Def := ⟨1, 2, [0], 0, s_Corner_stands⟩
def s_Corner_finish (cf : Calls) : S := (S.ret (E.call cf i_finished [.v (E.fpth 0 4 []), .v (E.fpth 0 8 [])]))
def d_Corner_finish : Def := ⟨1, 1, [0], 0, s_Corner_finish⟩
def s_Corner__len (cf : Calls) : S := (S.ret (E.un lenD (E.fpk 0 8 [])))
def d_Corner__len : Def := ⟨1, 1, [0], 0, s_Corner__len⟩
def s_l_step_k13 (cf : Calls) : S := (S.seq (S.asg 3 0 (E.str [112, 117, 116])) (S.seq (S.asg 4 0 E.non) (S.seq (S.tryc (S.ite (E.eq (E.var 1) (E.int 0)) (S.expr (E.call cf i_Corner_add_row [.io 0, .v (E.var 2)])) (S.expr (E.call cf i_Corner_add_column [.io 0, .v (E.var 2)]))) 5 4) (S.ret (E.ite (E.excNone 4) (E.var 3) (E.call cf i_l_refusal [.x 4]))))))
def d_l_step_k13 : Def := ⟨3, 6, [0], 0, s_l_step_k13⟩
def s_l_asked_k13 (cf : Calls) : S := (S.seq (S.asg 3 0 E.non) (S.seq (S.asg 4 0 E.non) (S.seq (S.tryc (S.asg 3 0 (E.ite (E.eq (E.var 1) (E.int 0)) (E.call cf i_Corner_lacks_with_row [.io 0, .v (E.var 2)]) (E.call cf i_Corner_lacks_with_column [.io 0, .v (E.var 2)]))) 5 4) (S.ret (E.ite (E.excNone 4) (E.var 3) (E.call cf i_l_refusal [.x 4]))))))
def d_l_asked_k13 : Def := ⟨3, 6, [0], 0, s_l_asked_k13⟩
def s_l_fine (cf : Calls) : S := (S.seq (S.ite (E.or (E.bin gtD (E.un lenD (E.var 1)) (E.var 0)) (E.or (E.bin gtD (E.un lenD (E.idx (E.var 1) (E.int 0))) (E.var 0)) (E.ne (E.comp (.one 3) (E.iSeq (E.var 1)) (E.bin ltD (E.un lenSetD (E.var 3)) (E.un lenD (E.var 3))) (E.var 3)) (E.lst [])))) (S.ret (E.bl false)) S.pass) (S.ret (E.eq (E.comp (.one 2) (E.iRange (E.un lenD (E.idx (E.var 1) (E.int 0)))) (E.bin ltD (E.un lenSetD (E.comp (.one 3) (E.iSeq (E.var 1)) E.yes (E.idx (E.var 3) (E.var 2)))) (E.un lenD (E.var 1))) (E.var 2)) (E.lst []))))
def d_l_fine : Def := ⟨2, 4, [], 0, s_l_fine⟩
def s_law_k13 (cf : Calls) : S := (S.seq (S.asg 1 2 (E.call cf i_l_town [.x 0])) (S.seq (S.asg 2 0 (E.bin addD (E.int 1) (E.call cf i_l_draw [.io 1, .v (E.int 6)]))) (S.seq (S.asg 3 0 (E.call cf i_l_draw [.io 1, .v (E.var 2)])) (S.seq (S.asgS 4 (E.new cf 2 i_Corner__init [.v (E.var 2), .v (E.var 3)])) (S.seq (S.unpack [6, 7] (E.tup [(E.lst [(E.lst [(E.var 3)])]), (E.lst [])])) (S.seq (S.for_ (.one 5) (E.iRange (E.int 9)) (S.seq (S.asg 8 0 (E.call cf i_l_draw [.io 1, .v (E.int 7)])) (S.seq (S.ite (E.and (E.eq (E.var 8) (E.int 0)) (E.ne (E.pk 7 []) (E.lst []))) (S.seq (S.expr (E.call cf i_Corner_undo_k13 [.io 4])) (S.popTo 6 7)) (S.seq (S.asg 10 0 (E.call cf i_l_draw [.io 1, .v (E.int 2)])) (S.seq (S.asg 9 0 (E.call cf i_Corner_finish [.io 4])) (S.seq (S.unpack [15, 16] (E.tup [(E.un lenD (E.var 6)), (E.un lenD (E.idx (E.var 6) (E.int 0)))])) (S.seq (S.asg 11 0 (E.comp (.one 17) (E.iRange (E.idx (E.lst [(E.var 16), (E.var 15)]) (E.var 10))) E.yes (E.call cf i_l_draw [.io 1, .v (E.var 2)]))) (S.seq (S.ite (E.and (E.bin gtD (E.var 8) (E.int 2)) (E.and (E.eq (E.var 10) (E.int 0)) (E.bin ltD (E.var 15) (E.var 2)))) (S.asg 11 0 (E.slice (E.idx (E.var 9) (E.var 15)) none (some (E.var 16)))) (S.ite (E.and (E.bin gtD (E.var 8) (E.int 2)) (E.and (E.eq (E.var 10) (E.int 1)) (E.bin ltD (E.var 16) (E.var 2)))) (S.asg 11 0 (E.comp (.one 18) (E.iSeq (E.slice (E.var 9) none (some (E.var 15)))) E.yes (E.idx (E.var 18) (E.var 16)))) S.pass)) (S.seq (S.asg 12 0 (E.bin addD (E.var 6) (E.lst [(E.var 11)]))) (S.seq (S.ite (E.eq (E.var 10) (E.int 1)) (S.asg 12 0 (E.comp (.one 17) (E.iRange (E.var 15)) E.yes (E.bin addD (E.idx (E.var 6) (E.var 17)) (E.lst [(E.idx (E.var 11) (E.var 17))])))) S.pass) (S.seq (S.asg 13 0 (E.call cf i_l_fine [.v (E.var 2), .v (E.var 12)])) (S.seq (S.asg 14 0 (E.ite (E.var 13) (E.call cf i_l_lacks [.v (E.var 2), .v (E.var 12)]) (E.str [99, 111, 114, 110, 101, 114]))) (S.seq (S.ite (E.ne (E.call cf i_l_asked_k13 [.io 4, .v (E.var 10), .v (E.var 11)]) (E.var 14)) (S.ret (E.bl false)) S.pass) (S.seq (S.ite (E.ne (E.call cf i_l_step_k13 [.io 4, .v (E.var 10), .v (E.var 11)]) (E.ite (E.eq (E.var 14) (E.lst [])) (E.str [112, 117, 116]) (E.str [99, 111, 114, 110, 101, 114]))) (S.ret (E.bl false)) S.pass) (S.seq (S.asg 7 1 (E.bin addD (E.pki 7 []) (E.ite (E.eq (E.var 14) (E.lst [])) (E.lst [(E.var 6)]) (E.lst [])))) (S.asg 6 0 (E.ite (E.eq (E.var 14) (E.lst [])) (E.var 12) (E.var 6)))))))))))))))) (S.seq (S.ite (E.or (E.ne (E.call cf i_Corner_stands [.io 4]) (E.var 6)) (E.ne (E.call cf i_Corner__len [.io 4]) (E.un lenD (E.var 6)))) (S.ret (E.bl false)) S.pass) (S.seq (S.asg 9 0 (E.call cf i_Corner_finish [.io 4])) (S.ite (E.or (E.not (E.call cf i_l_is_square [.v (E.var 9), .v (E.var 2)])) (E.ne (E.comp (.one 18) (E.iSeq (E.slice (E.var 9) none (some (E.un lenD (E.var 6))))) E.yes (E.slice (E.var 18) none (some (E.un lenD (E.idx (E.var 6) (E.int 0)))))) (E.var 6))) (S.ret (E.bl false)) S.pass)))))) (S.ret (E.bl true))))))))
def d_law_k13 : Def := ⟨1, 19, [], 0, s_law_k13⟩
def d_wall : Def := ⟨1, 1, [], 0, fun _ _ => .stuck⟩
def s_Corner_undo_k14 (cf : Calls) : S := (S.expr (E.call cf i_wall [.v (E.int 0)]))
def d_Corner_undo_k14 : Def := ⟨1, 1, [0], 0, s_Corner_undo_k14⟩
def s_law_k14_2 (cf : Calls) : S := (S.seq (S.ite (E.not (E.call cf i_is_corner [.v (E.var 2), .v (E.var 7)])) (S.ret (E.bl true)) S.pass) (S.ret (E.call cf i_l_is [.v (E.call cf i_goes_on [.v (E.var 2), .v (E.var 7)]), .v (E.eq (E.call cf i_l_lacks [.v (E.var 2), .v (E.var 7)]) (E.lst []))])))
def s_law_k14_1 (cf : Calls) : S := (S.seq (S.ite (E.or (E.ne (E.call cf i_Corner_finish [.io 4]) (E.var 3)) (E.ne (E.call cf i_Corner_stands [.io 4]) (E.var 3))) (S.ret (E.bl false)) S.pass) (S.seq (S.ite (E.bin ltD (E.var 2) (E.int 3)) (S.ret (E.bl true)) S.pass) (S.seq (S.unpack [12, 13] (E.tup [(E.call cf i_l_draw [.io 1, .v (E.var 2)]), (E.call cf i_l_draw [.io 1, .v (E.var 2)])])) (S.seq (S.asg 5 0 (E.comp (.one 14) (E.iRange (E.var 2)) E.yes (E.ite (E.eq (E.var 14) (E.var 12)) (E.var 13) (E.ite (E.eq (E.var 14) (E.var 13)) (E.var 12) (E.var 14))))) (S.seq (S.asg 6 0 (E.comp (.one 15) (E.iSeq (E.slice (E.var 3) none (some (E.bin addD (E.int 1) (E.call cf i_l_draw [.io 1, .v (E.bin subD (E.var 2) (E.int 1))]))))) E.yes (E.comp (.one 14) (E.iSeq (E.slice (E.var 15) none (some (E.bin subD (E.var 2) (E.int 1))))) E.yes (E.idx (E.var 5) (E.var 14))))) (S.seq (S.asg 7 0 (E.bin addD (E.slice (E.var 6) none (some (E.un negD (E.int 1)))) (E.lst [(E.slice (E.idx (E.var 3) (E.bin subD (E.un lenD (E.var 6)) (E.int 1))) none (some (E.bin subD (E.var 2) (E.int 1))))]))) (s_law_k14_2 cf)))))))
def s_law_k14 (cf : Calls) : S := (S.seq (S.asg 1 2 (E.call cf i_l_town [.x 0])) (S.seq (S.asg 2 0 (E.bin addD (E.int 1) (E.call cf i_l_draw [.io 1, .v (E.int 7)]))) (S.seq (S.asg 3 0 (E.call cf i_l_square [.io 1, .v (E.var 2)])) (S.seq (S.asgS 4 (E.new cf 2 i_Corner__init [.v (E.var 2), .v (E.idx (E.idx (E.var 3) (E.int 0)) (E.int 0))])) (S.seq (S.unpack [8, 9] (E.tup [(E.int 1), (E.int 1)])) (S.seq (S.whl (E.or (E.bin ltD (E.var 8) (E.var 2)) (E.bin ltD (E.var 9) (E.var 2))) (S.seq (S.ite (E.and (E.bin ltD (E.var 8) (E.var 2)) (E.or (E.eq (E.var 9) (E.var 2)) (E.eq (E.call cf i_l_draw [.io 1, .v (E.int 2)]) (E.int 0)))) (S.seq (S.ite (E.ne (E.call cf i_Corner_lacks_with_row [.io 4, .v (E.slice (E.idx (E.var 3) (E.var 8)) none (some (E.var 9)))]) (E.lst [])) (S.ret (E.bl false)) S.pass) (S.seq (S.expr (E.call cf i_Corner_add_row [.io 4, .v (E.slice (E.idx (E.var 3) (E.var 8)) none (some (E.var 9)))])) (S.asg 8 0 (E.bin addD (E.var 8) (E.int 1))))) (S.seq (S.asg 5 0 (E.comp (.one 15) (E.iSeq (E.slice (E.var 3) none (some (E.var 8)))) E.yes (E.idx (E.var 15) (E.var 9)))) (S.seq (S.ite (E.ne (E.call cf i_Corner_lacks_with_column [.io 4, .v (E.var 5)]) (E.lst [])) (S.ret (E.bl false)) S.pass) (S.seq (S.expr (E.call cf i_Corner_add_column [.io 4, .v (E.var 5)])) (S.asg 9 0 (E.bin addD (E.var 9) (E.int 1))))))) (S.seq (S.asg 10 0 (E.comp (.one 15) (E.iSeq (E.slice (E.var 3) none (some (E.var 8)))) E.yes (E.slice (E.var 15) none (some (E.var 9))))) (S.seq (S.ite (E.or (E.ne (E.call cf i_Corner_stands [.io 4]) (E.var 10)) (E.notb true (E.call cf i_goes_on [.v (E.var 2), .v (E.var 10)]))) (S.ret (E.bl false)) S.pass) (S.seq (S.asg 11 0 (E.bin max2D (E.int 0) (E.bin subD (E.bin addD (E.var 8) (E.var 9)) (E.var 2)))) (S.ite (E.or (E.ne (E.comp (.one 14) (E.iRange (E.var 2)) (E.bin ltD (E.call cf i_l_often [.v (E.var 10), .v (E.var 14)]) (E.var 11)) (E.var 14)) (E.lst [])) (E.ne (E.call cf i_highest [.v (E.var 2), .v (E.var 10)]) (E.var 8))) (S.ret (E.bl false)) S.pass))))) 1000) (s_law_k14_1 cf)))))))
def d_law_k14 : Def := ⟨1, 16, [], 0, s_law_k14⟩
def s_Taking__init (cf : Calls) : S := (S.seq (S.expr (E.call cf i_look_outline [.v (E.var 1)])) (S.seq (S.fset 0 10 0 (E.call cf i_turn_sides [.v (E.var 1), .v (E.tup [(E.int 0), (E.int 1), (E.int 2)])])) (S.fset 0 9 1 (E.lst []))))
def d_Taking__init : Def := ⟨2, 2, [0], 0, s_Taking__init⟩
def s_Taking_look_open (cf : Calls) : S := (S.seq (S.expr (E.call cf i_look_lot [.v (E.fpth 0 10 []), .v (E.var 1), .v (E.var 2)])) (S.ite (E.eq (E.fpk 0 10 [(E.int 0), (E.var 1), (E.var 2)]) (E.int 1)) (S.raise 8) S.pass))
def d_Taking_look_open : Def := ⟨3, 3, [0], 0, s_Taking_look_open⟩
def s_Taking_is_choice (cf : Calls) : S := (S.seq (S.unpack [5, 6] (E.call cf i_turn_sides [.v (E.fpth 0 10 []), .v (E.idx (E.con (.tup [(.tup [(.int 0), (.int 1), (.int 2)]), (.tup [(.int 1), (.int 0), (.int 2)]), (.tup [(.int 2), (.int 0), (.int 1)])])) (E.var 1))])) (S.seq (S.asg 4 0 (E.idx (E.var 6) (E.var 2))) (S.seq (S.ite (E.or (E.not (E.isty .list (E.var 3))) (E.or (E.ne (E.un lenD (E.var 3)) (E.un lenD (E.var 4))) (E.not (E.un allD (E.comp (.one 8) (E.iSeq (E.var 3)) E.yes (E.isty .list (E.var 8))))))) (S.ret (E.bl false)) S.pass) (S.seq (S.ite (E.un anyD (E.comp (.one 8) (E.iSeq (E.var 3)) E.yes (E.ne (E.un lenD (E.var 8)) (E.un lenD (E.idx (E.var 4) (E.int 0)))))) (S.ret (E.bl false)) S.pass) (S.seq (S.for_ (.many [7, 8]) (E.iEnum (E.var 3)) (S.ite (E.or (E.not (E.un allD (E.comp (.many [9, 10]) (E.iEnum (E.var 8)) E.yes (E.call cf i_is_whole [.v (E.var 10), .v (E.int 0), .v (E.idx (E.idx (E.var 4) (E.var 7)) (E.var 9))])))) (E.ne (E.un sumD (E.var 8)) (E.idx (E.idx (E.var 5) (E.int 1)) (E.var 7)))) (S.ret (E.bl false)) S.pass)) (S.ret (E.un allD (E.comp (.one 9) (E.iRange (E.un lenD (E.idx (E.var 5) (E.int 2)))) E.yes (E.eq (E.un sumD (E.comp (.one 8) (E.iSeq (E.var 3)) E.yes (E.idx (E.var 8) (E.var 9)))) (E.idx (E.idx (E.var 5) (E.int 2)) (E.var 9)))))))))))
def d_Taking_is_choice : Def := ⟨4, 11, [0], 0, s_Taking_is_choice⟩
def s_Taking_may_take (cf : Calls) : S := (S.seq (S.expr (E.call cf i_Taking_look_open [.io 0, .v (E.var 1), .v (E.var 2)])) (S.ret (E.call cf i_Taking_is_choice [.io 0, .v (E.var 1), .v (E.var 2), .v (E.var 3)])))
def d_Taking_may_take : Def := ⟨4, 4, [0], 0, s_Taking_may_take⟩
def s_Taking_take (cf : Calls) : S := (S.seq (S.expr (E.call cf i_Taking_look_open [.io 0, .v (E.var 1), .v (E.var 2)])) (S.seq (S.ite (E.not (E.call cf i_Taking_is_choice [.io 0, .v (E.var 1), .v (E.var 2), .v (E.var 3)])) (S.raise 6) S.pass) (S.seq (S.fapp 0 9 (E.fpth 0 10 [])) (S.fset 0 10 0 (E.call cf i_with_split [.v (E.fpth 0 10 []), .v (E.var 1), .v (E.var 2), .v (E.var 3)])))))
def d_Taking_take : Def := ⟨4, 4, [0], 0, s_Taking_take⟩
def s_Taking_take_any_k15 (cf : Calls) : S := (S.expr (E.call cf i_wall [.v (E.int 0)]))
def d_Taking_take_any_k15 : Def := ⟨3, 3, [0], 0, s_Taking_take_any_k15⟩
def s_Taking_undo_k15 (cf : Calls) : S := (S.seq (S.ite (E.eq (E.fpk 0 9 []) (E.lst [])) (S.raise 8) S.pass) (S.fpop 0 9 10))
def d_Taking_undo_k15 : Def := ⟨1, 1, [0], 0, s_Taking_undo_k15⟩
def s_Taking_stands (cf : Calls) : S := (S.ret (E.call cf i_turn_sides [.v (E.fpth 0 10 []), .v (E.tup [(E.int 0), (E.int 1), (E.int 2)])]))
def d_Taking_stands : Def := ⟨1, 1, [0], 0, s_Taking_stands⟩
def s_Taking__len (cf : Calls) : S := (S.ret (E.un lenD (E.fpk 0 9 [])))
def d_Taking__len : Def := ⟨1, 1, [0], 0, s_Taking__len⟩
def s_l_step_k15 (cf : Calls) : S := (S.seq (S.asg 4 0 (E.str [116, 97, 107, 101, 110])) (S.seq (S.asg 5 0 E.non) (S.seq (S.tryc (S.expr (E.call cf i_Taking_take [.io 0, .v (E.var 1), .v (E.var 2), .v (E.var 3)])) 6 5) (S.ret (E.ite (E.excNone 5) (E.var 4) (E.call cf i_l_refusal [.x 5]))))))
def d_l_step_k15 : Def := ⟨4, 7, [0], 0, s_l_step_k15⟩
def s_l_front (cf : Calls) : S := (S.seq (S.unpack [5, 6] (E.var 0)) (S.seq (S.ite (E.eq (E.var 1) (E.int 0)) (S.ret (E.idx (E.var 6) (E.var 2))) S.pass) (S.seq (S.ite (E.eq (E.var 1) (E.int 1)) (S.ret (E.comp (.one 4) (E.iSeq (E.var 6)) E.yes (E.idx (E.var 4) (E.var 2)))) S.pass) (S.seq (S.asg 3 1 (E.lst [])) (S.seq (S.for_ (.one 4) (E.iSeq (E.var 6)) (S.app 3 1 (E.comp (.one 7) (E.iSeq (E.var 4)) E.yes (E.idx (E.var 7) (E.var 2))))) (S.seq (S.frz 3) (S.ret (E.var 3))))))))
def d_l_front : Def := ⟨3, 8, [], 0, s_l_front⟩
def s_l_good (cf : Calls) : S := (S.seq (S.asg 4 0 (E.call cf i_l_front [.v (E.var 0), .v (E.var 1), .v (E.var 2)])) (S.seq (S.unpack [6, 7] (E.comp (.one 8) (E.iRange (E.int 3)) (E.ne (E.var 8) (E.var 1)) (E.idx (E.idx (E.var 0) (E.int 0)) (E.var 8)))) (S.seq (S.for_ (.one 5) (E.iRange (E.un lenD (E.var 6))) (S.seq (S.ite (E.ne (E.un sumD (E.idx (E.var 3) (E.var 5))) (E.idx (E.var 6) (E.var 5))) (S.ret (E.bl false)) S.pass) (S.ite (E.ne (E.comp (.one 8) (E.iRange (E.un lenD (E.var 7))) (E.not (E.chain leD leD (E.int 0) (E.idx (E.idx (E.var 3) (E.var 5)) (E.var 8)) (E.idx (E.idx (E.var 4) (E.var 5)) (E.var 8)))) (E.var 8)) (E.lst [])) (S.ret (E.bl false)) S.pass))) (S.ret (E.eq (E.comp (.one 8) (E.iRange (E.un lenD (E.var 7))) (E.ne (E.un sumD (E.comp (.one 9) (E.iSeq (E.var 3)) E.yes (E.idx (E.var 9) (E.var 8)))) (E.idx (E.var 7) (E.var 8))) (E.var 8)) (E.lst []))))))
def d_l_good : Def := ⟨4, 10, [], 0, s_l_good⟩
def s_l_mix (cf : Calls) : S := (S.for_ (.one 2) (E.iRange (E.call cf i_l_draw [.io 0, .v (E.int 3)])) (S.seq (S.unpack [4, 5] (E.tup [(E.call cf i_l_draw [.io 0, .v (E.un lenD (E.pk 1 []))]), (E.call cf i_l_draw [.io 0, .v (E.un lenD (E.pk 1 []))])])) (S.seq (S.unpack [6, 7] (E.tup [(E.call cf i_l_draw [.io 0, .v (E.un lenD (E.pk 1 [(E.int 0)]))]), (E.call cf i_l_draw [.io 0, .v (E.un lenD (E.pk 1 [(E.int 0)]))])])) (S.seq (S.asg 3 0 (E.lst [(E.tup [(E.var 4), (E.var 6), (E.int 1)]), (E.tup [(E.var 4), (E.var 7), (E.bin subD (E.int 0) (E.int 1))]), (E.tup [(E.var 5), (E.var 7), (E.int 1)]), (E.tup [(E.var 5), (E.var 6), (E.bin subD (E.int 0) (E.int 1))])])) (S.for_ (.many [8, 9, 10]) (E.iSeq (E.slice (E.var 3) none (some (E.call cf i_l_pick [.io 0, .v (E.lst [(E.int 4), (E.int 4), (E.int 2)])])))) (S.setp 1 [(E.var 8), (E.var 9)] (E.bin addD (E.pth 1 [(E.var 8), (E.var 9)]) (E.var 10))))))))
def d_l_mix : Def := ⟨2, 11, [0, 1], 0, s_l_mix⟩
def s_l_left (cf : Calls) : S := (S.seq (S.ite (E.or (E.notb true (E.call cf i_is_outline [.v (E.var 0)])) (E.ne (E.call cf i_l_front [.v (E.var 0), .v (E.var 2), .v (E.var 3)]) (E.var 4))) (S.ret (E.bl false)) S.pass) (S.ret (E.eq (E.call cf i_put_together [.v (E.var 0), .v (E.var 2), .v (E.var 3)]) (E.var 1))))
def d_l_left : Def := ⟨5, 5, [], 0, s_l_left⟩
def s_law_k15_1 (cf : Calls) : S := (S.seq (S.for_ (.one 7) (E.iRange (E.int 5)) (S.seq (S.asg 8 0 (E.call cf i_l_draw [.io 1, .v (E.int 3)])) (S.seq (S.asg 9 0 (E.call cf i_l_draw [.io 1, .v (E.un lenD (E.idx (E.idx (E.var 4) (E.int 0)) (E.var 8)))])) (S.seq (S.ite (E.and (E.ne (E.pk 6 []) (E.lst [])) (E.eq (E.call cf i_l_draw [.io 1, .v (E.int 5)]) (E.int 0))) (S.seq (S.expr (E.call cf i_Taking_undo_k15 [.io 5])) (S.popTo 4 6)) (S.ite (E.eq (E.idx (E.idx (E.idx (E.var 4) (E.int 0)) (E.var 8)) (E.var 9)) (E.int 1)) (S.ite (E.ne (E.call cf i_l_step_k15 [.io 5, .v (E.var 8), .v (E.var 9), .v (E.lst [])]) (E.str [110, 111, 110, 101])) (S.ret (E.bl false)) S.pass) (S.seq (S.asg 10 0 (E.call cf i_taken_apart [.v (E.var 4), .v (E.var 8), .v (E.var 9)])) (S.seq (S.asg 11 2 (E.comp (.one 13) (E.iSeq (E.call cf i_l_front [.v (E.var 10), .v (E.var 8), .v (E.var 9)])) E.yes (E.un listD (E.var 13)))) (S.seq (S.expr (E.call cf i_l_mix [.io 1, .io 11])) (S.seq (S.frz 11) (S.seq (S.asg 12 0 (E.call cf i_l_good [.v (E.var 4), .v (E.var 8), .v (E.var 9), .v (E.var 11)])) (S.seq (S.frz 11) (S.seq (S.ite (E.not (E.call cf i_l_is [.v (E.call cf i_Taking_may_take [.io 5, .v (E.var 8), .v (E.var 9), .v (E.var 11)]), .v (E.var 12)])) (S.ret (E.bl false)) S.pass) (S.seq (S.frz 11) (S.seq (S.ite (E.ne (E.call cf i_l_step_k15 [.io 5, .v (E.var 8), .v (E.var 9), .v (E.var 11)]) (E.ite (E.var 12) (E.str [116, 97, 107, 101, 110]) (E.str [99, 104, 111, 105, 99, 101]))) (S.ret (E.bl false)) S.pass) (S.ite (E.var 12) (S.seq (S.app 6 1 (E.var 4)) (S.seq (S.asg 4 0 (E.call cf i_Taking_stands [.io 5])) (S.seq (S.frz 11) (S.ite (E.not (E.call cf i_l_left [.v (E.var 4), .v (E.pth 6 [(E.un negD (E.int 1))]), .v (E.var 8), .v (E.var 9), .v (E.var 11)])) (S.ret (E.bl false)) S.pass)))) S.pass)))))))))))) (S.ite (E.or (E.ne (E.call cf i_Taking_stands [.io 5]) (E.var 4)) (E.ne (E.call cf i_Taking__len [.io 5]) (E.un lenD (E.pk 6 [])))) (S.ret (E.bl false)) S.pass))))) (S.ret (E.call cf i_l_is_square [.v (E.call cf i_square_of [.v (E.call cf i_Taking_stands [.io 5])]), .v (E.var 2)])))
def s_law_k15 (cf : Calls) : S := (S.seq (S.asg 1 2 (E.call cf i_l_town [.x 0])) (S.seq (S.asg 2 0 (E.bin addD (E.int 2) (E.call cf i_l_draw [.io 1, .v (E.int 5)]))) (S.seq (S.asg 3 0 (E.call cf i_l_widths [.io 1, .v (E.var 2)])) (S.seq (S.asg 4 0 (E.tup [(E.var 3), (E.call cf i_l_counts [.v (E.call cf i_l_square [.io 1, .v (E.var 2)]), .v (E.var 3)])])) (S.seq (S.asgS 5 (E.new cf 3 i_Taking__init [.v (E.var 4)])) (S.seq (S.asg 6 1 (E.lst [])) (s_law_k15_1 cf)))))))
def d_law_k15 : Def := ⟨1, 14, [], 0, s_law_k15⟩
def s_Taking_take_any_k16 (cf : Calls) : S := (S.seq (S.expr (E.call cf i_Taking_look_open [.io 0, .v (E.var 1), .v (E.var 2)])) (S.seq (S.fapp 0 9 (E.fpth 0 10 [])) (S.fset 0 10 0 (E.call cf i_split [.v (E.fpth 0 10 []), .v (E.var 1), .v (E.var 2)]))))
def d_Taking_take_any_k16 : Def := ⟨3, 3, [0], 0, s_Taking_take_any_k16⟩
def s_l_choice (cf : Calls) : S := (S.seq (S.asg 4 0 (E.comp (.one 10) (E.iSeq (E.var 1)) E.yes (E.call cf i_l_lots [.v (E.var 10)]))) (S.seq (S.asg 5 0 (E.un sumD (E.slice (E.idx (E.var 1) (E.var 2)) none (some (E.var 3))))) (S.seq (S.asg 6 0 (E.comp (.one 11) (E.iRange (E.int 3)) (E.ne (E.var 11) (E.var 2)) (E.var 11))) (S.seq (S.asg 7 2 (E.comp (.one 11) (E.iSeq (E.idx (E.var 1) (E.idx (E.var 6) (E.int 0)))) E.yes (E.bin mulD (E.lst [(E.int 0)]) (E.un lenD (E.idx (E.var 1) (E.idx (E.var 6) (E.int 1))))))) (S.seq (S.for_ (.one 8) (E.iRange (E.un lenD (E.var 0))) (S.for_ (.one 9) (E.iRange (E.un lenD (E.var 0))) (S.seq (S.asg 12 0 (E.tup [(E.var 8), (E.var 9), (E.idx (E.idx (E.var 0) (E.var 8)) (E.var 9))])) (S.ite (E.eq (E.idx (E.var 12) (E.var 2)) (E.var 5)) (S.bump 7 [(E.idx (E.idx (E.var 4) (E.idx (E.var 6) (E.int 0))) (E.idx (E.var 12) (E.idx (E.var 6) (E.int 0))))] 13 14 (E.idx (E.idx (E.var 4) (E.idx (E.var 6) (E.int 1))) (E.idx (E.var 12) (E.idx (E.var 6) (E.int 1))))) S.pass)))) (S.seq (S.frz 7) (S.ret (E.var 7))))))))
def d_l_choice : Def := ⟨4, 15, [], 0, s_l_choice⟩
def s_law_k16_1 (cf : Calls) : S := (S.seq (S.whl (E.bl true) (S.seq (S.asg 9 0 (E.call cf i_Taking_stands [.io 4])) (S.seq (S.asg 10 0 (E.lst [])) (S.seq (S.for_ (.one 11) (E.iRange (E.int 3)) (S.asg 10 0 (E.bin addD (E.var 10) (E.comp (.one 14) (E.iRange (E.un lenD (E.idx (E.idx (E.var 9) (E.int 0)) (E.var 11)))) (E.bin gtD (E.idx (E.idx (E.idx (E.var 9) (E.int 0)) (E.var 11)) (E.var 14)) (E.int 1)) (E.tup [(E.var 11), (E.var 14)]))))) (S.seq (S.ite (E.eq (E.var 10) (E.lst [])) S.brk S.pass) (S.seq (S.unpack [11, 14] (E.call cf i_l_pick [.io 1, .v (E.var 10)])) (S.seq (S.asg 12 0 (E.call cf i_l_choice [.v (E.var 7), .v (E.idx (E.var 9) (E.int 0)), .v (E.var 11), .v (E.var 14)])) (S.seq (S.ite (E.notb true (E.call cf i_Taking_may_take [.io 4, .v (E.var 11), .v (E.var 14), .v (E.var 12)])) (S.ret (E.bl false)) S.pass) (S.seq (S.ite (E.eq (E.call cf i_l_draw [.io 1, .v (E.int 6)]) (E.int 0)) (S.seq (S.expr (E.call cf i_Taking_take_any_k16 [.io 4, .v (E.var 11), .v (E.var 14)])) (S.seq (S.ite (E.ne (E.call cf i_put_together [.v (E.call cf i_Taking_stands [.io 4]), .v (E.var 11), .v (E.var 14)]) (E.var 9)) (S.ret (E.bl false)) S.pass) (S.expr (E.call cf i_Taking_undo_k15 [.io 4])))) S.pass) (S.seq (S.expr (E.call cf i_Taking_take [.io 4, .v (E.var 11), .v (E.var 14), .v (E.var 12)])) (S.seq (S.asg 5 0 (E.bin addD (E.var 5) (E.int 1))) (S.seq (S.asg 13 0 (E.call cf i_Taking_stands [.io 4])) (S.ite (E.ne (E.var 13) (E.tup [(E.idx (E.var 13) (E.int 0)), (E.call cf i_l_counts [.v (E.var 7), .v (E.idx (E.var 13) (E.int 0))])])) (S.ret (E.bl false)) S.pass)))))))))))) 1000) (S.seq (S.ite (E.or (E.ne (E.var 5) (E.bin subD (E.bin subD (E.bin subD (E.bin mulD (E.int 3) (E.var 2)) (E.un lenD (E.idx (E.var 8) (E.int 0)))) (E.un lenD (E.idx (E.var 8) (E.int 1)))) (E.un lenD (E.idx (E.var 8) (E.int 2))))) (E.ne (E.call cf i_Taking__len [.io 4]) (E.var 5))) (S.ret (E.bl false)) S.pass) (S.seq (S.ite (E.ne (E.call cf i_square_of [.v (E.call cf i_Taking_stands [.io 4])]) (E.var 7)) (S.ret (E.bl false)) S.pass) (S.seq (S.for_ (.one 6) (E.iRange (E.var 5)) (S.expr (E.call cf i_Taking_undo_k15 [.io 4]))) (S.ret (E.and (E.eq (E.call cf i_Taking_stands [.io 4]) (E.var 3)) (E.eq (E.call cf i_Taking_stands [.io 4]) (E.tup [(E.var 8), (E.call cf i_l_counts [.v (E.var 7), .v (E.var 8)])]))))))))
def s_law_k16 (cf : Calls) : S := (S.seq (S.asg 1 2 (E.call cf i_l_town [.x 0])) (S.seq (S.asg 2 0 (E.bin addD (E.int 1) (E.call cf i_l_draw [.io 1, .v (E.int 6)]))) (S.seq (S.unpack [7, 8] (E.tup [(E.call cf i_l_square [.io 1, .v (E.var 2)]), (E.call cf i_l_widths [.io 1, .v (E.var 2)])])) (S.seq (S.asg 3 0 (E.call cf i_outline_of [.v (E.var 7), .v (E.var 8)])) (S.seq (S.asgS 4 (E.new cf 3 i_Taking__init [.v (E.var 3)])) (S.seq (S.asg 5 0 (E.int 0)) (s_law_k16_1 cf)))))))
def d_law_k16 : Def := ⟨1, 15, [], 0, s_law_k16⟩
def s_corner_text (cf : Calls) : S := (S.seq (S.expr (E.call cf i_look_corner [.v (E.var 0), .v (E.var 1)])) (S.ret (E.binM isTxt joinD (E.str [10]) (E.comp (.one 2) (E.iSeq (E.var 1)) E.yes (E.binM isTxt joinD (E.str []) (E.comp (.one 3) (E.iSeq (E.var 2)) E.yes (E.un strD (E.var 3))))))))
def d_corner_text : Def := ⟨2, 4, [], 0, s_corner_text⟩
def s_corner_read (cf : Calls) : S := (S.seq (S.expr (E.call cf i_look_size [.v (E.var 0)])) (S.seq (S.ite (E.or (E.not (E.isty .str (E.var 1))) (E.not (E.un allD (E.comp (.one 4) (E.iSeq (E.var 1)) E.yes (E.inn (E.var 4) (E.bin addD (E.con (.str [48, 49, 50, 51, 52, 53, 54, 55, 56, 57])) (E.str [10]))))))) (S.raise 7) S.pass) (S.seq (S.asg 2 0 (E.comp (.one 3) (E.iSeq (E.binM isTxt splitD (E.var 1) (E.str [10]))) E.yes (E.comp (.one 4) (E.iSeq (E.var 3)) E.yes (E.un intD (E.var 4))))) (S.seq (S.ite (E.not (E.call cf i_corner_fits [.v (E.var 0), .v (E.var 2)])) (S.raise 7) S.pass) (S.ret (E.var 2))))))
def d_corner_read : Def := ⟨2, 5, [], 0, s_corner_read⟩
def s_outline_text (cf : Calls) : S := (S.seq (S.ite (E.not (E.call cf i_is_sketch [.v (E.var 0)])) (S.raise 4) S.pass) (S.seq (S.asg 1 1 (E.comp (.one 2) (E.iSeq (E.idx (E.var 0) (E.int 0))) E.yes (E.binM isTxt joinD (E.str [32]) (E.comp (.one 5) (E.iSeq (E.var 2)) E.yes (E.un strD (E.var 5)))))) (S.seq (S.ext 1 (E.comp2 (.one 3) (E.iSeq (E.idx (E.var 0) (E.int 1))) E.yes (.one 4) (E.iSeq (E.var 3)) E.yes (E.binM isTxt joinD (E.str [32]) (E.comp (.one 5) (E.iSeq (E.var 4)) E.yes (E.un strD (E.var 5)))))) (S.ret (E.binM isTxt joinD (E.str [10]) (E.pk 1 []))))))
def d_outline_text : Def := ⟨1, 6, [], 0, s_outline_text⟩
def s_number_in (cf : Calls) : S := (S.seq (S.ite (E.or (E.not (E.chain leD leD (E.int 1) (E.un lenD (E.var 0)) (E.int 2))) (E.or (E.not (E.un allD (E.comp (.one 1) (E.iSeq (E.var 0)) E.yes (E.inn (E.var 1) (E.con (.str [48, 49, 50, 51, 52, 53, 54, 55, 56, 57])))))) (E.ne (E.un strD (E.un intD (E.var 0))) (E.var 0)))) (S.raise 7) S.pass) (S.ret (E.un intD (E.var 0))))
def d_number_in : Def := ⟨1, 2, [], 0, s_number_in⟩
def s_outline_read (cf : Calls) : S := (S.seq (S.ite (E.not (E.isty .str (E.var 0))) (S.raise 7) S.pass) (S.seq (S.asg 1 0 (E.comp (.one 5) (E.iSeq (E.binM isTxt splitD (E.var 0) (E.str [10]))) E.yes (E.comp (.one 7) (E.iSeq (E.binM isTxt splitD (E.var 5) (E.str [32]))) E.yes (E.call cf i_number_in [.v (E.var 7)])))) (S.seq (S.ite (E.bin ltD (E.un lenD (E.var 1)) (E.int 4)) (S.raise 7) S.pass) (S.seq (S.asg 2 0 (E.un tupleD (E.comp (.one 5) (E.iSeq (E.slice (E.var 1) none (some (E.int 3)))) E.yes (E.un tupleD (E.var 5))))) (S.seq (S.asg 3 0 (E.un lenD (E.idx (E.var 2) (E.int 1)))) (S.seq (S.asg 4 0 (E.comp (.one 6) (E.iRange3 (E.int 3) (E.un lenD (E.var 1)) (E.var 3)) E.yes (E.slice (E.var 1) (some (E.var 6)) (some (E.bin addD (E.var 6) (E.var 3)))))) (S.seq (S.ite (E.not (E.call cf i_is_sketch [.v (E.tup [(E.var 2), (E.var 4)])])) (S.raise 7) S.pass) (S.ret (E.tup [(E.var 2), (E.var 4)])))))))))
def d_outline_read : Def := ⟨1, 8, [], 0, s_outline_read⟩
def s_l_lines (cf : Calls) : S := (S.seq (S.asg 1 0 (E.comp (.one 3) (E.iSeq (E.idx (E.var 0) (E.int 0))) E.yes (E.binM isTxt joinD (E.str [32]) (E.comp (.one 4) (E.iSeq (E.var 3)) E.yes (E.un strD (E.var 4)))))) (S.seq (S.for_ (.one 2) (E.iSeq (E.idx (E.var 0) (E.int 1))) (S.asg 1 0 (E.bin addD (E.var 1) (E.comp (.one 5) (E.iSeq (E.var 2)) E.yes (E.binM isTxt joinD (E.str [32]) (E.comp (.one 4) (E.iSeq (E.var 5)) E.yes (E.un strD (E.var 4)))))))) (S.ret (E.binM isTxt joinD (E.str [10]) (E.var 1)))))
def d_l_lines : Def := ⟨1, 6, [], 0, s_l_lines⟩
def s_l_words (cf : Calls) : S := (S.ret (E.binM isTxt joinD (E.str [10]) (E.comp (.one 1) (E.iSeq (E.var 0)) E.yes (E.binM isTxt joinD (E.str []) (E.comp (.one 2) (E.iSeq (E.var 1)) E.yes (E.un strD (E.var 2)))))))
def d_l_words : Def := ⟨1, 3, [], 0, s_l_words⟩
def s_l_read (cf : Calls) : S := (S.seq (S.asg 3 0 E.non) (S.seq (S.asg 4 0 E.non) (S.seq (S.tryc (S.asg 3 0 (E.ite (E.eq (E.var 0) (E.int 0)) (E.call cf i_outline_read [.v (E.var 2)]) (E.call cf i_corner_read [.v (E.var 1), .v (E.var 2)]))) 5 4) (S.ret (E.ite (E.excNone 4) (E.var 3) (E.call cf i_l_refusal [.x 4]))))))
def d_l_read : Def := ⟨3, 6, [], 0, s_l_read⟩
def s_l_none (cf : Calls) : S := (S.seq (S.asg 0 0 (E.str [50, 10, 49, 32, 49, 10, 50, 10, 50, 10, 50])) (S.seq (S.ite (E.or (E.ne (E.call cf i_outline_read [.v (E.var 0)]) (E.tup [(E.tup [(E.tup [(E.int 2)]), (E.tup [(E.int 1), (E.int 1)]), (E.tup [(E.int 2)])]), (E.lst [(E.lst [(E.lst [(E.int 2)]), (E.lst [(E.int 2)])])])])) (E.ne (E.call cf i_outline_text [.v (E.call cf i_outline_read [.v (E.var 0)])]) (E.var 0))) (S.ret (E.bl false)) S.pass) (S.seq (S.asg 1 0 (E.lst [E.non, (E.int 5), (E.str []), (E.str [50, 10, 49, 32, 49, 10, 50, 10, 50]), (E.str [50, 10, 49, 32, 49, 10, 50, 10, 50, 10, 50, 10, 50]), (E.str [50, 10, 49, 32, 49, 10, 50, 10, 50, 10, 50, 10]), (E.str [50, 10, 49, 32, 49, 10, 50, 10, 50, 32, 50]), (E.str [50, 10, 49, 32, 49, 10, 51, 10, 50, 10, 50]), (E.str [50, 10, 49, 32, 49, 10, 50, 10, 50, 10, 53, 48]), (E.str [50, 10, 49, 32, 49, 10, 50, 10, 48, 50, 10, 50]), (E.str [50, 10, 49, 32, 32, 49, 10, 50, 10, 50, 10, 50]), (E.str [48, 10, 48, 10, 48, 10, 48]), (E.str [56, 10, 56, 10, 56, 10, 54, 52]), (E.str [50, 10, 49, 32, 49, 10, 50, 10, 120, 10, 50]), (E.str [50, 10, 49, 32, 48, 32, 49, 10, 50, 10, 50, 10, 50, 10, 50]), (E.str [50, 10, 49, 32, 49, 10, 50, 10, 45, 50, 10, 50]), (E.str [49, 10, 49, 10, 49])])) (S.seq (S.ite (E.or (E.ne (E.comp (.one 2) (E.iSeq (E.var 1)) E.yes (E.call cf i_l_read [.v (E.int 0), .v (E.int 0), .v (E.var 2)])) (E.bin mulD (E.lst [(E.str [116, 101, 120, 116])]) (E.int 17))) (E.ne (E.call cf i_outline_read [.v (E.str [49, 10, 49, 10, 49, 10, 55])]) (E.tup [(E.tup [(E.tup [(E.int 1)]), (E.tup [(E.int 1)]), (E.tup [(E.int 1)])]), (E.lst [(E.lst [(E.lst [(E.int 7)])])])]))) (S.ret (E.bl false)) S.pass) (S.seq (S.asg 1 0 (E.lst [E.non, (E.int 5), (E.str []), (E.str [48, 10]), (E.str [48, 51]), (E.str [48, 48]), (E.str [48, 10, 48]), (E.str [48, 49, 10, 49]), (E.str [48, 49, 50, 10, 49, 50, 48, 10, 50, 48, 49, 10]), (E.str [48, 32, 49]), (E.str [120]), (E.str [48, 49, 10, 10]), (E.str [48, 49, 50, 48]), (E.str [45, 49])])) (S.seq (S.ite (E.or (E.ne (E.comp (.one 2) (E.iSeq (E.var 1)) E.yes (E.call cf i_l_read [.v (E.int 1), .v (E.int 3), .v (E.var 2)])) (E.bin mulD (E.lst [(E.str [116, 101, 120, 116])]) (E.int 14))) (E.ne (E.call cf i_corner_read [.v (E.int 3), .v (E.str [48, 49, 10, 49, 50])]) (E.lst [(E.lst [(E.int 0), (E.int 1)]), (E.lst [(E.int 1), (E.int 2)])]))) (S.ret (E.bl false)) S.pass) (S.ret (E.and (E.eq (E.comp (.one 2) (E.iSeq (E.tup [E.non, (E.int 0), (E.int 8), (E.bl true)])) E.yes (E.call cf i_l_read [.v (E.int 1), .v (E.var 2), .v (E.str [48])])) (E.bin mulD (E.lst [(E.str [115, 105, 122, 101])]) (E.int 4))) (E.eq (E.call cf i_l_read [.v (E.int 1), .v (E.int 1), .v (E.str [48])]) (E.lst [(E.lst [(E.int 0)])]))))))))))
def d_l_none : Def := ⟨0, 3, [], 0, s_l_none⟩
def s_law_k17_1 (cf : Calls) : S := (S.seq (S.asg 6 0 (E.call cf i_corner_text [.v (E.var 2), .v (E.var 5)])) (S.seq (S.ite (E.or (E.ne (E.var 6) (E.call cf i_l_words [.v (E.var 5)])) (E.ne (E.call cf i_corner_read [.v (E.var 2), .v (E.var 6)]) (E.var 5))) (S.ret (E.bl false)) S.pass) (S.seq (S.for_ (.one 7) (E.iRange (E.int 8)) (S.for_ (.one 8) (E.iSeq (E.lst [(E.int 0), (E.int 1)])) (S.seq (S.asg 9 0 (E.idx (E.lst [(E.var 4), (E.var 6)]) (E.var 8))) (S.seq (S.asg 10 0 (E.call cf i_l_draw [.io 1, .v (E.bin addD (E.un lenD (E.var 9)) (E.int 1))])) (S.seq (S.asg 11 0 (E.call cf i_l_pick [.io 1, .v (E.lst [(E.str [48]), (E.str [49]), (E.str [50]), (E.str [57]), (E.str [10]), (E.str [32]), (E.str [45]), (E.str [120]), (E.str [])])])) (S.seq (S.asg 12 0 (E.call cf i_l_pick [.io 1, .v (E.lst [(E.bin addD (E.bin addD (E.slice (E.var 9) none (some (E.var 10))) (E.var 11)) (E.slice (E.var 9) (some (E.bin addD (E.var 10) (E.int 1))) none)), (E.bin addD (E.bin addD (E.slice (E.var 9) none (some (E.var 10))) (E.var 11)) (E.slice (E.var 9) (some (E.var 10)) none))])])) (S.seq (S.asg 13 0 (E.call cf i_l_read [.v (E.var 8), .v (E.var 2), .v (E.var 12)])) (S.seq (S.asg 14 0 (E.ite (E.eq (E.var 13) (E.str [116, 101, 120, 116])) (E.var 12) (E.ite (E.eq (E.var 8) (E.int 0)) (E.call cf i_l_lines [.v (E.var 13)]) (E.call cf i_l_words [.v (E.var 13)])))) (S.ite (E.ne (E.var 14) (E.var 12)) (S.ret (E.bl false)) S.pass))))))))) (S.ret (E.call cf i_l_none [])))))
def s_law_k17 (cf : Calls) : S := (S.seq (S.asg 1 2 (E.call cf i_l_town [.x 0])) (S.seq (S.asg 2 0 (E.bin addD (E.int 1) (E.call cf i_l_draw [.io 1, .v (E.int 7)]))) (S.seq (S.asg 3 0 (E.call cf i_l_sketch [.io 1, .v (E.var 2)])) (S.seq (S.asg 4 0 (E.call cf i_outline_text [.v (E.var 3)])) (S.seq (S.ite (E.or (E.ne (E.var 4) (E.call cf i_l_lines [.v (E.var 3)])) (E.ne (E.call cf i_outline_read [.v (E.var 4)]) (E.var 3))) (S.ret (E.bl false)) S.pass) (S.seq (S.asg 5 0 (E.call cf i_l_corner [.io 1, .v (E.var 2)])) (s_law_k17_1 cf)))))))
def d_law_k17 : Def := ⟨1, 15, [], 0, s_law_k17⟩
def s_Taking_undo_k18 (cf : Calls) : S := (S.expr (E.call cf i_wall [.v (E.int 1)]))
def d_Taking_undo_k18 : Def := ⟨1, 1, [0], 0, s_Taking_undo_k18⟩
def s_l_does_k18 (cf : Calls) : S := (S.seq (S.ite (E.eq (E.var 0) (E.int 0)) (S.ret (E.call cf i_taken_apart [.v (E.var 1), .v (E.var 2), .v (E.var 3)])) S.pass) (S.seq (S.ite (E.eq (E.var 0) (E.int 1)) (S.ret (E.call cf i_put_together [.v (E.var 1), .v (E.var 2), .v (E.var 3)])) S.pass) (S.seq (S.ite (E.eq (E.var 0) (E.int 2)) (S.ret (E.call cf i_coarsened [.v (E.var 1), .v (E.var 2)])) S.pass) (S.seq (S.ite (E.eq (E.var 0) (E.int 3)) (S.ret (E.call cf i_square_of [.v (E.var 1)])) S.pass) (S.seq (S.ite (E.eq (E.var 0) (E.int 4)) (S.ret (E.call cf i_outline_exchanged [.v (E.var 1), .v (E.var 2)])) S.pass) (S.seq (S.ite (E.eq (E.var 0) (E.int 5)) (S.ret (E.call cf i_how_many [.v (E.var 1)])) S.pass) (S.seq (S.ite (E.eq (E.var 0) (E.int 6)) (S.ret (E.call cf i_least_square [.v (E.var 1)])) S.pass) (S.seq (S.ite (E.eq (E.var 0) (E.int 7)) (S.ret (E.call cf i_sure_lots [.v (E.var 1)])) S.pass) (S.seq (S.ite (E.eq (E.var 0) (E.int 8)) (S.ret (E.call cf i_square_at [.v (E.var 1), .v (E.var 2)])) S.pass) (S.seq (S.ite (E.eq (E.var 0) (E.int 9)) (S.retObj (E.new cf 3 i_Taking__init [.v (E.var 1)])) S.pass) (S.seq (S.ite (E.eq (E.var 0) (E.int 10)) (S.ret (E.call cf i_bars [.v (E.var 1)])) S.pass) (S.ret (E.ite (E.eq (E.var 0) (E.int 11)) (E.call cf i_size_of [.v (E.var 1)]) (E.call cf i_outline_text [.v (E.var 1)]))))))))))))))
def d_l_does_k18 : Def := ⟨4, 4, [], 99, s_l_does_k18⟩
def s_l_asked_k18 (cf : Calls) : S := (S.seq (S.asg 4 0 E.non) (S.seq (S.tryc (S.expr (E.call cf i_l_does_k18 [.v (E.var 0), .v (E.var 1), .v (E.var 2), .v (E.var 3)])) 5 4) (S.ret (E.ite (E.excNone 4) (E.str [116, 111, 108, 100]) (E.call cf i_l_refusal [.x 4])))))
def d_l_asked_k18 : Def := ⟨4, 6, [], 0, s_l_asked_k18⟩
def s_l_squared (cf : Calls) : S := (S.seq (S.asg 3 0 E.non) (S.seq (S.tryc (S.ite (E.eq (E.var 0) (E.int 0)) (S.expr (E.call cf i_where [.v (E.var 1), .v (E.var 2)])) (S.ite (E.eq (E.var 0) (E.int 1)) (S.expr (E.call cf i_outline_of [.v (E.var 1), .v (E.var 2)])) (S.ite (E.eq (E.var 0) (E.int 2)) (S.expr (E.call cf i_exchanged [.v (E.var 1), .v (E.var 2)])) (S.ite (E.eq (E.var 0) (E.int 3)) (S.expr (E.call cf i_renamed [.v (E.var 1), .v (E.var 2), .v (E.var 2), .v (E.var 2)])) (S.ite (E.eq (E.var 0) (E.int 4)) (S.expr (E.call cf i_plain [.v (E.var 1)])) (S.ite (E.eq (E.var 0) (E.int 5)) (S.expr (E.call cf i_first_unlike [.v (E.var 1), .v (E.var 2)])) (S.expr (E.call cf i_even_square [.v (E.var 1)])))))))) 4 3) (S.ret (E.ite (E.excNone 3) (E.str [116, 111, 108, 100]) (E.call cf i_l_refusal [.x 3])))))
def d_l_squared : Def := ⟨3, 5, [], 0, s_l_squared⟩
def s_l_squares (cf : Calls) : S := (S.seq (S.for_ (.one 1) (E.iSeq (E.lst [E.non, (E.int 5), (E.lst []), (E.lst [(E.lst [(E.int 0), (E.int 1)])]), (E.lst [(E.lst [(E.int 0), (E.int 1)]), (E.lst [(E.int 0), (E.int 1)])]), (E.lst [(E.lst [(E.int 0), (E.int 0)]), (E.lst [(E.int 1), (E.int 1)])]), (E.lst [(E.lst [(E.int 0), (E.int 2)]), (E.lst [(E.int 2), (E.int 0)])]), (E.lst [(E.tup [(E.int 0), (E.int 1)]), (E.tup [(E.int 1), (E.int 0)])]), (E.lst [(E.lst [(E.int 0), (E.int 1)]), (E.lst [(E.int 1)])]), (E.lst [(E.lst [(E.bl false), (E.bl true)]), (E.lst [(E.bl true), (E.bl false)])])])) (S.ite (E.or (E.ne (E.comp (.one 3) (E.iRange (E.int 6)) E.yes (E.call cf i_l_squared [.v (E.var 3), .v (E.var 1), .v E.non])) (E.bin mulD (E.lst [(E.str [115, 113, 117, 97, 114, 101])]) (E.int 6))) (E.notb false (E.call cf i_is_square [.v (E.var 1)]))) (S.ret (E.bl false)) S.pass)) (S.seq (S.ite (E.or (E.ne (E.comp (.one 1) (E.iSeq (E.tup [E.non, (E.int 2), (E.bin subD (E.int 0) (E.int 1)), (E.bl true)])) E.yes (E.call cf i_l_squared [.v (E.int 0), .v (E.var 0), .v (E.var 1)])) (E.bin mulD (E.lst [(E.str [115, 105, 122, 101])]) (E.int 4))) (E.ne (E.comp (.one 1) (E.iSeq (E.tup [E.non, (E.int 0), (E.int 8), (E.bl true)])) E.yes (E.call cf i_l_squared [.v (E.int 6), .v (E.var 1), .v (E.int 0)])) (E.bin mulD (E.lst [(E.str [115, 105, 122, 101])]) (E.int 4)))) (S.ret (E.bl false)) S.pass) (S.seq (S.asg 2 0 (E.lst [E.non, (E.int 5), (E.tup [(E.tup [(E.int 2)]), (E.tup [(E.int 2)])]), (E.tup [(E.tup [(E.int 2)]), (E.tup [(E.int 2)]), (E.tup [(E.int 1)])]), (E.tup [(E.tup [(E.int 2)]), (E.tup [(E.int 2)]), (E.tup [(E.int 3)])]), (E.tup [(E.tup [(E.int 2)]), (E.tup [(E.int 2)]), (E.tup [(E.int 2), (E.int 0)])]), (E.tup [(E.tup [(E.int 2)]), (E.tup [(E.int 2)]), (E.lst [(E.int 2)])]), (E.lst [(E.tup [(E.int 2)]), (E.tup [(E.int 2)]), (E.tup [(E.int 2)])]), (E.tup [(E.tup [(E.int 2)]), (E.tup [(E.int 2)]), (E.tup [])]), (E.tup [(E.tup [(E.int 2)]), (E.tup [(E.int 2)]), (E.tup [(E.bl true), (E.int 1)])])])) (S.seq (S.ite (E.ne (E.comp (.one 1) (E.iSeq (E.var 2)) E.yes (E.call cf i_l_squared [.v (E.int 1), .v (E.var 0), .v (E.var 1)])) (E.bin mulD (E.lst [(E.str [119, 105, 100, 116, 104, 115])]) (E.int 10))) (S.ret (E.bl false)) S.pass) (S.seq (S.ite (E.ne (E.comp (.one 1) (E.iSeq (E.tup [E.non, (E.tup [(E.int 0), (E.int 1)]), (E.lst [(E.int 0), (E.int 1), (E.int 2)]), (E.tup [(E.int 0), (E.int 1), (E.int 1)]), (E.tup [(E.int 1), (E.int 2), (E.int 3)]), (E.tup [(E.int 0), (E.int 1), (E.bl true)])])) E.yes (E.call cf i_l_squared [.v (E.int 2), .v (E.var 0), .v (E.var 1)])) (E.bin mulD (E.lst [(E.str [99, 104, 111, 105, 99, 101])]) (E.int 6))) (S.ret (E.bl false)) S.pass) (S.seq (S.ite (E.ne (E.comp (.one 1) (E.iSeq (E.tup [E.non, (E.tup [(E.int 0)]), (E.lst [(E.int 0), (E.int 1)]), (E.tup [(E.int 0), (E.int 0)]), (E.tup [(E.int 1), (E.int 2)]), (E.tup [(E.int 0), (E.bl true)])])) E.yes (E.call cf i_l_squared [.v (E.int 3), .v (E.var 0), .v (E.var 1)])) (E.bin mulD (E.lst [(E.str [99, 104, 111, 105, 99, 101])]) (E.int 6))) (S.ret (E.bl false)) S.pass) (S.ret (E.and (E.eq (E.call cf i_l_squared [.v (E.int 5), .v (E.var 0), .v (E.lst [(E.lst [(E.int 0)])])]) (E.str [99, 104, 111, 105, 99, 101])) (E.and (E.isn (E.call cf i_first_unlike [.v (E.var 0), .v (E.var 0)])) (E.isb true (E.call cf i_is_square [.v (E.lst [(E.lst [(E.int 0)])])])))))))))))
def d_l_squares : Def := ⟨1, 4, [], 0, s_l_squares⟩
def s_l_steps_refused (cf : Calls) : S := (S.seq (S.asg 4 0 (E.tup [(E.tup [(E.int 1), (E.int 1)]), (E.tup [(E.int 1), (E.int 1)]), (E.tup [(E.int 1), (E.int 1)])])) (S.seq (S.asg 5 0 (E.call cf i_outline_of [.v (E.var 1), .v (E.var 4)])) (S.seq (S.asg 6 0 (E.call cf i_l_draw [.io 0, .v (E.int 3)])) (S.seq (S.ite (E.or (E.ne (E.comp (.one 8) (E.iSeq (E.tup [(E.int 0), (E.int 1)])) E.yes (E.call cf i_l_asked_k18 [.v (E.int 0), .v (E.var 5), .v (E.var 6), .v (E.var 8)])) (E.bin mulD (E.lst [(E.str [110, 111, 110, 101])]) (E.int 2))) (E.ne (E.comp (.one 8) (E.iSeq (E.tup [(E.int 0), (E.int 1)])) E.yes (E.call cf i_l_asked_k18 [.v (E.int 1), .v (E.var 5), .v (E.var 6), .v (E.var 8)])) (E.lst [(E.str [116, 111, 108, 100]), (E.str [110, 111, 110, 101])]))) (S.ret (E.bl false)) S.pass) (S.seq (S.ite (E.or (E.ne (E.comp (.one 9) (E.iSeq (E.tup [E.non, (E.var 4), (E.tup [(E.tup [(E.int 2)]), (E.tup [(E.int 2)])]), (E.tup [(E.tup [(E.int 2)]), (E.tup [(E.int 2)]), (E.tup [(E.int 3)])])])) E.yes (E.call cf i_l_asked_k18 [.v (E.int 2), .v (E.var 3), .v (E.var 9), .v (E.int 0)])) (E.bin mulD (E.lst [(E.str [119, 105, 100, 116, 104, 115])]) (E.int 4))) (E.ne (E.comp (.one 10) (E.iSeq (E.tup [(E.var 4), (E.var 2)])) E.yes (E.call cf i_l_asked_k18 [.v (E.int 2), .v (E.var 5), .v (E.var 10), .v (E.int 0)])) (E.bin mulD (E.lst [(E.str [116, 111, 108, 100])]) (E.int 2)))) (S.ret (E.bl false)) S.pass) (S.seq (S.asg 7 0 (E.call cf i_outline_of [.v (E.call cf i_even_square [.v (E.int 5)]), .v (E.tup [(E.tup [(E.int 5)]), (E.tup [(E.int 5)]), (E.tup [(E.int 5)])])])) (S.seq (S.ite (E.or (E.ne (E.comp (.one 8) (E.iSeq (E.tup [(E.int 5), (E.int 6), (E.int 7), (E.int 8)])) E.yes (E.call cf i_l_asked_k18 [.v (E.var 8), .v (E.var 7), .v (E.int 0), .v (E.int 0)])) (E.bin mulD (E.lst [(E.str [115, 105, 122, 101])]) (E.int 4))) (E.or (E.ne (E.call cf i_how_many [.v (E.tup [(E.bin mulD (E.tup [(E.tup [(E.int 4)])]) (E.int 3)), (E.lst [(E.lst [(E.lst [(E.int 16)])])])])]) (E.int 576)) (E.ne (E.call cf i_how_many [.v (E.tup [(E.bin mulD (E.tup [(E.tup [(E.int 3)])]) (E.int 3)), (E.lst [(E.lst [(E.lst [(E.int 9)])])])])]) (E.int 12)))) (S.ret (E.bl false)) S.pass) (S.ret (E.and (E.eq (E.comp (.one 9) (E.iSeq (E.tup [E.non, (E.tup [(E.int 0), (E.int 1)]), (E.tup [(E.int 0), (E.int 1), (E.int 1)])])) E.yes (E.call cf i_l_asked_k18 [.v (E.int 4), .v (E.var 3), .v (E.var 9), .v (E.int 0)])) (E.bin mulD (E.lst [(E.str [99, 104, 111, 105, 99, 101])]) (E.int 3))) (E.eq (E.call cf i_size_of [.v (E.tup [(E.var 2), (E.lst [(E.lst [(E.lst [(E.int 0)])])])])]) (E.int 2)))))))))))
def d_l_steps_refused : Def := ⟨4, 11, [0], 0, s_l_steps_refused⟩
def s_l_take (cf : Calls) : S := (S.seq (S.asg 2 0 E.non) (S.seq (S.tryc (S.expr (E.call cf i_Taking_take [.io 0, .v (E.int 0), .v (E.int 0), .v (E.var 1)])) 3 2) (S.ret (E.ite (E.excNone 2) (E.str [116, 111, 108, 100]) (E.call cf i_l_refusal [.x 2])))))
def d_l_take : Def := ⟨2, 4, [0], 0, s_l_take⟩
def s_l_choices_refused (cf : Calls) : S := (S.seq (S.asg 1 0 (E.tup [(E.tup [(E.int 2)]), (E.tup [(E.int 1), (E.int 1)]), (E.tup [(E.int 2)])])) (S.seq (S.asgS 2 (E.new cf 3 i_Taking__init [.v (E.call cf i_outline_of [.v (E.var 0), .v (E.var 1)])])) (S.seq (S.asg 3 0 (E.lst [E.non, (E.int 5), (E.tup []), (E.lst []), (E.lst [(E.lst [(E.int 1)])]), (E.lst [(E.lst [(E.int 1)]), (E.lst [(E.int 1)]), (E.lst [])]), (E.lst [(E.lst [(E.int 1)]), (E.int 1)]), (E.lst [(E.lst [(E.int 1)]), (E.tup [(E.int 1)])]), (E.lst [(E.lst [(E.int 1)]), (E.lst [(E.bl true)])]), (E.lst [(E.lst [(E.int 1)]), (E.lst [(E.int 0)])]), (E.lst [(E.lst [(E.int 2)]), (E.lst [(E.int 0)])]), (E.lst [(E.lst [(E.int 1)]), (E.lst [(E.int 1), (E.int 0)])]), (E.lst [(E.lst [(E.int 1)]), (E.lst [E.non])]), (E.tup [(E.lst [(E.int 1)]), (E.lst [(E.int 1)])])])) (S.seq (S.for_ (.one 4) (E.iSeq (E.var 3)) (S.ite (E.or (E.notb false (E.call cf i_Taking_may_take [.io 2, .v (E.int 0), .v (E.int 0), .v (E.var 4)])) (E.ne (E.call cf i_l_take [.io 2, .v (E.var 4)]) (E.str [99, 104, 111, 105, 99, 101]))) (S.ret (E.bl false)) S.pass)) (S.seq (S.ite (E.or (E.ne (E.call cf i_Taking__len [.io 2]) (E.int 0)) (E.notb true (E.call cf i_Taking_may_take [.io 2, .v (E.int 0), .v (E.int 0), .v (E.lst [(E.lst [(E.int 1)]), (E.lst [(E.int 1)])])]))) (S.ret (E.bl false)) S.pass) (S.seq (S.tmpApp (E.call cf i_Taking_stands [.io 2]) [(E.int 1), (E.int 0), (E.int 0)] (E.int 5)) (S.ret (E.and (E.eq (E.call cf i_Taking_stands [.io 2]) (E.call cf i_outline_of [.v (E.var 0), .v (E.var 1)])) (E.eq (E.call cf i_l_take [.io 2, .v (E.lst [(E.lst [(E.int 1)]), (E.lst [(E.int 1)])])]) (E.str [116, 111, 108, 100]))))))))))
def d_l_choices_refused : Def := ⟨1, 5, [], 0, s_l_choices_refused⟩
def s_law_k18_1 (cf : Calls) : S := (S.seq (S.ite (E.or (E.ne (E.comp (.one 7) (E.iRange (E.int 13)) E.yes (E.call cf i_l_asked_k18 [.v (E.var 7), .v (E.tup [(E.var 3), (E.lst [(E.lst [(E.lst [(E.int 3)])])])]), .v E.non, .v E.non])) (E.bin addD (E.bin mulD (E.lst [(E.str [111, 117, 116, 108, 105, 110, 101])]) (E.int 10)) (E.bin mulD (E.lst [(E.str [116, 111, 108, 100])]) (E.int 3)))) (E.ne (E.call cf i_bars [.v (E.tup [(E.var 3), (E.lst [(E.lst [(E.lst [(E.int 3)])])])])]) (E.lst [(E.tup [(E.int 0), (E.int 0), (E.int 0), (E.int 3), (E.int 4)]), (E.tup [(E.int 1), (E.int 0), (E.int 0), (E.int 3), (E.int 4)]), (E.tup [(E.int 2), (E.int 0), (E.int 0), (E.int 3), (E.int 4)])]))) (S.ret (E.bl false)) S.pass) (S.seq (S.asg 6 0 (E.tup [(E.var 3), (E.lst [(E.lst [(E.lst [(E.int 4)])])])])) (S.seq (S.for_ (.one 5) (E.iSeq (E.lst [E.non, (E.int 3), (E.bin subD (E.int 0) (E.int 1)), (E.bl true), (E.str [48])])) (S.ite (E.or (E.ne (E.comp (.one 7) (E.iSeq (E.tup [(E.int 0), (E.int 1)])) E.yes (E.call cf i_l_asked_k18 [.v (E.var 7), .v (E.var 6), .v (E.var 5), .v E.non])) (E.bin mulD (E.lst [(E.str [99, 104, 111, 105, 99, 101])]) (E.int 2))) (E.ne (E.comp (.one 7) (E.iSeq (E.tup [(E.int 0), (E.int 1)])) E.yes (E.call cf i_l_asked_k18 [.v (E.var 7), .v (E.var 6), .v (E.int 0), .v (E.ite (E.eq (E.var 5) (E.int 3)) (E.int 1) (E.var 5))])) (E.bin mulD (E.lst [(E.str [99, 104, 111, 105, 99, 101])]) (E.int 2)))) (S.ret (E.bl false)) S.pass)) (S.ret (E.call cf i_l_steps_refused [.io 1, .v (E.var 2), .v (E.var 3), .v (E.var 6)])))))
def s_law_k18 (cf : Calls) : S := (S.seq (S.asg 1 2 (E.call cf i_l_town [.x 0])) (S.seq (S.asg 2 0 (E.lst [(E.lst [(E.int 0), (E.int 1)]), (E.lst [(E.int 1), (E.int 0)])])) (S.seq (S.ite (E.or (E.not (E.call cf i_l_squares [.v (E.var 2)])) (E.not (E.call cf i_l_choices_refused [.v (E.var 2)]))) (S.ret (E.bl false)) S.pass) (S.seq (S.asg 3 0 (E.tup [(E.tup [(E.int 2)]), (E.tup [(E.int 2)]), (E.tup [(E.int 2)])])) (S.seq (S.asg 4 0 (E.lst [E.non, (E.int 5), (E.tup [(E.var 3)]), (E.tup [(E.var 3), (E.lst [(E.lst [(E.lst [(E.int 4)])])]), (E.int 0)]), (E.lst [(E.var 3), (E.lst [(E.lst [(E.lst [(E.int 4)])])])]), (E.tup [(E.var 3), (E.lst [(E.lst [(E.lst [(E.int 50)])])])]), (E.tup [(E.var 3), (E.lst [(E.lst [(E.lst [(E.bin subD (E.int 0) (E.int 1))])])])]), (E.tup [(E.var 3), (E.lst [(E.lst [(E.lst [(E.int 4), (E.int 0)])])])]), (E.tup [(E.var 3), (E.lst [(E.lst [(E.lst [(E.int 4)])]), (E.lst [(E.lst [(E.int 4)])])])]), (E.tup [(E.var 3), (E.tup [(E.lst [(E.lst [(E.int 4)])])])]), (E.tup [(E.tup [(E.tup [(E.int 2)]), (E.tup [(E.int 2)])]), (E.lst [(E.lst [(E.lst [(E.int 4)])])])]), (E.tup [(E.bin mulD (E.tup [(E.tup [(E.int 8)])]) (E.int 3)), (E.lst [(E.lst [(E.lst [(E.int 64)])])])]), (E.tup [(E.tup [(E.tup [(E.int 2)]), (E.tup [(E.int 2)]), (E.tup [(E.int 1)])]), (E.lst [(E.lst [(E.lst [(E.int 4)])])])]), (E.tup [(E.var 3), (E.lst [(E.lst [(E.lst [(E.bl true)])])])]), (E.tup [(E.bin mulD (E.tup [(E.tup [])]) (E.int 3)), (E.lst [])])])) (S.seq (S.for_ (.one 5) (E.iSeq (E.var 4)) (S.ite (E.or (E.ne (E.comp (.one 7) (E.iRange (E.int 13)) E.yes (E.call cf i_l_asked_k18 [.v (E.var 7), .v (E.var 5), .v E.non, .v E.non])) (E.bin mulD (E.lst [(E.str [111, 117, 116, 108, 105, 110, 101])]) (E.int 13))) (E.notb false (E.call cf i_is_outline [.v (E.var 5)]))) (S.ret (E.bl false)) S.pass)) (s_law_k18_1 cf)))))))
def d_law_k18 : Def := ⟨1, 8, [], 0, s_law_k18⟩
def s_l_does_k19 (cf : Calls) : S := (S.seq (S.ite (E.eq (E.var 0) (E.int 0)) (S.ret (E.call cf i_lacking [.v (E.var 1), .v (E.var 2)])) S.pass) (S.seq (S.ite (E.eq (E.var 0) (E.int 1)) (S.ret (E.call cf i_goes_on [.v (E.var 1), .v (E.var 2)])) S.pass) (S.seq (S.ite (E.eq (E.var 0) (E.int 2)) (S.ret (E.call cf i_highest [.v (E.var 1), .v (E.var 2)])) S.pass) (S.seq (S.ite (E.eq (E.var 0) (E.int 3)) (S.ret (E.call cf i_turned_corner [.v (E.var 1), .v (E.var 2)])) S.pass) (S.seq (S.ite (E.eq (E.var 0) (E.int 4)) (S.ret (E.call cf i_corner_text [.v (E.var 1), .v (E.var 2)])) S.pass) (S.seq (S.ite (E.eq (E.var 0) (E.int 5)) (S.ret (E.call cf i_finished [.v (E.var 1), .v (E.var 2)])) S.pass) (S.seq (S.ite (E.eq (E.var 0) (E.int 6)) (S.ret (E.call cf i_outline_of_corner [.v (E.var 1), .v (E.var 2)])) S.pass) (S.seq (S.ite (E.eq (E.var 0) (E.int 7)) (S.ret (E.call cf i_must_stand [.v (E.var 1), .v (E.var 2)])) S.pass) (S.seq (S.ite (E.eq (E.var 0) (E.int 8)) (S.ret (E.call cf i_next_row [.v (E.var 1), .v (E.var 2)])) S.pass) (S.ret (E.ite (E.eq (E.var 0) (E.int 9)) (E.call cf i_choices [.v (E.var 1), .v (E.var 2)]) (E.call cf i_may_stand [.v (E.var 1), .v (E.var 2), .v (E.var 3), .v (E.var 4)]))))))))))))
def d_l_does_k19 : Def := ⟨5, 5, [], 0, s_l_does_k19⟩
def s_l_asked_k19 (cf : Calls) : S := (S.seq (S.asg 5 0 E.non) (S.seq (S.tryc (S.expr (E.call cf i_l_does_k19 [.v (E.var 0), .v (E.var 1), .v (E.var 2), .v (E.var 3), .v (E.var 4)])) 6 5) (S.ret (E.ite (E.excNone 5) (E.str [116, 111, 108, 100]) (E.call cf i_l_refusal [.x 5])))))
def d_l_asked_k19 : Def := ⟨5, 7, [], 0, s_l_asked_k19⟩
def s_l_step_k19 (cf : Calls) : S := (S.seq (S.asg 3 0 E.non) (S.seq (S.tryc (S.ite (E.eq (E.var 1) (E.int 0)) (S.expr (E.call cf i_Corner_lacks_with_row [.io 0, .v (E.var 2)])) (S.ite (E.eq (E.var 1) (E.int 1)) (S.expr (E.call cf i_Corner_lacks_with_column [.io 0, .v (E.var 2)])) (S.ite (E.eq (E.var 1) (E.int 2)) (S.expr (E.call cf i_Corner_add_row [.io 0, .v (E.var 2)])) (S.ite (E.eq (E.var 1) (E.int 3)) (S.expr (E.call cf i_Corner_add_column [.io 0, .v (E.var 2)])) (S.ite (E.eq (E.var 1) (E.int 4)) (S.expr (E.call cf i_Corner_undo_k13 [.io 0])) (S.exprS (E.new cf 2 i_Corner__init [.v (E.idx (E.var 2) (E.int 0)), .v (E.idx (E.var 2) (E.int 1))]))))))) 4 3) (S.ret (E.ite (E.excNone 3) (E.str [116, 111, 108, 100]) (E.call cf i_l_refusal [.x 3])))))
def d_l_step_k19 : Def := ⟨3, 5, [0], 0, s_l_step_k19⟩
def s_l_growing (cf : Calls) : S := (S.seq (S.ite (E.or (E.ne (E.comp (.one 1) (E.iSeq (E.tup [E.non, (E.int 0), (E.int 8), (E.bl true)])) E.yes (E.call cf i_l_step_k19n [.v E.non, .v (E.int 5), .v (E.tup [(E.var 1), (E.int 0)])])) (E.bin mulD (E.lst [(E.str [115, 105, 122, 101])]) (E.int 4))) (E.ne (E.comp (.one 1) (E.iSeq (E.tup [E.non, (E.int 3), (E.bin subD (E.int 0) (E.int 1)), (E.bl true)])) E.yes (E.call cf i_l_step_k19n [.v E.non, .v (E.int 5), .v (E.tup [(E.int 3), (E.var 1)])])) (E.bin mulD (E.lst [(E.str [99, 111, 114, 110, 101, 114])]) (E.int 4)))) (S.ret (E.bl false)) S.pass) (S.seq (S.asgS 0 (E.new cf 2 i_Corner__init [.v (E.int 3), .v (E.int 1)])) (S.seq (S.ite (E.ne (E.call cf i_l_step_k19 [.io 0, .v (E.int 4), .v (E.int 0)]) (E.str [110, 111, 110, 101])) (S.ret (E.bl false)) S.pass) (S.seq (S.for_ (.one 1) (E.iSeq (E.lst [E.non, (E.int 5), (E.tup [(E.int 2)]), (E.lst []), (E.lst [(E.int 1)]), (E.lst [(E.int 3)]), (E.lst [(E.int 0), (E.int 2)]), (E.lst [(E.bl true)]), (E.lst [(E.str [48])])])) (S.ite (E.ne (E.comp (.one 2) (E.iRange (E.int 4)) E.yes (E.call cf i_l_step_k19 [.io 0, .v (E.var 2), .v (E.var 1)])) (E.bin mulD (E.lst [(E.str [99, 111, 114, 110, 101, 114])]) (E.int 4))) (S.ret (E.bl false)) S.pass)) (S.seq (S.expr (E.call cf i_Corner_add_row [.io 0, .v (E.lst [(E.int 2)])])) (S.seq (S.expr (E.call cf i_Corner_add_column [.io 0, .v (E.lst [(E.int 2), (E.int 0)])])) (S.seq (S.ite (E.or (E.ne (E.comp (.one 2) (E.iRange (E.int 4)) E.yes (E.call cf i_l_step_k19 [.io 0, .v (E.var 2), .v (E.ite (E.inn (E.var 2) (E.tup [(E.int 0), (E.int 2)])) (E.lst [(E.int 1), (E.int 2)]) (E.lst [(E.int 0), (E.int 2)]))])) (E.bin mulD (E.lst [(E.str [99, 111, 114, 110, 101, 114])]) (E.int 4))) (E.ne (E.call cf i_Corner_stands [.io 0]) (E.lst [(E.lst [(E.int 1), (E.int 2)]), (E.lst [(E.int 2), (E.int 0)])]))) (S.ret (E.bl false)) S.pass) (S.seq (S.expr (E.call cf i_Corner_undo_k13 [.io 0])) (S.seq (S.ite (E.or (E.ne (E.call cf i_Corner_stands [.io 0]) (E.lst [(E.lst [(E.int 1)]), (E.lst [(E.int 2)])])) (E.ne (E.call cf i_Corner__len [.io 0]) (E.int 2))) (S.ret (E.bl false)) S.pass) (S.seq (S.tmpApp (E.call cf i_Corner_stands [.io 0]) [(E.int 0)] (E.int 5)) (S.ret (E.and (E.eq (E.call cf i_Corner_lacks_with_column [.io 0, .v (E.lst [(E.int 0), (E.int 1)])]) (E.lst [])) (E.eq (E.comp (.one 3) (E.iSeq (E.slice (E.call cf i_Corner_finish [.io 0]) none (some (E.int 2)))) E.yes (E.idx (E.var 3) (E.int 0))) (E.lst [(E.int 1), (E.int 2)]))))))))))))))
def d_l_growing : Def := ⟨0, 4, [], 0, s_l_growing⟩
def s_law_k19_1 (cf : Calls) : S := (S.seq (S.asg 5 0 (E.lst [(E.lst [(E.int 0), (E.int 1), (E.int 2)]), (E.lst [(E.int 1), (E.int 2), (E.int 0)]), (E.lst [(E.int 2), (E.int 0), (E.int 1)])])) (S.seq (S.ite (E.or (E.ne (E.comp (.one 7) (E.iRange (E.int 11)) E.yes (E.call cf i_l_asked_k19 [.v (E.var 7), .v (E.int 3), .v (E.var 5), .v (E.int 0), .v (E.int 0)])) (E.bin addD (E.bin mulD (E.lst [(E.str [116, 111, 108, 100])]) (E.int 7)) (E.bin mulD (E.lst [(E.str [110, 111, 110, 101])]) (E.int 4)))) (E.ne (E.call cf i_finished [.v (E.int 3), .v (E.var 5)]) (E.var 5))) (S.ret (E.bl false)) S.pass) (S.seq (S.for_ (.one 2) (E.iSeq (E.lst [E.non, (E.int 2), (E.bin subD (E.int 0) (E.int 1)), (E.bl true)])) (S.ite (E.or (E.ne (E.call cf i_l_asked_k19 [.v (E.int 10), .v (E.int 3), .v (E.lst [(E.lst [(E.int 0), (E.int 1)])]), .v (E.var 2), .v (E.int 0)]) (E.str [99, 104, 111, 105, 99, 101])) (E.ne (E.call cf i_l_asked_k19 [.v (E.int 10), .v (E.int 3), .v (E.lst [(E.lst [(E.int 0), (E.int 1)])]), .v (E.int 0), .v (E.ite (E.eq (E.var 2) (E.int 2)) (E.int 3) (E.var 2))]) (E.str [99, 104, 111, 105, 99, 101]))) (S.ret (E.bl false)) S.pass)) (S.seq (S.ite (E.or (E.ne (E.call cf i_must_stand [.v (E.int 3), .v (E.lst [(E.lst [(E.int 0), (E.int 1)])])]) (E.lst [(E.int 2)])) (E.or (E.ne (E.call cf i_choices [.v (E.int 3), .v (E.lst [(E.lst [(E.int 0), (E.int 1)])])]) (E.lst [(E.lst [(E.int 1), (E.int 2)]), (E.lst [(E.int 0), (E.int 2)])])) (E.ne (E.call cf i_choices [.v (E.int 3), .v (E.slice (E.var 5) none (some (E.int 2)))]) (E.lst [(E.lst [(E.int 2)]), (E.lst [(E.int 0)]), (E.lst [(E.int 1)])])))) (S.ret (E.bl false)) S.pass) (S.seq (S.asg 6 0 (E.call cf i_l_draw [.io 1, .v (E.int 3)])) (S.ret (E.and (E.call cf i_l_growing []) (E.and (E.call cf i_l_is [.v (E.call cf i_may_stand [.v (E.int 3), .v (E.lst [(E.lst [(E.int 0), (E.int 1)])]), .v (E.int 0), .v (E.var 6)]), .v (E.ne (E.var 6) (E.int 0))]) (E.and (E.isb true (E.call cf i_is_corner [.v (E.int 1), .v (E.lst [(E.lst [(E.int 0)])])])) (E.eq (E.call cf i_lacking [.v (E.int 4), .v (E.lst [(E.lst [(E.int 0), (E.int 1)]), (E.lst [(E.int 1), (E.int 0)])])]) (E.lst [])))))))))))
def s_law_k19 (cf : Calls) : S := (S.seq (S.asg 1 2 (E.call cf i_l_town [.x 0])) (S.seq (S.for_ (.one 2) (E.iSeq (E.lst [E.non, (E.int 0), (E.int 8), (E.bl true), (E.str [51])])) (S.ite (E.ne (E.comp (.one 7) (E.iRange (E.int 11)) E.yes (E.call cf i_l_asked_k19 [.v (E.var 7), .v (E.var 2), .v E.non, .v E.non, .v E.non])) (E.bin mulD (E.lst [(E.str [115, 105, 122, 101])]) (E.int 11))) (S.ret (E.bl false)) S.pass)) (S.seq (S.asg 3 0 (E.lst [E.non, (E.int 5), (E.lst []), (E.lst [(E.lst [])]), (E.lst [(E.lst [(E.int 0), (E.int 0)])]), (E.lst [(E.lst [(E.int 0)]), (E.lst [(E.int 0)])]), (E.lst [(E.lst [(E.int 3)])]), (E.lst [(E.lst [(E.int 0), (E.int 1)]), (E.lst [(E.int 1)])]), (E.lst [(E.tup [(E.int 0), (E.int 1)])]), (E.tup [(E.lst [(E.int 0), (E.int 1)])]), (E.lst [(E.lst [(E.int 0)]), (E.lst [(E.int 1)]), (E.lst [(E.int 2)]), (E.lst [(E.int 0)])]), (E.lst [(E.lst [(E.int 0), (E.int 1), (E.int 2), (E.int 0)])]), (E.lst [(E.lst [(E.bl true)])]), (E.lst [(E.lst [(E.int 0), (E.int 1)]), (E.lst [(E.int 2), (E.int 1)])])])) (S.seq (S.for_ (.one 2) (E.iSeq (E.var 3)) (S.ite (E.or (E.ne (E.comp (.one 7) (E.iRange (E.int 11)) E.yes (E.call cf i_l_asked_k19 [.v (E.var 7), .v (E.int 3), .v (E.var 2), .v E.non, .v E.non])) (E.bin mulD (E.lst [(E.str [99, 111, 114, 110, 101, 114])]) (E.int 11))) (E.notb false (E.call cf i_is_corner [.v (E.int 3), .v (E.var 2)]))) (S.ret (E.bl false)) S.pass)) (S.seq (S.asg 4 0 (E.lst [(E.lst [(E.int 0), (E.int 1)]), (E.lst [(E.int 1), (E.int 0)])])) (S.seq (S.ite (E.or (E.ne (E.comp (.one 7) (E.iRange (E.int 11)) E.yes (E.call cf i_l_asked_k19 [.v (E.var 7), .v (E.int 3), .v (E.var 4), .v (E.int 0), .v (E.int 0)])) (E.bin addD (E.bin mulD (E.lst [(E.str [116, 111, 108, 100])]) (E.int 5)) (E.bin mulD (E.lst [(E.str [99, 111, 114, 110, 101, 114])]) (E.int 6)))) (E.or (E.ne (E.call cf i_lacking [.v (E.int 3), .v (E.var 4)]) (E.lst [(E.tup [(E.int 2), (E.int 0), (E.int 1)])])) (E.ne (E.call cf i_highest [.v (E.int 3), .v (E.var 4)]) (E.int 1)))) (S.ret (E.bl false)) S.pass) (s_law_k19_1 cf)))))))
def d_law_k19 : Def := ⟨1, 8, [], 0, s_law_k19⟩
def s_l_step_k19n (cf : Calls) : S := (S.seq (S.asg 3 0 E.non) (S.seq (S.tryc (S.ite (E.eq (E.var 1) (E.int 0)) (S.expr E.never) (S.ite (E.eq (E.var 1) (E.int 1)) (S.expr E.never) (S.ite (E.eq (E.var 1) (E.int 2)) (S.expr E.never) (S.ite (E.eq (E.var 1) (E.int 3)) (S.expr E.never) (S.ite (E.eq (E.var 1) (E.int 4)) (S.expr E.never) (S.exprS (E.new cf 2 i_Corner__init [.v (E.idx (E.var 2) (E.int 0)), .v (E.idx (E.var 2) (E.int 1))]))))))) 4 3) (S.ret (E.ite (E.excNone 3) (E.str [116, 111, 108, 100]) (E.call cf i_l_refusal [.x 3])))))
def d_l_step_k19n : Def := ⟨3, 5, [], 0, s_l_step_k19n⟩
def tbl : List Def := [d_is_whole, d_look_size, d_is_table, d_columns_of, d_is_square, d_look_square, d_even_square, d_where, d_l_town, d_l_draw, d_l_is, d_l_order, d_l_square, d_l_is_square, d_law_k01, d_are_widths, d_look_widths, d_lot_of, d_counts_of, d_outline_of, d_is_sketch, d_look_sketch, d_wrong_sums, d_bars, d_is_outline, d_size_of, d_l_pick, d_l_side, d_l_widths, d_l_lots, d_l_counts, d_l_bars, d_l_sketch, d_law_k02, d_look_outline, d_Rounding__init, d_Rounding_is_broken, d_Rounding_lead, d_Rounding_shared, d_shared, d_turn_sides, d_with_split, d_split, d_all_apart, d_square_of, d_l_refusal, d_l_told_k03, d_law_k03, d_look_lot, d_taken_apart, d_put_together, d_l_told_k04, d_law_k04, d_coarsened, d_l_told_k05, d_l_joined, d_l_ends, d_law_k05, d_grown, d_all_squares, d_look_small, d_squares_of, d_how_many, d_l_rows, d_l_all, d_law_k06, d_is_corner, d_corner_fits, d_look_corner, d_often_in, d_least_often, d_too_seldom, d_lacking, d_goes_on, d_sketch_of, d_outline_of_corner, d_finished, d_highest, d_turned_corner, d_l_corner, d_l_often, d_l_lacks, d_l_filled, d_l_told_k07, d_law_k07, d_l_fills, d_law_k08, d_look_open, d_pressed, d_Matching__init, d_Matching_seat, d_Matching_fill, d_Matching_found, d_must_stand, d_next_row, d_may_stand, d_choices, d_law_k09, d_least_square, d_sure_lots, d_square_at, d_l_told_k10, d_law_k10, d_is_order, d_look_sides, d_exchanged, d_outline_exchanged, d_l_exchanged, d_law_k11, d_renamed, d_plain, d_first_unlike, d_l_plain, d_law_k12, d_Corner__init, d_Corner_with_row, d_Corner_with_column, d_Corner_look, d_Corner_lacks_with_row, d_Corner_lacks_with_column, d_Corner_put, d_Corner_add_row, d_Corner_add_column, d_Corner_undo_k13, d_Corner_stands, d_Corner_finish, d_Corner__len, d_l_step_k13, d_l_asked_k13, d_l_fine, d_law_k13, d_wall, d_Corner_undo_k14, d_law_k14, d_Taking__init, d_Taking_look_open, d_Taking_is_choice, d_Taking_may_take, d_Taking_take, d_Taking_take_any_k15, d_Taking_undo_k15, d_Taking_stands, d_Taking__len, d_l_step_k15, d_l_front, d_l_good, d_l_mix, d_l_left, d_law_k15, d_Taking_take_any_k16, d_l_choice, d_law_k16, d_corner_text, d_corner_read, d_outline_text, d_number_in, d_outline_read, d_l_lines, d_l_words, d_l_read, d_l_none, d_law_k17, d_Taking_undo_k18, d_l_does_k18, d_l_asked_k18, d_l_squared, d_l_squares, d_l_steps_refused, d_l_take, d_l_choices_refused, d_law_k18, d_l_does_k19, d_l_asked_k19, d_l_step_k19, d_l_growing, d_law_k19, d_l_step_k19n]
def run : Nat → Calls
  | 0, _, _ => .stuck
  | n + 1, f, as => match tbl[f]? with
    | some d => d.run (run n) as
    | none => .stuck
end O
end
section
set_option Elab.async false
set_option linter.all false
set_option maxRecDepth 100000
/-! Sound1: what stands in the heap for a datum; environments; the step; what is wanted behind an expression. -/
namespace O
open PySem PySem.Spec PyProof.Rows L2

theorem nm_of {i : Nat} {l : List Nat} (h : l.contains i = false) : i ∉ l := fun z => by
  rw [List.contains_iff_mem.mpr z] at h
  cases h
def nodupB : List Nat → Bool
  | [] => true
  | x :: l => !l.contains x && nodupB l
theorem nd_of : ∀ {l : List Nat}, nodupB l = true → l.Nodup
  | [], _ => List.nodup_nil
  | x :: l, h => by
    have h : (!l.contains x && nodupB l) = true := h
    obtain ⟨h1, h2⟩ := Bool.and_eq_true_iff.mp h
    exact List.nodup_cons.mpr ⟨nm_of (by simpa using h1), nd_of h2⟩
theorem nms_of {a l : List Nat} (h : (a.all fun i => !l.contains i) = true) : ∀ i, i ∈ a → i ∉ l := fun i hi => nm_of (by simpa using List.all_eq_true.mp h i hi)
/-- what a law's text has: the written part, the classes of errors, of objects, the fields' names -/
structure Tab where
  K : PySem.W.Frag
  xc : Nat → Addr
  oc : Nat → Addr
  fn : Nat → PySem.Str
  /-- the defs that the text has, their names -/
  pr : Nat → Bool
  nm : Nat → PySem.Str
  /-- the classes of errors that the text has, their names -/
  xp : Nat → Bool
  xn : Nat → PySem.Str
  /-- constants of the modules: there, their names, what they are -/
  cp : Nat → Bool
  cn : Nat → PySem.Str
  cd : Nat → D

abbrev AP1 := Addr → Prop
/-- all but P is kept -/
structure Kp (P : AP1) (H H' : Hp) : Prop where
  old : ∀ a o, H a = some o → ¬ P a → H' a = some o
  tup : ∀ a xs, H a = some (.tup xs) → H' a = some (.tup xs)
  frz : ∀ a o u, H a = some (.frz o u) → H' a = some (.frz o u)
  dom : ∀ a, H a ≠ none → H' a ≠ none
theorem Kp.refl {P : AP1} {H : Hp} : Kp P H H := ⟨fun _ _ h _ => h, fun _ _ h => h, fun _ _ _ h => h, fun _ h => h⟩
theorem Kp.trans {P P' : AP1} {H H1 H2 : Hp} (a : Kp P H H1) (b : Kp P' H1 H2) {R : AP1} (h1 : ∀ x, P x → R x) (h2 : ∀ x, H x ≠ none → P' x → R x) : Kp R H H2 where
  old := fun x o e n => b.old x o (a.old x o e fun z => n (h1 x z)) fun z => n (h2 x (by rw [e]; simp) z)
  tup := fun x xs e => b.tup x xs (a.tup x xs e)
  frz := fun x o u e => b.frz x o u (a.frz x o u e)
  dom := fun x e => b.dom x (a.dom x e)
theorem Kp.mono {P P' : AP1} {H H1 : Hp} (a : Kp P H H1) (h : ∀ x, P x → P' x) : Kp P' H H1 := ⟨fun x o e n => a.old x o e fun z => n (h x z), a.tup, a.frz, a.dom⟩
/-- only new things -/
def Ext (H H' : Hp) : Prop := ∀ a o, H a = some o → H' a = some o
theorem Ext.refl {H : Hp} : Ext H H := fun _ _ h => h
theorem Ext.trans {H H1 H2 : Hp} (a : Ext H H1) (b : Ext H1 H2) : Ext H H2 := fun x o e => b x o (a x o e)
theorem Ext.dom {H H' : Hp} (x : Ext H H') : ∀ a, H a ≠ none → H' a ≠ none := fun a h => by
  cases e : H a with
  | none => exact absurd e h
  | some o => rw [x a o e]; simp
theorem Ext.kp {P : AP1} {H H' : Hp} (x : Ext H H') : Kp P H H' := ⟨fun a o e _ => x a o e, fun a xs e => x a _ e, fun a o u e => x a _ e, x.dom⟩
theorem Ext.upd {H : Hp} {p : Addr} {o : HO} (h : H p = none) : Ext H (upd H p o) := fun a u e => by
  rw [upd_ne (ne_of_none e h)]; exact e

mutual
/-- v stands for d; the lists lie outside of P -/
inductive Rep (K : PySem.W.Frag) (P : AP1) (H : Hp) : V → D → Prop
  | non : Rep K P H .non .non
  | bl (b : Bool) : Rep K P H (.bl b) (.bl b)
  | int (i : Int) : Rep K P H (.int i) (.int i)
  | str (s : List Nat) : s.length ≤ LIM → (s.all fun c => decide (c < 128)) = true → Rep K P H (.str ⟨s.toArray⟩) (.str s)
  | lst {a : Addr} {vs : List V} {ds : List D} : H a = some (.lst vs) → ¬ P a → Reps K P H vs ds → Rep K P H (.ref a) (.lst ds)
  | tup {a : Addr} {vs : List V} {ds : List D} : SqT K H a vs → Reps K P H vs ds → Rep K P H (.ref a) (.tup ds)
inductive Reps (K : PySem.W.Frag) (P : AP1) (H : Hp) : List V → List D → Prop
  | nil : Reps K P H [] []
  | cons {v : V} {d : D} {vs : List V} {ds : List D} : Rep K P H v d → Reps K P H vs ds → Reps K P H (v :: vs) (d :: ds)
end
theorem SqT.kp {K : PySem.W.Frag} {P : AP1} {H H' : Hp} {a : Addr} {vs : List V} (x : Kp P H H') (h : SqT K H a vs) : SqT K H' a vs := by
  rcases h with (h | ⟨o, h⟩) | h
  · exact .inl (.inl (x.tup a vs h))
  · exact .inl (.inr ⟨o, x.frz a o _ h⟩)
  · exact .inr h
theorem SqL.ext {K : PySem.W.Frag} {H H' : Hp} {a : Addr} {vs : List V} (x : Ext H H') (h : SqL K H a vs) : SqL K H' a vs := by
  rcases h with (h | ⟨o, h⟩) | h
  · exact .inl (.inl (x a _ h))
  · exact .inl (.inr ⟨o, x a _ h⟩)
  · exact .inr h
section
variable {K : PySem.W.Frag} {P P' : AP1} {H H' : Hp}
mutual
theorem Rep.keep (x : Kp P H H') (hp : ∀ a, H a ≠ none → P' a → P a) : ∀ {v : V} {d : D}, Rep K P H v d → Rep K P' H' v d
  | _, _, .non => .non
  | _, _, .bl b => .bl b
  | _, _, .int i => .int i
  | _, _, .str s h h2 => .str s h h2
  | _, _, .lst h n r => .lst (x.old _ _ h n) (fun z => n (hp _ (by rw [h]; simp) z)) (Reps.keep x hp r)
  | _, _, .tup h r => .tup (SqT.kp x h) (Reps.keep x hp r)
theorem Reps.keep (x : Kp P H H') (hp : ∀ a, H a ≠ none → P' a → P a) : ∀ {vs : List V} {ds : List D}, Reps K P H vs ds → Reps K P' H' vs ds
  | _, _, .nil => .nil
  | _, _, .cons r t => .cons (Rep.keep x hp r) (Reps.keep x hp t)
end
end
/-- v stands for d, whoever owns it -/
abbrev RepW (K : PySem.W.Frag) (H : Hp) (v : V) (d : D) : Prop := Rep K (fun _ => False) H v d
abbrev RepsW (K : PySem.W.Frag) (H : Hp) (v : List V) (d : List D) : Prop := Reps K (fun _ => False) H v d
theorem Rep.weak {K : PySem.W.Frag} {P : AP1} {H : Hp} {v : V} {d : D} (r : Rep K P H v d) : RepW K H v d := r.keep Kp.refl fun _ _ z => z.elim
theorem Reps.weak {K : PySem.W.Frag} {P : AP1} {H : Hp} {v : List V} {d : List D} (r : Reps K P H v d) : RepsW K H v d := r.keep Kp.refl fun _ _ z => z.elim
theorem Reps.length {K : PySem.W.Frag} {P : AP1} {H : Hp} : ∀ {vs : List V} {ds : List D}, Reps K P H vs ds → vs.length = ds.length
  | _, _, .nil => rfl
  | _, _, .cons _ t => congrArg Nat.succ (Reps.length t)
theorem Reps.get {K : PySem.W.Frag} {P : AP1} {H : Hp} : ∀ {vs : List V} {ds : List D} {i : Nat} {d : D}, Reps K P H vs ds → ds[i]? = some d → ∃ v, vs[i]? = some v ∧ Rep K P H v d
  | _, _, _, _, .nil, e => by simp at e
  | _, _, 0, _, .cons r _, e => by simp at e; subst e; exact ⟨_, rfl, r⟩
  | _, _, i + 1, _, .cons _ t, e => by
    obtain ⟨v, h1, h2⟩ := Reps.get (i := i) t (by simpa using e)
    exact ⟨v, by simpa using h1, h2⟩
theorem Reps.get' {K : PySem.W.Frag} {P : AP1} {H : Hp} : ∀ {vs : List V} {ds : List D} {i : Nat} {v : V}, Reps K P H vs ds → vs[i]? = some v → ∃ d, ds[i]? = some d ∧ Rep K P H v d
  | _, _, _, _, .nil, e => by simp at e
  | _, _, 0, _, .cons r _, e => by simp at e; subst e; exact ⟨_, rfl, r⟩
  | _, _, i + 1, _, .cons _ t, e => by
    obtain ⟨v, h1, h2⟩ := Reps.get' (i := i) t (by simpa using e)
    exact ⟨v, by simpa using h1, h2⟩
theorem Reps.app {K : PySem.W.Frag} {P : AP1} {H : Hp} : ∀ {vs ws : List V} {ds es : List D}, Reps K P H vs ds → Reps K P H ws es → Reps K P H (vs ++ ws) (ds ++ es)
  | _, _, _, _, .nil, s => s
  | _, _, _, _, .cons r t, s => .cons r (Reps.app t s)
theorem Reps.take {K : PySem.W.Frag} {P : AP1} {H : Hp} : ∀ {vs : List V} {ds : List D} (n : Nat), Reps K P H vs ds → Reps K P H (vs.take n) (ds.take n)
  | _, _, 0, _ => by simp; exact .nil
  | _, _, _ + 1, .nil => .nil
  | _, _, n + 1, .cons r t => .cons r (Reps.take n t)
theorem Reps.drop {K : PySem.W.Frag} {P : AP1} {H : Hp} : ∀ {vs : List V} {ds : List D} (n : Nat), Reps K P H vs ds → Reps K P H (vs.drop n) (ds.drop n)
  | _, _, 0, r => r
  | _, _, _ + 1, .nil => .nil
  | _, _, n + 1, .cons _ t => Reps.drop n t
theorem Reps.set {K : PySem.W.Frag} {P : AP1} {H : Hp} {v : V} {d : D} (x : Rep K P H v d) : ∀ {vs : List V} {ds : List D} (n : Nat), Reps K P H vs ds → Reps K P H (vs.set n v) (ds.set n d)
  | _, _, _, .nil => .nil
  | _, _, 0, .cons _ t => .cons x t
  | _, _, n + 1, .cons r t => .cons r (Reps.set x n t)
theorem Reps.rep {K : PySem.W.Frag} {P : AP1} {H : Hp} {vs : List V} {ds : List D} (h : Reps K P H vs ds) : ∀ k : Nat, Reps K P H (List.replicate k vs).flatten (repL ds k)
  | 0 => .nil
  | k + 1 => by
    rw [List.replicate_succ, List.flatten_cons]
    exact h.app (Reps.rep h k)
theorem Reps.dropLast {K : PySem.W.Frag} {P : AP1} {H : Hp} {vs : List V} {ds : List D} (h : Reps K P H vs ds) : Reps K P H vs.dropLast ds.dropLast := by
  rw [List.dropLast_eq_take, List.dropLast_eq_take, h.length]
  exact h.take _

/-! ### owned things -/
def All3 {α β γ : Type} (f : α → β → γ → Prop) : List α → List β → List γ → Prop
  | [], [], [] => True
  | a :: as, b :: bs, c :: cs => f a b c ∧ All3 f as bs cs
  | _, _, _ => False
def scalarD : D → Bool
  | .lst _ => false
  | _ => true
/-- d is owned to the depth k by the addresses A -/
def OwnR (K : PySem.W.Frag) (P : AP1) (H : Hp) : Nat → V → D → List Addr → Prop
  | 0, v, d, A => A = [] ∧ Rep K P H v d
  | k + 1, v, d, A => (scalarD d = true ∧ A = [] ∧ Rep K P H v d) ∨ ∃ a vs ds As, v = .ref a ∧ d = .lst ds ∧ H a = some (.lst vs) ∧ A = a :: As.flatten ∧ All3 (OwnR K P H k) vs ds As
def All2 {α β : Type} (f : α → β → Prop) : List α → List β → Prop
  | [], [] => True
  | a :: as, b :: bs => f a b ∧ All2 f as bs
  | _, _ => False
/-- d is lent: whoever owns it to the depth k -/
def BorR (K : PySem.W.Frag) (P : AP1) (H : Hp) : Nat → V → D → Prop
  | 0, v, d => Rep K P H v d
  | k + 1, v, d => Rep K P H v d ∨ ∃ a vs ds, v = .ref a ∧ d = .lst ds ∧ H a = some (.lst vs) ∧ All2 (BorR K P H k) vs ds
theorem All3.mono {α β γ : Type} {f g : α → β → γ → Prop} : ∀ {as : List α} {bs : List β} {cs : List γ}, (∀ a b c, a ∈ as → c ∈ cs → f a b c → g a b c) → All3 f as bs cs → All3 g as bs cs
  | [], [], [], _, _ => trivial
  | a :: as, b :: bs, c :: cs, h, ⟨x, y⟩ => ⟨h a b c List.mem_cons_self List.mem_cons_self x, All3.mono (fun a b c ha hc => h a b c (List.mem_cons_of_mem _ ha) (List.mem_cons_of_mem _ hc)) y⟩
  | [], [], _ :: _, _, z => z.elim
  | [], _ :: _, _, _, z => z.elim
  | _ :: _, [], _, _, z => z.elim
  | _ :: _, _ :: _, [], _, z => z.elim
theorem All2.mono {α β : Type} {f g : α → β → Prop} : ∀ {as : List α} {bs : List β}, (∀ a b, f a b → g a b) → All2 f as bs → All2 g as bs
  | [], [], _, _ => trivial
  | _ :: _, _ :: _, h, ⟨x, y⟩ => ⟨h _ _ x, All2.mono h y⟩
  | [], _ :: _, _, z => z.elim
  | _ :: _, [], _, z => z.elim
theorem OwnR.keep {K : PySem.W.Frag} {P P' : AP1} {H H' : Hp} (x : Kp P H H') (hp : ∀ a, H a ≠ none → P' a → P a) : ∀ (k : Nat) {v : V} {d : D} {A : List Addr}, (∀ a ∈ A, H' a = H a) → OwnR K P H k v d A → OwnR K P' H' k v d A
  | 0, _, _, _, _, ⟨e, r⟩ => ⟨e, r.keep x hp⟩
  | k + 1, _, _, _, hA, .inl ⟨h1, h2, r⟩ => .inl ⟨h1, h2, r.keep x hp⟩
  | k + 1, _, _, A, hA, .inr ⟨a, vs, ds, As, e1, e2, e3, e4, r⟩ => by
    refine .inr ⟨a, vs, ds, As, e1, e2, ?_, e4, ?_⟩
    · rw [hA a (by rw [e4]; exact List.mem_cons_self)]; exact e3
    · refine All3.mono (fun v d B _ hB r => OwnR.keep x hp k (fun b hb => hA b ?_) r) r
      rw [e4]
      exact List.mem_cons_of_mem _ (List.mem_flatten.mpr ⟨B, hB, hb⟩)
theorem BorR.keep {K : PySem.W.Frag} {P P' : AP1} {H H' : Hp} (x : Ext H H') (hp : ∀ a, H a ≠ none → P' a → P a) : ∀ (k : Nat) {v : V} {d : D}, BorR K P H k v d → BorR K P' H' k v d
  | 0, _, _, r => Rep.keep x.kp hp r
  | k + 1, _, _, .inl r => .inl (Rep.keep x.kp hp r)
  | k + 1, _, _, .inr ⟨a, vs, ds, e1, e2, e3, r⟩ => .inr ⟨a, vs, ds, e1, e2, x a _ e3, r.mono fun v d q => BorR.keep x hp k q⟩
theorem All3.reps {K : PySem.W.Frag} {P : AP1} {H : Hp} {f : V → D → List Addr → Prop} : ∀ {vs : List V} {ds : List D} {As : List (List Addr)}, (∀ v d A, A ∈ As → f v d A → Rep K P H v d) → All3 f vs ds As → Reps K P H vs ds
  | [], [], [], _, _ => .nil
  | _ :: _, _ :: _, _ :: _, h, ⟨x, y⟩ => .cons (h _ _ _ List.mem_cons_self x) (All3.reps (fun v d A hA => h v d A (List.mem_cons_of_mem _ hA)) y)
  | [], [], _ :: _, _, z => z.elim
  | [], _ :: _, _, _, z => z.elim
  | _ :: _, [], _, _, z => z.elim
  | _ :: _, _ :: _, [], _, z => z.elim
theorem All2.reps {K : PySem.W.Frag} {P : AP1} {H : Hp} {f : V → D → Prop} : ∀ {vs : List V} {ds : List D}, (∀ v d, f v d → Rep K P H v d) → All2 f vs ds → Reps K P H vs ds
  | [], [], _, _ => .nil
  | _ :: _, _ :: _, h, ⟨x, y⟩ => .cons (h _ _ x) (All2.reps h y)
  | [], _ :: _, _, z => z.elim
  | _ :: _, [], _, z => z.elim
theorem All2.of_reps {K : PySem.W.Frag} {P : AP1} {H : Hp} : ∀ {vs : List V} {ds : List D}, Reps K P H vs ds → All2 (Rep K P H) vs ds
  | _, _, .nil => trivial
  | _, _, .cons r t => ⟨r, All2.of_reps t⟩
/-- what is owned outside of P' is solid there -/
theorem OwnR.rep {K : PySem.W.Frag} {P P' : AP1} {H : Hp} (hp : ∀ a, H a ≠ none → P' a → P a) : ∀ (k : Nat) {v : V} {d : D} {A : List Addr}, (∀ a ∈ A, ¬ P' a) → OwnR K P H k v d A → Rep K P' H v d
  | 0, _, _, _, _, ⟨_, r⟩ => r.keep Kp.refl hp
  | _ + 1, _, _, _, _, .inl ⟨_, _, r⟩ => r.keep Kp.refl hp
  | k + 1, _, _, _, hA, .inr ⟨a, vs, ds, As, e1, e2, e3, e4, r⟩ => by
    subst e1 e2 e4
    exact .lst e3 (hA a List.mem_cons_self) (r.reps fun v d B hB q => OwnR.rep hp k (fun b hb => hA b (List.mem_cons_of_mem _ (List.mem_flatten.mpr ⟨B, hB, hb⟩))) q)
theorem OwnR.weak {K : PySem.W.Frag} {P : AP1} {H : Hp} {k : Nat} {v : V} {d : D} {A : List Addr} (r : OwnR K P H k v d A) : RepW K H v d := r.rep (P' := fun _ => False) (fun _ _ z => z.elim) k fun _ _ z => z
theorem BorR.weak {K : PySem.W.Frag} {P : AP1} {H : Hp} : ∀ (k : Nat) {v : V} {d : D}, BorR K P H k v d → RepW K H v d
  | 0, _, _, r => Rep.weak r
  | _ + 1, _, _, .inl r => Rep.weak r
  | k + 1, _, _, .inr ⟨a, vs, ds, e1, e2, e3, r⟩ => by
    subst e1 e2
    exact .lst e3 (fun z => z) (r.reps fun v d q => BorR.weak k q)
theorem All3.all2 {α β γ : Type} {f : α → β → γ → Prop} {g : α → β → Prop} : ∀ {as : List α} {bs : List β} {cs : List γ}, (∀ a b c, f a b c → g a b) → All3 f as bs cs → All2 g as bs
  | [], [], [], _, _ => trivial
  | _ :: _, _ :: _, _ :: _, h, ⟨x, y⟩ => ⟨h _ _ _ x, All3.all2 h y⟩
  | [], [], _ :: _, _, z => z.elim
  | [], _ :: _, _, _, z => z.elim
  | _ :: _, [], _, _, z => z.elim
  | _ :: _, _ :: _, [], _, z => z.elim
theorem OwnR.bor {K : PySem.W.Frag} {P : AP1} {H : Hp} : ∀ (k : Nat) {v : V} {d : D} {A : List Addr}, OwnR K P H k v d A → BorR K P H k v d
  | 0, _, _, _, ⟨_, r⟩ => r
  | _ + 1, _, _, _, .inl ⟨_, _, r⟩ => .inl r
  | k + 1, _, _, _, .inr ⟨a, vs, ds, As, e1, e2, e3, e4, r⟩ => .inr ⟨a, vs, ds, e1, e2, e3, r.all2 fun v d A q => OwnR.bor k q⟩
theorem All3.memC {α β γ : Type} {f : α → β → γ → Prop} {c : γ} : ∀ {as : List α} {bs : List β} {cs : List γ}, All3 f as bs cs → c ∈ cs → ∃ a b, f a b c
  | [], [], [], _, h => nomatch h
  | a :: _, b :: _, _ :: _, ⟨x, y⟩, h => (List.mem_cons.mp h).elim (fun z => ⟨a, b, z ▸ x⟩) fun z => All3.memC y z
  | [], [], _ :: _, z, _ => z.elim
  | [], _ :: _, _, z, _ => z.elim
  | _ :: _, [], _, z, _ => z.elim
  | _ :: _, _ :: _, [], z, _ => z.elim
theorem OwnR.dom {K : PySem.W.Frag} {P : AP1} {H : Hp} : ∀ (k : Nat) {v : V} {d : D} {A : List Addr}, OwnR K P H k v d A → ∀ a ∈ A, H a ≠ none
  | 0, _, _, _, ⟨e, _⟩, a, h => by rw [e] at h; cases h
  | _ + 1, _, _, _, .inl ⟨_, e, _⟩, a, h => by rw [e] at h; cases h
  | k + 1, _, _, _, .inr ⟨b, vs, ds, As, e1, e2, e3, e4, r⟩, a, h => by
    rw [e4] at h
    rcases List.mem_cons.mp h with z | z
    · rw [z, e3]; simp
    · obtain ⟨B, hB, hb⟩ := List.mem_flatten.mp z
      obtain ⟨v, d, q⟩ := r.memC hB
      exact OwnR.dom k q a hb
end O
end
section
set_option Elab.async false
set_option linter.all false
set_option maxRecDepth 100000
/-! Sound2: slots, environments, the step, the wish behind an expression, the judgement. -/
namespace O
open PySem PySem.Spec PyProof.Rows L2

abbrev St := L2.St
/-- the script: a list that nobody here changes -/
def ScrR (K : PySem.W.Frag) (P : AP1) (H : Hp) (a : Addr) (xs : List V) : Prop := (H a = some (.lst xs) ∧ ¬ P a) ∨ (∃ o, H a = some (.frz o (.lst xs))) ∨
  ∃ (o : Obj) (its : Array Value) (n : Nat), K.lookup a = some o ∧ o.cls = .type "list" ∧ o.dict = none ∧ o.data = .seq its n ∧ its.size ≤ sizeLine ∧ Vals xs its.toList
theorem ScrR.sq {K : PySem.W.Frag} {P : AP1} {H : Hp} {a : Addr} {xs : List V} (h : ScrR K P H a xs) : SqL K H a xs := by
  rcases h with ⟨h, _⟩ | h | h
  · exact .inl (.inl h)
  · exact .inl (.inr h)
  · exact .inr h
theorem ScrR.keep {K : PySem.W.Frag} {P P' : AP1} {H H' : Hp} {a : Addr} {xs : List V} (x : Kp P H H') (hp : ∀ a, H a ≠ none → P' a → P a) (h : ScrR K P H a xs) : ScrR K P' H' a xs := by
  rcases h with ⟨h, n⟩ | ⟨o, h⟩ | h
  · exact .inl ⟨x.old _ _ h n, fun z => n (hp a (by rw [h]; simp) z)⟩
  · exact .inr (.inl ⟨o, x.frz _ _ _ h⟩)
  · exact .inr (.inr h)
/-- an error of a class that was caught and is held -/
def ErrO (cls : Value) (a : Addr) : HO := .ext fun h => ∃ oe : Obj, h.get? a = some oe ∧ Zc cls none oe ∧ ∃ vs : Array Value, oe.data = .fields vs
def FldR (K : PySem.W.Frag) (P : AP1) (H : Hp) (v : V) (f : Nat × Fld) (A : List Addr) : Prop := match f.2 with
  | .val k d => OwnR K P H k v d A
  | .dT ks => ∃ a, v = .ref a ∧ A = [a] ∧ H a = some (.dT (ks.map fun p => ([Sum.inl p.1, Sum.inl p.2], V.bl true)))
def zipF (T : Tab) (fs : List (Nat × Fld)) (vs : List V) : List (PySem.Str × V) := (fs.map fun f => T.fn f.1).zip vs
def SlotR (T : Tab) (bo : Bool) (P : AP1) (H : Hp) (ov : Option V) : Slot → List Addr → Prop
  | .no, A => A = []
  | .val k d, A => ∃ v, ov = some v ∧ OwnR T.K P H k v d A
  | .bor k d, A => A = [] ∧ bo = true ∧ ∃ v, ov = some v ∧ BorR T.K P H k v d
  | .exc c, A => A = [] ∧ ∃ a, ov = some (.ref a) ∧ H a = some (ErrO (.ref (T.xc c)) a) ∧ ¬ P a
  | .dI ks, A => ∃ a, ov = some (.ref a) ∧ A = [a] ∧ H a = some (.dK (ks.map fun n => (Sum.inl n, V.bl true)))
  | .obj c fs, A => ∃ a dx vs As, ov = some (.ref a) ∧ H a = some (.ins (T.oc c) dx (zipF T fs vs)) ∧ H dx = some (.own a) ∧ A = a :: dx :: As.flatten ∧ All3 (FldR T.K P H) vs fs As
  | .scr ns, A => A = [] ∧ ∃ a, ov = some (.ref a) ∧ ScrR T.K P H a (ns.map V.int)

/-- owned by a slot, or by a caller -/
def PO (Oc : AP1) (As : Nat → List Addr) : AP1 := fun a => (∃ i, a ∈ As i) ∨ Oc a
def upA (As : Nat → List Addr) (i : Nat) (A : List Addr) : Nat → List Addr := fun j => if j = i then A else As j
theorem upA_same {As : Nat → List Addr} {i : Nat} {A : List Addr} : upA As i A i = A := if_pos rfl
theorem upA_ne {As : Nat → List Addr} {i j : Nat} {A : List Addr} (h : j ≠ i) : upA As i A j = As j := if_neg h

structure EnvR (T : Tab) (bo : Bool) (Oc : AP1) (H : Hp) (σ : St) (r : Env) (As : Nat → List Addr) : Prop where
  len : r.length = σ.length
  sl : ∀ i, SlotR T bo (PO Oc As) H (σ[i]?.join) (getS r i) (As i)
  nd : ∀ i, (As i).Nodup
  dj : ∀ i j a, a ∈ As i → a ∈ As j → i = j
  oc : ∀ i a, a ∈ As i → ¬ Oc a
  od : ∀ a, Oc a → H a ≠ none

theorem FldR.keep {K : PySem.W.Frag} {P P' : AP1} {H H' : Hp} (x : Kp P H H') (hp : ∀ a, H a ≠ none → P' a → P a) {v : V} {f : Nat × Fld} {A : List Addr} (hA : ∀ a ∈ A, H' a = H a) (h : FldR K P H v f A) : FldR K P' H' v f A := by
  obtain ⟨n, f⟩ := f
  cases f with
  | val k d => exact OwnR.keep x hp k hA h
  | dT ks =>
    obtain ⟨a, e1, e2, e3⟩ := h
    exact ⟨a, e1, e2, by rw [hA a (by rw [e2]; exact List.mem_cons_self)]; exact e3⟩
theorem FldR.dom {K : PySem.W.Frag} {P : AP1} {H : Hp} {v : V} {f : Nat × Fld} {A : List Addr} (h : FldR K P H v f A) : ∀ a ∈ A, H a ≠ none := by
  obtain ⟨n, f⟩ := f
  cases f with
  | val k d => exact OwnR.dom k h
  | dT ks =>
    obtain ⟨a, e1, e2, e3⟩ := h
    intro b hb
    rw [e2] at hb
    rw [List.mem_singleton.mp hb, e3]; simp
theorem SlotR.dom {T : Tab} {bo : Bool} {P : AP1} {H : Hp} {ov : Option V} {s : Slot} {A : List Addr} (h : SlotR T bo P H ov s A) : ∀ a ∈ A, H a ≠ none := by
  cases s with
  | no => intro a ha; rw [show A = [] from h] at ha; cases ha
  | val k d => obtain ⟨v, _, r⟩ := h; exact OwnR.dom k r
  | bor k d => intro a ha; rw [h.1] at ha; cases ha
  | exc c => intro a ha; rw [h.1] at ha; cases ha
  | scr ns => intro a ha; rw [h.1] at ha; cases ha
  | dI ks =>
    obtain ⟨a, _, e2, e3⟩ := h
    intro b hb
    rw [e2] at hb
    rw [List.mem_singleton.mp hb, e3]; simp
  | obj c fs =>
    obtain ⟨a, dx, vs, As, e1, e2, e3, e4, r⟩ := h
    intro b hb
    rw [e4] at hb
    rcases List.mem_cons.mp hb with z | hb
    · rw [z, e2]; simp
    · rcases List.mem_cons.mp hb with z | hb
      · rw [z, e3]; simp
      · obtain ⟨B, hB, h2⟩ := List.mem_flatten.mp hb
        obtain ⟨v, f, q⟩ := r.memC hB
        exact q.dom b h2
/-- a slot whose own things are kept -/
theorem SlotR.keep {T : Tab} {bo : Bool} {P P' : AP1} {H H' : Hp} (x : Kp P H H') (hb : bo = true → Ext H H') (hp : ∀ a, H a ≠ none → P' a → P a) {ov : Option V} {s : Slot} {A : List Addr} (hA : ∀ a ∈ A, H' a = H a)
    (h : SlotR T bo P H ov s A) : SlotR T bo P' H' ov s A := by
  cases s with
  | no => exact h
  | val k d => obtain ⟨v, e, r⟩ := h; exact ⟨v, e, OwnR.keep x hp k hA r⟩
  | bor k d => obtain ⟨e, b, v, e2, r⟩ := h; exact ⟨e, b, v, e2, BorR.keep (hb b) hp k r⟩
  | exc c => obtain ⟨e, a, e2, e3, n⟩ := h; exact ⟨e, a, e2, x.old _ _ e3 n, fun z => n (hp a (by rw [e3]; simp) z)⟩
  | scr ns =>
    obtain ⟨e, a, e2, e3⟩ := h
    exact ⟨e, a, e2, e3.keep x hp⟩
  | dI ks => obtain ⟨a, e1, e2, e3⟩ := h; exact ⟨a, e1, e2, by rw [hA a (by rw [e2]; exact List.mem_cons_self)]; exact e3⟩
  | obj c fs =>
    obtain ⟨a, dx, vs, As, e1, e2, e3, e4, r⟩ := h
    refine ⟨a, dx, vs, As, e1, ?_, ?_, e4, ?_⟩
    · rw [hA a (by rw [e4]; exact List.mem_cons_self)]; exact e2
    · rw [hA dx (by rw [e4]; exact List.mem_cons_of_mem _ List.mem_cons_self)]; exact e3
    · exact r.mono fun v f B _ hB q => q.keep x hp fun b hb => hA b (by rw [e4]; exact List.mem_cons_of_mem _ (List.mem_cons_of_mem _ (List.mem_flatten.mpr ⟨B, hB, hb⟩)))

section
variable {T : Tab} {bo : Bool} {Oc : AP1} {H H' : Hp} {σ : St} {r : Env} {As : Nat → List Addr}
theorem EnvR.dom (e : EnvR T bo Oc H σ r As) : ∀ a, PO Oc As a → H a ≠ none := fun a h => by
  rcases h with ⟨i, h⟩ | h
  · exact (e.sl i).dom a h
  · exact e.od a h
theorem EnvR.ext (e : EnvR T bo Oc H σ r As) (x : Ext H H') : EnvR T bo Oc H' σ r As where
  len := e.len
  sl := fun i => (e.sl i).keep x.kp (fun _ => x) (fun _ _ z => z) fun a ha => by
    cases q : H a with
    | none => exact absurd q ((e.sl i).dom a ha)
    | some o => exact x a o q
  nd := e.nd
  dj := e.dj
  oc := e.oc
  od := fun a h => x.dom a (e.od a h)
end

/-- new addresses are avoided by all that stands -/
theorem EnvR.addOc {T : Tab} {bo : Bool} {Oc : AP1} {H H' : Hp} {σ : St} {r : Env} {As : Nat → List Addr} {A : List Addr} (e : EnvR T bo Oc H σ r As) (x : Ext H H') (h1 : ∀ a ∈ A, H a = none) (h2 : ∀ a ∈ A, H' a ≠ none) : EnvR T bo (fun a => Oc a ∨ a ∈ A) H' σ r As where
  len := e.len
  sl := fun i => (e.sl i).keep x.kp (fun _ => x) (fun a ha z => by
    rcases z with z | z | z
    · exact .inl z
    · exact .inr z
    · exact absurd (h1 a z) ha) fun a ha => by
    cases q : H a with
    | none => exact absurd q ((e.sl i).dom a ha)
    | some o => exact x a o q
  nd := e.nd
  dj := e.dj
  oc := fun i a ha z => by
    rcases z with z | z
    · exact e.oc i a ha z
    · exact (e.sl i).dom a ha (h1 a z)
  od := fun a z => by
    rcases z with z | z
    · exact x.dom a (e.od a z)
    · exact h2 a z
theorem EnvR.lessOc {T : Tab} {bo : Bool} {Oc Oc' : AP1} {H : Hp} {σ : St} {r : Env} {As : Nat → List Addr} (e : EnvR T bo Oc H σ r As) (h : ∀ a, Oc' a → Oc a) : EnvR T bo Oc' H σ r As where
  len := e.len
  sl := fun i => (e.sl i).keep Kp.refl (fun _ => Ext.refl) (fun a _ z => z.imp id (h a)) fun _ _ => rfl
  nd := e.nd
  dj := e.dj
  oc := fun i a ha z => e.oc i a ha (h a z)
  od := fun a z => e.od a (h a z)

/-- how an expression may change things: the slots t -/
structure Step (T : Tab) (bo : Bool) (Oc : AP1) (σ : St) (t : List Nat) (H : Hp) (r : Env) (As : Nat → List Addr) (H' : Hp) (r' : Env) (As' : Nat → List Addr) : Prop where
  env : EnvR T bo Oc H' σ r' As'
  kp : Kp (fun a => ∃ i, i ∈ t ∧ a ∈ As i) H H'
  gr : ∀ i a, a ∈ As' i → a ∈ As i ∨ H a = none
  sm : ∀ i, i ∉ t → getS r' i = getS r i ∧ As' i = As i
section
variable {T : Tab} {bo : Bool} {Oc : AP1} {H H1 H2 : Hp} {σ : St} {r r1 r2 : Env} {As As1 As2 : Nat → List Addr} {t t1 t2 : List Nat}
theorem Step.refl (e : EnvR T bo Oc H σ r As) : Step T bo Oc σ t H r As H r As := ⟨e, Kp.refl, fun _ _ h => .inl h, fun _ _ => ⟨rfl, rfl⟩⟩
theorem Step.ext (e : EnvR T bo Oc H σ r As) (x : Ext H H1) : Step T bo Oc σ t H r As H1 r As := ⟨e.ext x, x.kp, fun _ _ h => .inl h, fun _ _ => ⟨rfl, rfl⟩⟩
theorem Step.toExt (s : Step T bo Oc σ [] H r As H1 r1 As1) : Ext H H1 := fun a o e => s.kp.old a o e fun ⟨_, h, _⟩ => nomatch h
theorem Step.wid (s : Step T bo Oc σ t1 H r As H1 r1 As1) (h : ∀ i, i ∈ t1 → i ∈ t2) : Step T bo Oc σ t2 H r As H1 r1 As1 :=
  ⟨s.env, s.kp.mono fun x ⟨i, h1, h2⟩ => ⟨i, h i h1, h2⟩, s.gr, fun i n => s.sm i fun z => n (h i z)⟩
theorem Step.trans (a : Step T bo Oc σ t1 H r As H1 r1 As1) (b : Step T bo Oc σ t2 H1 r1 As1 H2 r2 As2) : Step T bo Oc σ (t1 ++ t2) H r As H2 r2 As2 where
  env := b.env
  kp := a.kp.trans b.kp (fun x ⟨i, h1, h2⟩ => ⟨i, List.mem_append_left _ h1, h2⟩) fun x hx ⟨i, h1, h2⟩ => by
    rcases a.gr i x h2 with z | z
    · exact ⟨i, List.mem_append_right _ h1, z⟩
    · exact absurd z hx
  gr := fun i x h => by
    rcases b.gr i x h with z | z
    · exact a.gr i x z
    · cases q : H x with
      | none => exact .inr rfl
      | some o => exact absurd z (a.kp.dom x (by rw [q]; simp))
  sm := fun i n => by
    obtain ⟨e1, e2⟩ := a.sm i fun z => n (List.mem_append_left _ z)
    obtain ⟨e3, e4⟩ := b.sm i fun z => n (List.mem_append_right _ z)
    exact ⟨e3.trans e1, e4.trans e2⟩
/-- what a solid thing asks to stay solid -/
theorem Step.po (s : Step T bo Oc σ t H r As H1 r1 As1) : ∀ a, H a ≠ none → PO Oc As1 a → PO Oc As a := fun a ha h => by
  rcases h with ⟨i, h⟩ | h
  · rcases s.gr i a h with z | z
    · exact .inl ⟨i, z⟩
    · exact absurd z ha
  · exact .inr h
theorem Step.kpO (s : Step T bo Oc σ t H r As H1 r1 As1) : Kp (PO Oc As) H H1 := s.kp.mono fun _ ⟨i, _, h⟩ => .inl ⟨i, h⟩
end

inductive Kd where
  | w | i | s | f (k : Nat)
  deriving DecidableEq
def Kd.solid : Kd → Bool
  | .s => true
  | .f _ => true
  | _ => false
/-- what is known of a result -/
def ResR (T : Tab) (bo : Bool) (Oc : AP1) (σ : St) (κ : Kd) (H H' : Hp) (r : Env) (As : Nat → List Addr) (v : V) (d : D) : Prop := match κ with
  | .w => RepW T.K H' v d
  | .i => BorR T.K (PO Oc As) H' 1 v d
  | .s => Rep T.K (PO Oc As) H' v d
  | .f k => ∃ A, OwnR T.K (PO (fun a => Oc a ∨ a ∈ A) As) H' k v d A ∧ A.Nodup ∧ (∀ a ∈ A, H a = none ∧ ¬ PO Oc As a) ∧ EnvR T bo (fun a => Oc a ∨ a ∈ A) H' σ r As
/-- the kind that stays -/
def Kd.dn : Kd → Kd
  | .f _ => .s
  | k => k
section
variable {T : Tab} {bo : Bool} {Oc : AP1} {σ : St} {H H0 H1 H2 : Hp} {r r1 : Env} {As As1 : Nat → List Addr} {v : V} {d : D}
theorem ResR.s_of_f {k : Nat} (h : ResR T bo Oc σ (.f k) H H1 r As v d) : ResR T bo Oc σ .s H H1 r As v d := by
  obtain ⟨A, o, nd, n, _⟩ := h
  exact OwnR.rep (fun _ _ z => z.imp id .inl) k (fun a ha => (n a ha).2) o
theorem ResR.rep {κ : Kd} (hs : κ.solid = true) (h : ResR T bo Oc σ κ H H1 r As v d) : Rep T.K (PO Oc As) H1 v d := by
  cases κ with
  | s => exact h
  | f k => exact ResR.s_of_f h
  | w => cases hs
  | i => cases hs
theorem ResR.bor {κ : Kd} (hs : κ ≠ .w) (h : ResR T bo Oc σ κ H H1 r As v d) : BorR T.K (PO Oc As) H1 1 v d := by
  cases κ with
  | s => exact .inl h
  | f k => exact .inl (ResR.s_of_f h)
  | w => exact absurd rfl hs
  | i => exact h
theorem ResR.weak {κ : Kd} (h : ResR T bo Oc σ κ H H1 r As v d) : RepW T.K H1 v d := by
  cases κ with
  | s => exact Rep.weak h
  | f k => exact Rep.weak (ResR.s_of_f h)
  | w => exact h
  | i => exact BorR.weak 1 h
theorem ResR.back {κ : Kd} (hd : ∀ a, H0 a ≠ none → H a ≠ none) (h : ResR T bo Oc σ κ H H1 r As v d) : ResR T bo Oc σ κ H0 H1 r As v d := by
  cases κ with
  | s => exact h
  | w => exact h
  | i => exact h
  | f k =>
    obtain ⟨A, o, nd, n, en⟩ := h
    refine ⟨A, o, nd, fun a ha => ⟨?_, (n a ha).2⟩, en⟩
    cases q : H0 a with
    | none => rfl
    | some o => exact absurd (n a ha).1 (hd a (by rw [q]; simp))
theorem ResR.dn {κ : Kd} (h : ResR T bo Oc σ κ H H1 r As v d) : ResR T bo Oc σ κ.dn H H1 r As v d := by
  cases κ with
  | f k => exact ResR.s_of_f h
  | _ => exact h
theorem ResR.stay {t : List Nat} {κ : Kd} (h : ResR T bo Oc σ κ H0 H r As v d) (s : Step T bo Oc σ t H r As H1 r1 As1) (hq : (κ.solid || t.isEmpty) = true) : ResR T bo Oc σ κ.dn H0 H1 r1 As1 v d := by
  cases κ with
  | s => exact Rep.keep s.kpO s.po h
  | w =>
    have ht : t = [] := by simpa [Kd.solid] using hq
    subst ht
    exact Rep.keep s.toExt.kp (fun _ _ z => z) h
  | i =>
    have ht : t = [] := by simpa [Kd.solid] using hq
    subst ht
    exact BorR.keep s.toExt s.po 1 h
  | f k => exact Rep.keep s.kpO s.po (ResR.s_of_f h)
end

/-- the wish behind a part: RR what is known of the result -/
def Aft {α β : Type} (T : Tab) (bo : Bool) (Oc : AP1) (σ : St) (W : WX) (RR : Hp → Hp → Env → (Nat → List Addr) → β → α → Prop) (t : List Nat) (H : Hp) (r : Env) (As : Nat → List Addr) (res : Res α) (Q : β → Hp → Prop) : Prop := match res with
  | .ok d r' => ∀ v H' As', Step T bo Oc σ t H r As H' r' As' → RR H H' r' As' v d → Q v H'
  | .raise c r' => ∀ H' As', Step T bo Oc σ t H r As H' r' As' → W (.ref (T.xc c)) none σ H'
  | .stuck => False
/-- a later start does no harm -/
def Wid {α β : Type} (RR : Hp → Hp → Env → (Nat → List Addr) → β → α → Prop) : Prop := ∀ H0 H H1 r As v d, (∀ a, H0 a ≠ none → H a ≠ none) → RR H H1 r As v d → RR H0 H1 r As v d
theorem wid_res {T : Tab} {bo : Bool} {Oc : AP1} {σ : St} {κ : Kd} : Wid (ResR T bo Oc σ κ) := fun _ _ _ _ _ _ _ hd h => h.back hd
theorem aft_bind {α β γ δ : Type} {T : Tab} {bo : Bool} {Oc : AP1} {σ : St} {W : WX} {R1 : Hp → Hp → Env → (Nat → List Addr) → β → α → Prop} {R2 : Hp → Hp → Env → (Nat → List Addr) → δ → γ → Prop} {t1 t2 : List Nat} {H : Hp} {r : Env} {As : Nat → List Addr}
    {x : Res α} {f : α → Env → Res γ} {Q : δ → Hp → Prop} (w : Wid R2) (h : Aft T bo Oc σ W R2 (t1 ++ t2) H r As (x.bind f) Q) :
    Aft T bo Oc σ W R1 t1 H r As x fun v H1 => ∃ r1 As1 d, Step T bo Oc σ t1 H r As H1 r1 As1 ∧ R1 H H1 r1 As1 v d ∧ Aft T bo Oc σ W R2 t2 H1 r1 As1 (f d r1) Q := by
  cases x with
  | ok d r1 =>
    intro v H1 As1 st rs
    refine ⟨r1, As1, d, st, rs, ?_⟩
    have h : Aft T bo Oc σ W R2 (t1 ++ t2) H r As (f d r1) Q := h
    unfold Aft at h ⊢
    cases hf : f d r1 with
    | ok d2 r2 =>
      rw [hf] at h
      exact fun v2 H2 As2 st2 rs2 => h v2 H2 As2 (st.trans st2) (w _ _ _ _ _ _ _ st.kp.dom rs2)
    | raise c r2 =>
      rw [hf] at h
      exact fun H2 As2 st2 => h H2 As2 (st.trans st2)
    | stuck =>
      rw [hf] at h
      exact h
  | raise c r1 => exact fun H1 As1 st => h H1 As1 (st.wid fun i z => List.mem_append_left _ z)
  | stuck => exact h
theorem aft_bind0 {α β γ δ : Type} {T : Tab} {bo : Bool} {Oc : AP1} {σ : St} {W : WX} {R1 : Hp → Hp → Env → (Nat → List Addr) → β → α → Prop} {R2 : Hp → Hp → Env → (Nat → List Addr) → δ → γ → Prop} {t : List Nat} {H : Hp} {r : Env} {As : Nat → List Addr}
    {x : Res α} {f : α → Env → Res γ} {Q : δ → Hp → Prop} (w : Wid R2) (h : Aft T bo Oc σ W R2 t H r As (x.bind f) Q) :
    Aft T bo Oc σ W R1 t H r As x fun v H1 => ∃ r1 As1 d, Step T bo Oc σ t H r As H1 r1 As1 ∧ R1 H H1 r1 As1 v d ∧ Aft T bo Oc σ W R2 [] H1 r1 As1 (f d r1) Q := by
  refine aft_bind (t1 := t) (t2 := []) w ?_
  rw [List.append_nil]
  exact h
theorem aft_mono {α β : Type} {T : Tab} {bo : Bool} {Oc : AP1} {σ : St} {W : WX} {RR : Hp → Hp → Env → (Nat → List Addr) → β → α → Prop} {t : List Nat} {H : Hp} {r : Env} {As : Nat → List Addr} {x : Res α} {Q Q' : β → Hp → Prop}
    (h : Aft T bo Oc σ W RR t H r As x Q) (hq : ∀ v H, Q v H → Q' v H) : Aft T bo Oc σ W RR t H r As x Q' := by
  cases x with
  | ok d r1 => exact fun v H1 As1 st rs => hq _ _ (h v H1 As1 st rs)
  | raise c r1 => exact h
  | stuck => exact h
/-- the end of a primitive: only new things were made -/
theorem aft_end {α β : Type} {T : Tab} {bo : Bool} {Oc : AP1} {σ : St} {W : WX} {RR : Hp → Hp → Env → (Nat → List Addr) → β → α → Prop} {t : List Nat} {H H' : Hp} {r : Env} {As : Nat → List Addr} {d : α} {v : β} {Q : β → Hp → Prop}
    (h : Aft T bo Oc σ W RR t H r As (.ok d r) Q) (e : EnvR T bo Oc H σ r As) (x : Ext H H') (rs : RR H H' r As v d) : Q v H' := h v H' As (.ext e x) rs

/-- an expression's reading by its pure form -/
def TEv (T : Tab) (bo : Bool) (W : WX) (e : E) (κ : Kd) (t : List Nat) : TE := fun σ H Q => ∃ Oc r As, EnvR T bo Oc H σ r As ∧ Aft T bo Oc σ W (ResR T bo Oc σ κ) t H r As (e r) Q
/-- the context knows the table -/
structure Cxt (T : Tab) (X : Cx) : Prop where
  K : X.K = T.K
  calm : X.calm = true
  nd : X.N.Nodup
/-- p does what e says -/
def DE (T : Tab) (bo : Bool) (X : Cx) (p : Expr) (e : E) (κ : Kd) (t : List Nat) : Prop := ∀ W : WX, Takes X W → PE X p (TEv T bo W e κ t)
theorem PE.imp {X : Cx} {p : Expr} {t t' : TE} (h : PE X p t) (hi : ∀ σ H Q, t' σ H Q → t σ H Q) : PE X p t' := ⟨fun pins s σ H Q I q => h.run pins s σ H Q I (hi σ H Q q)⟩
/-- a weaker kind, more slots -/
theorem DE.wid {T : Tab} {bo : Bool} {X : Cx} {p : Expr} {e : E} {κ κ' : Kd} {t t' : List Nat} (h : DE T bo X p e κ t) (hk : ∀ Oc σ H H' r As v d, ResR T bo Oc σ κ H H' r As v d → ResR T bo Oc σ κ' H H' r As v d) (ht : ∀ i, i ∈ t → i ∈ t') : DE T bo X p e κ' t' := fun W tk =>
  PE.imp (h W tk) fun σ H Q ⟨Oc, r, As, en, a⟩ => ⟨Oc, r, As, en, by
    unfold Aft at a ⊢
    cases q : e r with
    | ok d r1 => rw [q] at a; exact fun v H1 As1 st rs => a v H1 As1 (st.wid ht) (hk _ _ _ _ _ _ _ _ rs)
    | raise c r1 => rw [q] at a; exact fun H1 As1 st => a H1 As1 (st.wid ht)
    | stuck => rw [q] at a; exact a⟩
theorem DE.solid {T : Tab} {bo : Bool} {X : Cx} {p : Expr} {e : E} {k : Nat} {t : List Nat} (h : DE T bo X p e (.f k) t) : DE T bo X p e .s t := h.wid (fun _ _ _ _ _ _ _ _ r => ResR.s_of_f r) fun _ z => z
end O
end
section
set_option Elab.async false
set_option linter.all false
set_option maxRecDepth 100000
/-! Sound3: rules for expressions. -/
namespace O
open PySem PySem.Spec PyProof.Rows L2
section
variable {T : Tab} {bo : Bool} {X : Cx}

theorem join_some {α : Type} {o : Option (Option α)} {v : α} (h : o.join = some v) : o = some (some v) := by
  cases o with
  | none => cases h
  | some x => cases x with
    | none => cases h
    | some y => cases h; rfl
theorem wis {Oc : AP1} {σ : St} {W : WX} {κ : Kd} {t : List Nat} {H : Hp} {r : Env} {As : Nat → List Addr} {Q : VK} {o : Option D} (h : Aft T bo Oc σ W (ResR T bo Oc σ κ) t H r As (lift o r) Q) : ∃ d, o = some d ∧ Aft T bo Oc σ W (ResR T bo Oc σ κ) t H r As (.ok d r) Q := by
  cases o with
  | none => exact h.elim
  | some d => exact ⟨d, rfl, h⟩
/-- a flat result -/
theorem res_flat {Oc : AP1} {σ : St} {κ : Kd} {H H' : Hp} {r : Env} {As : Nat → List Addr} {v : V} {d : D} (hs : scalarD d = true) (en : EnvR T bo Oc H' σ r As) (h : Rep T.K (PO Oc As) H' v d) : ResR T bo Oc σ κ H H' r As v d := by
  cases κ with
  | w => exact h.weak
  | i => exact .inl h
  | s => exact h
  | f k =>
    refine ⟨[], ?_, List.nodup_nil, (fun a ha => nomatch ha), en.lessOc fun a z => z.elim id fun z => nomatch z⟩
    have h' : Rep T.K (PO (fun a => Oc a ∨ a ∈ ([] : List Addr)) As) H' v d := h.keep Kp.refl fun a _ z => z.imp id fun z => z.elim id fun z => nomatch z
    cases k with
    | zero => exact ⟨rfl, h'⟩
    | succ k => exact .inl ⟨hs, rfl, h'⟩

/-! ### names, constants -/
theorem d_var (i : Nat) {x : PySem.Str} {pos : Pos} (hN : X.N[i]? = some x := by rfl) (hv : Vis X.env.scope x := by first | exact Or.inl rfl | exact Or.inr (Or.inl rfl) | exact Or.inr (Or.inr rfl))
    (hd : (x == ("__debug__" : PySem.Str)) = false := by decide +kernel) (hcd : (x == ("__classdict__" : PySem.Str)) = false := by decide +kernel) : DE T bo X (.Name x pos) (E.var i) .s [] := fun W tk =>
  PE.imp (pe_var hN hv hd hcd) fun σ H Q ⟨Oc, r, As, en, a⟩ => by
    have sl := en.sl i
    unfold E.var at a
    cases q : getS r i with
    | val k d =>
      rw [q] at a sl
      cases k with
      | zero =>
        obtain ⟨v, e, _, rp⟩ := sl
        exact ⟨v, join_some e, aft_end a en Ext.refl rp⟩
      | succ k => exact a.elim
    | bor k d =>
      rw [q] at a sl
      cases k with
      | zero =>
        obtain ⟨_, _, v, e, rp⟩ := sl
        exact ⟨v, join_some e, aft_end a en Ext.refl rp⟩
      | succ k => exact a.elim
    | _ => rw [q] at a; exact a.elim
theorem d_int {k : Nat} {i : Int} {j pos} : DE T bo X (.Constant (.int i) j pos) (E.int i) (.f k) [] := fun W tk =>
  PE.imp pe_int fun σ H Q ⟨Oc, r, As, en, a⟩ => aft_end a en Ext.refl (res_flat rfl en (.int i))
theorem d_bl {k : Nat} {i : Bool} {j pos} : DE T bo X (.Constant (.bool i) j pos) (E.bl i) (.f k) [] := fun W tk =>
  PE.imp pe_bl fun σ H Q ⟨Oc, r, As, en, a⟩ => aft_end a en Ext.refl (res_flat rfl en (.bl i))
theorem d_non {k : Nat} {j pos} : DE T bo X (.Constant .none j pos) E.non (.f k) [] := fun W tk =>
  PE.imp pe_non fun σ H Q ⟨Oc, r, As, en, a⟩ => aft_end a en Ext.refl (res_flat rfl en .non)
theorem d_str {k : Nat} {x : PySem.Str} {s : List Nat} {j pos} (hx : x = ⟨s.toArray⟩ := by rfl) (hl : s.length ≤ LIM := by decide) (ha : (s.all fun c => decide (c < 128)) = true := by decide) : DE T bo X (.Constant (.str x) j pos) (E.str s) (.f k) [] := fun W tk =>
  PE.imp pe_str fun σ H Q ⟨Oc, r, As, en, a⟩ => by
    subst hx
    exact aft_end a en Ext.refl (res_flat rfl en (.str s hl ha))
/-- an int of the module -/
theorem d_conI {k : Nat} {x : PySem.Str} {pos : Pos} {i : Int} (hm : ∃ t, X.mg x = some (.int i t)) (hg : Gl X x := by rfl) (hd : (x == ("__debug__" : PySem.Str)) = false := by decide +kernel) : DE T bo X (.Name x pos) (E.con (.int i)) (.f k) [] := fun W tk => by
  obtain ⟨t, hm⟩ := hm
  exact PE.imp (pe_glob (v := .int i) hg hm ⟨t, rfl⟩ hd) fun σ H Q ⟨Oc, r, As, en, a⟩ => aft_end a en Ext.refl (res_flat rfl en (.int i))

/-! ### two parts -/
/-- what a primitive of two parts must show -/
def Pr2 (T : Tab) (rr : R2) (f : D → D → Option D) (κ1 κ2 κ : Kd) : Prop := ∀ (bo : Bool) (Oc : AP1) (σ : St) (W : WX) (H0 H0' H : Hp) (r : Env) (As : Nat → List Addr) (x y : V) (c d e : D) (Q : VK), EnvR T bo Oc H σ r As → ResR T bo Oc σ κ1 H0 H r As x c → ResR T bo Oc σ κ2 H0' H r As y d → f c d = some e →
  Aft T bo Oc σ W (ResR T bo Oc σ κ) [] H r As (.ok e r) Q → rr x y H Q
theorem t_two {W : WX} {ea eb : E} {κ1 κ2 κ : Kd} {t1 t2 : List Nat} {f : D → D → Option D} {rr : R2} (pr : Pr2 T rr f κ1.dn κ2 κ) (hq : (κ1.solid || t2.isEmpty) = true) {σ : St} {H : Hp} {Q : VK} (h : TEv T bo W (E.bin f ea eb) κ (t1 ++ t2) σ H Q) :
    tOp rr (TEv T bo W ea κ1 t1) (TEv T bo W eb κ2 t2) σ H Q := by
  obtain ⟨Oc, r, As, en, a⟩ := h
  refine ⟨Oc, r, As, en, aft_mono (aft_bind (t2 := t2) wid_res a) fun x H1 ⟨r1, As1, c, st1, rs1, a1⟩ => ?_⟩
  refine ⟨Oc, r1, As1, st1.env, aft_mono (aft_bind0 wid_res a1) fun y H2 ⟨r2, As2, d, st2, rs2, a2⟩ => ?_⟩
  obtain ⟨e, he, a3⟩ := wis a2
  exact pr bo Oc σ W H H1 H2 r2 As2 x y c d e Q st2.env (rs1.stay st2 hq) rs2 he a3
theorem d_bin {op : Operator} {a b : Expr} {ea eb : E} {κ1 κ2 κ : Kd} {t1 t2 : List Nat} {f : D → D → Option D} {rr : R2} {pos : Pos} (ho : OpR X (binaryOp op) rr) (pr : Pr2 T rr f κ1.dn κ2 κ) (ha : DE T bo X a ea κ1 t1) (hb : DE T bo X b eb κ2 t2)
    (hq : (κ1.solid || t2.isEmpty) = true) : DE T bo X (.BinOp a op b pos) (E.bin f ea eb) κ (t1 ++ t2) := fun W tk => PE.imp (pe_op ho (ha W tk) (hb W tk)) fun σ H Q h => t_two pr hq h
theorem d_cmp {op : CmpOp} {a b : Expr} {ea eb : E} {κ1 κ2 κ : Kd} {t1 t2 : List Nat} {f : D → D → Option D} {rr : R2} {pos : Pos} (ho : OpR X (compareOp op) rr) (pr : Pr2 T rr f κ1.dn κ2 κ) (ha : DE T bo X a ea κ1 t1) (hb : DE T bo X b eb κ2 t2)
    (hq : (κ1.solid || t2.isEmpty) = true) (hm : behindInMarks op b = false) : DE T bo X (.Compare a [op] [b] pos) (E.bin f ea eb) κ (t1 ++ t2) := fun W tk => PE.imp (pe_cmpR ho (ha W tk) (hb W tk) hm) fun σ H Q h => t_two pr hq h
theorem OpR.or {f : Value → Value → Sem Value} {r r' : R2} (h : OpR X f r) (h' : OpR X f r') : OpR X f (fun x y H Q => r x y H Q ∨ r' x y H Q) := by
  intro pins s σ H x y v u Q I rx ry q
  rcases q with q | q
  · exact h pins s σ H x y v u Q I rx ry q
  · exact h' pins s σ H x y v u Q I rx ry q

/-! ### what a representation is -/
theorem rep_int {K : PySem.W.Frag} {P : AP1} {H : Hp} {v : V} {i : Int} (h : Rep K P H v (.int i)) : v = .int i := by cases h; rfl
theorem rep_bl {K : PySem.W.Frag} {P : AP1} {H : Hp} {v : V} {b : Bool} (h : Rep K P H v (.bl b)) : v = .bl b := by cases h; rfl
theorem rep_str {K : PySem.W.Frag} {P : AP1} {H : Hp} {v : V} {s : List Nat} (h : Rep K P H v (.str s)) : v = .str ⟨s.toArray⟩ ∧ s.length ≤ LIM ∧ (s.all fun c => decide (c < 128)) = true := by cases h; exact ⟨rfl, by assumption, by assumption⟩
theorem rep_lst {K : PySem.W.Frag} {P : AP1} {H : Hp} {v : V} {ds : List D} (h : Rep K P H v (.lst ds)) : ∃ a vs, v = .ref a ∧ H a = some (.lst vs) ∧ ¬ P a ∧ Reps K P H vs ds := by
  cases h with
  | lst h1 h2 h3 => exact ⟨_, _, rfl, h1, h2, h3⟩
theorem rep_tup {K : PySem.W.Frag} {P : AP1} {H : Hp} {v : V} {ds : List D} (h : Rep K P H v (.tup ds)) : ∃ a vs, v = .ref a ∧ SqT K H a vs ∧ Reps K P H vs ds := by
  cases h with
  | tup h1 h3 => exact ⟨_, _, rfl, h1, h3⟩
theorem bor_lst {K : PySem.W.Frag} {P : AP1} {H : Hp} {v : V} {ds : List D} (h : BorR K P H 1 v (.lst ds)) : ∃ a vs, v = .ref a ∧ H a = some (.lst vs) ∧ Reps K P H vs ds := by
  rcases h with h | ⟨a, vs, ds', e1, e2, e3, r⟩
  · obtain ⟨a, vs, h1, h2, _, h3⟩ := rep_lst h
    exact ⟨a, vs, h1, h2, h3⟩
  · cases e2
    exact ⟨a, vs, e1, e3, r.reps fun _ _ q => q⟩
theorem bor_tup {K : PySem.W.Frag} {P : AP1} {H : Hp} {v : V} {ds : List D} (h : BorR K P H 1 v (.tup ds)) : ∃ a vs, v = .ref a ∧ SqT K H a vs ∧ Reps K P H vs ds := by
  rcases h with h | ⟨a, vs, ds', e1, e2, e3, r⟩
  · exact rep_tup h
  · cases e2
/-- a new list of solid items -/
theorem res_new {Oc : AP1} {κ : Kd} (hk : κ = .s ∨ κ = .f 1 ∨ κ = .f 0) {σ : St} {H H0 : Hp} {r : Env} {As : Nat → List Addr} {p : Addr} {vs : List V} {ds : List D} (en : EnvR T bo Oc H σ r As) (h0 : ∀ a, H0 a ≠ none → H a ≠ none) (hp : H p = none) (h : Reps T.K (PO Oc As) H vs ds) :
    ResR T bo Oc σ κ H0 (upd H p (.lst vs)) r As (.ref p) (.lst ds) := by
  have np : ¬ PO Oc As p := fun z => en.dom p z hp
  have h' : Reps T.K (PO Oc As) (upd H p (.lst vs)) vs ds := h.keep (Ext.upd hp).kp fun _ _ z => z
  have rp : Rep T.K (PO Oc As) (upd H p (.lst vs)) (.ref p) (.lst ds) := .lst upd_same np h'
  rcases hk with e | e | e
  · subst e; exact rp
  · subst e
    refine ⟨[p], .inr ⟨p, vs, ds, vs.map fun _ => [], rfl, rfl, upd_same, ?_, ?_⟩, by simp, fun a ha => ?_, en.addOc (Ext.upd hp) (fun a ha => by rw [List.mem_singleton.mp ha]; exact hp) (fun a ha => by rw [List.mem_singleton.mp ha, upd_same]; simp)⟩
    · have : ∀ l : List V, (l.map fun _ => ([] : List Addr)).flatten = [] := fun l => by induction l with
        | nil => rfl
        | cons x l ih => simpa using ih
      rw [this]
    · have h'' : Reps T.K (PO (fun a => Oc a ∨ a ∈ [p]) As) (upd H p (.lst vs)) vs ds := h.keep (Ext.upd hp).kp fun a ha z => z.imp id fun z => z.elim id fun z => absurd (show H a = none by rw [List.mem_singleton.mp z]; exact hp) ha
      clear rp h'
      revert h''
      intro h'
      generalize hG : upd H p (.lst vs) = G at h' ⊢
      clear hG h
      induction h' using Reps.rec (motive_1 := fun _ _ _ => True) with
      | nil => exact trivial
      | cons a b _ ih => exact ⟨⟨rfl, a⟩, ih⟩
      | _ => trivial
    · rw [List.mem_singleton.mp ha]
      refine ⟨?_, np⟩
      cases q : H0 p with
      | none => rfl
      | some o => exact absurd hp (h0 p (by rw [q]; simp))
  · subst e
    exact ⟨[], ⟨rfl, rp.keep Kp.refl fun a _ z => z.imp id fun z => z.elim id fun z => nomatch z⟩, List.nodup_nil, (fun a ha => nomatch ha), (en.ext (Ext.upd hp)).lessOc fun a z => z.elim id fun z => nomatch z⟩
/-- a new tuple -/
theorem rep_newT {Oc : AP1} {σ : St} {H : Hp} {r : Env} {As : Nat → List Addr} {p : Addr} {vs : List V} {ds : List D} (en : EnvR T bo Oc H σ r As) (hp : H p = none) (h : Reps T.K (PO Oc As) H vs ds) :
    Rep T.K (PO Oc As) (upd H p (.tup vs)) (.ref p) (.tup ds) := .tup (SqT.of upd_same) (h.keep (Ext.upd hp).kp fun _ _ z => z)

theorem lim_line : LIM = sizeLine := by decide
/-! ### + - * // % of data -/
def Kd.new (κ : Kd) : Prop := κ = .s ∨ κ = .f 1 ∨ κ = .f 0
def rAdd (K : PySem.W.Frag) : R2 := fun x y H Q => rI0 (fun i j => .int (i + j)) x y H Q ∨ rCat x y H Q ∨ rCatA K x y H Q ∨ (∃ i j, x = .str i ∧ y = .str j ∧ i.length + j.length ≤ sizeLine ∧ Q (.str (i ++ j)) H)
theorem op_addAll : OpR X (binaryOp .Add) (rAdd X.K) := OpR.or op_add (OpR.or op_cat (OpR.or op_catA op_add_str))
theorem str_app (a b : List Nat) : (⟨a.toArray⟩ : PySem.Str) ++ ⟨b.toArray⟩ = ⟨(a ++ b).toArray⟩ := by
  show PySem.Str.mk (a.toArray ++ b.toArray) = _
  simp
theorem p_add {κ1 κ2 κ : Kd} (h1 : κ1 ≠ .w) (h2 : κ2 ≠ .w) (hk : κ = .s ∨ κ = .f 0 ∨ κ = .f 1) : Pr2 T (rAdd T.K) addD κ1 κ2 κ := by
  intro bo Oc σ W H0 H0' H r As x y c d e Q en r1 r2 hf a
  have b1 := r1.bor h1
  have b2 := r2.bor h2
  unfold addD at hf
  split at hf
  · cases hf
    obtain rfl := rep_int r1.weak
    obtain rfl := rep_int r2.weak
    exact .inl ⟨_, _, rfl, rfl, aft_end a en Ext.refl (res_flat rfl en (.int _))⟩
  · rename_i xs ys
    split at hf
    · rename_i hl
      cases hf
      obtain ⟨p, vs, rfl, e1, q1⟩ := bor_lst b1
      obtain ⟨q, ws, rfl, e2, q2⟩ := bor_lst b2
      refine .inr (.inl ⟨p, q, vs, ws, rfl, rfl, e1, e2, ?_, fun l hl => ?_⟩)
      · rw [q1.length, q2.length, ← lim_line]; exact hl
      · exact aft_end a en (Ext.upd hl) (res_new (by rcases hk with e | e | e <;> subst e <;> simp) en (fun _ z => z) hl (q1.app q2))
    · cases hf
  · rename_i xs ys
    split at hf
    · rename_i hl
      cases hf
      obtain ⟨p, vs, rfl, e1, q1⟩ := bor_tup b1
      obtain ⟨q, ws, rfl, e2, q2⟩ := bor_tup b2
      have fin : ∀ {v : V} {H' : Hp}, Ext H H' → Rep T.K (PO Oc As) H' v (.tup (xs ++ ys)) → Q v H' := fun {v H'} x rp => by
        exact aft_end a en x (res_flat rfl (en.ext x) rp)
      refine .inr (.inr (.inl ⟨p, q, vs, ws, rfl, rfl, e1, e2, ?_, fun hv => ?_, fun hv hw => ?_, fun hv hw l hl => ?_⟩))
      · rw [q1.length, q2.length, ← lim_line]; exact hl
      · have : xs = [] := by
          cases xs with
          | nil => rfl
          | cons _ _ => have := q1.length; rw [hv] at this; cases this
        subst this
        exact fin Ext.refl (.tup e2 q2)
      · have : ys = [] := by
          cases ys with
          | nil => rfl
          | cons _ _ => have := q2.length; rw [hw] at this; cases this
        subst this
        rw [List.append_nil] at fin
        exact fin Ext.refl (.tup e1 q1)
      · exact fin (Ext.upd hl) (rep_newT en hl (q1.app q2))
    · cases hf
  · rename_i xs ys
    split at hf
    · rename_i hl
      cases hf
      obtain ⟨rfl, _, z1⟩ := rep_str r1.weak
      obtain ⟨rfl, _, z2⟩ := rep_str r2.weak
      refine .inr (.inr (.inr ⟨_, _, rfl, rfl, ?_, ?_⟩))
      · show xs.toArray.size + ys.toArray.size ≤ _
        rw [← lim_line]; simpa using hl
      · rw [str_app]
        exact aft_end a en Ext.refl (res_flat rfl en (.str _ (by simpa using hl) (by rw [List.all_append, z1, z2]; rfl)))
    · cases hf
  · cases hf
end
end O
end
section
set_option Elab.async false
set_option linter.all false
set_option maxRecDepth 100000
/-! Sound4: what a def promises; what a context knows; rules for built-ins. -/
namespace O
open PySem PySem.Spec PyProof.Rows L2

def outE (io : List Nat) (np : Nat) (outs : List Slot) : Env := (List.range np).map fun i => ((io.zip outs).lookup i).getD .no
/-- behind a call -/
structure Post (T : Tab) (Oc : AP1) (d : Def) (vs : List V) (H : Hp) (As : Nat → List Addr) (H' : Hp) (outs : List Slot) (As' : Nat → List Addr) : Prop where
  env : EnvR T false Oc H' (vs.map some) (outE d.io d.np outs) As'
  kp : Kp (fun a => ∃ i, a ∈ As i) H H'
  gr : ∀ i a, a ∈ As' i → a ∈ As i ∨ H a = none
def RetP (T : Tab) (Oc : AP1) (σ : St) (rk : Nat) (H H' : Hp) (r : Env) (As' : Nat → List Addr) (v : V) (x : D) : Prop := match rk with
  | 0 => Rep T.K (PO Oc As') H' v x
  | 99 => True
  | k => ∃ A, OwnR T.K (PO (fun a => Oc a ∨ a ∈ A) As') H' k v x A ∧ A.Nodup ∧ (∀ a ∈ A, H a = none ∧ ¬ PO Oc As' a) ∧ EnvR T false (fun a => Oc a ∨ a ∈ A) H' σ r As'
def CAft (T : Tab) (Oc : AP1) (d : Def) (vs : List V) (H : Hp) (As : Nat → List Addr) (res : CRes) (Q : VK) (E : XK) : Prop := match res with
  | .ok x outs => ∀ v H' As', Post T Oc d vs H As H' outs As' → RetP T Oc (vs.map some) d.rk H H' (outE d.io d.np outs) As' v x → Q v H'
  | .raise c outs => ∀ H' As', Post T Oc d vs H As H' outs As' → E (.ref (T.xc c)) none H'
  | .stuck => False
def spI (T : Tab) (cf : Calls) (f : Nat) (d : Def) : Sp := fun vs H Q E => ∃ Oc ss As, EnvR T false Oc H (vs.map some) ss As ∧ vs.length = d.np ∧ CAft T Oc d vs H As (cf f ss) Q E

inductive Bn where
  | len | range | list | tuple | isinstance | sum | all | any | sorted | min | max | enumerate | zip | int | bool | str | set | ValueError
def Bn.name : Bn → PySem.Str
  | .len => "len" | .range => "range" | .list => "list" | .tuple => "tuple" | .isinstance => "isinstance" | .sum => "sum" | .all => "all" | .any => "any" | .sorted => "sorted" | .min => "min" | .max => "max"
  | .enumerate => "enumerate" | .zip => "zip" | .int => "int" | .bool => "bool" | .str => "str" | .set => "set" | .ValueError => "ValueError"
/-- a def of the text that can be called -/
structure FnFact (T : Tab) (n : Nat) (P : Program) (w : World) (K : PySem.W.Frag) (mg : PySem.Str → Option Value) (base : Heap) (f : Nat) : Prop where
  ex : ∃ (d : Def) (a : Addr) (fd : FuncData) (ps : List PySem.Str), tbl[f]? = some d ∧ FnOk P w K mg base (L2.CX P w) (2 * n) a fd ps (spI T (run n) f d) ∧ mg (T.nm f) = some (.ref a) ∧ PySem.W.keepIn K (.ref a) = true ∧ Binds K fd ps []
abbrev veM : List Value := [.type "ValueError", .type "Exception", .type "BaseException", .type "object"]
/-- a class of errors that can be raised -/
structure XFact (T : Tab) (K : PySem.W.Frag) (mg : PySem.Str → Option Value) (c : Nat) : Prop where
  ex : PySem.W.excIn K (T.xc c) veM "ValueError.__new__" = true
  gl : mg (T.xn c) = some (.ref (T.xc c))
  kp : PySem.W.keepIn K (.ref (T.xc c)) = true
  sb : PySem.W.subIn K (.ref (T.xc c)) (.type "BaseException") = some true
  ty : PySem.W.typeIn K (.ref (T.xc c)) = some (.type "type")
/-- a constant of a module -/
structure CFact (T : Tab) (mg : PySem.Str → Option Value) (c : Nat) : Prop where
  ex : ∃ v u, mg (T.cn c) = some u ∧ RelV v u ∧ ∀ (P : AP1) (H : Hp), Rep T.K P H v (T.cd c)
/-- what is known of the text's top -/
structure Lf (T : Tab) (n : Nat) (P : Program) (w : World) (K : PySem.W.Frag) (mg : PySem.Str → Option Value) (base : Heap) : Prop where
  bn : ∀ b : Bn, mg b.name = none
  fns : ∀ f, T.pr f = true → FnFact T n P w K mg base f
  xcs : ∀ c, T.xp c = true → XFact T K mg c
  cns : ∀ c, T.cp c = true → CFact T mg c
structure Gd (T : Tab) (n : Nat) (X : Cx) : Prop where
  K : X.K = T.K
  calm : X.calm = true
  nd : X.N.Nodup
  room : Room (2 * n + 1) X.A
  lf : Lf T n X.prog X.w X.K X.mg X.base
theorem Gd.bn {T : Tab} {n : Nat} {X : Cx} (G : Gd T n X) (b : Bn) : X.mg b.name = none := G.lf.bn b
theorem Gd.fns {T : Tab} {n : Nat} {X : Cx} (G : Gd T n X) (f : Nat) (h : T.pr f = true) : FnFact T n X.prog X.w X.K X.mg X.base f := G.lf.fns f h
theorem Gd.xcs {T : Tab} {n : Nat} {X : Cx} (G : Gd T n X) (c : Nat) (h : T.xp c = true) : XFact T X.K X.mg c := G.lf.xcs c h
theorem Gd.cns {T : Tab} {n : Nat} {X : Cx} (G : Gd T n X) (c : Nat) (h : T.cp c = true) : CFact T X.mg c := G.lf.cns c h
section
variable {T : Tab} {bo : Bool} {X : Cx} {n : Nat}
theorem Gd.units (G : Gd T n X) : X.A.units + 64 < cLine := G.room.units
theorem d_con {κ : Kd} (c : Nat) {x : PySem.Str} {d : D} {pos : Pos} (G : Gd T n X) (hp : T.cp c = true := by rfl) (hx : T.cn c = x := by rfl) (hc : T.cd c = d := by rfl) (hs : scalarD d = true := by rfl) (hg : Gl X x := by rfl) (hd : (x == ("__debug__" : PySem.Str)) = false := by decide +kernel) :
    DE T bo X (.Name x pos) (E.con d) κ [] := fun W tk => by
  obtain ⟨v, u, hm, r, h⟩ := (G.cns c hp).ex
  rw [hx] at hm
  rw [hc] at h
  exact PE.imp (pe_glob (v := v) hg hm r hd) fun σ H Q ⟨Oc, r, As, en, a⟩ => aft_end a en Ext.refl (res_flat hs en (h _ _))
theorem Gd.units1 (G : Gd T n X) : X.A.units + 65 < cLine := by have := G.room.un; omega
/-! ### one part -/
def Pr1 (T : Tab) (rr : V → Hp → VK → Prop) (f : D → Option D) (κ1 κ : Kd) : Prop := ∀ (bo : Bool) (Oc : AP1) (σ : St) (W : WX) (H0 H : Hp) (r : Env) (As : Nat → List Addr) (x : V) (c e : D) (Q : VK), EnvR T bo Oc H σ r As → ResR T bo Oc σ κ1 H0 H r As x c → f c = some e →
  Aft T bo Oc σ W (ResR T bo Oc σ κ) [] H r As (.ok e r) Q → rr x H Q
theorem t_one {W : WX} {ea : E} {κ1 κ : Kd} {t : List Nat} {f : D → Option D} {rr : V → Hp → VK → Prop} (pr : Pr1 T rr f κ1 κ) {σ : St} {H : Hp} {Q : VK} (h : TEv T bo W (E.un f ea) κ t σ H Q) :
    TEv T bo W ea κ1 t σ H fun x H1 => rr x H1 Q := by
  obtain ⟨Oc, r, As, en, a⟩ := h
  refine ⟨Oc, r, As, en, aft_mono (aft_bind0 wid_res a) fun x H1 ⟨r1, As1, c, st1, rs1, a1⟩ => ?_⟩
  obtain ⟨e, he, a3⟩ := wis a1
  exact pr bo Oc σ W H H1 r1 As1 x c e Q st1.env rs1 he a3
/-- a built-in of one part -/
theorem d_call1B {b : Bn} {id : String} {rr : List V → Hp → VK → Prop} {f : D → Option D} {κ1 κ : Kd} {t : List Nat} {a : Expr} {ea : E} {x : PySem.Str} {p pos : Pos} (G : Gd T n X) (hc : CallR X (.builtin id) rr) (hv : bootBuiltins x = some (.builtin id)) (pr : Pr1 T (fun v => rr [v]) f κ1 κ) (ha : DE T bo X a ea κ1 t)
    (hx : b.name = x := by rfl) (hg : Gl X x := by rfl) (hn : x ≠ "__name__" := by decide +kernel) (hdb : (x == ("__debug__" : PySem.Str)) = false := by decide +kernel)
    (he : starEach [a] X.env = [(false, eval a X.env)] := by rfl) : DE T bo X (.Call (.Name x p) [a] [] pos) (E.un f ea) κ t := fun W tk =>
  PE.imp (pe_callB (pos := pos) (p := p) hc hg (hx ▸ G.bn b) hv (pa_cons (ha W tk) pa_nil he) hn hdb he rfl) fun σ H Q h => t_one pr h
theorem d_call1T {b : Bn} {id : String} {rr : List V → Hp → VK → Prop} {f : D → Option D} {κ1 κ : Kd} {t : List Nat} {a : Expr} {ea : E} {x : PySem.Str} {p pos : Pos} (G : Gd T n X) (hc : CallR X (.type id) rr) (hv : bootBuiltins x = some (.type id)) (pr : Pr1 T (fun v => rr [v]) f κ1 κ) (ha : DE T bo X a ea κ1 t)
    (hx : b.name = x := by rfl) (hg : Gl X x := by rfl) (hn : x ≠ "__name__" := by decide +kernel) (hdb : (x == ("__debug__" : PySem.Str)) = false := by decide +kernel)
    (he : starEach [a] X.env = [(false, eval a X.env)] := by rfl) : DE T bo X (.Call (.Name x p) [a] [] pos) (E.un f ea) κ t := fun W tk =>
  PE.imp (pe_callTy (pos := pos) (p := p) hc hg (hx ▸ G.bn b) hv (pa_cons (ha W tk) pa_nil he) hn hdb he rfl) fun σ H Q h => t_one pr h

/-! len -/
def rLen1 (K : PySem.W.Frag) : List V → Hp → VK → Prop := fun xs H Q => (∃ p ys, xs = [.ref p] ∧ (SqL K H p ys ∨ SqT K H p ys) ∧ Q (.int ys.length) H) ∨ ∃ z, xs = [.str z] ∧ z.length ≤ sizeLine ∧ Q (.int z.length) H
theorem p_len {κ1 κ : Kd} : Pr1 T (fun v => rLen1 T.K [v]) lenD κ1 κ := by
  intro bo Oc σ W H0 H r As x c e Q en r1 hf a
  have w := r1.weak
  unfold lenD at hf
  split at hf
  · cases hf
    obtain ⟨p, vs, rfl, e1, _, q⟩ := rep_lst w
    refine .inl ⟨p, vs, rfl, .inl (SqL.of e1), ?_⟩
    rw [q.length]
    exact aft_end a en Ext.refl (res_flat rfl en (.int _))
  · cases hf
    obtain ⟨p, vs, rfl, e1, q⟩ := rep_tup w
    refine .inl ⟨p, vs, rfl, .inr e1, ?_⟩
    rw [q.length]
    exact aft_end a en Ext.refl (res_flat rfl en (.int _))
  · rename_i xs
    cases hf
    obtain ⟨rfl, h1, _⟩ := rep_str w
    refine .inr ⟨_, rfl, by rw [← lim_line]; show xs.toArray.size ≤ _; simpa using h1, ?_⟩
    have : PySem.Str.length ⟨xs.toArray⟩ = xs.length := by show xs.toArray.size = _; simp
    rw [this]
    exact aft_end a en Ext.refl (res_flat rfl en (.int _))
  · cases hf
theorem d_len {κ1 κ : Kd} {t : List Nat} {a : Expr} {ea : E} {p pos : Pos} (G : Gd T n X) (ha : DE T bo X a ea κ1 t) (hg : Gl X "len" := by rfl) (he : starEach [a] X.env = [(false, eval a X.env)] := by rfl) : DE T bo X (.Call (.Name "len" p) [a] [] pos) (E.un lenD ea) κ t :=
  d_call1B (b := .len) G (CallR.or call_len_seq call_len_str) boot_len (by rw [G.K]; exact p_len) ha rfl hg (by decide +kernel) (by decide +kernel) he

/-! ### lists of ints, of bools -/
theorem intsOf_some : ∀ {xs : List D} {l : List Int}, intsOf xs = some l → xs = l.map .int
  | [], l, h => by cases h; rfl
  | .int i :: r, l, h => by
    unfold intsOf at h
    cases q : intsOf r with
    | none => rw [q] at h; cases h
    | some m => rw [q] at h; cases h; rw [intsOf_some q]; rfl
  | .non :: _, _, h => nomatch h
  | .bl _ :: _, _, h => nomatch h
  | .str _ :: _, _, h => nomatch h
  | .lst _ :: _, _, h => nomatch h
  | .tup _ :: _, _, h => nomatch h
theorem intsOf_map : ∀ (l : List Int), intsOf (l.map .int) = some l
  | [] => rfl
  | i :: l => by rw [List.map_cons]; unfold intsOf; rw [intsOf_map l]; rfl
theorem boolsOf_some : ∀ {xs : List D} {l : List Bool}, boolsOf xs = some l → xs = l.map .bl
  | [], l, h => by cases h; rfl
  | .bl i :: r, l, h => by
    unfold boolsOf at h
    cases q : boolsOf r with
    | none => rw [q] at h; cases h
    | some m => rw [q] at h; cases h; rw [boolsOf_some q]; rfl
  | .non :: _, _, h => nomatch h
  | .int _ :: _, _, h => nomatch h
  | .str _ :: _, _, h => nomatch h
  | .lst _ :: _, _, h => nomatch h
  | .tup _ :: _, _, h => nomatch h
theorem boolsOf_map : ∀ (l : List Bool), boolsOf (l.map .bl) = some l
  | [] => rfl
  | i :: l => by rw [List.map_cons]; unfold boolsOf; rw [boolsOf_map l]; rfl
theorem reps_ints {K : PySem.W.Frag} {P : AP1} {H : Hp} : ∀ {l : List Int} {vs : List V}, Reps K P H vs (l.map .int) → vs = l.map V.int
  | [], _, .nil => rfl
  | _ :: _, _, .cons r t => by rw [rep_int r, reps_ints t]; rfl
theorem ints_reps {K : PySem.W.Frag} {P : AP1} {H : Hp} : ∀ (l : List Int), Reps K P H (l.map V.int) (l.map .int)
  | [] => .nil
  | i :: l => .cons (.int i) (ints_reps l)
theorem reps_bools {K : PySem.W.Frag} {P : AP1} {H : Hp} : ∀ {l : List Bool} {vs : List V}, Reps K P H vs (l.map .bl) → vs = l.map V.bl
  | [], _, .nil => rfl
  | _ :: _, _, .cons r t => by rw [rep_bl r, reps_bools t]; rfl
/-! all, any, sorted -/
theorem p_all {κ1 κ : Kd} : Pr1 T (fun v => rAll T.K [v]) allD κ1 κ := by
  intro bo Oc σ W H0 H r As x c e Q en r1 hf a
  unfold allD at hf
  split at hf
  · rename_i xs
    obtain ⟨l, hl, e⟩ := Option.map_eq_some_iff.mp hf
    subst e
    obtain rfl := boolsOf_some hl
    obtain ⟨p, vs, rfl, e1, _, q⟩ := rep_lst r1.weak
    rw [reps_bools q] at e1
    exact ⟨p, l, rfl, SqL.of e1, aft_end a en Ext.refl (res_flat rfl en (.bl _))⟩
  · cases hf
theorem p_any {κ1 κ : Kd} : Pr1 T (fun v => rAny T.K [v]) anyD κ1 κ := by
  intro bo Oc σ W H0 H r As x c e Q en r1 hf a
  unfold anyD at hf
  split at hf
  · rename_i xs
    obtain ⟨l, hl, e⟩ := Option.map_eq_some_iff.mp hf
    subst e
    obtain rfl := boolsOf_some hl
    obtain ⟨p, vs, rfl, e1, _, q⟩ := rep_lst r1.weak
    rw [reps_bools q] at e1
    exact ⟨p, l, rfl, SqL.of e1, aft_end a en Ext.refl (res_flat rfl en (.bl _))⟩
  · cases hf
theorem d_all {κ1 κ : Kd} {t : List Nat} {a : Expr} {ea : E} {p pos : Pos} (G : Gd T n X) (ha : DE T bo X a ea κ1 t) (hg : Gl X "all" := by rfl) (he : starEach [a] X.env = [(false, eval a X.env)] := by rfl) : DE T bo X (.Call (.Name "all" p) [a] [] pos) (E.un allD ea) κ t :=
  d_call1B (b := .all) G (cr_all G.calm) (by decide +kernel) (by rw [G.K]; exact p_all) ha rfl hg (by decide +kernel) (by decide +kernel) he
theorem d_any {κ1 κ : Kd} {t : List Nat} {a : Expr} {ea : E} {p pos : Pos} (G : Gd T n X) (ha : DE T bo X a ea κ1 t) (hg : Gl X "any" := by rfl) (he : starEach [a] X.env = [(false, eval a X.env)] := by rfl) : DE T bo X (.Call (.Name "any" p) [a] [] pos) (E.un anyD ea) κ t :=
  d_call1B (b := .any) G (cr_any G.calm) (by decide +kernel) (by rw [G.K]; exact p_any) ha rfl hg (by decide +kernel) (by decide +kernel) he
theorem p_sortedL {κ1 κ : Kd} (hk : κ = .s ∨ κ = .f 1 ∨ κ = .f 0) {xs : List D} {bo : Bool} {Oc : AP1} {σ : St} {W : WX} {H0 H : Hp} {r : Env} {As : Nat → List Addr} {x : V} {e : D} {Q : VK} (en : EnvR T bo Oc H σ r As) (r1 : ResR T bo Oc σ κ1 H0 H r As x (.lst xs))
    (hf : sortedD (.lst xs) = some e) (a : Aft T bo Oc σ W (ResR T bo Oc σ κ) [] H r As (.ok e r) Q) : rSortedI T.K [x] H Q := by
  obtain ⟨l, hl, e⟩ := Option.map_eq_some_iff.mp hf
  subst e
  obtain rfl := intsOf_some hl
  obtain ⟨p, vs, rfl, e1, _, q⟩ := rep_lst r1.weak
  rw [reps_ints q] at e1
  refine ⟨p, l, rfl, SqL.of e1, fun ns' q hp hs hq => ?_⟩
  obtain rfl : ns' = sortI l := sorted_one (hp.trans (sortI_perm l).symm) hs (sortI_sorted l)
  exact aft_end a en (Ext.upd hq) (res_new hk en (fun _ z => z) hq (ints_reps _))
/-! list, tuple -/
theorem p_list {κ1 κ : Kd} (h1 : κ1 ≠ .w) (hk : κ = .s ∨ κ = .f 1 ∨ κ = .f 0) : Pr1 T (fun v H Q => ∃ p ys, [v] = [V.ref p] ∧ (SqL T.K H p ys ∨ SqT T.K H p ys) ∧ ∀ l, H l = none → Q (.ref l) (upd H l (.lst ys))) listD κ1 κ := by
  intro bo Oc σ W H0 H r As x c e Q en r1 hf a
  have b1 := r1.bor h1
  unfold listD at hf
  split at hf
  · cases hf
    obtain ⟨p, vs, rfl, e1, q⟩ := bor_lst b1
    exact ⟨p, vs, rfl, .inl (SqL.of e1), fun l hl => aft_end a en (Ext.upd hl) (res_new hk en (fun _ z => z) hl q)⟩
  · cases hf
    obtain ⟨p, vs, rfl, e1, q⟩ := bor_tup b1
    exact ⟨p, vs, rfl, .inr e1, fun l hl => aft_end a en (Ext.upd hl) (res_new hk en (fun _ z => z) hl q)⟩
  · cases hf
theorem d_list {κ1 κ : Kd} {t : List Nat} {a : Expr} {ea : E} {p pos : Pos} (G : Gd T n X) (ha : DE T bo X a ea κ1 t) (h1 : κ1 ≠ .w := by decide) (hk : κ = .s ∨ κ = .f 1 ∨ κ = .f 0 := by decide) (hg : Gl X "list" := by rfl) (he : starEach [a] X.env = [(false, eval a X.env)] := by rfl) :
    DE T bo X (.Call (.Name "list" p) [a] [] pos) (E.un listD ea) κ t :=
  d_call1T (b := .list) G call_list_of (by decide +kernel) (by rw [G.K]; exact p_list h1 hk) ha rfl hg (by decide +kernel) (by decide +kernel) he
theorem p_tuple {κ1 κ : Kd} (h1 : κ1 ≠ .w) : Pr1 T (fun v H Q => ∃ p ys, [v] = [V.ref p] ∧ ((SqL T.K H p ys ∧ ∀ l, H l = none → Q (.ref l) (upd H l (.tup ys))) ∨ (SqT T.K H p ys ∧ Q (.ref p) H))) tupleD κ1 κ := by
  intro bo Oc σ W H0 H r As x c e Q en r1 hf a
  have b1 := r1.bor h1
  unfold tupleD at hf
  split at hf
  · cases hf
    obtain ⟨p, vs, rfl, e1, q⟩ := bor_lst b1
    exact ⟨p, vs, rfl, .inl ⟨SqL.of e1, fun l hl => aft_end a en (Ext.upd hl) (res_flat rfl (en.ext (Ext.upd hl)) (rep_newT en hl q))⟩⟩
  · cases hf
    obtain ⟨p, vs, rfl, e1, q⟩ := bor_tup b1
    exact ⟨p, vs, rfl, .inr ⟨e1, aft_end a en Ext.refl (res_flat rfl en (.tup e1 q))⟩⟩
  · cases hf
theorem d_tuple {κ1 κ : Kd} {t : List Nat} {a : Expr} {ea : E} {p pos : Pos} (G : Gd T n X) (ha : DE T bo X a ea κ1 t) (h1 : κ1 ≠ .w := by decide) (hg : Gl X "tuple" := by rfl) (he : starEach [a] X.env = [(false, eval a X.env)] := by rfl) :
    DE T bo X (.Call (.Name "tuple" p) [a] [] pos) (E.un tupleD ea) κ t :=
  d_call1T (b := .tuple) G call_tuple_of (by decide +kernel) (by rw [G.K]; exact p_tuple h1) ha rfl hg (by decide +kernel) (by decide +kernel) he
/-! ### arithmetic, comparisons -/
theorem p_ii {κ1 κ2 κ : Kd} {C : Int → Int → Prop} {g : Int → Int → V} {f : D → D → Option D} (h : ∀ c d e, f c d = some e → ∃ i j, c = .int i ∧ d = .int j ∧ C i j ∧ scalarD e = true ∧ ∀ K P H, Rep K P H (g i j) e) : Pr2 T (rI C g) f κ1 κ2 κ := by
  intro bo Oc σ W H0 H0' H r As x y c d e Q en r1 r2 hf a
  obtain ⟨i, j, rfl, rfl, hc, hs, hr⟩ := h c d e hf
  obtain rfl := rep_int r1.weak
  obtain rfl := rep_int r2.weak
  exact ⟨i, j, rfl, rfl, hc, aft_end a en Ext.refl (res_flat hs en (hr _ _ _))⟩
theorem p_ii0 {κ1 κ2 κ : Kd} {g : Int → Int → V} {f : D → D → Option D} (h : ∀ c d e, f c d = some e → ∃ i j, c = .int i ∧ d = .int j ∧ scalarD e = true ∧ ∀ K P H, Rep K P H (g i j) e) : Pr2 T (rI0 g) f κ1 κ2 κ := by
  intro bo Oc σ W H0 H0' H r As x y c d e Q en r1 r2 hf a
  obtain ⟨i, j, rfl, rfl, hs, hr⟩ := h c d e hf
  obtain rfl := rep_int r1.weak
  obtain rfl := rep_int r2.weak
  exact ⟨i, j, rfl, rfl, aft_end a en Ext.refl (res_flat hs en (hr _ _ _))⟩
theorem p_sub {κ1 κ2 κ : Kd} : Pr2 T (rI0 fun i j => .int (i - j)) subD κ1 κ2 κ := p_ii0 fun c d e h => by
  unfold subD at h; split at h
  · cases h; exact ⟨_, _, rfl, rfl, rfl, fun _ _ _ => .int _⟩
  · cases h
theorem p_lt {κ1 κ2 κ : Kd} : Pr2 T (rI0 fun i j => .bl (decide (i < j))) ltD κ1 κ2 κ := p_ii0 fun c d e h => by
  unfold ltD at h; split at h
  · cases h; exact ⟨_, _, rfl, rfl, rfl, fun _ _ _ => .bl _⟩
  · cases h
theorem p_le {κ1 κ2 κ : Kd} : Pr2 T (rI0 fun i j => .bl (decide (i ≤ j))) leD κ1 κ2 κ := p_ii0 fun c d e h => by
  unfold leD at h; split at h
  · cases h; exact ⟨_, _, rfl, rfl, rfl, fun _ _ _ => .bl _⟩
  · cases h
theorem p_gt {κ1 κ2 κ : Kd} : Pr2 T (rI0 fun i j => .bl (decide (j < i))) gtD κ1 κ2 κ := p_ii0 fun c d e h => by
  unfold gtD at h; split at h
  · cases h; exact ⟨_, _, rfl, rfl, rfl, fun _ _ _ => .bl _⟩
  · cases h
theorem p_ge {κ1 κ2 κ : Kd} : Pr2 T (rI0 fun i j => .bl (decide (j ≤ i))) geD κ1 κ2 κ := p_ii0 fun c d e h => by
  unfold geD at h; split at h
  · cases h; exact ⟨_, _, rfl, rfl, rfl, fun _ _ _ => .bl _⟩
  · cases h
theorem p_fdiv {κ1 κ2 κ : Kd} : Pr2 T (rI CDiv fun i j => .int (i / j)) fdivD κ1 κ2 κ := p_ii fun c d e h => by
  unfold fdivD at h; split at h
  · split at h
    · rename_i hc; cases h; exact ⟨_, _, rfl, rfl, hc, rfl, fun _ _ _ => .int _⟩
    · cases h
  · cases h
theorem p_mod {κ1 κ2 κ : Kd} : Pr2 T (rI (fun _ j => 0 < j) fun i j => .int (i % j)) modD κ1 κ2 κ := p_ii fun c d e h => by
  unfold modD at h; split at h
  · split at h
    · rename_i hc; cases h; exact ⟨_, _, rfl, rfl, hc, rfl, fun _ _ _ => .int _⟩
    · cases h
  · cases h
variable {a b : Expr} {ea eb : E} {κ1 κ2 κ : Kd} {t1 t2 : List Nat} {pos : Pos}
theorem d_add (G : Gd T n X) (ha : DE T bo X a ea κ1 t1) (hb : DE T bo X b eb κ2 t2) (hq : (κ1.solid || t2.isEmpty) = true := by rfl) (h1 : κ1.dn ≠ .w := by decide) (h2 : κ2 ≠ .w := by decide) (hk : κ = .s ∨ κ = .f 0 ∨ κ = .f 1 := by decide) :
    DE T bo X (.BinOp a .Add b pos) (E.bin addD ea eb) κ (t1 ++ t2) := d_bin (rr := rAdd T.K) (by have := op_addAll (X := X); rw [G.K] at this; exact this) (p_add h1 h2 hk) ha hb hq
theorem d_sub (ha : DE T bo X a ea κ1 t1) (hb : DE T bo X b eb κ2 t2) (hq : (κ1.solid || t2.isEmpty) = true := by rfl) : DE T bo X (.BinOp a .Sub b pos) (E.bin subD ea eb) κ (t1 ++ t2) := d_bin op_sub p_sub ha hb hq
theorem d_fdiv (ha : DE T bo X a ea κ1 t1) (hb : DE T bo X b eb κ2 t2) (hq : (κ1.solid || t2.isEmpty) = true := by rfl) : DE T bo X (.BinOp a .FloorDiv b pos) (E.bin fdivD ea eb) κ (t1 ++ t2) := d_bin op_fdiv p_fdiv ha hb hq
theorem d_mod (ha : DE T bo X a ea κ1 t1) (hb : DE T bo X b eb κ2 t2) (hq : (κ1.solid || t2.isEmpty) = true := by rfl) : DE T bo X (.BinOp a .Mod b pos) (E.bin modD ea eb) κ (t1 ++ t2) := d_bin op_mod p_mod ha hb hq
theorem d_lt (ha : DE T bo X a ea κ1 t1) (hb : DE T bo X b eb κ2 t2) (hq : (κ1.solid || t2.isEmpty) = true := by rfl) : DE T bo X (.Compare a [.Lt] [b] pos) (E.bin ltD ea eb) κ (t1 ++ t2) := d_cmp op_lt p_lt ha hb hq (nobehind _ (by decide) (by decide))
theorem d_le (ha : DE T bo X a ea κ1 t1) (hb : DE T bo X b eb κ2 t2) (hq : (κ1.solid || t2.isEmpty) = true := by rfl) : DE T bo X (.Compare a [.LtE] [b] pos) (E.bin leD ea eb) κ (t1 ++ t2) := d_cmp op_le p_le ha hb hq (nobehind _ (by decide) (by decide))
theorem d_gt (ha : DE T bo X a ea κ1 t1) (hb : DE T bo X b eb κ2 t2) (hq : (κ1.solid || t2.isEmpty) = true := by rfl) : DE T bo X (.Compare a [.Gt] [b] pos) (E.bin gtD ea eb) κ (t1 ++ t2) := d_cmp op_gt p_gt ha hb hq (nobehind _ (by decide) (by decide))
theorem d_ge (ha : DE T bo X a ea κ1 t1) (hb : DE T bo X b eb κ2 t2) (hq : (κ1.solid || t2.isEmpty) = true := by rfl) : DE T bo X (.Compare a [.GtE] [b] pos) (E.bin geD ea eb) κ (t1 ++ t2) := d_cmp op_ge p_ge ha hb hq (nobehind _ (by decide) (by decide))
end
end O
end
section
set_option Elab.async false
set_option linter.all false
set_option maxRecDepth 100000
/-! Sound5: ==, in, is, and, or, not, if; displays; places, slices, paths. -/
namespace O
open PySem PySem.Spec PyProof.Rows L2
mutual
def toPy : D → PyData
  | .non => .none
  | .bl b => .bool b
  | .int i => .int i
  | .str s => .str ⟨s.toArray⟩
  | .lst xs => .list (toPys xs)
  | .tup xs => .tuple (toPys xs)
def toPys : List D → List PyData
  | [] => []
  | x :: xs => toPy x :: toPys xs
end
mutual
theorem Rep.dp {K : PySem.W.Frag} {P : AP1} {H : Hp} : ∀ {v : V} {d : D}, Rep K P H v d → Dp K H v (toPy d)
  | _, _, .non => .non
  | _, _, .bl b => .bl b
  | _, _, .int i => .int i
  | _, _, .str s _ _ => .str _
  | _, _, .lst h _ r => .lst (SqL.of h) (Reps.dp r)
  | _, _, .tup h r => .tup h (Reps.dp r)
theorem Reps.dp {K : PySem.W.Frag} {P : AP1} {H : Hp} : ∀ {vs : List V} {ds : List D}, Reps K P H vs ds → DpAll K H vs (toPys ds)
  | _, _, .nil => .nil
  | _, _, .cons r t => .cons (Rep.dp r) (Reps.dp t)
end
theorem strOk_of {s : List Nat} (h : (s.all fun c => decide (c < 128)) = true) : PyData.strOk ⟨s.toArray⟩ = true := by
  show (s.toArray.all fun c => decide (c < 0x110000)) = true
  rw [List.all_toArray]
  refine List.all_eq_true.mpr fun c hc => ?_
  have := List.all_eq_true.mp h c hc
  simp at this ⊢
  omega
mutual
theorem Rep.lay {K : PySem.W.Frag} {P : AP1} {H : Hp} : ∀ {v : V} {d : D}, Rep K P H v d → (toPy d).canLay0 = true
  | _, _, .non => rfl
  | _, _, .bl b => rfl
  | _, _, .int i => rfl
  | _, _, .str s _ h => strOk_of h
  | _, _, .lst h _ r => Reps.lay r
  | _, _, .tup h r => Reps.lay r
theorem Reps.lay {K : PySem.W.Frag} {P : AP1} {H : Hp} : ∀ {vs : List V} {ds : List D}, Reps K P H vs ds → PyData.canLayAll0 (toPys ds) = true
  | _, _, .nil => rfl
  | _, _, .cons r t => by
    show (PyData.canLay0 _ && PyData.canLayAll0 _) = true
    rw [Rep.lay r, Reps.lay t]; rfl
end
theorem depthAll_le {n : Nat} : ∀ {l : List D}, (∀ d ∈ l, (toPy d).depth ≤ n) → PyData.depthAll (toPys l) ≤ n
  | [], _ => Nat.zero_le _
  | x :: l, h => by
    show max _ _ ≤ n
    exact Nat.max_le.mpr ⟨h x List.mem_cons_self, depthAll_le fun d hd => h d (List.mem_cons_of_mem _ hd)⟩
theorem shp_depth : ∀ (n : Nat) (d : D), shp n d = true → (toPy d).depth ≤ n + 1
  | 0, .non, _ => by decide
  | 0, .bl _, _ => by show 0 ≤ _; omega
  | 0, .int _, _ => by show 0 ≤ _; omega
  | 0, .str _, _ => by show 0 ≤ _; omega
  | 0, .lst _, h => nomatch h
  | 0, .tup _, h => nomatch h
  | _ + 1, .non, _ => by show 0 ≤ _; omega
  | _ + 1, .bl _, _ => by show 0 ≤ _; omega
  | _ + 1, .int _, _ => by show 0 ≤ _; omega
  | _ + 1, .str _, _ => by show 0 ≤ _; omega
  | n + 1, .lst xs, h => by
    have h1 : ∀ d ∈ xs, (toPy d).depth ≤ n + 1 := fun d hd => shp_depth n d (List.all_eq_true.mp (show xs.all (shp n) = true from h) d hd)
    show PyData.depthAll (toPys xs) + 1 ≤ _
    have := depthAll_le h1
    omega
  | n + 1, .tup xs, h => by
    have h1 : ∀ d ∈ xs, (toPy d).depth ≤ n + 1 := fun d hd => shp_depth n d (List.all_eq_true.mp (show xs.all (shp n) = true from h) d hd)
    show PyData.depthAll (toPys xs) + 1 ≤ _
    have := depthAll_le h1
    omega
mutual
theorem eqv_toPy : ∀ (a b : D), PyData.eqv (toPy a) (toPy b) = eqD a b
  | .non, .non => rfl
  | .non, .bl _ => rfl
  | .non, .int _ => rfl
  | .non, .str _ => rfl
  | .non, .lst _ => rfl
  | .non, .tup _ => rfl
  | .bl _, .non => rfl
  | .bl _, .bl _ => rfl
  | .bl a, .int j => by
    show ((if a = true then (1 : Int) else 0) == j) = decide ((if a = true then (1 : Int) else 0) = j)
    rw [Bool.beq_eq_decide_eq]
  | .bl _, .str _ => rfl
  | .bl _, .lst _ => rfl
  | .bl _, .tup _ => rfl
  | .int _, .non => rfl
  | .int i, .bl b => by
    show (i == (if b = true then (1 : Int) else 0)) = decide (i = (if b = true then (1 : Int) else 0))
    rw [Bool.beq_eq_decide_eq]
  | .int i, .int j => by
    show (i == j) = decide (i = j)
    rw [Bool.beq_eq_decide_eq]
  | .int _, .str _ => rfl
  | .int _, .lst _ => rfl
  | .int _, .tup _ => rfl
  | .str _, .non => rfl
  | .str _, .bl _ => rfl
  | .str _, .int _ => rfl
  | .str a, .str b => by
    show ((⟨a.toArray⟩ : PySem.Str) == ⟨b.toArray⟩) = decide (a = b)
    rw [Bool.beq_eq_decide_eq]
    exact decide_eq_decide.mpr ⟨fun h => by injection h with h; exact List.toArray_inj h, fun h => by rw [h]⟩
  | .str _, .lst _ => rfl
  | .str _, .tup _ => rfl
  | .lst _, .non => rfl
  | .lst _, .bl _ => rfl
  | .lst _, .int _ => rfl
  | .lst _, .str _ => rfl
  | .lst a, .lst b => eqvAll_toPy a b
  | .lst _, .tup _ => rfl
  | .tup _, .non => rfl
  | .tup _, .bl _ => rfl
  | .tup _, .int _ => rfl
  | .tup _, .str _ => rfl
  | .tup _, .lst _ => rfl
  | .tup a, .tup b => eqvAll_toPy a b
theorem eqvAll_toPy : ∀ (a b : List D), PyData.eqvAll (toPys a) (toPys b) = eqDs a b
  | [], [] => rfl
  | [], _ :: _ => rfl
  | _ :: _, [] => rfl
  | x :: a, y :: b => by
    show (PyData.eqv (toPy x) (toPy y) && PyData.eqvAll (toPys a) (toPys b)) = (eqD x y && eqDs a b)
    rw [eqv_toPy x y, eqvAll_toPy a b]
end
theorem Rep.shaped {K : PySem.W.Frag} {P : AP1} {H : Hp} {v : V} {d : D} (r : Rep K P H v d) {n : Nat} (h : shp n d = true) (hn : n ≤ 60) : SeqAt.shaped (toPy d) = true := by
  unfold SeqAt.shaped
  rw [r.lay, Bool.true_and]
  have := shp_depth n d h
  exact decide_eq_true (by omega)
section
variable {T : Tab} {bo : Bool} {X : Cx} {n : Nat}
theorem p_eq {κ1 κ2 κ : Kd} : Pr2 T (rEqD T.K) eqO κ1 κ2 κ := by
  intro bo Oc σ W H0 H0' H r As x y c d e Q en r1 r2 hf a
  unfold eqO at hf
  split at hf
  · rename_i h
    obtain ⟨h1, h2⟩ := Bool.and_eq_true_iff.mp h
    cases hf
    refine ⟨_, _, r1.weak.dp, r2.weak.dp, r1.weak.shaped h1 (by omega), r2.weak.shaped h2 (by omega), ?_⟩
    rw [eqv_toPy]
    exact aft_end a en Ext.refl (res_flat rfl en (.bl _))
  · cases hf
theorem p_ne {κ1 κ2 κ : Kd} : Pr2 T (rNeD T.K) neO κ1 κ2 κ := by
  intro bo Oc σ W H0 H0' H r As x y c d e Q en r1 r2 hf a
  unfold neO at hf
  split at hf
  · rename_i h
    obtain ⟨h1, h2⟩ := Bool.and_eq_true_iff.mp h
    cases hf
    refine ⟨_, _, r1.weak.dp, r2.weak.dp, r1.weak.shaped h1 (by omega), r2.weak.shaped h2 (by omega), ?_⟩
    rw [eqv_toPy]
    exact aft_end a en Ext.refl (res_flat rfl en (.bl _))
  · cases hf
variable {a b c : Expr} {ea eb ec : E} {κ1 κ2 κ3 κ : Kd} {t t1 t2 t3 : List Nat} {pos : Pos}
theorem d_eq (G : Gd T n X) (ha : DE T bo X a ea κ1 t1) (hb : DE T bo X b eb κ2 t2) (hq : (κ1.solid || t2.isEmpty) = true := by rfl) : DE T bo X (.Compare a [.Eq] [b] pos) (E.eq ea eb) κ (t1 ++ t2) :=
  d_cmp (rr := rEqD T.K) (by have := op_eqD (X := X) G.units; rw [G.K] at this; exact this) p_eq ha hb hq (nobehind _ (by decide) (by decide))
theorem d_ne (G : Gd T n X) (ha : DE T bo X a ea κ1 t1) (hb : DE T bo X b eb κ2 t2) (hq : (κ1.solid || t2.isEmpty) = true := by rfl) : DE T bo X (.Compare a [.NotEq] [b] pos) (E.ne ea eb) κ (t1 ++ t2) :=
  d_cmp (rr := rNeD T.K) (by have := op_neD (X := X) G.units; rw [G.K] at this; exact this) p_ne ha hb hq (nobehind _ (by decide) (by decide))
/-! ### is -/
theorem rep_non_iff {K : PySem.W.Frag} {P : AP1} {H : Hp} {v : V} {d : D} (h : Rep K P H v d) : decide (v = .non) = isNone d := by
  cases h <;> rfl
theorem p_isn {κ1 κ : Kd} : Pr1 T (fun x H Q => Q (.bl (decide (x = .non))) H) isnO κ1 κ := by
  intro bo Oc σ W H0 H r As x c e Q en r1 hf a
  cases hf
  show Q (.bl (decide (x = .non))) H
  rw [rep_non_iff r1.weak]
  exact aft_end a en Ext.refl (res_flat rfl en (.bl _))
theorem p_notn {κ1 κ : Kd} : Pr1 T (fun x H Q => Q (.bl (!decide (x = .non))) H) notnO κ1 κ := by
  intro bo Oc σ W H0 H r As x c e Q en r1 hf a
  cases hf
  show Q (.bl (!decide (x = .non))) H
  rw [rep_non_iff r1.weak]
  exact aft_end a en Ext.refl (res_flat rfl en (.bl _))
theorem d_isn {j pos'} (ha : DE T bo X a ea κ1 t) : DE T bo X (.Compare a [.Is] [.Constant .none j pos'] pos) (E.isn ea) κ t := fun W tk => PE.imp (pe_cmp (pc_isN (ha W tk)) (nobehind _ (by decide) (by decide))) fun σ H Q h => t_one p_isn h
theorem d_notn {j pos'} (ha : DE T bo X a ea κ1 t) : DE T bo X (.Compare a [.IsNot] [.Constant .none j pos'] pos) (E.notn ea) κ t := fun W tk => PE.imp (pe_cmp (pc_notN (ha W tk)) (nobehind _ (by decide) (by decide))) fun σ H Q h => t_one p_notn h
theorem p_isb {κ1 κ : Kd} {q : Bool} : Pr1 T (fun x H Q => rIsB x (.bl q) H Q) (isbO q) κ1 κ := by
  intro bo Oc σ W H0 H r As x c e Q en r1 hf a
  unfold isbO at hf
  split at hf
  · cases hf
    obtain rfl := rep_bl r1.weak
    exact ⟨_, _, rfl, rfl, aft_end a en Ext.refl (res_flat rfl en (.bl _))⟩
  · cases hf
theorem p_notb {κ1 κ : Kd} {q : Bool} : Pr1 T (fun x H Q => rNotB x (.bl q) H Q) (notbO q) κ1 κ := by
  intro bo Oc σ W H0 H r As x c e Q en r1 hf a
  unfold notbO at hf
  split at hf
  · cases hf
    obtain rfl := rep_bl r1.weak
    exact ⟨_, _, rfl, rfl, aft_end a en Ext.refl (res_flat rfl en (.bl _))⟩
  · cases hf
theorem d_isb {q : Bool} {j pos'} (ha : DE T bo X a ea κ1 t) : DE T bo X (.Compare a [.Is] [.Constant (.bool q) j pos'] pos) (E.isb q ea) κ t := fun W tk =>
  PE.imp (pe_cmpR op_isBl (ha W tk) pe_bl (nobehind _ (by decide) (by decide))) fun σ H Q h => t_one (rr := fun x H Q => rIsB x (.bl q) H Q) p_isb h
theorem d_notb {q : Bool} {j pos'} (ha : DE T bo X a ea κ1 t) : DE T bo X (.Compare a [.IsNot] [.Constant (.bool q) j pos'] pos) (E.notb q ea) κ t := fun W tk =>
  PE.imp (pe_cmpR op_notBl (ha W tk) pe_bl (nobehind _ (by decide) (by decide))) fun σ H Q h => t_one (rr := fun x H Q => rNotB x (.bl q) H Q) p_notb h
/-! ### isinstance -/
def tyName : Ty → String
  | .int => "int" | .bool => "bool" | .list => "list" | .tuple => "tuple" | .str => "str"
def tyD : D → String
  | .non => "NoneType" | .bl _ => "bool" | .int _ => "int" | .str _ => "str" | .lst _ => "list" | .tup _ => "tuple"
theorem kit_s (t : Ty) : kitB "NoneType" (tyName t) = some false ∧ kitB "bool" (tyName t) = some (t == .int || t == .bool) ∧ kitB "int" (tyName t) = some (t == .int) ∧ kitB "str" (tyName t) = some (t == .str) ∧
    kitB "list" (tyName t) = some (t == .list) ∧ kitB "tuple" (tyName t) = some (t == .tuple) := by
  cases t <;> decide +kernel
theorem kit_all (t : Ty) (d : D) : kitB (tyD d) (tyName t) = some (isTy t d) := by
  obtain ⟨h1, h2, h3, h4, h5, h6⟩ := kit_s t
  cases d with
  | non => refine h1.trans ?_; cases t <;> rfl
  | bl b => refine h2.trans ?_; cases t <;> rfl
  | int b => refine h3.trans ?_; cases t <;> rfl
  | str b => refine h4.trans ?_; cases t <;> rfl
  | lst b => refine h5.trans ?_; cases t <;> rfl
  | tup b => refine h6.trans ?_; cases t <;> rfl
theorem rep_ty {K : PySem.W.Frag} {P : AP1} {H : Hp} {v : V} {d : D} (h : Rep K P H v d) : TyX K H v (.type (tyD d)) := by
  cases h with
  | non => exact .base .non
  | bl b => exact .base (.bl b)
  | int i => exact .base (.int i)
  | str s _ _ => exact .base (.str _)
  | lst h _ _ => exact .base (.lst h)
  | tup h _ =>
    rcases h with (h | ⟨o, h⟩) | ⟨o, its, n, h1, h2, _⟩
    · exact .base (.tup h)
    · exact .fTuple h
    · exact .kTuple h1 h2
theorem p_isty {κ1 κ : Kd} {t : Ty} : Pr1 T (fun x H Q => rIsi T.K [x, .ty (tyName t)] H Q) (istyO t) κ1 κ := by
  intro bo Oc σ W H0 H r As x c e Q en r1 hf a
  cases hf
  exact ⟨x, _, _, _, _, rfl, .ty _, rep_ty r1.weak, kit_ty (kit_all t c), aft_end a en Ext.refl (res_flat rfl en (.bl _))⟩
def Ty.bn : Ty → Bn
  | .int => .int | .bool => .bool | .list => .list | .tuple => .tuple | .str => .str
theorem ty_boot (t : Ty) : bootBuiltins t.bn.name = some (.type (tyName t)) := by cases t <;> decide +kernel
theorem ty_nn (t : Ty) : t.bn.name ≠ ("__name__" : PySem.Str) := by cases t <;> decide +kernel
theorem ty_nd (t : Ty) : (t.bn.name == ("__debug__" : PySem.Str)) = false := by cases t <;> decide +kernel
theorem d_isty {ty : Ty} {x : PySem.Str} {p p2 : Pos} (G : Gd T n X) (ha : DE T bo X a ea κ1 t) (hx : ty.bn.name = x := by rfl) (hg : Gl X "isinstance" := by rfl) (hg2 : Gl X x := by rfl)
    (he : starEach [a, .Name x p2] X.env = (false, eval a X.env) :: starEach [.Name x p2] X.env := by rfl) : DE T bo X (.Call (.Name "isinstance" p) [a, .Name x p2] [] pos) (E.isty ty ea) κ t := fun W tk => by
  subst hx
  exact PE.imp (pe_callB (x := "isinstance") (pos := pos) (p := p) call_isi hg (G.bn .isinstance) (by decide +kernel) (pa_cons (ha W tk) (pa_cons (pe_bltn (v := .ty (tyName ty)) hg2 (G.bn _) (ty_boot ty) rfl (ty_nn ty) (ty_nd ty)) pa_nil rfl) he) (by decide +kernel) (by decide +kernel) he rfl)
    fun σ H Q h => t_one (rr := fun x H Q => rIsi X.K [x, .ty (tyName ty)] H Q) (by rw [G.K]; exact p_isty) h
/-! ### and, or, not, if -/
theorem TEv.un_ {W : WX} {f : D → Option D} {σ : St} {H : Hp} {Q : VK} (h : TEv T bo W (E.un f ea) κ t σ H Q) : TEv T bo W ea .w t σ H fun x H1 => ∃ Oc r As c e, EnvR T bo Oc H1 σ r As ∧ RepW T.K H1 x c ∧ f c = some e ∧ Aft T bo Oc σ W (ResR T bo Oc σ κ) [] H1 r As (.ok e r) Q := by
  obtain ⟨Oc, r, As, en, a⟩ := h
  refine ⟨Oc, r, As, en, aft_mono (aft_bind0 (R1 := ResR T bo Oc σ .w) wid_res a) fun x H1 ⟨r1, As1, c, st1, rs1, a1⟩ => ?_⟩
  obtain ⟨e, he, a3⟩ := wis a1
  exact ⟨Oc, r1, As1, c, e, st1.env, rs1, he, a3⟩
/-- a test: true or false -/
def TTv (T : Tab) (bo : Bool) (W : WX) (e : E) (t : List Nat) : TT := fun σ H Q => ∃ Oc r As, EnvR T bo Oc H σ r As ∧ (match e r with
  | .ok (.bl b) r' => ∀ H' As', Step T bo Oc σ t H r As H' r' As' → Q b H'
  | .raise c r' => ∀ H' As', Step T bo Oc σ t H r As H' r' As' → W (.ref (T.xc c)) none σ H'
  | _ => False)
/-- p as a test does what e says -/
def DT (T : Tab) (bo : Bool) (X : Cx) (p : Expr) (e : E) (t : List Nat) : Prop := ∀ W : WX, Takes X W → PT X p (TTv T bo W e t)
theorem PT.imp {p : Expr} {t t' : TT} (h : PT X p t) (hi : ∀ σ H Q, t' σ H Q → t σ H Q) : PT X p t' := ⟨fun pins s σ H Q I q => h.run pins s σ H Q I (hi σ H Q q)⟩
theorem PW.imp {p : Expr} {t t' : TT} (h : PW X p t) (hi : ∀ σ H Q, t' σ H Q → t σ H Q) : PW X p t' := ⟨fun w pins s σ H Q I q => h.run w pins s σ H Q I (hi σ H Q q)⟩
/-- any expression that gives a bool -/
theorem dt_val (ha : DE T bo X a ea κ1 t) (he : ∀ whole, isTrue a X.env whole = (do let v ← whole; standAt a.pos; holding [v] (truthy v)) := by intro _; rfl) : DT T bo X a ea t := fun W tk =>
  PT.imp (pt_val (ha W tk) he) fun σ H Q ⟨Oc, r, As, en, h⟩ => by
    refine ⟨Oc, r, As, en, ?_⟩
    unfold Aft
    cases q : ea r with
    | ok d r' =>
      rw [q] at h
      cases d with
      | bl b =>
        intro v H' As' st rs
        exact ⟨b, rep_bl rs.weak, h H' As' st⟩
      | _ => exact h.elim
    | raise c r' => rw [q] at h; exact h
    | stuck => rw [q] at h; exact h.elim
theorem dt_not (ha : DT T bo X a ea t) : DT T bo X (.UnaryOp .Not a pos) (E.not ea) t := fun W tk =>
  PT.imp (pt_not (ha W tk)) fun σ H Q ⟨Oc, r, As, en, h⟩ => by
    refine ⟨Oc, r, As, en, ?_⟩
    have e : E.not ea r = (ea r).bind fun x r => lift (notD x) r := rfl
    rw [e] at h
    cases q : ea r with
    | ok d r' =>
      rw [q] at h
      cases d with
      | bl b => exact fun H' As' st => h H' As' st
      | _ => exact h.elim
    | raise c r' => rw [q] at h; exact h
    | stuck => rw [q] at h; exact h.elim
def PWv (T : Tab) (bo : Bool) (X : Cx) (p : Expr) (e : E) (t : List Nat) : Prop := ∀ W : WX, Takes X W → PW X p (TTv T bo W e t)
theorem dw_and1 (ha : DT T bo X a ea t) : PWv T bo X (.BoolOp .And [a] pos) ea t := fun W tk => pw_and1 (ha W tk)
theorem dw_or1 (ha : DT T bo X a ea t) : PWv T bo X (.BoolOp .Or [a] pos) ea t := fun W tk => pw_or1 (ha W tk)
theorem dw_and {rest : List Expr} (ha : DT T bo X a ea t1) (hb : PWv T bo X (.BoolOp .And (b :: rest) pos) eb t2) : PWv T bo X (.BoolOp .And (a :: b :: rest) pos) (E.and ea eb) (t1 ++ t2) := fun W tk =>
  PW.imp (pw_and (ha W tk) (hb W tk)) fun σ H Q ⟨Oc, r, As, en, h⟩ => by
    refine ⟨Oc, r, As, en, ?_⟩
    unfold E.and at h
    cases q : ea r with
    | ok d r' =>
      rw [q] at h
      cases d with
      | bl b =>
        intro H1 As1 st
        cases b with
        | true =>
          rw [if_pos rfl]
          refine ⟨Oc, r', As1, st.env, ?_⟩
          simp only [Res.bind] at h
          cases q2 : eb r' with
          | ok d2 r2 =>
            rw [q2] at h
            cases d2 with
            | bl b2 => exact fun H2 As2 st2 => h H2 As2 (st.trans st2)
            | _ => exact h.elim
          | raise c r2 => rw [q2] at h; exact fun H2 As2 st2 => h H2 As2 (st.trans st2)
          | stuck => rw [q2] at h; exact h.elim
        | false =>
          rw [if_neg (by decide)]
          exact h H1 As1 (st.wid fun i z => List.mem_append_left _ z)
      | _ => exact h.elim
    | raise c r' => rw [q] at h; exact fun H1 As1 st => h H1 As1 (st.wid fun i z => List.mem_append_left _ z)
    | stuck => rw [q] at h; exact h.elim
theorem dw_or {rest : List Expr} (ha : DT T bo X a ea t1) (hb : PWv T bo X (.BoolOp .Or (b :: rest) pos) eb t2) : PWv T bo X (.BoolOp .Or (a :: b :: rest) pos) (E.or ea eb) (t1 ++ t2) := fun W tk =>
  PW.imp (pw_or (ha W tk) (hb W tk)) fun σ H Q ⟨Oc, r, As, en, h⟩ => by
    refine ⟨Oc, r, As, en, ?_⟩
    unfold E.or at h
    cases q : ea r with
    | ok d r' =>
      rw [q] at h
      cases d with
      | bl b =>
        intro H1 As1 st
        cases b with
        | false =>
          rw [if_neg (by decide)]
          refine ⟨Oc, r', As1, st.env, ?_⟩
          simp only [Res.bind] at h
          cases q2 : eb r' with
          | ok d2 r2 =>
            rw [q2] at h
            cases d2 with
            | bl b2 => exact fun H2 As2 st2 => h H2 As2 (st.trans st2)
            | _ => exact h.elim
          | raise c r2 => rw [q2] at h; exact fun H2 As2 st2 => h H2 As2 (st.trans st2)
          | stuck => rw [q2] at h; exact h.elim
        | true =>
          rw [if_pos rfl]
          exact h H1 As1 (st.wid fun i z => List.mem_append_left _ z)
      | _ => exact h.elim
    | raise c r' => rw [q] at h; exact fun H1 As1 st => h H1 As1 (st.wid fun i z => List.mem_append_left _ z)
    | stuck => rw [q] at h; exact h.elim
theorem PWv.dt {p : Expr} (h : PWv T bo X p ea t) : DT T bo X p ea t := fun W tk => (h W tk).pt
/-! the same as values -/
theorem de_not (ha : DE T bo X a ea κ1 t) : DE T bo X (.UnaryOp .Not a pos) (E.not ea) κ t := fun W tk => PE.imp (pe_not (ha W tk)) fun σ H Q h => by
  refine t_one (f := notD) (rr := fun x H1 Q => ∃ c, x = .bl c ∧ Q (.bl (!c)) H1) (κ1 := κ1) ?_ h
  intro bo Oc σ W H0 H r As x c e Q en r1 hf a
  unfold notD at hf
  split at hf
  · cases hf
    exact ⟨_, rep_bl r1.weak, aft_end a en Ext.refl (res_flat rfl en (.bl _))⟩
  · cases hf
theorem de_one {op} (ha : DE T bo X a ea κ t) : DE T bo X (.BoolOp op [a] pos) ea κ t := fun W tk => pe_one (ha W tk)
theorem de_and {rest : List Expr} (ha : DE T bo X a ea κ1 t1) (hb : DE T bo X (.BoolOp .And (b :: rest) pos) eb κ t2) : DE T bo X (.BoolOp .And (a :: b :: rest) pos) (E.and ea eb) κ (t1 ++ t2) := fun W tk =>
  PE.imp (pe_and (ha W tk) (hb W tk)) fun σ H Q ⟨Oc, r, As, en, h⟩ => by
    refine ⟨Oc, r, As, en, aft_mono (aft_bind (t2 := t2) wid_res h) fun x H1 ⟨r1, As1, c, st1, rs1, a1⟩ => ?_⟩
    cases c with
    | bl q =>
      refine ⟨q, rep_bl rs1.weak, ?_⟩
      cases q with
      | true => rw [if_pos rfl]; exact ⟨Oc, r1, As1, st1.env, a1⟩
      | false => rw [if_neg (by decide)]; exact a1 _ _ _ (.refl st1.env) (res_flat rfl st1.env (.bl _))
    | _ => exact a1.elim
theorem de_or {rest : List Expr} (ha : DE T bo X a ea κ1 t1) (hb : DE T bo X (.BoolOp .Or (b :: rest) pos) eb κ t2) : DE T bo X (.BoolOp .Or (a :: b :: rest) pos) (E.or ea eb) κ (t1 ++ t2) := fun W tk =>
  PE.imp (pe_or (ha W tk) (hb W tk)) fun σ H Q ⟨Oc, r, As, en, h⟩ => by
    refine ⟨Oc, r, As, en, aft_mono (aft_bind (t2 := t2) wid_res h) fun x H1 ⟨r1, As1, c, st1, rs1, a1⟩ => ?_⟩
    cases c with
    | bl q =>
      refine ⟨q, rep_bl rs1.weak, ?_⟩
      cases q with
      | false => rw [if_neg (by decide)]; exact ⟨Oc, r1, As1, st1.env, a1⟩
      | true => rw [if_pos rfl]; exact a1 _ _ _ (.refl st1.env) (res_flat rfl st1.env (.bl _))
    | _ => exact a1.elim
theorem d_ite (hc : DT T bo X c ec t1) (ha : DE T bo X a ea κ t2) (hb : DE T bo X b eb κ t2) : DE T bo X (.IfExp c a b pos) (E.ite ec ea eb) κ (t1 ++ t2) := fun W tk =>
  PE.imp (pe_ifExp (hc W tk) (ha W tk) (hb W tk)) fun σ H Q ⟨Oc, r, As, en, h⟩ => by
    refine ⟨Oc, r, As, en, ?_⟩
    have h : Aft T bo Oc σ W (ResR T bo Oc σ κ) (t1 ++ t2) H r As ((ec r).bind fun x r => match x with
      | .bl true => ea r
      | .bl false => eb r
      | _ => .stuck) Q := h
    cases q : ec r with
    | ok d r' =>
      rw [q] at h
      cases d with
      | bl b =>
        intro H1 As1 st
        have go : ∀ {e : E}, Aft T bo Oc σ W (ResR T bo Oc σ κ) (t1 ++ t2) H r As (e r') Q → TEv T bo W e κ t2 σ H1 Q := fun {e} h => by
          refine ⟨Oc, r', As1, st.env, ?_⟩
          unfold Aft at h ⊢
          cases q2 : e r' with
          | ok d2 r2 => rw [q2] at h; exact fun v H2 As2 st2 rs => h v H2 As2 (st.trans st2) (rs.back st.kp.dom)
          | raise c r2 => rw [q2] at h; exact fun H2 As2 st2 => h H2 As2 (st.trans st2)
          | stuck => rw [q2] at h; exact h
        cases b with
        | true => rw [if_pos rfl]; exact go h
        | false => rw [if_neg (by decide)]; exact go h
      | _ => exact h.elim
    | raise c r' => rw [q] at h; exact fun H1 As1 st => h H1 As1 (st.wid fun i z => List.mem_append_left _ z)
    | stuck => rw [q] at h; exact h.elim
end
end O
end
section
set_option Elab.async false
set_option linter.all false
set_option maxRecDepth 100000
/-! Sound6: chains; displays; places, slices, paths; in. -/
namespace O
open PySem PySem.Spec PyProof.Rows L2
section
variable {T : Tab} {bo : Bool} {X : Cx} {n : Nat}
variable {a b c : Expr} {ea eb ec : E} {κ1 κ2 κ3 κ : Kd} {t t1 t2 t3 : List Nat} {pos : Pos}
/-! ### a <= b <= c -/
theorem d_chain {op op' : CmpOp} {f g : D → D → Option D} {p q : Int → Int → Bool} (ho : OpR X (compareOp op) (rI0 fun i j => .bl (p i j))) (ho' : OpR X (compareOp op') (rI0 fun i j => .bl (q i j)))
    (hf : ∀ c d e, f c d = some e → ∃ i j, c = .int i ∧ d = .int j ∧ e = .bl (p i j)) (hg : ∀ c d e, g c d = some e → ∃ i j, c = .int i ∧ d = .int j ∧ e = .bl (q i j))
    (ha : DE T bo X a ea κ1 t1) (hb : DE T bo X b eb κ2 t2) (hc : DE T bo X c ec κ3 t3) (hm : lastMarks [op, op'] [b, c] = false)
    (hq : (κ1.solid || t2.isEmpty) = true) (hq2 : (κ2.solid || t3.isEmpty) = true) : DE T bo X (.Compare a [op, op'] [b, c] pos) (E.chain f g ea eb ec) κ (t1 ++ (t2 ++ t3)) := fun W tk =>
  PE.imp (pe_chain ho ho' (ha W tk) (hb W tk) (hc W tk) hm) fun σ H Q ⟨Oc, r, As, en, h⟩ => by
    refine ⟨Oc, r, As, en, aft_mono (aft_bind (t2 := t2 ++ t3) wid_res h) fun x H1 ⟨r1, As1, c1, st1, rs1, a1⟩ => ?_⟩
    refine ⟨Oc, r1, As1, st1.env, aft_mono (aft_bind (t1 := t2) (t2 := t3) wid_res a1) fun y H2 ⟨r2, As2, c2, st2, rs2, a2⟩ => ?_⟩
    have rs1' := rs1.stay st2 hq
    cases e : f c1 c2 with
    | none => rw [e] at a2; exact a2.elim
    | some z =>
      obtain ⟨i, j, rfl, rfl, rfl⟩ := hf _ _ _ e
      rw [e] at a2
      refine ⟨i, j, rep_int rs1'.weak, rep_int rs2.weak, p i j, rfl, ?_⟩
      cases hp : p i j with
      | false =>
        rw [hp] at a2
        rw [if_neg (by decide)]
        exact a2 _ _ _ (.refl st2.env) (res_flat rfl st2.env (.bl _))
      | true =>
        rw [hp] at a2
        rw [if_pos rfl]
        refine ⟨Oc, r2, As2, st2.env, aft_mono (aft_bind0 wid_res a2) fun w H3 ⟨r3, As3, c3, st3, rs3, a3⟩ => ?_⟩
        have rs2' := rs2.stay st3 hq2
        obtain ⟨z2, e2, a4⟩ := wis a3
        obtain ⟨i2, j2, h1, rfl, rfl⟩ := hg _ _ _ e2
        cases h1
        exact ⟨_, _, rep_int rs2'.weak, rep_int rs3.weak, aft_end a4 st3.env Ext.refl (res_flat rfl st3.env (.bl _))⟩
theorem le_inv (c d e : D) (h : leD c d = some e) : ∃ i j, c = .int i ∧ d = .int j ∧ e = .bl (decide (i ≤ j)) := by
  unfold leD at h; split at h
  · cases h; exact ⟨_, _, rfl, rfl, rfl⟩
  · cases h
theorem lt_inv (c d e : D) (h : ltD c d = some e) : ∃ i j, c = .int i ∧ d = .int j ∧ e = .bl (decide (i < j)) := by
  unfold ltD at h; split at h
  · cases h; exact ⟨_, _, rfl, rfl, rfl⟩
  · cases h
theorem d_leLe (ha : DE T bo X a ea κ1 t1) (hb : DE T bo X b eb κ2 t2) (hc : DE T bo X c ec κ3 t3) (hq : (κ1.solid || t2.isEmpty) = true := by rfl) (hq2 : (κ2.solid || t3.isEmpty) = true := by rfl) (hm : lastMarks [.LtE, .LtE] [b, c] = false := by with_unfolding_all rfl) :
    DE T bo X (.Compare a [.LtE, .LtE] [b, c] pos) (E.chain leD leD ea eb ec) κ (t1 ++ (t2 ++ t3)) := d_chain op_le op_le le_inv le_inv ha hb hc hm hq hq2
theorem d_leLt (ha : DE T bo X a ea κ1 t1) (hb : DE T bo X b eb κ2 t2) (hc : DE T bo X c ec κ3 t3) (hq : (κ1.solid || t2.isEmpty) = true := by rfl) (hq2 : (κ2.solid || t3.isEmpty) = true := by rfl) (hm : lastMarks [.LtE, .Lt] [b, c] = false := by with_unfolding_all rfl) :
    DE T bo X (.Compare a [.LtE, .Lt] [b, c] pos) (E.chain leD ltD ea eb ec) κ (t1 ++ (t2 ++ t3)) := d_chain op_le op_lt le_inv lt_inv ha hb hc hm hq hq2
/-! ### displays -/
def RRs (T : Tab) (Oc : AP1) (n : Nat) (H H' : Hp) (_ : Env) (As : Nat → List Addr) (vs : List V) (ds : List D) : Prop := Reps T.K (PO Oc As) H' vs ds ∧ ds.length = n
theorem wid_rrs {Oc : AP1} {n : Nat} : Wid (RRs T Oc n) := fun _ _ _ _ _ _ _ _ h => h
def TAs (T : Tab) (bo : Bool) (W : WX) (es : List E) (t : List Nat) : TA := fun σ H Q => ∃ Oc r As, EnvR T bo Oc H σ r As ∧ Aft T bo Oc σ W (RRs T Oc es.length) t H r As (E.seqs es r) Q
def DA (T : Tab) (bo : Bool) (X : Cx) (ps : List Expr) (es : List E) (t : List Nat) : Prop := ∀ W : WX, Takes X W → PA X ps (TAs T bo W es t)
theorem PA.imp {ps : List Expr} {t t' : TA} (h : PA X ps t) (hi : ∀ σ H Q, t' σ H Q → t σ H Q) : PA X ps t' := ⟨fun pos pins s σ H Q I q => h.run pos pins s σ H Q I (hi σ H Q q)⟩
theorem da_nil : DA T bo X [] [] [] := fun W tk => PA.imp pa_nil fun σ H Q ⟨Oc, r, As, en, h⟩ => aft_end h en Ext.refl ⟨.nil, rfl⟩
theorem da_cons {ps : List Expr} {es : List E} (ha : DE T bo X a ea κ1 t1) (hr : DA T bo X ps es t2) (hk : κ1.solid = true := by rfl) (hs : starEach (a :: ps) X.env = (false, eval a X.env) :: starEach ps X.env := by rfl) : DA T bo X (a :: ps) (ea :: es) (t1 ++ t2) := fun W tk =>
  PA.imp (pa_cons (ha W tk) (hr W tk) hs) fun σ H Q ⟨Oc, r, As, en, h⟩ => by
    refine ⟨Oc, r, As, en, aft_mono (aft_bind (t2 := t2) wid_rrs h) fun x H1 ⟨r1, As1, c1, st1, rs1, a1⟩ => ?_⟩
    refine ⟨Oc, r1, As1, st1.env, aft_mono (aft_bind0 (R1 := RRs T Oc es.length) wid_rrs a1) fun xs H2 ⟨r2, As2, ds, st2, ⟨rs2, hl⟩, a2⟩ => ?_⟩
    have rs1' := rs1.stay st2 (by rw [hk]; rfl)
    exact aft_end a2 st2.env Ext.refl ⟨.cons (rs1'.rep (by cases κ1 <;> first | rfl | cases hk)) rs2, by simp [hl]⟩
theorem d_lst {ps : List Expr} {es : List E} (h : DA T bo X ps es t) (hk : κ = .s ∨ κ = .f 1 ∨ κ = .f 0 := by decide) (hl : es.length ≤ LIM := by exact Nat.le_of_ble_eq_true rfl) : DE T bo X (.List ps pos) (E.lst es) κ t := fun W tk =>
  PE.imp (pe_lst (h W tk)) fun σ H Q ⟨Oc, r, As, en, h⟩ => by
    refine ⟨Oc, r, As, en, aft_mono (aft_bind0 (R1 := RRs T Oc es.length) wid_res h) fun xs H1 ⟨r1, As1, ds, st1, ⟨rs1, e⟩, a1⟩ => ⟨?_, fun p hp => ?_⟩⟩
    · rw [rs1.length, e, ← lim_line]; exact hl
    · exact aft_end a1 st1.env (Ext.upd hp) (res_new hk st1.env (fun _ z => z) hp rs1)
theorem d_tup {ps : List Expr} {es : List E} {k : Nat} (h : DA T bo X ps es t) (hl : es.length ≤ LIM := by exact Nat.le_of_ble_eq_true rfl) : DE T bo X (.Tuple ps k pos) (E.tup es) κ t := fun W tk =>
  PE.imp (pe_tup (h W tk)) fun σ H Q ⟨Oc, r, As, en, h⟩ => by
    refine ⟨Oc, r, As, en, aft_mono (aft_bind0 (R1 := RRs T Oc es.length) wid_res h) fun xs H1 ⟨r1, As1, ds, st1, ⟨rs1, e⟩, a1⟩ => ⟨?_, fun p hp => ?_⟩⟩
    · rw [rs1.length, e, ← lim_line]; exact hl
    · exact aft_end a1 st1.env (Ext.upd hp) (res_flat rfl (st1.env.ext (Ext.upd hp)) (rep_newT st1.env hp rs1))
/-! ### places -/
theorem atI_eq {α : Type} (xs : List α) (i : Int) : O.atI xs i = L2.atI xs i := by
  unfold O.atI L2.atI L2.ixN
  by_cases h : 0 ≤ i
  · rw [if_pos h, if_pos h]
    by_cases h2 : i < xs.length
    · rw [if_pos h2]; rfl
    · rw [if_neg h2]
      exact List.getElem?_eq_none (by omega)
  · rw [if_neg h, if_neg h]
    by_cases h2 : -(xs.length : Int) ≤ i
    · rw [if_pos h2, if_pos (by omega)]; rfl
    · rw [if_neg h2, if_neg (by omega)]; rfl
theorem ixN_len {n m : Nat} {i : Int} (h : n = m) : L2.ixN n i = L2.ixN m i := by rw [h]
theorem reps_at {K : PySem.W.Frag} {P : AP1} {H : Hp} {vs : List V} {ds : List D} {i : Int} {d : D} (r : Reps K P H vs ds) (h : O.atI ds i = some d) : ∃ v, L2.atI vs i = some v ∧ Rep K P H v d := by
  rw [atI_eq] at h
  unfold L2.atI at h ⊢
  rw [← r.length] at h
  cases e : L2.ixN vs.length i with
  | none => rw [e] at h; cases h
  | some j =>
    rw [e] at h
    exact r.get h
def rIdx (K : PySem.W.Frag) : R2 := fun x y H Q => rIxL K x y H Q ∨ rIxT K x y H Q
theorem p_idx (h : κ1 ≠ .w ∨ κ = .w) (hk : κ = .s ∨ κ = .w ∨ κ = .f 0) : Pr2 T (rIdx T.K) idxD κ1 κ2 κ := by
  intro bo Oc σ W H0 H0' H r As x y c d e Q en r1 r2 hf a
  unfold idxD at hf
  split at hf
  · rename_i xs i
    obtain rfl := rep_int r2.weak
    rcases h with h | h
    · obtain ⟨p, vs, rfl, e1, q1⟩ := bor_lst (r1.bor h)
      obtain ⟨v, hv, rp⟩ := reps_at q1 hf
      refine .inl ⟨p, vs, i, v, rfl, rfl, SqL.of e1, hv, aft_end a en Ext.refl ?_⟩
      rcases hk with e | e | e
      · subst e; exact rp
      · subst e; exact rp.weak
      · subst e; exact ⟨[], ⟨rfl, rp.keep Kp.refl fun a _ z => z.imp id fun z => z.elim id fun z => nomatch z⟩, List.nodup_nil, (fun a ha => nomatch ha), en.lessOc fun a z => z.elim id fun z => nomatch z⟩
    · subst h
      obtain ⟨p, vs, rfl, e1, _, q1⟩ := rep_lst r1.weak
      obtain ⟨v, hv, rp⟩ := reps_at q1 hf
      exact .inl ⟨p, vs, i, v, rfl, rfl, SqL.of e1, hv, aft_end a en Ext.refl rp⟩
  · rename_i xs i
    obtain rfl := rep_int r2.weak
    rcases h with h | h
    · obtain ⟨p, vs, rfl, e1, q1⟩ := bor_tup (r1.bor h)
      obtain ⟨v, hv, rp⟩ := reps_at q1 hf
      refine .inr ⟨p, vs, i, v, rfl, rfl, e1, hv, aft_end a en Ext.refl ?_⟩
      rcases hk with e | e | e
      · subst e; exact rp
      · subst e; exact rp.weak
      · subst e; exact ⟨[], ⟨rfl, rp.keep Kp.refl fun a _ z => z.imp id fun z => z.elim id fun z => nomatch z⟩, List.nodup_nil, (fun a ha => nomatch ha), en.lessOc fun a z => z.elim id fun z => nomatch z⟩
    · subst h
      obtain ⟨p, vs, rfl, e1, q1⟩ := rep_tup r1.weak
      obtain ⟨v, hv, rp⟩ := reps_at q1 hf
      exact .inr ⟨p, vs, i, v, rfl, rfl, e1, hv, aft_end a en Ext.refl rp⟩
  · cases hf
theorem d_idx (G : Gd T n X) (ha : DE T bo X a ea κ1 t1) (hb : DE T bo X b eb κ2 t2) (hq : (κ1.solid || t2.isEmpty) = true := by rfl) (h : κ1.dn ≠ .w ∨ κ = .w := by decide) (hk : κ = .s ∨ κ = .w ∨ κ = .f 0 := by decide) (hs : PlainIx b := by intro _ _; rfl) :
    DE T bo X (.Subscript a b pos) (E.idx ea eb) κ (t1 ++ t2) := fun W tk =>
  PE.imp (pe_ix (r := rIdx T.K) (by have := IxR.or (ix_list (X := X)) (ix_tup (X := X)); rw [G.K] at this; exact this) (ha W tk) (hb W tk) hs) fun σ H Q h' => t_two (p_idx h hk) hq h'
/-! ### slices -/
theorem cut_eq (vs : List V) (lo hi : Option Int) : cutL vs lo hi = L2.cutV vs lo hi := by
  unfold cutL L2.cutV
  rw [List.drop_take]
  cases lo <;> cases hi <;> rfl
theorem reps_cut {K : PySem.W.Frag} {P : AP1} {H : Hp} {vs : List V} {ds : List D} (lo hi : Option Int) (r : Reps K P H vs ds) : Reps K P H (L2.cutV vs lo hi) (cutL ds lo hi) := by
  rw [← cut_eq]
  unfold cutL
  rw [r.length]
  exact (r.take _).drop _
def TOv (T : Tab) (bo : Bool) (W : WX) (o : Option E) (t : List Nat) : TO := fun σ H Q => ∃ Oc r As, EnvR T bo Oc H σ r As ∧ Aft T bo Oc σ W (fun _ _ _ _ v d => v = d) t H r As (E.optI o r) Q
def DO (T : Tab) (bo : Bool) (X : Cx) (p : Option Expr) (o : Option E) (t : List Nat) : Prop := ∀ W : WX, Takes X W → L2.PO X p (TOv T bo W o t)
theorem do_none : DO T bo X none none [] := fun W tk => ⟨fun pins s σ H Q I ⟨Oc, r, As, en, h⟩ => po_none.run pins s σ H Q I (aft_end h en Ext.refl rfl)⟩
theorem do_some (ha : DE T bo X a ea κ1 t) : DO T bo X (some a) (some ea) t := fun W tk => ⟨fun pins s σ H Q I ⟨Oc, r, As, en, h⟩ => (po_some (ha W tk)).run pins s σ H Q I ⟨Oc, r, As, en, by
    refine aft_mono (aft_bind0 (fun _ _ _ _ _ _ _ _ h => h) h) fun x H1 ⟨r1, As1, c1, st1, rs1, a1⟩ => ?_
    cases c1 with
    | int i => exact ⟨i, rep_int rs1.weak, aft_end a1 st1.env Ext.refl rfl⟩
    | _ => exact a1.elim⟩⟩
def rSlice (K : PySem.W.Frag) : V → Option Int → Option Int → Hp → VK → Prop := fun x lo hi H Q => rSlL K x lo hi H Q ∨ rSlA K x lo hi H Q ∨ rSlS x lo hi H Q
theorem d_slice {lo hi : Option Expr} {el eh : Option E} {p2 : Pos} (G : Gd T n X) (ha : DE T bo X a ea κ1 t1) (hl : DO T bo X lo el t2) (hh : DO T bo X hi eh t3) (hq : (κ1.solid || (t2 ++ t3).isEmpty) = true := by rfl) (h1 : κ1.dn ≠ .w := by decide) (hk : κ = .s ∨ κ = .f 1 ∨ κ = .f 0 := by decide) :
    DE T bo X (.Subscript a (.Slice lo hi none p2) pos) (E.slice ea el eh) κ (t1 ++ (t2 ++ t3)) := fun W tk =>
  PE.imp (pe_slice (r := rSlice T.K) (by have := SlR.or (sl_list (X := X)) (SlR.or (sl_tupA (X := X)) (sl_str (X := X))); rw [G.K] at this; exact this) (ha W tk) (hl W tk) (hh W tk)) fun σ H Q ⟨Oc, r, As, en, h⟩ => by
    refine ⟨Oc, r, As, en, aft_mono (aft_bind (t2 := t2 ++ t3) wid_res h) fun x H1 ⟨r1, As1, c1, st1, rs1, a1⟩ => ?_⟩
    refine ⟨Oc, r1, As1, st1.env, aft_mono (aft_bind (t1 := t2) (t2 := t3) (R1 := fun _ _ _ _ v d => v = d) wid_res a1) fun i H2 ⟨r2, As2, i', st2, e2, a2⟩ => ?_⟩
    subst e2
    refine ⟨Oc, r2, As2, st2.env, aft_mono (aft_bind0 (R1 := fun _ _ _ _ v d => v = d) wid_res a2) fun j H3 ⟨r3, As3, j', st3, e3, a3⟩ => ?_⟩
    subst e3
    have rs := rs1.stay (st2.trans st3) hq
    obtain ⟨z, ez, a4⟩ := wis a3
    cases c1 with
    | lst xs =>
      cases ez
      obtain ⟨p, vs, rfl, e1, q1⟩ := bor_lst (rs.bor h1)
      exact .inl ⟨p, vs, rfl, SqL.of e1, fun l hl => aft_end a4 st3.env (Ext.upd hl) (res_new hk st3.env (fun _ z => z) hl (reps_cut i j q1))⟩
    | tup xs =>
      cases ez
      obtain ⟨p, vs, rfl, e1, q1⟩ := bor_tup (rs.bor h1)
      refine .inr (.inl ⟨p, vs, rfl, e1, fun hw => ?_, fun _ l hl => aft_end a4 st3.env (Ext.upd hl) (res_flat rfl (st3.env.ext (Ext.upd hl)) (rep_newT st3.env hl (reps_cut i j q1)))⟩)
      refine aft_end a4 st3.env Ext.refl (res_flat rfl st3.env ?_)
      have e : L2.cutV vs i j = vs := by
        unfold L2.cutV
        rw [hw.1, hw.2]
        simp
      have := reps_cut i j q1
      rw [e] at this
      exact .tup e1 this
    | str xs =>
      cases ez
      obtain ⟨rfl, z1, z2⟩ := rep_str rs.weak
      refine .inr (.inr ⟨_, rfl, by rw [← lim_line]; show xs.toArray.size ≤ _; simpa using z1, ?_⟩)
      have e : L2.cutS ⟨xs.toArray⟩ i j = ⟨(cutL xs i j).toArray⟩ := by
        unfold L2.cutS cutL
        rw [List.drop_take]
        have hn : PySem.Str.length ⟨xs.toArray⟩ = xs.length := by show xs.toArray.size = _; simp
        rw [hn]
        cases i <;> cases j <;> rfl
      rw [e]
      have sub : ∀ c ∈ cutL xs i j, c ∈ xs := fun c hc => List.mem_of_mem_take (List.mem_of_mem_drop hc)
      refine aft_end a4 st3.env Ext.refl (res_flat rfl st3.env (.str _ ?_ ?_))
      · refine Nat.le_trans ?_ z1
        unfold cutL
        simp only [List.length_drop, List.length_take]
        omega
      · exact List.all_eq_true.mpr fun c hc => List.all_eq_true.mp z2 c (sub c hc)
    | _ => cases ez
end
end O
end
section
set_option Elab.async false
set_option linter.all false
set_option maxRecDepth 100000
/-! Sound7: paths into what is owned; in; index. -/
namespace O
open PySem PySem.Spec PyProof.Rows L2
section
variable {T : Tab} {bo : Bool} {X : Cx} {n : Nat}
variable {a b c : Expr} {ea eb ec : E} {κ1 κ2 κ3 κ : Kd} {t t1 t2 t3 : List Nat} {pos : Pos}
theorem BorR.of_rep {K : PySem.W.Frag} {P : AP1} {H : Hp} {v : V} {d : D} (r : Rep K P H v d) : ∀ k, BorR K P H k v d
  | 0 => r
  | _ + 1 => .inl r
theorem All2.get {α β : Type} {f : α → β → Prop} : ∀ {as : List α} {bs : List β} {i : Nat} {b : β}, All2 f as bs → bs[i]? = some b → ∃ a, as[i]? = some a ∧ f a b
  | [], [], _, _, _, e => by simp at e
  | _ :: _, _ :: _, 0, _, h, e => by simp at e; subst e; exact ⟨_, rfl, h.1⟩
  | _ :: _, _ :: _, i + 1, _, h, e => by
    obtain ⟨a, h1, h2⟩ := All2.get (i := i) h.2 (by simpa using e)
    exact ⟨a, by simpa using h1, h2⟩
  | [], _ :: _, _, _, h, _ => h.elim
  | _ :: _, [], _, _, h, _ => h.elim
theorem All2.length {α β : Type} {f : α → β → Prop} : ∀ {as : List α} {bs : List β}, All2 f as bs → as.length = bs.length
  | [], [], _ => rfl
  | _ :: _, _ :: _, h => congrArg Nat.succ (All2.length h.2)
  | [], _ :: _, h => h.elim
  | _ :: _, [], h => h.elim
/-- one place further -/
theorem BorR.at {K : PySem.W.Frag} {P : AP1} {H : Hp} {k : Nat} {v : V} {c d : D} {i : Int} (h : BorR K P H k v c) (hi : idxD c (.int i) = some d) : rIdx K v (.int i) H fun u H' => H' = H ∧ BorR K P H (k - 1) u d := by
  have rep : Rep K P H v c → rIdx K v (.int i) H fun u H' => H' = H ∧ BorR K P H (k - 1) u d := fun r => by
    unfold idxD at hi
    split at hi
    · rename_i xs j e
      cases e
      obtain ⟨p, vs, rfl, e1, _, q⟩ := rep_lst r
      obtain ⟨u, hu, ru⟩ := reps_at q hi
      exact .inl ⟨p, vs, i, u, rfl, rfl, SqL.of e1, hu, rfl, .of_rep ru _⟩
    · rename_i xs j e
      cases e
      obtain ⟨p, vs, rfl, e1, q⟩ := rep_tup r
      obtain ⟨u, hu, ru⟩ := reps_at q hi
      exact .inr ⟨p, vs, i, u, rfl, rfl, e1, hu, rfl, .of_rep ru _⟩
    · cases hi
  cases k with
  | zero => exact rep h
  | succ k =>
    rcases h with h | ⟨p, vs, ds, rfl, rfl, e, q⟩
    · exact rep h
    · have hi : O.atI ds i = some d := hi
      rw [atI_eq] at hi
      unfold L2.atI at hi
      rw [← q.length] at hi
      cases e2 : L2.ixN vs.length i with
      | none => rw [e2] at hi; cases hi
      | some j =>
        rw [e2] at hi
        obtain ⟨u, h1, h2⟩ := q.get hi
        refine .inl ⟨p, vs, i, u, rfl, rfl, SqL.of e, ?_, rfl, h2⟩
        unfold L2.atI
        rw [e2]
        exact h1
def slD : Slot → Option (Nat × D)
  | .val k d => some (k, d)
  | .bor k d => some (k, d)
  | _ => none
/-- p walks from slot i along es -/
def TPv (T : Tab) (bo : Bool) (W : WX) (i : Nat) (es : List E) : TE := fun σ H Q => ∃ Oc r As, EnvR T bo Oc H σ r As ∧ ∃ k d, slD (getS r i) = some (k, d) ∧
  Aft T bo Oc σ W (fun _ H' _ As v y => BorR T.K (PO Oc As) H' (k - es.length) v y) [] H r As (E.path es d r) Q
def DP (T : Tab) (bo : Bool) (X : Cx) (p : Expr) (i : Nat) (es : List E) : Prop := ∀ W : WX, Takes X W → PE X p (TPv T bo W i es)
theorem slD_bor {Oc : AP1} {H : Hp} {σ : St} {r : Env} {As : Nat → List Addr} {i k : Nat} {d : D} (en : EnvR T bo Oc H σ r As) (h : slD (getS r i) = some (k, d)) : ∃ v, σ[i]?.join = some v ∧ BorR T.K (PO Oc As) H k v d := by
  have sl := en.sl i
  cases q : getS r i with
  | val k' d' => rw [q] at h sl; cases h; obtain ⟨v, e, o⟩ := sl; exact ⟨v, e, OwnR.bor _ o⟩
  | bor k' d' => rw [q] at h sl; cases h; obtain ⟨_, _, v, e, o⟩ := sl; exact ⟨v, e, o⟩
  | _ => rw [q] at h; cases h
theorem dp_nil (i : Nat) {x : PySem.Str} {pos : Pos} (hN : X.N[i]? = some x := by rfl) (hv : Vis X.env.scope x := by first | exact Or.inl rfl | exact Or.inr (Or.inl rfl) | exact Or.inr (Or.inr rfl))
    (hd : (x == ("__debug__" : PySem.Str)) = false := by decide +kernel) (hcd : (x == ("__classdict__" : PySem.Str)) = false := by decide +kernel) : DP T bo X (.Name x pos) i [] := fun W tk =>
  PE.imp (pe_var hN hv hd hcd) fun σ H Q ⟨Oc, r, As, en, k, d, hs, a⟩ => by
    obtain ⟨v, e, o⟩ := slD_bor en hs
    exact ⟨v, join_some e, aft_end a en Ext.refl o⟩
theorem path_snoc (es : List E) (e : E) : ∀ (d : D) (r : Env), E.path (es ++ [e]) d r = (E.path es d r).bind fun y r => (e r).bind fun x r => lift (idxD y x) r := by
  induction es with
  | nil =>
    intro d r
    show (e r).bind (fun x r => match idxD d x with
      | some y => E.path [] y r
      | none => .stuck) = (e r).bind fun x r => lift (idxD d x) r
    congr 1
  | cons f es ih =>
    intro d r
    show (f r).bind (fun x r => match idxD d x with
      | some y => E.path (es ++ [e]) y r
      | none => .stuck) = Res.bind ((f r).bind fun x r => match idxD d x with
      | some y => E.path es y r
      | none => .stuck) _
    cases f r with
    | ok x r =>
      show (match idxD d x with
        | some y => E.path (es ++ [e]) y r
        | none => .stuck) = Res.bind (match idxD d x with
        | some y => E.path es y r
        | none => .stuck) _
      cases idxD d x with
      | none => rfl
      | some y => exact ih y r
    | raise c r => rfl
    | stuck => rfl
theorem dp_snoc {p q : Expr} {i : Nat} {es : List E} {e : E} {κ1 : Kd} {pos : Pos} (G : Gd T n X) (hp : DP T bo X p i es) (hq : DE T bo X q e κ1 []) (hs : PlainIx q := by intro _ _; rfl) : DP T bo X (.Subscript p q pos) i (es ++ [e]) := fun W tk =>
  PE.imp (pe_ix (r := rIdx T.K) (by have := IxR.or (ix_list (X := X)) (ix_tup (X := X)); rw [G.K] at this; exact this) (hp W tk) (hq W tk) hs) fun σ H Q ⟨Oc, r, As, en, k, d, hs, a⟩ => by
    rw [path_snoc] at a
    have w : Wid (fun (_ : Hp) (H' : Hp) (_ : Env) (As : Nat → List Addr) (v : V) (y : D) => BorR T.K (PO Oc As) H' (k - (es ++ [e]).length) v y) := fun _ _ _ _ _ _ _ _ h => h
    refine ⟨Oc, r, As, en, k, d, hs, aft_mono (aft_bind0 w a) fun x H1 ⟨r1, As1, c1, st1, rs1, a1⟩ => ?_⟩
    refine ⟨Oc, r1, As1, st1.env, aft_mono (aft_bind0 (R1 := ResR T bo Oc σ κ1) w a1) fun y H2 ⟨r2, As2, c2, st2, rs2, a2⟩ => ?_⟩
    have rs1' := BorR.keep st2.toExt st2.po _ rs1
    cases hi : idxD c1 c2 with
    | none => rw [hi] at a2; exact a2.elim
    | some z =>
      rw [hi] at a2
      have : ∃ j, c2 = .int j := by
        unfold idxD at hi
        split at hi
        · exact ⟨_, rfl⟩
        · exact ⟨_, rfl⟩
        · cases hi
      obtain ⟨j, rfl⟩ := this
      obtain rfl := rep_int rs2.weak
      have key := BorR.at rs1' hi
      have fin : ∀ u H', (H' = H2 ∧ BorR T.K (PO Oc As2) H2 (k - es.length - 1) u z) → Q u H' := fun u H' ⟨e1, hb⟩ => by
        subst e1
        refine aft_end a2 st2.env Ext.refl ?_
        have : k - (es ++ [e]).length = k - es.length - 1 := by simp; omega
        show BorR T.K (PO Oc As2) _ (k - (es ++ [e]).length) u z
        rw [this]; exact hb
      rcases key with ⟨p, xs, i, v, e1, e2, e3, e4, e5⟩ | ⟨p, xs, i, v, e1, e2, e3, e4, e5⟩
      · exact .inl ⟨p, xs, i, v, e1, e2, e3, e4, fin _ _ e5⟩
      · exact .inr ⟨p, xs, i, v, e1, e2, e3, e4, fin _ _ e5⟩
theorem d_pk {p : Expr} {i : Nat} {es : List E} (h : DP T bo X p i es) : DE T bo X p (E.pk i es) .w [] := fun W tk => PE.imp (h W tk) fun σ H Q ⟨Oc, r, As, en, a⟩ => by
  refine ⟨Oc, r, As, en, ?_⟩
  have fin : ∀ k d, Aft T bo Oc σ W (ResR T bo Oc σ .w) [] H r As (E.path es d r) Q → Aft T bo Oc σ W (fun _ H' _ As v y => BorR T.K (PO Oc As) H' (k - es.length) v y) [] H r As (E.path es d r) Q := fun k d a => by
    unfold Aft at a ⊢
    cases q : E.path es d r with
    | ok y r1 => rw [q] at a; exact fun v H1 As1 st rs => a v H1 As1 st (BorR.weak _ rs)
    | raise c r1 => rw [q] at a; exact a
    | stuck => rw [q] at a; exact a
  unfold E.pk at a
  cases q : getS r i with
  | val k d => rw [q] at a; exact ⟨k, d, rfl, fin k d a⟩
  | bor k d => rw [q] at a; exact ⟨k, d, rfl, fin k d a⟩
  | _ => rw [q] at a; exact a.elim
theorem d_pth {p : Expr} {i : Nat} {es : List E} (h : DP T bo X p i es) : DE T bo X p (E.pth i es) .s [] := fun W tk => PE.imp (h W tk) fun σ H Q ⟨Oc, r, As, en, a⟩ => by
  refine ⟨Oc, r, As, en, ?_⟩
  have fin : ∀ k d, k ≤ es.length → Aft T bo Oc σ W (ResR T bo Oc σ .s) [] H r As (E.path es d r) Q → Aft T bo Oc σ W (fun _ H' _ As v y => BorR T.K (PO Oc As) H' (k - es.length) v y) [] H r As (E.path es d r) Q := fun k d hk a => by
    rw [Nat.sub_eq_zero_of_le hk]
    exact a
  unfold E.pth at a
  cases q : getS r i with
  | val k d =>
    rw [q] at a
    by_cases hk : k ≤ es.length
    · have a : Aft T bo Oc σ W (ResR T bo Oc σ .s) [] H r As (if k ≤ es.length then E.path es d r else .stuck) Q := a
      rw [if_pos hk] at a
      exact ⟨k, d, rfl, fin k d hk a⟩
    · have a : Aft T bo Oc σ W (ResR T bo Oc σ .s) [] H r As (if k ≤ es.length then E.path es d r else .stuck) Q := a
      rw [if_neg hk] at a
      exact a.elim
  | bor k d =>
    rw [q] at a
    by_cases hk : k ≤ es.length
    · have a : Aft T bo Oc σ W (ResR T bo Oc σ .s) [] H r As (if k ≤ es.length then E.path es d r else .stuck) Q := a
      rw [if_pos hk] at a
      exact ⟨k, d, rfl, fin k d hk a⟩
    · have a : Aft T bo Oc σ W (ResR T bo Oc σ .s) [] H r As (if k ≤ es.length then E.path es d r else .stuck) Q := a
      rw [if_neg hk] at a
      exact a.elim
  | _ => rw [q] at a; exact a.elim
theorem d_pki {p : Expr} {i : Nat} {es : List E} (h : DP T bo X p i es) : DE T bo X p (E.pki i es) .i [] := fun W tk => PE.imp (h W tk) fun σ H Q ⟨Oc, r, As, en, a⟩ => by
  refine ⟨Oc, r, As, en, ?_⟩
  have up : ∀ {P : AP1} {H : Hp} {v : V} {y : D} {m : Nat}, m ≤ 1 → BorR T.K P H m v y → BorR T.K P H 1 v y := fun {P H v y m} hm h => by
    match m, hm, h with
    | 0, _, h => exact .inl h
    | 1, _, h => exact h
  have fin : ∀ k d, k ≤ es.length + 1 → Aft T bo Oc σ W (ResR T bo Oc σ .i) [] H r As (E.path es d r) Q → Aft T bo Oc σ W (fun _ H' _ As v y => BorR T.K (PO Oc As) H' (k - es.length) v y) [] H r As (E.path es d r) Q := fun k d hk a => by
    unfold Aft at a ⊢
    cases q : E.path es d r with
    | ok y r1 => rw [q] at a; exact fun v H1 As1 st rs => a v H1 As1 st (up (by omega) rs)
    | raise c r1 => rw [q] at a; exact a
    | stuck => rw [q] at a; exact a
  unfold E.pki at a
  cases q : getS r i with
  | val k d =>
    rw [q] at a
    have a : Aft T bo Oc σ W (ResR T bo Oc σ .i) [] H r As (if k ≤ es.length + 1 then E.path es d r else .stuck) Q := a
    by_cases hk : k ≤ es.length + 1
    · rw [if_pos hk] at a
      exact ⟨k, d, rfl, fin k d hk a⟩
    · rw [if_neg hk] at a
      exact a.elim
  | bor k d =>
    rw [q] at a
    have a : Aft T bo Oc σ W (ResR T bo Oc σ .i) [] H r As (if k ≤ es.length + 1 then E.path es d r else .stuck) Q := a
    by_cases hk : k ≤ es.length + 1
    · rw [if_pos hk] at a
      exact ⟨k, d, rfl, fin k d hk a⟩
    · rw [if_neg hk] at a
      exact a.elim
  | _ => rw [q] at a; exact a.elim
/-! ### in -/
theorem flat_eq {K : PySem.W.Frag} {P P' : AP1} {H : Hp} {v u : V} {c d : D} (r : Rep K P H v c) (q : Rep K P' H u d) (hc : flatD c = true) (hd : flatD d = true) : eqV v u = eqD c d := by
  cases r with
  | lst _ _ _ => cases hc
  | tup _ _ => cases hc
  | non => cases q <;> first | rfl | cases hd
  | bl x => cases q with
    | lst _ _ _ => cases hd
    | tup _ _ => cases hd
    | int j => show ((if x = true then (1 : Int) else 0) == j) = decide ((if x = true then (1 : Int) else 0) = j); rw [Bool.beq_eq_decide_eq]
    | _ => rfl
  | int i => cases q with
    | lst _ _ _ => cases hd
    | tup _ _ => cases hd
    | bl x => show (i == (if x = true then (1 : Int) else 0)) = decide (i = (if x = true then (1 : Int) else 0)); rw [Bool.beq_eq_decide_eq]
    | int j => show (i == j) = decide (i = j); rw [Bool.beq_eq_decide_eq]
    | _ => rfl
  | str s _ _ => cases q with
    | lst _ _ _ => cases hd
    | tup _ _ => cases hd
    | str s' _ _ =>
      show ((⟨s.toArray⟩ : PySem.Str) == ⟨s'.toArray⟩) = decide (s = s')
      rw [Bool.beq_eq_decide_eq]
      exact decide_eq_decide.mpr ⟨fun h => by injection h with h; exact List.toArray_inj h, fun h => by rw [h]⟩
    | _ => rfl
theorem flat_flat {K : PySem.W.Frag} {P : AP1} {H : Hp} {v : V} {c : D} (r : Rep K P H v c) (hc : flatD c = true) : flatV v = true := by
  cases r <;> first | rfl | cases hc
theorem flats_flat {K : PySem.W.Frag} {P : AP1} {H : Hp} : ∀ {vs : List V} {ds : List D}, Reps K P H vs ds → ds.all flatD = true → vs.all flatV = true
  | _, _, .nil, _ => rfl
  | _, _, .cons r t, h => by
    simp only [List.all_cons, Bool.and_eq_true] at h ⊢
    exact ⟨flat_flat r h.1, flats_flat t h.2⟩
theorem flats_any {K : PySem.W.Frag} {P P' : AP1} {H : Hp} {u : V} {d : D} (q : Rep K P' H u d) (hd : flatD d = true) : ∀ {vs : List V} {ds : List D}, Reps K P H vs ds → ds.all flatD = true → (vs.any fun y => eqV y u) = ds.any fun y => eqD y d
  | _, _, .nil, _ => rfl
  | _, _, .cons r t, h => by
    simp only [List.all_cons, Bool.and_eq_true] at h
    simp only [List.any_cons]
    rw [flat_eq r q h.1 hd, flats_any q hd t h.2]
theorem toPys_any (d : D) : ∀ ys : List D, ((toPys ys).any fun z => PyData.eqv z (toPy d)) = ys.any fun y => eqD y d
  | [] => rfl
  | y :: ys => by
    show (PyData.eqv (toPy y) (toPy d) || (toPys ys).any fun z => PyData.eqv z (toPy d)) = _
    rw [eqv_toPy, toPys_any d ys]
    rfl
def rInAll (K : PySem.W.Frag) (neg : Bool) : R2 := fun x y H Q => (∃ d ds, Dp K H x d ∧ Dp K H y (.list ds) ∧ SeqAt.shaped d = true ∧ SeqAt.shaped (.list ds) = true ∧ Q (.bl (if neg then !ds.any fun z => PyData.eqv z d else ds.any fun z => PyData.eqv z d)) H) ∨
  rIn K neg x y H Q ∨ ∃ (c : Nat) (z : PySem.Str), x = .str ⟨#[c]⟩ ∧ y = .str z ∧ Q (.bl (if neg then !decide (c ∈ z.cps.toList) else decide (c ∈ z.cps.toList))) H
theorem in_core {neg : Bool} {bo : Bool} {Oc : AP1} {σ : St} {W : WX} {H0 H0' H : Hp} {r : Env} {As : Nat → List Addr} {x y : V} {c d : D} {q : Bool} {Q : VK} (en : EnvR T bo Oc H σ r As) (r1 : RepW T.K H x c) (r2 : RepW T.K H y d) (hf : inD c d = some (.bl q))
    (fin : Q (.bl (if neg then !q else q)) H) : rInAll T.K neg x y H Q := by
  unfold inD at hf
  split at hf
  · rename_i ys
    split at hf
    · rename_i h
      obtain ⟨h1, h2⟩ := Bool.and_eq_true_iff.mp h
      cases hf
      refine .inl ⟨_, toPys ys, r1.dp, r2.dp, r1.shaped h1 (by omega), r2.shaped (n := 9) h2 (by omega), ?_⟩
      rw [toPys_any]
      exact fin
    · cases hf
  · rename_i ys
    split at hf
    · rename_i h
      obtain ⟨h1, h2⟩ := Bool.and_eq_true_iff.mp h
      cases hf
      obtain ⟨p, vs, rfl, e1, q1⟩ := rep_tup r2
      refine .inr (.inl ⟨p, vs, rfl, .inr e1, flat_flat r1 h1, flats_flat q1 h2, ?_⟩)
      unfold inV
      rw [flats_any r1 h1 q1 h2]
      exact fin
    · cases hf
  · rename_i k ys
    cases hf
    obtain ⟨rfl, _, _⟩ := rep_str r1
    obtain ⟨rfl, _, _⟩ := rep_str r2
    refine .inr (.inr ⟨k, _, rfl, rfl, ?_⟩)
    have e : decide (k ∈ ys.toArray.toList) = ys.contains k := by
      rw [List.contains_eq_mem]
    show Q (.bl (if neg = true then !decide (k ∈ ys.toArray.toList) else decide (k ∈ ys.toArray.toList))) H
    rw [e]; exact fin
  · cases hf
theorem p_in : Pr2 T (rInAll T.K false) inD κ1 κ2 κ := by
  intro bo Oc σ W H0 H0' H r As x y c d e Q en r1 r2 hf a
  have : ∃ q, e = .bl q := by
    unfold inD at hf
    split at hf
    · split at hf
      · cases hf; exact ⟨_, rfl⟩
      · cases hf
    · split at hf
      · cases hf; exact ⟨_, rfl⟩
      · cases hf
    · cases hf; exact ⟨_, rfl⟩
    · cases hf
  obtain ⟨q, rfl⟩ := this
  exact in_core (W := W) (H0 := H) (H0' := H) en r1.weak r2.weak hf (aft_end a en Ext.refl (res_flat rfl en (.bl _)))
theorem p_notin : Pr2 T (rInAll T.K true) notinO κ1 κ2 κ := by
  intro bo Oc σ W H0 H0' H r As x y c d e Q en r1 r2 hf a
  unfold notinO at hf
  cases q : inD c d with
  | none => rw [q] at hf; cases hf
  | some z =>
    rw [q] at hf
    cases z with
    | bl k =>
      cases hf
      exact in_core (W := W) (H0 := H) (H0' := H) en r1.weak r2.weak q (aft_end a en Ext.refl (res_flat rfl en (.bl _)))
    | _ => cases hf
theorem d_in (G : Gd T n X) (ha : DE T bo X a ea κ1 t1) (hb : DE T bo X b eb κ2 t2) (hq : (κ1.solid || t2.isEmpty) = true := by rfl) (hm : behindInMarks .In b = false := by rfl) : DE T bo X (.Compare a [.In] [b] pos) (E.inn ea eb) κ (t1 ++ t2) :=
  d_cmp (rr := rInAll T.K false) (by have := OpR.or (op_inD (X := X) G.units1) (OpR.or (op_in_seq (X := X)) op_in_sign); rw [G.K] at this; exact this) p_in ha hb hq hm
theorem d_notin (G : Gd T n X) (ha : DE T bo X a ea κ1 t1) (hb : DE T bo X b eb κ2 t2) (hq : (κ1.solid || t2.isEmpty) = true := by rfl) (hm : behindInMarks .NotIn b = false := by rfl) : DE T bo X (.Compare a [.NotIn] [b] pos) (E.notin ea eb) κ (t1 ++ t2) :=
  d_cmp (rr := rInAll T.K true) (by have := OpR.or (op_notInD (X := X) G.units1) (OpR.or (op_notIn_seq (X := X)) op_notIn_sign); rw [G.K] at this; exact this) p_notin ha hb hq hm
end
end O
end
section
set_option Elab.async false
set_option linter.all false
set_option maxRecDepth 100000
/-! Sound8: what is walked; targets; list comprehensions. -/
namespace O
open PySem PySem.Spec PyProof.Rows L2
/-- J goes through xs, whatever becomes of P and of new things -/
def WalkR (T : Tab) (P : AP1) (H1 : Hp) (J : It) (xs : List D) : Prop := ∃ Y, Walk J xs.length (fun H => Kp P H1 H) Y ∧
  ∀ i H x H', Y i H x H' → i < xs.length → Kp P H1 H → Ext H H' ∧ ∀ P' : AP1, (∀ a, H1 a ≠ none → P' a → P a) → ∃ d, xs[i]? = some d ∧ Rep T.K P' H' x d
def TIv (T : Tab) (bo : Bool) (W : WX) (it : E.It) (t : List Nat) : TI := fun σ H R => ∃ Oc r As, EnvR T bo Oc H σ r As ∧ Aft T bo Oc σ W (fun _ H' _ As' J xs => WalkR T (PO Oc As') H' J xs ∧ xs.length ≤ LIM) t H r As (it r) R
def DI (T : Tab) (bo : Bool) (X : Cx) (tg p : Expr) (it : E.It) (t : List Nat) : Prop := ∀ W : WX, Takes X W → PI X tg p (TIv T bo W it t)
section
variable {T : Tab} {bo : Bool} {X : Cx} {n : Nat}
variable {a b c tg : Expr} {ea eb ec : E} {κ1 κ2 κ3 κ : Kd} {t t1 t2 t3 : List Nat} {pos : Pos}
theorem PI.imp {tg p : Expr} {t t' : TI} (h : PI X tg p t) (hi : ∀ σ H Q, t' σ H Q → t σ H Q) : PI X tg p t' := ⟨fun pins s σ H Q I q => h.run pins s σ H Q I (hi σ H Q q)⟩
/-- over a list, a tuple, a text: as it comes -/
def iAny (K : PySem.W.Frag) (te : TE) : TI := fun σ H R => te σ H fun x H1 => (∃ a xs, x = .ref a ∧ SqL K H1 a xs ∧ R (Itl K a) H1) ∨ (∃ a xs, x = .ref a ∧ SqT K H1 a xs ∧ R (Itt K a) H1) ∨ ∃ z, x = .str z ∧ R (Its z) H1
theorem pi_any {te : TE} (he : PE X a te) : PI X tg a (iAny X.K te) := by
  refine ⟨fun pins s σ H R I h => thn (he.run pins s σ H _ I h) fun v s1 hq => ?_⟩
  obtain ⟨x, H1, I1, r1, q1⟩ := hq
  rcases q1 with ⟨p, xs, rfl, hs, q⟩ | ⟨p, xs, rfl, hs, q⟩ | ⟨z, rfl, q⟩
  · cases r1
    obtain ⟨its, _, pl, _⟩ := I1.list hs
    exact wpAny_pyIter_list pl.isList (pi_one (tk := s1.toks) I1 _ (turn_list p _) ⟨_, Heap.get?_push_size _ rfl, rfl, rfl⟩ q)
  · cases r1
    obtain ⟨its, _, pl, _⟩ := I1.tuple hs
    exact wpAny_pyIter_tuple pl (pi_one (tk := s1.toks) I1 _ (turn_tuple p _) ⟨_, Heap.get?_push_size _ rfl, rfl, rfl⟩ q)
  · obtain ⟨tk, rfl⟩ := r1
    cases ha : z.cps.all (· < 128) with
    | false => exact wpAny_pyIter_wide ha (pi_one (tk := s1.toks) I1 _ (turn_str _ z tk "str_iterator" (.inr rfl)) ⟨_, Heap.get?_push_size _ rfl, rfl, rfl⟩ q)
    | true => exact wpAny_pyIter_ascii ha (pi_one (tk := s1.toks) I1 _ (turn_str _ z tk "str_ascii_iterator" (.inl rfl)) ⟨_, Heap.get?_push_size _ rfl, rfl, rfl⟩ q)
theorem walk_solidL {P : AP1} {H1 : Hp} {p : Addr} {vs : List V} {ds : List D} (e : H1 p = some (.lst vs)) (np : ¬ P p) (r : Reps T.K P H1 vs ds) : WalkR T P H1 (Itl T.K p) ds := by
  refine ⟨YAt vs, ?_, fun i H x H' y _ k => ?_⟩
  · rw [← r.length]
    exact walk_list.mono (fun H k => SqL.of (k.old p _ e np)) fun _ _ _ _ _ _ y => y
  · obtain ⟨rfl, hx⟩ := y
    refine ⟨Ext.refl, fun P' hp => ?_⟩
    obtain ⟨d, h1, h2⟩ := r.get' hx
    exact ⟨d, h1, h2.keep k hp⟩
theorem walk_solidT {P : AP1} {H1 : Hp} {p : Addr} {vs : List V} {ds : List D} (e : SqT T.K H1 p vs) (r : Reps T.K P H1 vs ds) : WalkR T P H1 (Itt T.K p) ds := by
  refine ⟨YAt vs, ?_, fun i H x H' y _ k => ?_⟩
  · rw [← r.length]
    exact walk_tup.mono (fun H k => SqT.kp k e) fun _ _ _ _ _ _ y => y
  · obtain ⟨rfl, hx⟩ := y
    refine ⟨Ext.refl, fun P' hp => ?_⟩
    obtain ⟨d, h1, h2⟩ := r.get' hx
    exact ⟨d, h1, h2.keep k hp⟩
theorem walk_text {P : AP1} {H1 : Hp} {s : List Nat} (ha : (s.all fun c => decide (c < 128)) = true) : WalkR T P H1 (Its ⟨s.toArray⟩) (s.map fun c => .str [c]) := by
  refine ⟨fun i H v H' => H' = H ∧ ∃ c, (⟨s.toArray⟩ : PySem.Str).cps[i]? = some c ∧ v = .str ⟨#[c]⟩, ?_, fun i H x H' y _ k => ?_⟩
  · have e : (s.map fun c => D.str [c]).length = (⟨s.toArray⟩ : PySem.Str).cps.size := by simp
    rw [e]
    exact walk_str.mono (fun _ _ => trivial) fun _ _ _ _ _ _ y => y
  · obtain ⟨rfl, c, hc, rfl⟩ := y
    refine ⟨Ext.refl, fun P' hp => ⟨.str [c], ?_, ?_⟩⟩
    · have hc' : s[i]? = some c := by simpa using hc
      simp [hc']
    · have hc' : s[i]? = some c := by simpa using hc
      have := List.all_eq_true.mp ha c (List.mem_of_getElem? hc')
      exact .str [c] (by show 1 ≤ 16777216; decide) (by simpa using this)
theorem wid_walk {Oc : AP1} : Wid (fun (_ : Hp) (H' : Hp) (_ : Env) (As' : Nat → List Addr) (J : It) (xs : List D) => WalkR T (PO Oc As') H' J xs ∧ xs.length ≤ LIM) := fun _ _ _ _ _ _ _ _ h => h
theorem vals_lim {H : Hp} {vs : List V} {ds : List D} {K : PySem.W.Frag} {P : AP1} (r : Reps K P H vs ds) (h : vs.length ≤ sizeLine) : ds.length ≤ LIM := by rw [← r.length, lim_line]; exact h
/-- a walk over solid data -/
theorem di_seq (G : Gd T n X) (ha : DE T bo X a ea κ1 t) (hk : κ1.solid = true := by rfl) : DI T bo X tg a (E.iSeq ea) t := fun W tk => by
  refine ⟨fun pins s σ H R I h => ?_⟩
  obtain ⟨Oc, r, As, en, h⟩ := h
  have base : PE X a (TEv T bo W ea κ1 t) := ha W tk
  -- the lengths are the heap's own
  have fin : PI X tg a (fun σ H R => (TEv T bo W ea κ1 t) σ H fun x H1 => (∃ p xs, x = .ref p ∧ SqL X.K H1 p xs ∧ (xs.length ≤ sizeLine → R (Itl X.K p) H1)) ∨ (∃ p xs, x = .ref p ∧ SqT X.K H1 p xs ∧ (xs.length ≤ sizeLine → R (Itt X.K p) H1)) ∨ ∃ z, x = .str z ∧ R (Its z) H1) := by
    refine ⟨fun pins s σ H R I h => thn (base.run pins s σ H _ I h) fun v s1 hq => ?_⟩
    obtain ⟨x, H1, I1, r1, q1⟩ := hq
    rcases q1 with ⟨p, xs, rfl, hs, q⟩ | ⟨p, xs, rfl, hs, q⟩ | ⟨z, rfl, q⟩
    · cases r1
      obtain ⟨its, _, pl, hz⟩ := I1.list hs
      exact wpAny_pyIter_list pl.isList (pi_one (tk := s1.toks) I1 _ (turn_list p _) ⟨_, Heap.get?_push_size _ rfl, rfl, rfl⟩ (q hz))
    · cases r1
      obtain ⟨its, _, pl, hz⟩ := I1.tuple hs
      exact wpAny_pyIter_tuple pl (pi_one (tk := s1.toks) I1 _ (turn_tuple p _) ⟨_, Heap.get?_push_size _ rfl, rfl, rfl⟩ (q hz))
    · obtain ⟨tk, rfl⟩ := r1
      cases ha : z.cps.all (· < 128) with
      | false => exact wpAny_pyIter_wide ha (pi_one (tk := s1.toks) I1 _ (turn_str _ z tk "str_iterator" (.inr rfl)) ⟨_, Heap.get?_push_size _ rfl, rfl, rfl⟩ q)
      | true => exact wpAny_pyIter_ascii ha (pi_one (tk := s1.toks) I1 _ (turn_str _ z tk "str_ascii_iterator" (.inl rfl)) ⟨_, Heap.get?_push_size _ rfl, rfl, rfl⟩ q)
  refine fin.run pins s σ H R I ⟨Oc, r, As, en, aft_mono (aft_bind0 (R1 := ResR T bo Oc σ κ1) wid_walk h) fun x H1 ⟨r1, As1, c1, st1, rs1, a1⟩ => ?_⟩
  have rp := rs1.rep hk
  rw [G.K]
  cases c1 with
  | lst xs =>
    obtain ⟨p, vs, rfl, e1, np, q⟩ := rep_lst rp
    exact .inl ⟨p, vs, rfl, SqL.of e1, fun hz => aft_end a1 st1.env Ext.refl ⟨walk_solidL e1 np q, vals_lim q hz⟩⟩
  | tup xs =>
    obtain ⟨p, vs, rfl, e1, q⟩ := rep_tup rp
    exact .inr (.inl ⟨p, vs, rfl, e1, fun hz => aft_end a1 st1.env Ext.refl ⟨walk_solidT e1 q, vals_lim q hz⟩⟩)
  | str s =>
    obtain ⟨rfl, h1, h2⟩ := rep_str rp
    exact .inr (.inr ⟨_, rfl, aft_end a1 st1.env Ext.refl ⟨walk_text h2, by simpa using h1⟩⟩)
  | _ => exact a1.elim
/-! ranges -/
theorem walk_rng {P : AP1} {H1 : Hp} {lo : Int} {m : Nat} : WalkR T P H1 (Itr lo m) ((List.range m).map fun i => .int (lo + (i : Nat))) := by
  refine ⟨YFn fun i => .int (lo + i), ?_, fun i H x H' y hi k => ?_⟩
  · have e : ((List.range m).map fun (i : Nat) => D.int (lo + (i : Nat))).length = m := by simp
    rw [e]
    exact walk_range.mono (fun _ _ => trivial) fun _ _ _ _ _ _ y => y
  · obtain ⟨rfl, rfl⟩ := y
    refine ⟨Ext.refl, fun P' hp => ⟨.int (lo + (i : Nat)), ?_, .int _⟩⟩
    have hi : i < m := by simpa using hi
    simp [hi]
theorem rangeL_eq (m : Int) : rangeL m = (List.range m.toNat).map fun (i : Nat) => D.int (0 + (i : Nat)) := by
  unfold rangeL
  congr 1
  funext i
  rw [Int.zero_add]
theorem di_range {p : Pos} (G : Gd T n X) (ha : DE T bo X a ea κ1 t) (hg : Gl X "range" := by rfl) (hs : starEach [a] X.env = [(false, eval a X.env)] := by rfl) : DI T bo X tg (.Call (.Name "range" p) [a] [] pos) (E.iRange ea) t := fun W tk =>
  PI.imp (pi_range1 hg (G.bn .range) (pa_cons (ha W tk) pa_nil hs) hs) fun σ H R ⟨Oc, r, As, en, h⟩ => by
    refine ⟨Oc, r, As, en, aft_mono (aft_bind0 (R1 := ResR T bo Oc σ κ1) wid_walk h) fun x H1 ⟨r1, As1, c1, st1, rs1, a1⟩ => ?_⟩
    cases c1 with
    | int m =>
      have a1 : Aft T bo Oc σ W _ [] H1 r1 As1 (if -100000 ≤ m ∧ m ≤ 100000 then .ok (rangeL m) r1 else .stuck) R := a1
      by_cases hm : -100000 ≤ m ∧ m ≤ 100000
      · rw [if_pos hm] at a1
        refine ⟨m, by rw [rep_int rs1.weak], by omega, by omega, ?_⟩
        refine aft_end a1 st1.env Ext.refl ⟨?_, ?_⟩
        · rw [rangeL_eq]
          exact walk_rng
        · rw [rangeL_eq]; simp; have : LIM = 16777216 := rfl; omega
      · rw [if_neg hm] at a1; exact a1.elim
    | _ => exact a1.elim
theorem di_range2 {p : Pos} (G : Gd T n X) (ha : DE T bo X a ea κ1 t1) (hb : DE T bo X b eb κ2 t2) (hq : (κ1.solid || t2.isEmpty) = true := by rfl) (hg : Gl X "range" := by rfl) (hs : starEach [a, b] X.env = [(false, eval a X.env), (false, eval b X.env)] := by rfl) (hs2 : starEach [b] X.env = [(false, eval b X.env)] := by rfl) :
    DI T bo X tg (.Call (.Name "range" p) [a, b] [] pos) (E.iRange2 ea eb) (t1 ++ t2) := fun W tk =>
  PI.imp (pi_range2 hg (G.bn .range) (pa_cons (ha W tk) (pa_cons (hb W tk) pa_nil hs2) (by rw [hs, hs2])) hs hs2) fun σ H R ⟨Oc, r, As, en, h⟩ => by
    refine ⟨Oc, r, As, en, aft_mono (aft_bind (t2 := t2) (R1 := ResR T bo Oc σ κ1) wid_walk h) fun x H1 ⟨r1, As1, c1, st1, rs1, a1⟩ => ?_⟩
    refine ⟨Oc, r1, As1, st1.env, aft_mono (aft_bind0 (R1 := ResR T bo Oc σ κ2) wid_walk a1) fun y H2 ⟨r2, As2, c2, st2, rs2, a2⟩ => ?_⟩
    have rs1' := rs1.stay st2 hq
    cases c1 with
    | int m =>
      cases c2 with
      | int k =>
        have a2 : Aft T bo Oc σ W _ [] H2 r2 As2 (if (-100000 ≤ m ∧ m ≤ 100000) ∧ -100000 ≤ k ∧ k ≤ 100000 then .ok ((List.range (k - m).toNat).map fun (i : Nat) => D.int (m + (i : Nat))) r2 else .stuck) R := a2
        by_cases hm : (-100000 ≤ m ∧ m ≤ 100000) ∧ -100000 ≤ k ∧ k ≤ 100000
        · rw [if_pos hm] at a2
          refine ⟨m, k, by rw [rep_int rs1'.weak, rep_int rs2.weak], ⟨by omega, by omega, by omega, by omega⟩, ?_⟩
          refine aft_end a2 st2.env Ext.refl ⟨walk_rng, ?_⟩
          simp; have : LIM = 16777216 := rfl; omega
        · rw [if_neg hm] at a2; exact a2.elim
      | _ => exact a2.elim
    | _ => cases c2 <;> exact a2.elim
/-! enumerate, zip of lists -/
theorem enumL_get : ∀ (xs : List D) (m i : Nat), (E.enumL m xs)[i]? = xs[i]?.map fun d => .tup [.int ((m + i : Nat) : Int), d]
  | [], _, _ => rfl
  | x :: xs, m, 0 => rfl
  | x :: xs, m, i + 1 => by
    show (E.enumL (m + 1) xs)[i]? = _
    rw [enumL_get xs (m + 1) i]
    have : m + 1 + i = m + (i + 1) := by omega
    rw [this]
    rfl
theorem enumL_len : ∀ (xs : List D) (m : Nat), (E.enumL m xs).length = xs.length
  | [], _ => rfl
  | _ :: xs, m => congrArg Nat.succ (enumL_len xs (m + 1))
theorem di_enum {p tpos : Pos} {elts : List Expr} {kk : Nat} (G : Gd T n X) (ha : DE T bo X a ea κ1 t) (hk : κ1.solid = true := by rfl) (hg : Gl X "enumerate" := by rfl) (hs : starEach [a] X.env = [(false, eval a X.env)] := by rfl) :
    DI T bo X (.Tuple elts kk tpos) (.Call (.Name "enumerate" p) [a] [] pos) (E.iEnum ea) t := fun W tk =>
  PI.imp (pi_enum hg (G.bn .enumerate) (pa_cons (ha W tk) pa_nil hs) hs) fun σ H R ⟨Oc, r, As, en, h⟩ => by
    refine ⟨Oc, r, As, en, aft_mono (aft_bind0 (R1 := ResR T bo Oc σ κ1) wid_walk h) fun x H1 ⟨r1, As1, c1, st1, rs1, a1⟩ => ?_⟩
    cases c1 with
    | lst xs =>
      have a1 : Aft T bo Oc σ W _ [] H1 r1 As1 (if xs.length ≤ LIM then .ok (E.enumL 0 xs) r1 else .stuck) R := a1
      by_cases hl : xs.length ≤ LIM
      · rw [if_pos hl] at a1
        obtain ⟨p, vs, rfl, e1, np, q⟩ := rep_lst (rs1.rep hk)
        refine ⟨p, vs, rfl, SqL.of e1, ?_⟩
        rw [G.K]
        refine aft_end a1 st1.env Ext.refl ⟨?_, by rw [enumL_len]; exact hl⟩
        refine ⟨YPair (fun i => some (.int (i : Nat))) (fun i => vs[i]?), ?_, fun i H x H' y hi k => ?_⟩
        · rw [enumL_len, ← q.length]
          exact walk_enum.mono (fun H k => SqL.of (k.old p _ e1 np)) fun _ _ _ _ _ _ y => y
        · obtain ⟨Tn, x', y', rfl, hT, rfl, e2, e3⟩ := y
          cases e2
          refine ⟨Ext.upd hT, fun P' hp => ?_⟩
          obtain ⟨d, h1, h2⟩ := q.get' e3
          refine ⟨.tup [.int (i : Nat), d], ?_, ?_⟩
          · rw [enumL_get, h1]; simp
          · exact .tup (SqT.of upd_same) (.cons (.int _) (.cons ((h2.keep k hp).keep (Ext.upd hT).kp fun _ _ z => z) .nil))
      · rw [if_neg hl] at a1; exact a1.elim
    | _ => exact a1.elim
end
end O
end
section
set_option Elab.async false
set_option linter.all false
set_option maxRecDepth 100000
/-! Sound9: slots stored; targets; list comprehensions. -/
namespace O
open PySem PySem.Spec PyProof.Rows L2
theorem getS_set (r : Env) (i j : Nat) (s : Slot) (hi : i < r.length) : getS (r.set i s) j = if j = i then s else getS r j := by
  unfold getS
  by_cases h : j = i
  · subst h
    rw [if_pos rfl, List.getD_eq_getElem?_getD, List.getElem?_set_self hi]
    rfl
  · rw [if_neg h, List.getD_eq_getElem?_getD, List.getElem?_set_ne (Ne.symm h), ← List.getD_eq_getElem?_getD]
theorem join_set (σ : St) (i j : Nat) (v : Option V) (hi : i < σ.length) : (σ.set i v)[j]?.join = if j = i then v else σ[j]?.join := by
  by_cases h : j = i
  · subst h
    rw [if_pos rfl, List.getElem?_set_self hi]
    rfl
  · rw [if_neg h, List.getElem?_set_ne (Ne.symm h)]
section
variable {T : Tab} {bo : Bool} {X : Cx} {n : Nat}
variable {Oc : AP1} {H : Hp} {σ : St} {r : Env} {As : Nat → List Addr}
theorem po_upA {i : Nat} {A : List Addr} : ∀ a, PO Oc (upA As i A) a → PO (fun a => Oc a ∨ a ∈ A) As a := fun a h => by
  rcases h with ⟨j, h⟩ | h
  · by_cases e : j = i
    · subst e
      rw [upA_same] at h
      exact .inr (.inr h)
    · rw [upA_ne e] at h
      exact .inl ⟨j, h⟩
  · exact .inr (.inl h)
/-- a slot is stored -/
theorem EnvR.put {i : Nat} {v : Option V} {s : Slot} {A : List Addr} (ex : EnvR T bo (fun a => Oc a ∨ a ∈ A) H σ r As) (hi : i < r.length) (hs : SlotR T bo (PO Oc (upA As i A)) H v s A) (nd : A.Nodup) (na : ∀ a ∈ A, ¬ Oc a) : EnvR T bo Oc H (σ.set i v) (r.set i s) (upA As i A) where
  len := by simpa using ex.len
  sl := fun j => by
    rw [getS_set _ _ _ _ hi, join_set _ _ _ _ (by rw [← ex.len]; exact hi)]
    by_cases h : j = i
    · subst h
      rw [if_pos rfl, if_pos rfl, upA_same]
      exact hs
    · rw [if_neg h, if_neg h, upA_ne h]
      exact (ex.sl j).keep Kp.refl (fun _ => Ext.refl) (fun a _ z => po_upA a z) fun _ _ => rfl
  nd := fun j => by
    by_cases h : j = i
    · subst h; rw [upA_same]; exact nd
    · rw [upA_ne h]; exact ex.nd j
  dj := fun j k a h1 h2 => by
    by_cases e1 : j = i
    · by_cases e2 : k = i
      · rw [e1, e2]
      · rw [e1, upA_same] at h1
        rw [upA_ne e2] at h2
        exact absurd (.inr h1) (ex.oc k a h2)
    · rw [upA_ne e1] at h1
      by_cases e2 : k = i
      · rw [e2, upA_same] at h2
        exact absurd (.inr h2) (ex.oc j a h1)
      · rw [upA_ne e2] at h2
        exact ex.dj j k a h1 h2
  oc := fun j a h z => by
    by_cases e : j = i
    · rw [e, upA_same] at h; exact na a h z
    · rw [upA_ne e] at h; exact ex.oc j a h (.inl z)
  od := fun a z => ex.od a (.inl z)
/-- .. a solid value -/
theorem EnvR.put0 {i : Nat} {v : V} {d : D} (e : EnvR T bo Oc H σ r As) (hi : i < r.length) (h : Rep T.K (PO Oc As) H v d) : EnvR T bo Oc H (σ.set i (some v)) (r.set i (.val 0 d)) (upA As i []) := by
  refine EnvR.put (e.lessOc fun a z => z.elim id fun z => nomatch z) hi ⟨v, rfl, rfl, h.keep Kp.refl fun a _ z => ?_⟩ List.nodup_nil fun _ z => nomatch z
  rcases po_upA a z with ⟨j, z⟩ | z | z
  · exact .inl ⟨j, z⟩
  · exact .inr z
  · exact nomatch z
theorem EnvR.putNo {i : Nat} {v : Option V} (e : EnvR T bo Oc H σ r As) (hi : i < r.length) : EnvR T bo Oc H (σ.set i v) (r.set i .no) (upA As i []) :=
  EnvR.put (e.lessOc fun a z => z.elim id fun z => nomatch z) hi rfl List.nodup_nil fun _ z => nomatch z
/-- what a caller owns is changed -/
theorem kp_upd {P : AP1} {p : Addr} {vs ws : List V} (h1 : P p) (h2 : H p = some (.lst vs)) : Kp P H (upd H p (.lst ws)) where
  old := fun a o q np => by
    have z : a ≠ p := fun z => np (by rw [z]; exact h1)
    rw [upd_ne z]; exact q
  tup := fun a xs q => by rw [upd_ne (ne_of q h2 (by intro z; cases z))]; exact q
  frz := fun a o u q => by rw [upd_ne (ne_of q h2 (by intro z; cases z))]; exact q
  dom := fun a q => by
    by_cases z : a = p
    · rw [z, upd_same]; simp
    · rw [upd_ne z]; exact q
theorem EnvR.updOc {p : Addr} {vs ws : List V} (e : EnvR T false Oc H σ r As) (h1 : Oc p) (h2 : H p = some (.lst vs)) : EnvR T false Oc (upd H p (.lst ws)) σ r As where
  len := e.len
  sl := fun i => (e.sl i).keep (kp_upd (.inr h1) h2) (fun z => absurd z (by decide)) (fun _ _ z => z) fun a ha => by
    have z : a ≠ p := fun z => e.oc i a ha (by rw [z]; exact h1)
    exact upd_ne z
  nd := e.nd
  dj := e.dj
  oc := e.oc
  od := fun a z => by
    by_cases q : a = p
    · rw [q, upd_same]; simp
    · rw [upd_ne q]; exact e.od a z
end

/-! ### targets -/
def TGv (T : Tab) (bo : Bool) (tg : E.Tg) : TG := fun v σ H Q => ∃ Oc r As d, EnvR T bo Oc H σ r As ∧ Rep T.K (PO Oc As) H v d ∧ match tg.put d r with
  | some r' => ∀ σ' As', EnvR T bo Oc H σ' r' As' → (∀ i, i ∉ tg.own → σ'[i]? = σ[i]? ∧ As' i = As i) → (∀ i, i ∈ tg.own → As' i = []) → σ'.length = σ.length → Q σ' H
  | none => False
def DG (T : Tab) (bo : Bool) (X : Cx) (p : Expr) (tg : E.Tg) : Prop := PG X p (TGv T bo tg)
section
variable {T : Tab} {bo : Bool} {X : Cx} {n : Nat} {pos : Pos}
theorem PG.impI {p : Expr} {t t' : TG} (h : PG X p t) (hi : ∀ v σ H Q, σ.length = X.N.length → t' v σ H Q → t v σ H Q) : PG X p t' := ⟨fun pins s σ H v u Q I r q => h.run pins s σ H v u Q I r (hi v σ H Q I.len q)⟩
theorem PG.or {p : Expr} {t t' : TG} (h : PG X p t) (h' : PG X p t') : PG X p (fun v σ H Q => t v σ H Q ∨ t' v σ H Q) := ⟨fun pins s σ H v u Q I r q => by
  rcases q with q | q
  · exact h.run pins s σ H v u Q I r q
  · exact h'.run pins s σ H v u Q I r q⟩
theorem lt_of_get {N : List PySem.Str} {i : Nat} {x : PySem.Str} (h : N[i]? = some x) : i < N.length := (List.getElem?_eq_some_iff.mp h).1
theorem dg_one {i : Nat} {x : PySem.Str} (hN : X.N.Nodup) (hi : X.N[i]? = some x := by rfl) (hx : Loc X.env.scope x := by first | exact Or.inl rfl | exact Or.inr rfl)
    (hf : X.fn x = true ∨ X.env.scope.names.lookup x = some .local := by first | exact .inl rfl | exact .inr rfl) : DG T bo X (.Name x pos) (.one i) :=
  PG.impI (pg_name hN hi hx hf) fun v σ H Q hl ⟨Oc, r, As, d, en, rp, h⟩ => by
    have hlt : i < r.length := by rw [en.len, hl]; exact lt_of_get hi
    refine h _ _ (en.put0 hlt rp) (fun j hj => ?_) (fun j hj => ?_) (by simp)
    · have e : j ≠ i := fun z => hj (by rw [z]; exact List.mem_singleton.mpr rfl)
      exact ⟨List.getElem?_set_ne (Ne.symm e), upA_ne e⟩
    · have e : j = i := List.mem_singleton.mp hj
      rw [e, upA_same]
/-- several names, one after another -/
def TGsv (T : Tab) (bo : Bool) (is : List Nat) : TGs := fun vs σ H Q => ∃ Oc r As ds, EnvR T bo Oc H σ r As ∧ Reps T.K (PO Oc As) H vs ds ∧ σ.length = r.length ∧ match E.setMany is ds r with
  | some r' => ∀ σ' As', EnvR T bo Oc H σ' r' As' → (∀ i, i ∉ is → σ'[i]? = σ[i]? ∧ As' i = As i) → (∀ i, i ∈ is → As' i = []) → σ'.length = σ.length → Q σ' H
  | none => False
theorem PGs.imp {ps : List Expr} {t t' : TGs} (h : PGs X ps t) (hi : ∀ v σ H Q, σ.length = X.N.length → t' v σ H Q → t v σ H Q) : PGs X ps t' := ⟨fun pins s σ H v u Q I r q => h.run pins s σ H v u Q I r (hi v σ H Q I.len q)⟩
theorem dgs_nil : PGs X [] (TGsv T bo []) := PGs.imp pgs_nil fun vs σ H Q hl ⟨Oc, r, As, ds, en, rp, _, h⟩ => by
  cases rp with
  | nil => exact ⟨rfl, h σ As en (fun _ _ => ⟨rfl, rfl⟩) (fun _ z => nomatch z) rfl⟩
  | cons _ _ => exact h.elim
theorem dgs_cons {ps : List Expr} {is : List Nat} {i : Nat} {x : PySem.Str} (hr : PGs X ps (TGsv T bo is)) (hN : X.N.Nodup) (hi : X.N[i]? = some x := by rfl) (hx : Loc X.env.scope x := by first | exact Or.inl rfl | exact Or.inr rfl)
    (hf : X.fn x = true ∨ X.env.scope.names.lookup x = some .local := by first | exact .inl rfl | exact .inr rfl) (hs : (assignEach (.Name x pos :: ps) X.env).map (·.2) = assign (.Name x pos) X.env :: (assignEach ps X.env).map (·.2) := by rfl) :
    PGs X (.Name x pos :: ps) (TGsv T bo (i :: is)) := PGs.imp (pgs_cons (pg_name hN hi hx hf) hr hs) fun vs σ H Q hl ⟨Oc, r, As, ds, en, rp, hlen, h⟩ => by
  cases rp with
  | nil => exact h.elim
  | @cons v d vs ds rv rt =>
    have hlt : i < r.length := by rw [en.len, hl]; exact lt_of_get hi
    have en1 := en.put0 hlt rv
    refine ⟨v, vs, rfl, Oc, _, _, ds, en1, rt.keep Kp.refl (fun a _ z => ?_), by simpa using hlen, ?_⟩
    · rcases po_upA a z with ⟨j, z⟩ | z | z
      · exact .inl ⟨j, z⟩
      · exact .inr z
      · exact nomatch z
    · have e : E.setMany (i :: is) (d :: ds) r = E.setMany is ds (r.set i (.val 0 d)) := rfl
      rw [e] at h
      cases q : E.setMany is ds (r.set i (.val 0 d)) with
      | none => rw [q] at h; exact h.elim
      | some r' =>
        rw [q] at h
        refine fun σ' As' en' h1 h2 h3 => h σ' As' en' (fun j hj => ?_) (fun j hj => ?_) (by simpa using h3)
        · have hj1 : j ≠ i := fun z => hj (by rw [z]; exact List.mem_cons_self)
          have hj2 : j ∉ is := fun z => hj (List.mem_cons_of_mem _ z)
          obtain ⟨e1, e2⟩ := h1 j hj2
          exact ⟨e1.trans (List.getElem?_set_ne (Ne.symm hj1)), e2.trans (upA_ne hj1)⟩
        · by_cases hm : j ∈ is
          · exact h2 j hm
          · rcases List.mem_cons.mp hj with e | e
            · rw [(h1 j hm).2, e, upA_same]
            · exact absurd e hm
theorem setMany_len : ∀ {is : List Nat} {ds : List D} {r r' : Env}, E.setMany is ds r = some r' → is.length = ds.length
  | [], [], _, _, _ => rfl
  | _ :: is, _ :: ds, _, _, h => congrArg Nat.succ (setMany_len (is := is) (ds := ds) h)
  | [], _ :: _, _, _, h => nomatch h
  | _ :: _, [], _, _, h => nomatch h
theorem dg_many {ps : List Expr} {is : List Nat} {k : Nat} (G : Gd T n X) (h : PGs X ps (TGsv T bo is)) (hn : (assignEach ps X.env).length = is.length := by rfl) (hst : (assignEach ps X.env).findIdx? (·.1) = none := by rfl) : DG T bo X (.Tuple ps k pos) (.many is) :=
  PG.impI (PG.or (pg_tup G.calm h hn hst) (pg_unl G.calm h hn hst)) fun v σ H Q hl ⟨Oc, r, As, d, en, rp, h⟩ => by
    rw [G.K]
    cases d with
    | tup ds =>
      obtain ⟨p, vs, rfl, e1, q⟩ := rep_tup rp
      have h : (match E.setMany is ds r with
        | some r' => ∀ σ' As', EnvR T bo Oc H σ' r' As' → (∀ i, i ∉ is → σ'[i]? = σ[i]? ∧ As' i = As i) → (∀ i, i ∈ is → As' i = []) → σ'.length = σ.length → Q σ' H
        | none => False) := h
      refine .inl ⟨p, vs, rfl, e1, ?_, Oc, r, As, ds, en, q, en.len.symm, h⟩
      cases e : E.setMany is ds r with
      | none => rw [e] at h; exact h.elim
      | some r' => rw [q.length, ← setMany_len e]
    | lst ds =>
      obtain ⟨p, vs, rfl, e1, _, q⟩ := rep_lst rp
      have h : (match E.setMany is ds r with
        | some r' => ∀ σ' As', EnvR T bo Oc H σ' r' As' → (∀ i, i ∉ is → σ'[i]? = σ[i]? ∧ As' i = As i) → (∀ i, i ∈ is → As' i = []) → σ'.length = σ.length → Q σ' H
        | none => False) := h
      refine .inr ⟨p, vs, rfl, SqL.of e1, ?_, Oc, r, As, ds, en, q, en.len.symm, h⟩
      cases e : E.setMany is ds r with
      | none => rw [e] at h; exact h.elim
      | some r' => rw [q.length, ← setMany_len e]
    | _ => exact h.elim
end
end O
end
section
set_option Elab.async false
set_option linter.all false
set_option maxRecDepth 100000
/-! Sound10: list comprehensions. -/
namespace O
open PySem PySem.Spec PyProof.Rows L2
theorem Res.bind_assoc {α β γ : Type} (x : Res α) (f : α → Env → Res β) (g : β → Env → Res γ) : (x.bind f).bind g = x.bind fun a r => (f a r).bind g := by cases x <;> rfl
theorem setMany_set {s : Slot} {j : Nat} : ∀ {is : List Nat} (ds : List D) (r : Env), j ∈ is → E.setMany is ds (r.set j s) = E.setMany is ds r
  | i :: is, [], r, _ => rfl
  | i :: is, d :: ds, r, h => by
    show E.setMany is ds ((r.set j s).set i (.val 0 d)) = E.setMany is ds (r.set i (.val 0 d))
    by_cases e : j = i
    · subst e; rw [List.set_set]
    · rw [List.set_comm _ _ e]
      exact setMany_set ds _ ((List.mem_cons.mp h).resolve_left e)
theorem setMany_wipe {is : List Nat} (ds : List D) : ∀ (js : List Nat) (r : Env), (∀ j ∈ js, j ∈ is) → E.setMany is ds (E.wipe js r) = E.setMany is ds r
  | [], _, _ => rfl
  | j :: js, r, h => by
    show E.setMany is ds (E.wipe js (r.set j .no)) = _
    rw [setMany_wipe ds js _ fun k hk => h k (List.mem_cons_of_mem _ hk), setMany_set _ _ (h j List.mem_cons_self)]
theorem put_wipe (tg : E.Tg) (d : D) (r : Env) : tg.put d (E.wipe tg.own r) = tg.put d r := by
  cases tg with
  | one i =>
    show some ((r.set i .no).set i (.val 0 d)) = some (r.set i (.val 0 d))
    rw [List.set_set]
  | many is =>
    cases d with
    | tup ds => exact setMany_wipe ds is r fun _ h => h
    | lst ds => exact setMany_wipe ds is r fun _ h => h
    | _ => rfl
theorem getS_wipe : ∀ (js : List Nat) (r : Env) (i : Nat), getS (E.wipe js r) i = if i ∈ js then .no else getS r i
  | [], r, i => by simp [E.wipe]
  | j :: js, r, i => by
    show getS (E.wipe js (r.set j .no)) i = _
    rw [getS_wipe js]
    by_cases h1 : i ∈ js
    · rw [if_pos h1, if_pos (List.mem_cons_of_mem _ h1)]
    · rw [if_neg h1]
      by_cases h2 : i = j
      · subst h2
        rw [if_pos List.mem_cons_self]
        unfold getS
        rw [List.getD_eq_getElem?_getD, List.getElem?_set_self']
        cases r[i]? <;> rfl
      · rw [if_neg (fun z => (List.mem_cons.mp z).elim h2 h1)]
        unfold getS
        rw [List.getD_eq_getElem?_getD, List.getElem?_set_ne (Ne.symm h2), ← List.getD_eq_getElem?_getD]
theorem getS_back (r0 : Env) : ∀ (js : List Nat) (r : Env) (i : Nat), (∀ j ∈ js, j < r.length) → getS (E.back r0 js r) i = if i ∈ js then getS r0 i else getS r i
  | [], r, i, _ => by simp [E.back]
  | j :: js, r, i, h => by
    show getS (E.back r0 js (r.set j (getS r0 j))) i = _
    rw [getS_back r0 js _ i fun k hk => by simpa using h k (List.mem_cons_of_mem _ hk)]
    by_cases h1 : i ∈ js
    · rw [if_pos h1, if_pos (List.mem_cons_of_mem _ h1)]
    · rw [if_neg h1, getS_set _ _ _ _ (h j List.mem_cons_self)]
      by_cases h2 : i = j
      · subst h2
        rw [if_pos rfl, if_pos List.mem_cons_self]
      · rw [if_neg h2, if_neg (fun z => (List.mem_cons.mp z).elim h2 h1)]
theorem len_wipe : ∀ (js : List Nat) (r : Env), (E.wipe js r).length = r.length
  | [], _ => rfl
  | j :: js, r => by show (E.wipe js (r.set j .no)).length = _; rw [len_wipe js]; simp
theorem len_back (r0 : Env) : ∀ (js : List Nat) (r : Env), (E.back r0 js r).length = r.length
  | [], _ => rfl
  | j :: js, r => by show (E.back r0 js (r.set j _)).length = _; rw [len_back r0 js]; simp
theorem wipe_get (σ : St) (i : Nat) : ∀ vs : List Nat, (∀ j ∈ vs, j < σ.length) → (L2.wipe σ vs)[i]? = if i ∈ vs then some none else σ[i]?
  | [], _ => by simp [L2.wipe]
  | v :: vs, h => by
    show ((L2.wipe σ vs).set v none)[i]? = _
    by_cases e : i = v
    · subst e
      rw [if_pos List.mem_cons_self, List.getElem?_set_self (by rw [L2.wipe_length]; exact h i List.mem_cons_self)]
    · rw [List.getElem?_set_ne (Ne.symm e), wipe_get σ i vs fun j hj => h j (List.mem_cons_of_mem _ hj)]
      by_cases h1 : i ∈ vs
      · rw [if_pos h1, if_pos (List.mem_cons_of_mem _ h1)]
      · rw [if_neg h1, if_neg (fun z => (List.mem_cons.mp z).elim e h1)]
theorem wipe_same {σ σ2 : St} {vs : List Nat} (hb : ∀ j ∈ vs, j < σ.length) (h : ∀ i, i ∉ vs → σ2[i]? = (L2.wipe σ vs)[i]?) (hl : σ2.length = σ.length) : L2.wipe σ2 vs = L2.wipe σ vs := by
  refine List.ext_getElem? fun i => ?_
  rw [wipe_get σ2 i vs fun j hj => by rw [hl]; exact hb j hj, wipe_get σ i vs hb]
  by_cases e : i ∈ vs
  · rw [if_pos e, if_pos e]
  · rw [if_neg e, if_neg e, h i e, wipe_get σ i vs hb, if_neg e]
def wipeA (own : List Nat) (As : Nat → List Addr) : Nat → List Addr := fun i => if i ∈ own then [] else As i
section
variable {T : Tab} {Oc : AP1} {H : Hp} {σ : St} {r : Env} {As : Nat → List Addr}
theorem EnvR.wipe {own : List Nat} (e : EnvR T false Oc H σ r As) (hb : ∀ j ∈ own, j < σ.length) : EnvR T false Oc H (L2.wipe σ own) (E.wipe own r) (wipeA own As) where
  len := by rw [len_wipe, L2.wipe_length]; exact e.len
  sl := fun i => by
    rw [getS_wipe, wipe_get σ i own hb]
    unfold wipeA
    by_cases h : i ∈ own
    · rw [if_pos h, if_pos h, if_pos h]; rfl
    · rw [if_neg h, if_neg h, if_neg h]
      refine (e.sl i).keep Kp.refl (fun _ => Ext.refl) (fun a _ z => ?_) fun _ _ => rfl
      rcases z with ⟨j, z⟩ | z
      · by_cases hj : j ∈ own
        · simp [hj] at z
        · simp [hj] at z; exact .inl ⟨j, z⟩
      · exact .inr z
  nd := fun i => by
    unfold wipeA
    by_cases h : i ∈ own
    · rw [if_pos h]; exact List.nodup_nil
    · rw [if_neg h]; exact e.nd i
  dj := fun i j a h1 h2 => by
    unfold wipeA at h1 h2
    by_cases hi : i ∈ own
    · rw [if_pos hi] at h1; cases h1
    · by_cases hj : j ∈ own
      · rw [if_pos hj] at h2; cases h2
      · rw [if_neg hi] at h1; rw [if_neg hj] at h2; exact e.dj i j a h1 h2
  oc := fun i a h => by
    unfold wipeA at h
    by_cases hi : i ∈ own
    · rw [if_pos hi] at h; cases h
    · rw [if_neg hi] at h; exact e.oc i a h
  od := e.od
end
theorem po_wipeA {Oc : AP1} {own : List Nat} {As : Nat → List Addr} {a : Addr} (h : PO Oc (wipeA own As) a) : PO Oc As a := by
  rcases h with ⟨j, z⟩ | z
  · unfold wipeA at z
    by_cases hj : j ∈ own
    · rw [if_pos hj] at z; cases z
    · rw [if_neg hj] at z; exact .inl ⟨j, z⟩
  · exact .inr z
/-- what a block avoids: the callers' things, the own names' old things, the new list, what is in it -/
def OcB (Oc : AP1) (own : List Nat) (As1 : Nat → List Addr) (Dd : Addr) (Ks : List (List Addr)) : AP1 := fun a => Oc a ∨ (∃ i, i ∈ own ∧ a ∈ As1 i) ∨ a = Dd ∨ a ∈ Ks.flatten
structure Blk (T : Tab) (Oc : AP1) (σ : St) (own t : List Nat) (H1 : Hp) (r1 : Env) (As1 : Nat → List Addr) (Dd : Addr) (ke : Nat) (H : Hp) (ri : Env) (Ai : Nat → List Addr) (acc : List V) (ys : List D) (Ks : List (List Addr)) : Prop where
  env : EnvR T false (OcB Oc own As1 Dd Ks) H (L2.wipe σ own) (E.wipe own ri) Ai
  dd : H Dd = some (.lst acc)
  it : All3 (OwnR T.K (PO (OcB Oc own As1 Dd Ks) Ai) H ke) acc ys Ks
  nd : (Dd :: Ks.flatten).Nodup
  fr : ∀ a ∈ Ks.flatten, H1 a = none
  kp : Kp (fun a => ∃ i, i ∈ t ∧ a ∈ As1 i) H1 H
  gr : ∀ i a, a ∈ Ai i → a ∈ As1 i ∨ H1 a = none
  sm : ∀ i, i ∉ t → i ∉ own → getS ri i = getS r1 i ∧ Ai i = As1 i
  ow : ∀ i, i ∈ own → Ai i = []
  ok : ∀ i a, i ∈ own → a ∈ As1 i → H1 a ≠ none ∧ H a = H1 a
theorem All3.len1 {α β γ : Type} {f : α → β → γ → Prop} : ∀ {as : List α} {bs : List β} {cs : List γ}, All3 f as bs cs → as.length = bs.length
  | [], [], [], _ => rfl
  | _ :: _, _ :: _, _ :: _, h => congrArg Nat.succ (All3.len1 h.2)
  | [], [], _ :: _, z => z.elim
  | [], _ :: _, _, z => z.elim
  | _ :: _, [], _, z => z.elim
  | _ :: _, _ :: _, [], z => z.elim
theorem All3.snoc {α β γ : Type} {f : α → β → γ → Prop} {a : α} {b : β} {c : γ} (h : f a b c) : ∀ {as : List α} {bs : List β} {cs : List γ}, All3 f as bs cs → All3 f (as ++ [a]) (bs ++ [b]) (cs ++ [c])
  | [], [], [], _ => ⟨h, trivial⟩
  | _ :: _, _ :: _, _ :: _, q => ⟨q.1, All3.snoc h q.2⟩
  | [], [], _ :: _, z => z.elim
  | [], _ :: _, _, z => z.elim
  | _ :: _, [], _, z => z.elim
  | _ :: _, _ :: _, [], z => z.elim
section
variable {T : Tab} {Oc : AP1} {σ σ2 : St} {own t : List Nat} {H1 H H' H4 : Hp} {r1 ri r' r4 : Env} {As1 Ai A2 A4 : Nat → List Addr} {Dd : Addr} {ke : Nat} {acc : List V} {ys : List D} {Ks : List (List Addr)}
theorem Blk.step (b : Blk T Oc σ own t H1 r1 As1 Dd ke H ri Ai acc ys Ks) (hb : ∀ j ∈ own, j < σ.length) (hD : H1 Dd = none) (x : Ext H H') (e2 : EnvR T false (OcB Oc own As1 Dd Ks) H' σ2 r' A2) (hr : ∀ i, i ∉ own → getS r' i = getS ri i) (h1 : ∀ i, i ∉ own → σ2[i]? = (L2.wipe σ own)[i]? ∧ A2 i = Ai i) (h2 : ∀ i, i ∈ own → A2 i = [])
    (hl : σ2.length = (L2.wipe σ own).length) (s : Step T false (OcB Oc own As1 Dd Ks) σ2 t H' r' A2 H4 r4 A4) : Blk T Oc σ own t H1 r1 As1 Dd ke H4 r4 (wipeA own A4) acc ys Ks := by
  have hl' : σ2.length = σ.length := by rw [hl, L2.wipe_length]
  have hA : ∀ i, A2 i = Ai i := fun i => by
    by_cases h : i ∈ own
    · rw [h2 i h, b.ow i h]
    · exact (h1 i h).2
  have ws : L2.wipe σ2 own = L2.wipe σ own := wipe_same hb (fun i hi => (h1 i hi).1) hl'
  have nA : ∀ a, OcB Oc own As1 Dd Ks a → ¬ ∃ i, i ∈ t ∧ a ∈ A2 i := fun a ha ⟨i, _, z⟩ => e2.oc i a z ha
  have keepB : ∀ a, OcB Oc own As1 Dd Ks a → H4 a = H a := fun a ha => by
    cases q : H a with
    | none => exact absurd q (b.env.od a ha)
    | some o => exact s.kp.old a o (x a o q) (nA a ha)
  refine ⟨?_, ?_, ?_, b.nd, b.fr, ?_, ?_, ?_, ?_, fun i a hi ha => ⟨(b.ok i a hi ha).1, (keepB a (.inr (.inl ⟨i, hi, ha⟩))).trans (b.ok i a hi ha).2⟩⟩
  · have := s.env.wipe (own := own) (by rw [hl']; exact hb)
    rw [ws] at this
    exact this
  · rw [keepB Dd (.inr (.inr (.inl rfl)))]; exact b.dd
  · refine b.it.mono fun v d A _ hA' q => ?_
    have q1 : OwnR T.K (PO (OcB Oc own As1 Dd Ks) A2) H' ke v d A := by
      refine OwnR.keep x.kp (fun a ha z => ?_) ke (fun a ha => ?_) q
      · rcases z with ⟨i, z⟩ | z
        · exact .inl ⟨i, by rw [← hA i]; exact z⟩
        · exact .inr z
      · cases w : H a with
        | none => exact absurd w (OwnR.dom ke q a ha)
        | some o => exact x a o w
    refine OwnR.keep s.kpO (fun a ha z => s.po a ha (po_wipeA z)) ke (fun a ha => ?_) q1
    have hB : OcB Oc own As1 Dd Ks a := .inr (.inr (.inr (List.mem_flatten.mpr ⟨A, hA', ha⟩)))
    cases w : H' a with
    | none => exact absurd w (OwnR.dom ke q1 a ha)
    | some o => exact s.kp.old a o w (nA a hB)
  · refine (b.kp.trans (x.kp (P := fun _ => False)) (R := fun a => ∃ i, i ∈ t ∧ a ∈ As1 i) (fun _ z => z) fun _ _ z => z.elim).trans s.kp (fun _ z => z) fun a ha ⟨i, hi, z⟩ => ?_
    rw [hA i] at z
    rcases b.gr i a z with w | w
    · exact ⟨i, hi, w⟩
    · exact absurd w ha
  · intro i a h
    unfold wipeA at h
    by_cases hi : i ∈ own
    · rw [if_pos hi] at h; cases h
    · rw [if_neg hi] at h
      rcases s.gr i a h with z | z
      · rw [hA i] at z; exact b.gr i a z
      · cases w : H1 a with
        | none => exact .inr rfl
        | some o => exact absurd z (x.dom a (b.kp.dom a (by rw [w]; simp)))
  · intro i hi ho
    obtain ⟨e1, e3⟩ := s.sm i hi
    obtain ⟨e5, e6⟩ := b.sm i hi ho
    unfold wipeA
    rw [if_neg ho, e1, e3, hA i, hr i ho]
    exact ⟨e5, e6⟩
  · intro i hi
    unfold wipeA
    rw [if_pos hi]
/-- the items behind a step, apart from what is new -/
theorem Blk.stepIt (b : Blk T Oc σ own t H1 r1 As1 Dd ke H ri Ai acc ys Ks) {A : List Addr} (hA : ∀ i, A2 i = Ai i) (x : Ext H H') (e2 : EnvR T false (OcB Oc own As1 Dd Ks) H' σ2 r' A2) (s : Step T false (OcB Oc own As1 Dd Ks) σ2 t H' r' A2 H4 r4 A4) (fr : ∀ a ∈ A, H' a = none) :
    All3 (OwnR T.K (PO (fun a => OcB Oc own As1 Dd Ks a ∨ a ∈ A) (wipeA own A4)) H4 ke) acc ys Ks := by
  have nA : ∀ a, OcB Oc own As1 Dd Ks a → ¬ ∃ i, i ∈ t ∧ a ∈ A2 i := fun a ha ⟨i, _, z⟩ => e2.oc i a z ha
  refine b.it.mono fun v d B _ hB q => ?_
  have q1 : OwnR T.K (PO (OcB Oc own As1 Dd Ks) A2) H' ke v d B := by
    refine OwnR.keep x.kp (fun a ha z => ?_) ke (fun a ha => ?_) q
    · rcases z with ⟨i, z⟩ | z
      · exact .inl ⟨i, by rw [← hA i]; exact z⟩
      · exact .inr z
    · cases w : H a with
      | none => exact absurd w (OwnR.dom ke q a ha)
      | some o => exact x a o w
  refine OwnR.keep s.kpO (fun a ha z => ?_) ke (fun a ha => ?_) q1
  · rcases po_wipeA z with z | z | z
    · exact s.po a ha (.inl z)
    · exact .inr z
    · exact absurd (fr a z) ha
  · have hB : OcB Oc own As1 Dd Ks a := .inr (.inr (.inr (List.mem_flatten.mpr ⟨B, hB, ha⟩)))
    cases w : H' a with
    | none => exact absurd w (OwnR.dom ke q1 a ha)
    | some o => exact s.kp.old a o w (nA a hB)
/-- one more item -/
theorem Blk.push (b : Blk T Oc σ own t H1 r1 As1 Dd ke H ri Ai acc ys Ks) (hD : H1 Dd = none) {v : V} {y : D} {A : List Addr} (o : OwnR T.K (PO (fun a => OcB Oc own As1 Dd Ks a ∨ a ∈ A) Ai) H ke v y A) (nd : A.Nodup) (fr : ∀ a ∈ A, H1 a = none) (na : ∀ a ∈ A, ¬ PO (OcB Oc own As1 Dd Ks) Ai a)
    (its : All3 (OwnR T.K (PO (fun a => OcB Oc own As1 Dd Ks a ∨ a ∈ A) Ai) H ke) acc ys Ks)
    (ex : EnvR T false (fun a => OcB Oc own As1 Dd Ks a ∨ a ∈ A) H (L2.wipe σ own) (E.wipe own ri) Ai) : Blk T Oc σ own t H1 r1 As1 Dd ke (upd H Dd (.lst (acc ++ [v]))) ri Ai (acc ++ [v]) (ys ++ [y]) (Ks ++ [A]) := by
  have fl : (Ks ++ [A]).flatten = Ks.flatten ++ A := by simp
  have oc : ∀ a, OcB Oc own As1 Dd (Ks ++ [A]) a ↔ (OcB Oc own As1 Dd Ks a ∨ a ∈ A) := fun a => by
    unfold OcB
    rw [fl, List.mem_append]
    constructor
    · rintro (h | h | h | h | h)
      · exact .inl (.inl h)
      · exact .inl (.inr (.inl h))
      · exact .inl (.inr (.inr (.inl h)))
      · exact .inl (.inr (.inr (.inr h)))
      · exact .inr h
    · rintro ((h | h | h | h) | h)
      · exact .inl h
      · exact .inr (.inl h)
      · exact .inr (.inr (.inl h))
      · exact .inr (.inr (.inr (.inl h)))
      · exact .inr (.inr (.inr (.inr h)))
  have ex1 : EnvR T false (OcB Oc own As1 Dd (Ks ++ [A])) H (L2.wipe σ own) (E.wipe own ri) Ai := ex.lessOc fun a z => (oc a).mp z
  have dB : OcB Oc own As1 Dd Ks Dd := .inr (.inr (.inl rfl))
  have dB' : OcB Oc own As1 Dd (Ks ++ [A]) Dd := .inr (.inr (.inl rfl))
  have nDA : Dd ∉ A := fun z => na Dd z (.inr dB)
  have nDK : Dd ∉ Ks.flatten := (List.nodup_cons.mp b.nd).1
  have ku : Kp (PO (OcB Oc own As1 Dd Ks) Ai) H (upd H Dd (.lst (acc ++ [v]))) := kp_upd (.inr dB) b.dd
  refine ⟨ex1.updOc dB' b.dd, upd_same, ?_, ?_, ?_, ?_, b.gr, b.sm, b.ow, fun i a hi ha => ⟨(b.ok i a hi ha).1, (upd_ne fun z => (b.ok i a hi ha).1 (by rw [z]; exact hD)).trans (b.ok i a hi ha).2⟩⟩
  · -- the items
    have conv : ∀ {w : V} {d : D} {B : List Addr}, (∀ a ∈ B, a ≠ Dd) → OwnR T.K (PO (OcB Oc own As1 Dd (Ks ++ [A])) Ai) H ke w d B → OwnR T.K (PO (OcB Oc own As1 Dd (Ks ++ [A])) Ai) (upd H Dd (.lst (acc ++ [v]))) ke w d B := fun hB q =>
      OwnR.keep (kp_upd (.inr dB') b.dd) (fun _ _ z => z) ke (fun a ha => upd_ne (hB a ha)) q
    have up : ∀ a, PO (OcB Oc own As1 Dd (Ks ++ [A])) Ai a → PO (fun a => OcB Oc own As1 Dd Ks a ∨ a ∈ A) Ai a := fun a z => z.imp id (oc a).mp
    have lift1 : ∀ {w : V} {d : D} {B : List Addr}, OwnR T.K (PO (fun a => OcB Oc own As1 Dd Ks a ∨ a ∈ A) Ai) H ke w d B → OwnR T.K (PO (OcB Oc own As1 Dd (Ks ++ [A])) Ai) H ke w d B := fun q => OwnR.keep Kp.refl (fun a _ z => up a z) ke (fun _ _ => rfl) q
    exact All3.snoc (conv (fun a ha z => nDA (z ▸ ha)) (lift1 o)) (its.mono fun w d B _ hB q => conv (fun a ha z => nDK (List.mem_flatten.mpr ⟨B, hB, z ▸ ha⟩)) (lift1 q))
  · rw [fl]
    refine List.nodup_cons.mpr ⟨fun z => (List.mem_append.mp z).elim nDK nDA, List.nodup_append.mpr ⟨(List.nodup_cons.mp b.nd).2, nd, fun a ha c hc e => ?_⟩⟩
    subst e
    exact na a hc (.inr (.inr (.inr (.inr ha))))
  · intro a ha
    rw [fl] at ha
    exact (List.mem_append.mp ha).elim (b.fr a) (fr a)
  · refine b.kp.trans (kp_upd (P := fun a => a = Dd) rfl b.dd) (fun _ z => z) fun a ha z => ?_
    exact absurd (show H1 a = none by rw [show a = Dd from z]; exact hD) ha
end
end O
end
section
set_option Elab.async false
set_option linter.all false
set_option maxRecDepth 100000
/-! Sound11: list comprehensions, the rule. -/
namespace O
open PySem PySem.Spec PyProof.Rows L2
def W0 : WX := fun _ _ _ _ => False
def Rem (tg : E.Tg) (cond elt : E) (r1 : Env) (xs : List D) (ri : Env) (ys : List D) : Res D := (E.turns tg cond (E.one elt) xs ri).bindN fun zs r2 => .ok (.lst (ys ++ zs)) (E.back r1 tg.own r2)
theorem put_get {tg : E.Tg} {d : D} {r r' : Env} (h : tg.put d r = some r') : (∀ i, i ∉ tg.own → getS r' i = getS r i) ∧ r'.length = r.length := by
  have many : ∀ (is : List Nat) (ds : List D) (r r' : Env), E.setMany is ds r = some r' → (∀ i, i ∉ is → getS r' i = getS r i) ∧ r'.length = r.length := by
    intro is
    induction is with
    | nil =>
      intro ds r r' h
      cases ds with
      | nil => cases h; exact ⟨fun _ _ => rfl, rfl⟩
      | cons _ _ => cases h
    | cons j is ih =>
      intro ds r r' h
      cases ds with
      | nil => cases h
      | cons d ds =>
        obtain ⟨h1, h2⟩ := ih ds _ _ (show E.setMany is ds (r.set j (.val 0 d)) = some r' from h)
        refine ⟨fun i hi => ?_, by rw [h2]; simp⟩
        rw [h1 i fun z => hi (List.mem_cons_of_mem _ z)]
        have : i ≠ j := fun z => hi (by rw [z]; exact List.mem_cons_self)
        unfold getS
        rw [List.getD_eq_getElem?_getD, List.getElem?_set_ne (Ne.symm this), ← List.getD_eq_getElem?_getD]
  cases tg with
  | one j =>
    cases h
    refine ⟨fun i hi => ?_, by simp⟩
    have : i ≠ j := fun z => hi (by rw [z]; exact List.mem_singleton.mpr rfl)
    unfold getS
    rw [List.getD_eq_getElem?_getD, List.getElem?_set_ne (Ne.symm this), ← List.getD_eq_getElem?_getD]
  | many is =>
    cases d with
    | tup ds => exact many is ds r r' h
    | lst ds => exact many is ds r r' h
    | _ => cases h
section
variable {T : Tab} {Oc : AP1} {σ : St} {own t : List Nat} {H1 H : Hp} {r1 ri : Env} {As1 Ai : Nat → List Addr} {Dd : Addr} {ke : Nat} {acc : List V} {ys : List D} {Ks : List (List Addr)}
def backA (own : List Nat) (As1 Ai : Nat → List Addr) : Nat → List Addr := fun i => if i ∈ own then As1 i else Ai i
/-- the block's end: the names as they were -/
theorem Blk.env_back (b : Blk T Oc σ own t H1 r1 As1 Dd ke H ri Ai acc ys Ks) (hb : ∀ j ∈ own, j < σ.length) (hD : H1 Dd = none) (e1 : EnvR T false Oc H1 σ r1 As1) {Oc' : AP1} (h1 : ∀ a, Oc' a → Oc a ∨ a = Dd ∨ a ∈ Ks.flatten) : EnvR T false Oc' H σ (E.back r1 own ri) (backA own As1 Ai) := by
  have lr : ri.length = σ.length := by
    have := b.env.len
    rw [len_wipe, L2.wipe_length] at this
    exact this
  have inOc : ∀ a, Oc' a → OcB Oc own As1 Dd Ks a := fun a z => by
    rcases h1 a z with z | z | z
    · exact .inl z
    · exact .inr (.inr (.inl z))
    · exact .inr (.inr (.inr z))
  have new1 : ∀ a, Oc' a → H1 a ≠ none → Oc a := fun a z ha => by
    rcases h1 a z with z | z | z
    · exact z
    · exact absurd (show H1 a = none by rw [z]; exact hD) ha
    · exact absurd (b.fr a z) ha
  have kp0 : Kp (PO Oc As1) H1 H := b.kp.mono fun a ⟨i, _, z⟩ => .inl ⟨i, z⟩
  have poB : ∀ a, PO Oc' (backA own As1 Ai) a → PO (OcB Oc own As1 Dd Ks) Ai a := fun a z => by
    rcases z with ⟨j, z⟩ | z
    · unfold backA at z
      by_cases hj : j ∈ own
      · rw [if_pos hj] at z; exact .inr (.inr (.inl ⟨j, hj, z⟩))
      · rw [if_neg hj] at z; exact .inl ⟨j, z⟩
    · exact .inr (inOc a z)
  have po1 : ∀ a, H1 a ≠ none → PO Oc' (backA own As1 Ai) a → PO Oc As1 a := fun a ha z => by
    rcases z with ⟨j, z⟩ | z
    · unfold backA at z
      by_cases hj : j ∈ own
      · rw [if_pos hj] at z; exact .inl ⟨j, z⟩
      · rw [if_neg hj] at z
        rcases b.gr j a z with w | w
        · exact .inl ⟨j, w⟩
        · exact absurd w ha
    · exact .inr (new1 a z ha)
  have inBack : ∀ i a, a ∈ backA own As1 Ai i → (i ∈ own ∧ a ∈ As1 i) ∨ (i ∉ own ∧ a ∈ Ai i) := fun i a z => by
    unfold backA at z
    by_cases hi : i ∈ own
    · rw [if_pos hi] at z; exact .inl ⟨hi, z⟩
    · rw [if_neg hi] at z; exact .inr ⟨hi, z⟩
  refine ⟨by rw [len_back]; exact lr, fun i => ?_, fun i => ?_, fun i j a h2 h3 => ?_, fun i a h2 z => ?_, fun a z => b.env.od a (inOc a z)⟩
  · rw [getS_back _ _ _ _ (by rw [lr]; exact hb)]
    by_cases hi : i ∈ own
    · rw [if_pos hi]
      have e : backA own As1 Ai i = As1 i := if_pos hi
      rw [e]
      exact (e1.sl i).keep kp0 (fun z => absurd z (by decide)) po1 fun a ha => (b.ok i a hi ha).2
    · rw [if_neg hi]
      have e : backA own As1 Ai i = Ai i := if_neg hi
      rw [e]
      have q := b.env.sl i
      rw [getS_wipe, if_neg hi, wipe_get σ i own hb, if_neg hi] at q
      exact q.keep Kp.refl (fun _ => Ext.refl) (fun a _ z => poB a z) fun _ _ => rfl
  · unfold backA
    by_cases hi : i ∈ own
    · rw [if_pos hi]; exact e1.nd i
    · rw [if_neg hi]; exact b.env.nd i
  · rcases inBack i a h2 with ⟨p, q⟩ | ⟨p, q⟩
    · rcases inBack j a h3 with ⟨p', q'⟩ | ⟨p', q'⟩
      · exact e1.dj i j a q q'
      · exact absurd (.inr (.inl ⟨i, p, q⟩)) (b.env.oc j a q')
    · rcases inBack j a h3 with ⟨p', q'⟩ | ⟨p', q'⟩
      · exact absurd (.inr (.inl ⟨j, p', q'⟩)) (b.env.oc i a q)
      · exact b.env.dj i j a q q'
  · rcases inBack i a h2 with ⟨p, q⟩ | ⟨p, q⟩
    · exact e1.oc i a q (new1 a z (b.ok i a p q).1)
    · exact b.env.oc i a q (inOc a z)
/-- .. as a step of the whole comprehension -/
theorem Blk.step_back (b : Blk T Oc σ own t H1 r1 As1 Dd ke H ri Ai acc ys Ks) (hb : ∀ j ∈ own, j < σ.length) (hD : H1 Dd = none) (e1 : EnvR T false Oc H1 σ r1 As1) : Step T false Oc σ t H1 r1 As1 H (E.back r1 own ri) (backA own As1 Ai) where
  env := b.env_back hb hD e1 fun _ z => .inl z
  kp := b.kp
  gr := fun i a z => by
    unfold backA at z
    by_cases hi : i ∈ own
    · rw [if_pos hi] at z; exact .inl z
    · rw [if_neg hi] at z; exact b.gr i a z
  sm := fun i hi => by
    have lr : ri.length = σ.length := by
      have := b.env.len
      rw [len_wipe, L2.wipe_length] at this
      exact this
    rw [getS_back _ _ _ _ (by rw [lr]; exact hb)]
    unfold backA
    by_cases ho : i ∈ own
    · rw [if_pos ho, if_pos ho]; exact ⟨rfl, rfl⟩
    · rw [if_neg ho, if_neg ho]; exact b.sm i hi ho
/-- .. and what it hands back -/
theorem Blk.res_back (b : Blk T Oc σ own t H1 r1 As1 Dd ke H ri Ai acc ys Ks) (hb : ∀ j ∈ own, j < σ.length) (hD : H1 Dd = none) (e1 : EnvR T false Oc H1 σ r1 As1) {κ : Kd} (hk : κ = .s ∨ κ = .f (ke + 1)) : ResR T false Oc σ κ H1 H (E.back r1 own ri) (backA own As1 Ai) (.ref Dd) (.lst ys) := by
  have fk : ResR T false Oc σ (.f (ke + 1)) H1 H (E.back r1 own ri) (backA own As1 Ai) (.ref Dd) (.lst ys) := by
    refine ⟨Dd :: Ks.flatten, .inr ⟨Dd, acc, ys, Ks, rfl, rfl, b.dd, rfl, b.it.mono fun v d A _ hA q => ?_⟩, b.nd, fun a ha => ⟨?_, ?_⟩, b.env_back hb hD e1 fun a z => ?_⟩
    · refine OwnR.keep Kp.refl (fun a _ z => ?_) ke (fun _ _ => rfl) q
      rcases z with ⟨j, z⟩ | z | z
      · unfold backA at z
        by_cases hj : j ∈ own
        · rw [if_pos hj] at z; exact .inr (.inr (.inl ⟨j, hj, z⟩))
        · rw [if_neg hj] at z; exact .inl ⟨j, z⟩
      · exact .inr (.inl z)
      · rcases List.mem_cons.mp z with z | z
        · exact .inr (.inr (.inr (.inl z)))
        · exact .inr (.inr (.inr (.inr z)))
    · rcases List.mem_cons.mp ha with z | z
      · rw [z]; exact hD
      · exact b.fr a z
    · have nin : H1 a = none := by
        rcases List.mem_cons.mp ha with z | z
        · rw [z]; exact hD
        · exact b.fr a z
      have inB : OcB Oc own As1 Dd Ks a := by
        rcases List.mem_cons.mp ha with z | z
        · exact .inr (.inr (.inl z))
        · exact .inr (.inr (.inr z))
      rintro (⟨j, z⟩ | z)
      · unfold backA at z
        by_cases hj : j ∈ own
        · rw [if_pos hj] at z; exact (b.ok j a hj z).1 nin
        · rw [if_neg hj] at z; exact b.env.oc j a z inB
      · exact e1.od a z nin
    · rcases z with z | z
      · exact .inl z
      · exact .inr (List.mem_cons.mp z)
  rcases hk with e | e
  · subst e; exact fk.s_of_f
  · subst e; exact fk
end
section
variable {T : Tab} {X : Cx} {n : Nat}
theorem Blk.start {Oc : AP1} {σ : St} {own t : List Nat} {H1 : Hp} {r1 : Env} {As1 : Nat → List Addr} {Dd : Addr} {ke : Nat} (en1 : EnvR T false Oc H1 σ r1 As1) (hb : ∀ j ∈ own, j < σ.length) (hD : H1 Dd = none) :
    Blk T Oc σ own t H1 r1 As1 Dd ke (upd H1 Dd (.lst [])) (E.wipe own r1) (wipeA own As1) [] [] [] := by
  have ex := Ext.upd (o := HO.lst []) hD
  have w := en1.wipe (own := own) hb
  have dD : ∀ i, Dd ∉ As1 i := fun i z => (en1.sl i).dom Dd z hD
  have ww : E.wipe own (E.wipe own r1) = E.wipe own r1 := by
    refine List.ext_getElem? fun i => ?_
    have e1 := getS_wipe own (E.wipe own r1) i
    have e2 := getS_wipe own r1 i
    by_cases hi : i < r1.length
    · have l1 : i < (E.wipe own (E.wipe own r1)).length := by rw [len_wipe, len_wipe]; exact hi
      have l2 : i < (E.wipe own r1).length := by rw [len_wipe]; exact hi
      rw [List.getElem?_eq_getElem l1, List.getElem?_eq_getElem l2]
      have f1 : getS (E.wipe own (E.wipe own r1)) i = (E.wipe own (E.wipe own r1))[i] := by unfold getS; rw [List.getD_eq_getElem?_getD, List.getElem?_eq_getElem l1]; rfl
      have f2 : getS (E.wipe own r1) i = (E.wipe own r1)[i] := by unfold getS; rw [List.getD_eq_getElem?_getD, List.getElem?_eq_getElem l2]; rfl
      rw [← f1, ← f2, e1]
      by_cases ho : i ∈ own
      · rw [if_pos ho, e2, if_pos ho]
      · rw [if_neg ho]
    · rw [List.getElem?_eq_none (by rw [len_wipe, len_wipe]; omega), List.getElem?_eq_none (by rw [len_wipe]; omega)]
  have inA : ∀ i a, a ∈ wipeA own As1 i → i ∉ own ∧ a ∈ As1 i := fun i a z => by
    unfold wipeA at z
    by_cases hi : i ∈ own
    · rw [if_pos hi] at z; cases z
    · rw [if_neg hi] at z; exact ⟨hi, z⟩
  refine ⟨⟨?_, fun i => ?_, w.nd, w.dj, fun i a hi z => ?_, fun a z => ?_⟩, upd_same, trivial, by simp, by simp, ex.kp, fun i a z => .inl (inA i a z).2, fun i _ ho => ⟨?_, if_neg ho⟩, fun i hi => if_pos hi, fun i a hi ha => ⟨(en1.sl i).dom a ha, upd_ne fun z => dD i (z ▸ ha)⟩⟩
  · rw [ww]; exact w.len
  · rw [ww, getS_wipe, wipe_get σ i own hb]
    by_cases hi : i ∈ own
    · rw [if_pos hi, if_pos hi]; exact if_pos hi
    · rw [if_neg hi, if_neg hi, show wipeA own As1 i = As1 i from if_neg hi]
      refine (en1.sl i).keep ex.kp (fun _ => ex) (fun a ha z => ?_) fun a ha => upd_ne fun z => dD i (z ▸ ha)
      rcases z with ⟨j, z⟩ | z | ⟨j, _, z⟩ | z | z
      · exact .inl ⟨j, (inA j a z).2⟩
      · exact .inr z
      · exact .inl ⟨j, z⟩
      · exact absurd (show H1 a = none by rw [z]; exact hD) ha
      · cases z
  · obtain ⟨h1, h2⟩ := inA i a hi
    rcases z with z | ⟨j, hj, z⟩ | z | z
    · exact en1.oc i a h2 z
    · exact h1 (en1.dj i j a h2 z ▸ hj)
    · exact dD i (z ▸ h2)
    · cases z
  · rcases z with z | ⟨j, hj, z⟩ | z | z
    · exact ex.dom a (en1.od a z)
    · exact ex.dom a ((en1.sl j).dom a z)
    · rw [z, upd_same]; simp
    · cases z
  · rw [getS_wipe, if_neg ho]
theorem bind_fin {xs : List D} {r : Env} {tg : E.Tg} {cond elt : E} {r1 : Env} : (((E.turns tg cond (E.one elt) xs r).bindN fun ys r2 => .ok ys (E.back r1 tg.own r2)).bind fun ys r => .ok (D.lst ys) r) = Rem tg cond elt r1 xs r [] := by
  unfold Rem
  cases E.turns tg cond (E.one elt) xs r <;> rfl
/-- one turn of the rest -/
theorem rem_cons {tg : E.Tg} {cond elt : E} {r1 : Env} {x : D} {xs : List D} {ri : Env} {ys : List D} (h : Rem tg cond elt r1 (x :: xs) ri ys ≠ .stuck) :
    ∃ r' b r3, tg.put x ri = some r' ∧ cond r' = .ok (.bl b) r3 ∧ (b = false → Rem tg cond elt r1 (x :: xs) ri ys = Rem tg cond elt r1 xs r3 ys) ∧
      (b = true → ∃ y r4, elt r3 = .ok y r4 ∧ Rem tg cond elt r1 (x :: xs) ri ys = Rem tg cond elt r1 xs r4 (ys ++ [y])) := by
  have e : E.turns tg cond (E.one elt) (x :: xs) ri = match tg.put x ri with
    | none => .stuck
    | some r => (cond r).bindN fun c r => match c with
      | .bl true => (E.one elt r).bindN fun ys r => (E.turns tg cond (E.one elt) xs r).bindN fun zs r => .ok (ys ++ zs) r
      | .bl false => E.turns tg cond (E.one elt) xs r
      | _ => .stuck := rfl
  unfold Rem at h ⊢
  rw [e] at h ⊢
  cases hp : tg.put x ri with
  | none => rw [hp] at h; exact absurd rfl h
  | some r' =>
    rw [hp] at h
    cases hc : cond r' with
    | ok c r3 =>
      simp only [hc, Res.bindN] at h ⊢
      cases c with
      | bl b =>
        refine ⟨r', b, r3, rfl, hc, fun hb => by subst hb; rfl, fun hb => ?_⟩
        subst hb
        cases he : elt r3 with
        | ok y r4 =>
          refine ⟨y, r4, rfl, ?_⟩
          simp only [E.one, he, Res.bindN]
          cases E.turns tg cond (E.one elt) xs r4 with
          | ok zs r5 =>
            show Res.ok (D.lst (ys ++ ([y] ++ zs))) _ = Res.ok (D.lst (ys ++ [y] ++ zs)) _
            rw [List.append_assoc]
          | raise _ _ => rfl
          | stuck => rfl
        | raise c r4 => simp only [E.one, he, Res.bindN] at h; exact absurd rfl h
        | stuck => simp only [E.one, he, Res.bindN] at h; exact absurd rfl h
      | _ => exact absurd rfl h
    | raise c r3 => simp only [hc, Res.bindN] at h; exact absurd rfl h
    | stuck => simp only [hc, Res.bindN] at h; exact absurd rfl h
theorem t_comp {W : WX} {tg : E.Tg} {it : E.It} {cond elt : E} {κe κ : Kd} {t1 tc te : List Nat} {ke : Nat} (hke : κe = .f ke ∨ (κe = .s ∧ ke = 0)) (hk : κ = .s ∨ κ = .f (ke + 1)) {σ : St} {H : Hp} {Q : VK} (hb : ∀ j ∈ tg.own, j < σ.length)
    (h : TEv T false W (E.comp tg it cond elt) κ (t1 ++ (tc ++ te)) σ H Q) : tLc (TIv T false W it t1) (TGv T false tg) (TTv T false W0 cond tc) (TEv T false W0 elt κe te) tg.own σ H Q := by
  obtain ⟨Oc, r, As, en, a⟩ := h
  have e : E.comp tg it cond elt r = (it r).bind fun xs r1 => Rem tg cond elt r1 xs (E.wipe tg.own r1) [] := by
    show ((it r).bind fun xs r1 => (E.turns tg cond (E.one elt) xs (E.wipe tg.own r1)).bindN fun ys r2 => .ok ys (E.back r1 tg.own r2)).bind (fun ys r => .ok (D.lst ys) r) = _
    rw [Res.bind_assoc]
    congr 1
    funext xs r1
    exact bind_fin
  rw [e] at a
  refine ⟨Oc, r, As, en, aft_mono (aft_bind (t2 := tc ++ te) wid_res a) fun J H1 ⟨r1, As1, xs, st1, ⟨⟨Y, wk, hy⟩, hl⟩, a1⟩ => ?_⟩
  intro Dd hD
  have en1 := st1.env
  have notStuck : Rem tg cond elt r1 xs (E.wipe tg.own r1) [] ≠ .stuck := fun z => by rw [z] at a1; exact a1
  refine lc_it wk (fun i H => ∃ ri Ai acc ys Ks, Blk T Oc σ tg.own (tc ++ te) H1 r1 As1 Dd ke H ri Ai acc ys Ks ∧ Rem tg cond elt r1 (xs.drop i) ri ys = Rem tg cond elt r1 xs (E.wipe tg.own r1) [] ∧ ys.length ≤ i)
    ⟨_, _, _, _, _, Blk.start en1 hb hD, by rw [List.drop_zero], Nat.le_refl _⟩ (fun i H _ ⟨ri, Ai, acc, ys, Ks, b, _, _⟩ => b.kp.mono fun x ⟨j, _, z⟩ => .inl ⟨j, z⟩) ?_ ?_
  · rintro i x H H' hi ⟨ri, Ai, acc, ys, Ks, b, hrem, hlen⟩ yy
    have kk : Kp (PO Oc As1) H1 H := b.kp.mono fun x ⟨j, _, z⟩ => .inl ⟨j, z⟩
    obtain ⟨ext, hit⟩ := hy i H x H' yy hi kk
    have hp : ∀ a, H1 a ≠ none → PO (OcB Oc tg.own As1 Dd Ks) Ai a → PO Oc As1 a := fun a ha z => by
      rcases z with ⟨j, z⟩ | z | ⟨j, _, z⟩ | z | z
      · rcases b.gr j a z with w | w
        · exact .inl ⟨j, w⟩
        · exact absurd w ha
      · exact .inr z
      · exact .inl ⟨j, z⟩
      · exact absurd (show H1 a = none by rw [z]; exact hD) ha
      · exact absurd (b.fr a z) ha
    obtain ⟨d, hd, rp⟩ := hit _ hp
    have dr : xs.drop i = d :: xs.drop (i + 1) := by
      obtain ⟨h1, h2⟩ := List.getElem?_eq_some_iff.mp hd
      rw [← h2]
      exact (List.drop_eq_getElem_cons h1)
    rw [dr] at hrem
    obtain ⟨r', bb, r3, e1, e2, hf, ht⟩ := rem_cons (by rw [hrem]; exact notStuck)
    have pw : tg.put d (E.wipe tg.own ri) = some r' := by rw [put_wipe]; exact e1
    obtain ⟨pg1, pg2⟩ := put_get e1
    refine ⟨_, _, _, d, b.env.ext ext, rp, ?_⟩
    rw [pw]
    intro σ2 A2 en2 h1 h2 h3
    have hA : ∀ j, A2 j = Ai j := fun j => by
      by_cases hj : j ∈ tg.own
      · rw [h2 j hj, b.ow j hj]
      · exact (h1 j hj).2
    have h3' : σ2.length = σ.length := by rw [h3, L2.wipe_length]
    have wsame : L2.wipe σ2 tg.own = L2.wipe σ tg.own := wipe_same hb (fun j hj => (h1 j hj).1) h3'
    refine ⟨wsame, _, r', A2, en2, ?_⟩
    rw [e2]
    intro H3 A3 st3
    cases bb with
    | false =>
      rw [if_neg (by decide)]
      refine ⟨r3, _, acc, ys, Ks, b.step hb hD ext en2 (fun j hj => pg1 j hj) h1 h2 h3 (st3.wid fun j z => List.mem_append_left _ z), ?_, by omega⟩
      rw [← hf rfl]; exact hrem
    | true =>
      rw [if_pos rfl]
      obtain ⟨y, r4, e4, hrem2⟩ := ht rfl
      refine ⟨_, r3, A3, st3.env, ?_⟩
      unfold Aft
      rw [e4]
      intro v H4 A4 st4 rs4
      have st34 := st3.trans st4
      have b4 := b.step hb hD ext en2 (fun j hj => pg1 j hj) h1 h2 h3 st34
      have acl : acc.length = ys.length := b.it.len1
      refine ⟨acc, b4.dd, by rw [acl, ← lim_line]; omega, r4, wipeA tg.own A4, acc ++ [v], ys ++ [y], ?_⟩
      have fin : ∀ A : List Addr, OwnR T.K (PO (fun a => OcB Oc tg.own As1 Dd Ks a ∨ a ∈ A) A4) H4 ke v y A → A.Nodup → (∀ a ∈ A, H3 a = none ∧ ¬ PO (OcB Oc tg.own As1 Dd Ks) A4 a) → EnvR T false (fun a => OcB Oc tg.own As1 Dd Ks a ∨ a ∈ A) H4 σ2 r4 A4 →
          ∃ Ks', Blk T Oc σ tg.own (tc ++ te) H1 r1 As1 Dd ke (upd H4 Dd (.lst (acc ++ [v]))) r4 (wipeA tg.own A4) (acc ++ [v]) (ys ++ [y]) Ks' := fun A o nd fr ex => by
        have frH' : ∀ a ∈ A, H' a = none := fun a ha => by
          cases q : H' a with
          | none => rfl
          | some ob => exact absurd (fr a ha).1 (st3.kp.dom a (by rw [q]; simp))
        have fr1 : ∀ a ∈ A, H1 a = none := fun a ha => by
          cases q : H1 a with
          | none => rfl
          | some ob => exact absurd (frH' a ha) (ext.dom a (b.kp.dom a (by rw [q]; simp)))
        have exw := ex.wipe (own := tg.own) (by rw [h3']; exact hb)
        rw [wsame] at exw
        refine ⟨Ks ++ [A], b4.push hD (OwnR.keep Kp.refl (fun a _ z => po_wipeA z) ke (fun _ _ => rfl) o) nd fr1 (fun a ha z => (fr a ha).2 (po_wipeA z)) (b.stepIt hA ext en2 st34 frH') exw⟩
      rcases hke with hk1 | ⟨hk1, hk2⟩
      · subst hk1
        obtain ⟨A, o, nd, fr, ex⟩ := rs4
        obtain ⟨Ks', bb⟩ := fin A o nd fr ex
        exact ⟨Ks', bb, by rw [← hrem2]; exact hrem, by simp; omega⟩
      · subst hk1
        subst hk2
        have rs4 : Rep T.K (PO (OcB Oc tg.own As1 Dd Ks) A4) H4 v y := rs4
        obtain ⟨Ks', bb⟩ := fin [] ⟨rfl, rs4.keep Kp.refl fun a _ z => z.imp id fun z => z.elim id fun z => nomatch z⟩ List.nodup_nil (fun _ z => nomatch z) (st4.env.lessOc fun a z => z.elim id fun z => nomatch z)
        exact ⟨Ks', bb, by rw [← hrem2]; exact hrem, by simp; omega⟩
  · rintro H ⟨ri, Ai, acc, ys, Ks, b, hrem, _⟩
    rw [List.drop_length] at hrem
    have e0 : Rem tg cond elt r1 [] ri ys = .ok (.lst ys) (E.back r1 tg.own ri) := by
      show Res.ok (D.lst (ys ++ [])) _ = _
      rw [List.append_nil]
    rw [← hrem, e0] at a1
    exact a1 _ _ _ (b.step_back hb hD en1) (b.res_back hb hD en1 hk)
end
end O
end
section
set_option Elab.async false
set_option linter.all false
set_option maxRecDepth 100000
/-! Sound12: the rule of comprehensions; arguments; calls. -/
namespace O
open PySem PySem.Spec PyProof.Rows L2
section
variable {T : Tab} {X : Cx} {n : Nat}
theorem PE.impI {p : Expr} {t t' : TE} (h : PE X p t) (hi : ∀ σ H Q, σ.length = X.N.length → t' σ H Q → t σ H Q) : PE X p t' := ⟨fun pins s σ H Q I q => h.run pins s σ H Q I (hi σ H Q I.len q)⟩
theorem Gd.blk (G : Gd T n X) {s : Shared} {H : Hp} {scope : Scope} {e : PySem.Env} {fp : List Addr} : Gd T n (X.blk s H scope e fp) := ⟨G.K, G.calm, G.nd, G.room, G.lf⟩
/-- a clause's test -/
def DTs (T : Tab) (X : Cx) (ifs : List Expr) (cond : E) (tc : List Nat) : Prop := PTs X ifs (TTv T false W0 cond tc)
theorem PTs.imp {p : List Expr} {t t' : TT} (h : PTs X p t) (hi : ∀ σ H Q, t' σ H Q → t σ H Q) : PTs X p t' := ⟨fun pins s σ H Q I q => h.run pins s σ H Q I (hi σ H Q q)⟩
theorem dts_nil : DTs T X [] E.yes [] := PTs.imp pts_nil fun σ H Q ⟨Oc, r, As, en, h⟩ => h H As (.refl en)
theorem dts_one {c : Expr} {ec : E} {t : List Nat} (h : DT T false X c ec t) : DTs T X [c] ec t := pts_one (h W0 takes0)
theorem d_comp {eltp tgp ip : Expr} {ifs : List Expr} {scope : Scope} {pos : Pos} {tg : E.Tg} {it : E.It} {cond elt : E} {κe κ : Kd} {t1 tc te : List Nat} (own : List (PySem.Str × Nat)) (ke : Nat) (G : Gd T n X) (hi : DI T false X tgp ip it t1)
    (hg : ∀ (s : Shared) (H : Hp) (C : Addr) (cl : List (PySem.Str × Addr)) (fp : List Addr), DG T false (X.blk s H scope (compEnvC scope cl C X.env) fp) tgp tg)
    (hc : ∀ (s : Shared) (H : Hp) (C : Addr) (cl : List (PySem.Str × Addr)) (fp : List Addr), DTs T (X.blk s H scope (compEnvC scope cl C X.env) fp) ifs cond tc)
    (he : ∀ (s : Shared) (H : Hp) (C : Addr) (cl : List (PySem.Str × Addr)) (fp : List Addr), DE T false (X.blk s H scope (compEnvC scope cl C X.env) fp) eltp elt κe te)
    (hke : κe = .f ke ∨ (κe = .s ∧ ke = 0) := by first | exact .inl rfl | exact .inr ⟨rfl, rfl⟩) (hk : κ = .s ∨ κ = .f (ke + 1) := by first | exact .inl rfl | exact .inr rfl)
    (ok : blkC X.N X.env.scope scope own = true := by rfl) (ho : own.map (·.2) = tg.own := by rfl) (hs : ∀ x, foldedSetIterable ip X.env x = pure x := by intro _; rfl) :
    DE T false X (.ListComp eltp [⟨tgp, ip, ifs, 0⟩] scope pos) (E.comp tg it cond elt) κ (t1 ++ (tc ++ te)) := fun W tk => by
  have bk := blkOk_by ok
  refine PE.impI (pe_lc (own := own) G.calm G.nd (hi W tk) bk hg hc (fun s H C cl fp => he s H C cl fp W0 takes0) hs) fun σ H Q hl h => ?_
  rw [ho]
  refine t_comp hke hk (fun j hj => ?_) h
  rw [← ho] at hj
  obtain ⟨p, hp, rfl⟩ := List.mem_map.mp hj
  rw [hl]
  exact lt_of_get (bk.ix p hp)
/-! ### arguments -/
def ArgsR (T : Tab) (Oc : AP1) (σ : St) (H : Hp) (As : Nat → List Addr) : List E.Arg → List Slot → List V → Prop
  | [], [], [] => True
  | .v _ :: as, s :: ss, v :: vs => (∃ d, s = .val 0 d ∧ Rep T.K (PO Oc As) H v d) ∧ ArgsR T Oc σ H As as ss vs
  | .io i :: as, s :: ss, v :: vs => (s = .no ∧ σ[i]?.join = some v) ∧ ArgsR T Oc σ H As as ss vs
  | .x i :: as, s :: ss, v :: vs => (s = .no ∧ σ[i]?.join = some v) ∧ ArgsR T Oc σ H As as ss vs
  | .bw i :: as, s :: ss, v :: vs => (s = .no ∧ σ[i]?.join = some v) ∧ ArgsR T Oc σ H As as ss vs
  | _, _, _ => False
def RRg (T : Tab) (Oc : AP1) (σ : St) (as : List E.Arg) : Hp → Hp → Env → (Nat → List Addr) → List V → List Slot → Prop := fun _ H' _ As' vs ss => ArgsR T Oc σ H' As' as ss vs
theorem wid_rrg {Oc : AP1} {σ : St} {as : List E.Arg} : Wid (RRg T Oc σ as) := fun _ _ _ _ _ _ _ _ h => h
def TAg (T : Tab) (W : WX) (as : List E.Arg) (t : List Nat) : TA := fun σ H Q => ∃ Oc r As, EnvR T false Oc H σ r As ∧ Aft T false Oc σ W (RRg T Oc σ as) t H r As (E.evalArgs as r) Q
def DAg (T : Tab) (X : Cx) (ps : List Expr) (as : List E.Arg) (t : List Nat) : Prop := ∀ W : WX, Takes X W → PA X ps (TAg T W as t)
variable {a : Expr} {ea : E} {κ1 : Kd} {t t1 t2 : List Nat} {ps : List Expr} {as : List E.Arg}
theorem dg_nil : DAg T X [] [] [] := fun W tk => PA.imp pa_nil fun σ H Q ⟨Oc, r, As, en, h⟩ => aft_end h en Ext.refl trivial
theorem dg_v (ha : DE T false X a ea κ1 t1) (hr : DAg T X ps as t2) (hk : κ1.solid = true := by rfl) (hs : starEach (a :: ps) X.env = (false, eval a X.env) :: starEach ps X.env := by rfl) : DAg T X (a :: ps) (.v ea :: as) (t1 ++ t2) := fun W tk =>
  PA.imp (pa_cons (ha W tk) (hr W tk) hs) fun σ H Q ⟨Oc, r, As, en, h⟩ => by
    refine ⟨Oc, r, As, en, aft_mono (aft_bind (t2 := t2) wid_rrg h) fun x H1 ⟨r1, As1, c1, st1, rs1, a1⟩ => ?_⟩
    refine ⟨Oc, r1, As1, st1.env, aft_mono (aft_bind0 (R1 := RRg T Oc σ as) wid_rrg a1) fun xs H2 ⟨r2, As2, ds, st2, rs2, a2⟩ => ?_⟩
    have rs1' := rs1.stay st2 (by rw [hk]; rfl)
    exact aft_end a2 st2.env Ext.refl ⟨⟨c1, rfl, rs1'.rep (by cases κ1 <;> first | rfl | cases hk)⟩, rs2⟩
theorem bound_val {Oc : AP1} {H : Hp} {σ : St} {r : Env} {As : Nat → List Addr} {i : Nat} (en : EnvR T false Oc H σ r As) (h : E.bound (getS r i) = true) : ∃ v, σ[i]?.join = some v := by
  have sl := en.sl i
  cases q : getS r i with
  | no => rw [q] at h; cases h
  | val k d => rw [q] at sl; obtain ⟨v, e, _⟩ := sl; exact ⟨v, e⟩
  | bor k d => rw [q] at sl; obtain ⟨_, _, v, e, _⟩ := sl; exact ⟨v, e⟩
  | exc c => rw [q] at sl; obtain ⟨_, v, e, _⟩ := sl; exact ⟨_, e⟩
  | dI c => rw [q] at sl; obtain ⟨v, e, _⟩ := sl; exact ⟨_, e⟩
  | obj c fs => rw [q] at sl; obtain ⟨v, _, _, _, e, _⟩ := sl; exact ⟨_, e⟩
  | scr c => rw [q] at sl; obtain ⟨_, v, e, _⟩ := sl; exact ⟨_, e⟩
theorem dg_slot {i : Nat} {x : PySem.Str} {pos : Pos} {g : E.Arg} (he : ∀ r, E.evalArgs (g :: as) r = if E.bound (getS r i) then (E.evalArgs as r).bind fun ss r => .ok (.no :: ss) r else .stuck)
    (hR : ∀ Oc σ H As ss v vs, σ[i]?.join = some v → ArgsR T Oc σ H As as ss vs → ArgsR T Oc σ H As (g :: as) (.no :: ss) (v :: vs)) (hr : DAg T X ps as t2) (hN : X.N[i]? = some x) (hv : Vis X.env.scope x)
    (hd : (x == ("__debug__" : PySem.Str)) = false) (hcd : (x == ("__classdict__" : PySem.Str)) = false) (hs : starEach (.Name x pos :: ps) X.env = (false, eval (.Name x pos) X.env) :: starEach ps X.env) : DAg T X (.Name x pos :: ps) (g :: as) t2 := fun W tk =>
  PA.imp (pa_cons (pe_var hN hv hd hcd) (hr W tk) hs) fun σ H Q ⟨Oc, r, As, en, h⟩ => by
    rw [he] at h
    by_cases hb : E.bound (getS r i) = true
    · rw [if_pos hb] at h
      obtain ⟨v, e⟩ := bound_val en hb
      refine ⟨v, join_some e, Oc, r, As, en, aft_mono (aft_bind0 (R1 := RRg T Oc σ as) wid_rrg h) fun xs H2 ⟨r2, As2, ds, st2, rs2, a2⟩ => ?_⟩
      exact aft_end a2 st2.env Ext.refl (hR _ _ _ _ _ _ _ e rs2)
    · rw [if_neg hb] at h
      exact h.elim
theorem dg_io (i : Nat) {x : PySem.Str} {pos : Pos} (hr : DAg T X ps as t2) (hN : X.N[i]? = some x := by rfl) (hv : Vis X.env.scope x := by first | exact Or.inl rfl | exact Or.inr (Or.inl rfl) | exact Or.inr (Or.inr rfl))
    (hd : (x == ("__debug__" : PySem.Str)) = false := by decide +kernel) (hcd : (x == ("__classdict__" : PySem.Str)) = false := by decide +kernel) (hs : starEach (.Name x pos :: ps) X.env = (false, eval (.Name x pos) X.env) :: starEach ps X.env := by rfl) : DAg T X (.Name x pos :: ps) (.io i :: as) t2 :=
  dg_slot (fun _ => rfl) (fun _ _ _ _ _ _ _ e h => ⟨⟨rfl, e⟩, h⟩) hr hN hv hd hcd hs
theorem dg_x (i : Nat) {x : PySem.Str} {pos : Pos} (hr : DAg T X ps as t2) (hN : X.N[i]? = some x := by rfl) (hv : Vis X.env.scope x := by first | exact Or.inl rfl | exact Or.inr (Or.inl rfl) | exact Or.inr (Or.inr rfl))
    (hd : (x == ("__debug__" : PySem.Str)) = false := by decide +kernel) (hcd : (x == ("__classdict__" : PySem.Str)) = false := by decide +kernel) (hs : starEach (.Name x pos :: ps) X.env = (false, eval (.Name x pos) X.env) :: starEach ps X.env := by rfl) : DAg T X (.Name x pos :: ps) (.x i :: as) t2 :=
  dg_slot (fun _ => rfl) (fun _ _ _ _ _ _ _ e h => ⟨⟨rfl, e⟩, h⟩) hr hN hv hd hcd hs
theorem dg_bw (i : Nat) {x : PySem.Str} {pos : Pos} (hr : DAg T X ps as t2) (hN : X.N[i]? = some x := by rfl) (hv : Vis X.env.scope x := by first | exact Or.inl rfl | exact Or.inr (Or.inl rfl) | exact Or.inr (Or.inr rfl))
    (hd : (x == ("__debug__" : PySem.Str)) = false := by decide +kernel) (hcd : (x == ("__classdict__" : PySem.Str)) = false := by decide +kernel) (hs : starEach (.Name x pos :: ps) X.env = (false, eval (.Name x pos) X.env) :: starEach ps X.env := by rfl) : DAg T X (.Name x pos :: ps) (.bw i :: as) t2 :=
  dg_slot (fun _ => rfl) (fun _ _ _ _ _ _ _ e h => ⟨⟨rfl, e⟩, h⟩) hr hN hv hd hcd hs
end
/-! ### which arguments are lent -/
def ioAt : List E.Arg → Nat → Option Nat
  | [], _ => none
  | .io k :: as, i => if k = i then some 0 else (ioAt as i).map (· + 1)
  | _ :: as, i => (ioAt as i).map (· + 1)
def ioSl : List E.Arg → List Nat
  | [] => []
  | .io k :: as => k :: ioSl as
  | _ :: as => ioSl as
def ioPos : Nat → List E.Arg → List Nat
  | _, [] => []
  | m, .io _ :: as => m :: ioPos (m + 1) as
  | m, _ :: as => ioPos (m + 1) as
def noFs : List E.Arg → Bool
  | [] => true
  | .fs _ :: _ => false
  | _ :: as => noFs as
def bwSl : List E.Arg → List Nat
  | [] => []
  | .bw k :: as => k :: bwSl as
  | _ :: as => bwSl as
/-- the owned things of the j-th argument -/
def acA (As : Nat → List Addr) : List E.Arg → Nat → List Addr
  | [], _ => []
  | .io i :: _, 0 => As i
  | _ :: _, 0 => []
  | _ :: as, j + 1 => acA As as j
theorem ioAt_mem : ∀ {as : List E.Arg} {i j : Nat}, ioAt as i = some j → i ∈ ioSl as
  | .io k :: as, i, j, h => by
    unfold ioAt at h
    by_cases e : k = i
    · subst e; exact List.mem_cons_self
    · rw [if_neg e] at h
      obtain ⟨m, hm, _⟩ := Option.map_eq_some_iff.mp h
      exact List.mem_cons_of_mem _ (ioAt_mem hm)
  | .v _ :: as, i, j, h => by obtain ⟨m, hm, _⟩ := Option.map_eq_some_iff.mp (show (ioAt as i).map (· + 1) = some j from h); exact ioAt_mem (as := as) hm
  | .x _ :: as, i, j, h => by obtain ⟨m, hm, _⟩ := Option.map_eq_some_iff.mp (show (ioAt as i).map (· + 1) = some j from h); exact ioAt_mem (as := as) hm
  | .fs _ :: as, i, j, h => by obtain ⟨m, hm, _⟩ := Option.map_eq_some_iff.mp (show (ioAt as i).map (· + 1) = some j from h); exact ioAt_mem (as := as) hm
  | .bw _ :: as, i, j, h => by obtain ⟨m, hm, _⟩ := Option.map_eq_some_iff.mp (show (ioAt as i).map (· + 1) = some j from h); exact ioAt_mem (as := as) hm
theorem mem_ioAt : ∀ {as : List E.Arg} {i : Nat}, i ∈ ioSl as → ∃ j, ioAt as i = some j
  | .io k :: as, i, h => by
    unfold ioAt
    by_cases e : k = i
    · exact ⟨0, if_pos e⟩
    · rw [if_neg e]
      obtain ⟨j, hj⟩ := mem_ioAt ((List.mem_cons.mp h).resolve_left (Ne.symm e))
      exact ⟨j + 1, by rw [hj]; rfl⟩
  | .v _ :: as, i, h => by obtain ⟨j, hj⟩ := mem_ioAt (as := as) h; exact ⟨j + 1, by show (ioAt as i).map (· + 1) = _; rw [hj]; rfl⟩
  | .x _ :: as, i, h => by obtain ⟨j, hj⟩ := mem_ioAt (as := as) h; exact ⟨j + 1, by show (ioAt as i).map (· + 1) = _; rw [hj]; rfl⟩
  | .fs _ :: as, i, h => by obtain ⟨j, hj⟩ := mem_ioAt (as := as) h; exact ⟨j + 1, by show (ioAt as i).map (· + 1) = _; rw [hj]; rfl⟩
  | .bw _ :: as, i, h => by obtain ⟨j, hj⟩ := mem_ioAt (as := as) h; exact ⟨j + 1, by show (ioAt as i).map (· + 1) = _; rw [hj]; rfl⟩
/-- the j-th argument's things are a lent slot's -/
theorem acA_io {As : Nat → List Addr} : ∀ {as : List E.Arg} {i j : Nat}, ioAt as i = some j → acA As as j = As i
  | .io k :: as, i, j, h => by
    unfold ioAt at h
    by_cases e : k = i
    · rw [if_pos e] at h; cases h; rw [← e]; rfl
    · rw [if_neg e] at h
      obtain ⟨m, hm, rfl⟩ := Option.map_eq_some_iff.mp h
      exact acA_io (as := as) hm
  | .v _ :: as, i, j, h => by obtain ⟨m, hm, rfl⟩ := Option.map_eq_some_iff.mp (show (ioAt as i).map (· + 1) = some j from h); exact acA_io (as := as) hm
  | .x _ :: as, i, j, h => by obtain ⟨m, hm, rfl⟩ := Option.map_eq_some_iff.mp (show (ioAt as i).map (· + 1) = some j from h); exact acA_io (as := as) hm
  | .fs _ :: as, i, j, h => by obtain ⟨m, hm, rfl⟩ := Option.map_eq_some_iff.mp (show (ioAt as i).map (· + 1) = some j from h); exact acA_io (as := as) hm
  | .bw _ :: as, i, j, h => by obtain ⟨m, hm, rfl⟩ := Option.map_eq_some_iff.mp (show (ioAt as i).map (· + 1) = some j from h); exact acA_io (as := as) hm
theorem acA_some {As : Nat → List Addr} {a : Addr} : ∀ {as : List E.Arg} {j : Nat}, (ioSl as).Nodup → a ∈ acA As as j → ∃ i, ioAt as i = some j ∧ a ∈ As i
  | [], _, _, h => nomatch h
  | .io k :: as, 0, nd, h => ⟨k, by unfold ioAt; rw [if_pos rfl], h⟩
  | .io k :: as, j + 1, nd, h => by
    obtain ⟨n1, n2⟩ := List.nodup_cons.mp (show (k :: ioSl as).Nodup from nd)
    obtain ⟨i, h1, h2⟩ := acA_some (as := as) n2 h
    refine ⟨i, ?_, h2⟩
    unfold ioAt
    rw [if_neg (fun e => n1 (by rw [e]; exact ioAt_mem h1)), h1]; rfl
  | .v _ :: as, 0, nd, h => nomatch h
  | .v _ :: as, j + 1, nd, h => by obtain ⟨i, h1, h2⟩ := acA_some (as := as) nd h; exact ⟨i, by show (ioAt as i).map (· + 1) = _; rw [h1]; rfl, h2⟩
  | .x _ :: as, 0, nd, h => nomatch h
  | .x _ :: as, j + 1, nd, h => by obtain ⟨i, h1, h2⟩ := acA_some (as := as) nd h; exact ⟨i, by show (ioAt as i).map (· + 1) = _; rw [h1]; rfl, h2⟩
  | .fs _ :: as, 0, nd, h => nomatch h
  | .fs _ :: as, j + 1, nd, h => by obtain ⟨i, h1, h2⟩ := acA_some (as := as) nd h; exact ⟨i, by show (ioAt as i).map (· + 1) = _; rw [h1]; rfl, h2⟩
  | .bw _ :: as, 0, nd, h => nomatch h
  | .bw _ :: as, j + 1, nd, h => by obtain ⟨i, h1, h2⟩ := acA_some (as := as) nd h; exact ⟨i, by show (ioAt as i).map (· + 1) = _; rw [h1]; rfl, h2⟩
end O
end
section
set_option Elab.async false
set_option linter.all false
set_option maxRecDepth 100000
/-! Sound13: calls. -/
namespace O
open PySem PySem.Spec PyProof.Rows L2
theorem getS_cons0 (s : Slot) (r : Env) : getS (s :: r) 0 = s := rfl
theorem getS_consS (s : Slot) (r : Env) (i : Nat) : getS (s :: r) (i + 1) = getS r i := rfl
theorem putOuts_spec : ∀ {as : List E.Arg} {outs : List Slot} {r r2 : Env} (m : Nat), noFs as = true → (ioSl as).Nodup → (∀ i ∈ ioSl as, i < r.length) → E.putOuts as outs r = some r2 →
    r2.length = r.length ∧ (∀ i, i ∉ ioSl as → getS r2 i = getS r i) ∧ ∀ i j, ioAt as i = some j → getS r2 i = (((ioPos m as).zip outs).lookup (m + j)).getD .no
  | [], [], r, r2, m, _, _, _, h => by cases h; exact ⟨rfl, fun _ _ => rfl, fun i j h => nomatch h⟩
  | [], _ :: _, _, _, _, _, _, _, h => nomatch h
  | .io k :: as, [], _, _, _, _, _, _, h => nomatch h
  | .io k :: as, o :: os, r, r2, m, hf, nd, hb, h => by
    obtain ⟨n1, n2⟩ := List.nodup_cons.mp (show (k :: ioSl as).Nodup from nd)
    have hk : k < r.length := hb k List.mem_cons_self
    obtain ⟨e1, e2, e3⟩ := putOuts_spec (as := as) (outs := os) (r := r.set k o) (r2 := r2) (m + 1) hf n2 (fun i hi => by simpa using hb i (List.mem_cons_of_mem _ hi)) h
    refine ⟨by rw [e1]; simp, fun i hi => ?_, fun i j hj => ?_⟩
    · rw [e2 i fun z => hi (List.mem_cons_of_mem _ z), getS_set _ _ _ _ hk, if_neg (fun z => hi (by rw [z]; exact List.mem_cons_self))]
    · unfold ioAt at hj
      by_cases e : k = i
      · rw [if_pos e] at hj
        cases hj
        subst e
        rw [e2 k n1, getS_set _ _ _ _ hk, if_pos rfl]
        show _ = (((m, o) :: (ioPos (m + 1) as).zip os).lookup m).getD .no
        simp
      · rw [if_neg e] at hj
        obtain ⟨j', hj', rfl⟩ := Option.map_eq_some_iff.mp hj
        rw [e3 i j' hj']
        show _ = (((m, o) :: (ioPos (m + 1) as).zip os).lookup (m + (j' + 1))).getD .no
        have ne : (m + (j' + 1) == m) = false := by simp
        rw [List.lookup_cons, ne]
        have : m + 1 + j' = m + (j' + 1) := by omega
        rw [this]
  | .fs _ :: _, _, _, _, _, hf, _, _, _ => nomatch hf
  | .v _ :: as, outs, r, r2, m, hf, nd, hb, h => by
    obtain ⟨e1, e2, e3⟩ := putOuts_spec (as := as) (outs := outs) (r := r) (r2 := r2) (m + 1) hf nd hb h
    refine ⟨e1, e2, fun i j hj => ?_⟩
    obtain ⟨j', hj', rfl⟩ := Option.map_eq_some_iff.mp (show (ioAt as i).map (· + 1) = some j from hj)
    rw [e3 i j' hj']
    have : m + 1 + j' = m + (j' + 1) := by omega
    rw [this]; rfl
  | .x _ :: as, outs, r, r2, m, hf, nd, hb, h => by
    obtain ⟨e1, e2, e3⟩ := putOuts_spec (as := as) (outs := outs) (r := r) (r2 := r2) (m + 1) hf nd hb h
    refine ⟨e1, e2, fun i j hj => ?_⟩
    obtain ⟨j', hj', rfl⟩ := Option.map_eq_some_iff.mp (show (ioAt as i).map (· + 1) = some j from hj)
    rw [e3 i j' hj']
    have : m + 1 + j' = m + (j' + 1) := by omega
    rw [this]; rfl
  | .bw _ :: as, outs, r, r2, m, hf, nd, hb, h => by
    obtain ⟨e1, e2, e3⟩ := putOuts_spec (as := as) (outs := outs) (r := r) (r2 := r2) (m + 1) hf nd hb h
    refine ⟨e1, e2, fun i j hj => ?_⟩
    obtain ⟨j', hj', rfl⟩ := Option.map_eq_some_iff.mp (show (ioAt as i).map (· + 1) = some j from hj)
    rw [e3 i j' hj']
    have : m + 1 + j' = m + (j' + 1) := by omega
    rw [this]; rfl
def OcC (Oc : AP1) (As1 : Nat → List Addr) (as : List E.Arg) : AP1 := fun a => PO Oc As1 a ∧ ∀ i, i ∈ ioSl as ∨ i ∈ bwSl as → a ∉ As1 i
section
variable {T : Tab} {Oc : AP1} {H1 H' : Hp} {σ : St} {r1 r2 : Env} {As1 : Nat → List Addr}
theorem args_slots {P : AP1} (en : EnvR T false Oc H1 σ r1 As1) (hP : ∀ a, H1 a ≠ none → P a → PO Oc As1 a) : ∀ {as : List E.Arg} {ss : List Slot} {vs : List V}, ArgsR T Oc σ H1 As1 as ss vs → (∀ i ∈ bwSl as, ∀ a ∈ As1 i, ¬ P a) →
    (E.resolve as ss r1).length = vs.length ∧ ∀ j, SlotR T false P H1 ((vs.map some)[j]?.join) (getS (E.resolve as ss r1) j) (acA As1 as j)
  | [], [], [], _, _ => ⟨rfl, fun j => by
    have e : getS (E.resolve [] [] r1) j = .no := by show getS [] j = _; simp [getS]
    rw [e]; rfl⟩
  | .v _ :: as, s :: ss, v :: vs, ⟨⟨d, e, rp⟩, h⟩, hb => by
    obtain ⟨l, q⟩ := args_slots en hP (as := as) h hb
    refine ⟨congrArg Nat.succ l, fun j => ?_⟩
    cases j with
    | zero => subst e; exact ⟨v, rfl, rfl, rp.keep Kp.refl hP⟩
    | succ j => exact q j
  | .io i :: as, s :: ss, v :: vs, ⟨⟨e, ev⟩, h⟩, hb => by
    obtain ⟨l, q⟩ := args_slots en hP (as := as) h hb
    refine ⟨congrArg Nat.succ l, fun j => ?_⟩
    cases j with
    | zero =>
      have sl := en.sl i
      rw [ev] at sl
      exact sl.keep Kp.refl (fun _ => Ext.refl) hP fun _ _ => rfl
    | succ j => exact q j
  | .x i :: as, s :: ss, v :: vs, ⟨⟨e, ev⟩, h⟩, hb => by
    obtain ⟨l, q⟩ := args_slots en hP (as := as) h hb
    refine ⟨congrArg Nat.succ l, fun j => ?_⟩
    cases j with
    | zero =>
      have sl := en.sl i
      rw [ev] at sl
      show SlotR T false P H1 (some v) (E.xOnly (getS r1 i)) []
      cases g : getS r1 i with
      | exc c =>
        rw [g] at sl
        have := sl.keep (P' := P) Kp.refl (fun _ => Ext.refl) hP fun _ _ => rfl
        rw [sl.1] at this
        exact this
      | scr c =>
        rw [g] at sl
        have := sl.keep (P' := P) Kp.refl (fun _ => Ext.refl) hP fun _ _ => rfl
        rw [sl.1] at this
        exact this
      | val k d =>
        rw [g] at sl
        cases k with
        | zero =>
          obtain ⟨w, e1, e2, rp⟩ := sl
          exact ⟨w, e1, rfl, rp.keep Kp.refl hP⟩
        | succ k => exact rfl
      | _ => exact rfl
    | succ j => exact q j
  | .bw i :: as, s :: ss, v :: vs, ⟨⟨e, ev⟩, h⟩, hb => by
    obtain ⟨l, q⟩ := args_slots en hP (as := as) h fun k hk => hb k (List.mem_cons_of_mem _ hk)
    refine ⟨congrArg Nat.succ l, fun j => ?_⟩
    cases j with
    | zero =>
      have sl := en.sl i
      rw [ev] at sl
      show SlotR T false P H1 (some v) (E.lent (getS r1 i)) []
      cases g : getS r1 i with
      | val k d =>
        rw [g] at sl
        obtain ⟨w, e1, o⟩ := sl
        exact ⟨w, e1, rfl, OwnR.rep hP k (fun a ha => hb i List.mem_cons_self a ha) o⟩
      | _ => exact rfl
    | succ j => exact q j
theorem call_start {as : List E.Arg} {ss : List Slot} {vs : List V} (en : EnvR T false Oc H1 σ r1 As1) (h : ArgsR T Oc σ H1 As1 as ss vs) (nd : (ioSl as).Nodup) (hd : ∀ i ∈ bwSl as, i ∉ ioSl as) : EnvR T false (OcC Oc As1 as) H1 (vs.map some) (E.resolve as ss r1) (acA As1 as) := by
  have hP : ∀ a, H1 a ≠ none → PO (OcC Oc As1 as) (acA As1 as) a → PO Oc As1 a := fun a _ z => by
    rcases z with ⟨j, z⟩ | z
    · obtain ⟨i, _, z⟩ := acA_some nd z
      exact .inl ⟨i, z⟩
    · exact z.1
  have hB : ∀ i ∈ bwSl as, ∀ a ∈ As1 i, ¬ PO (OcC Oc As1 as) (acA As1 as) a := fun i hi a ha z => by
    rcases z with ⟨j, z⟩ | z
    · obtain ⟨k, hk, z⟩ := acA_some nd z
      exact hd i hi (en.dj i k a ha z ▸ ioAt_mem hk)
    · exact z.2 i (.inr hi) ha
  obtain ⟨l, q⟩ := args_slots en hP h hB
  refine ⟨by rw [l]; simp, q, fun j => ?_, fun j k a h1 h2 => ?_, fun j a h1 z => ?_, fun a z => en.dom a z.1⟩
  · cases e : acA As1 as j with
    | nil => exact List.nodup_nil
    | cons a l =>
      obtain ⟨i, hi, _⟩ := acA_some (as := as) (j := j) (a := a) (As := As1) nd (by rw [e]; exact List.mem_cons_self)
      rw [← e, acA_io hi]
      exact en.nd i
  · obtain ⟨i, hi, z1⟩ := acA_some nd h1
    obtain ⟨i', hi', z2⟩ := acA_some nd h2
    have := en.dj i i' a z1 z2
    subst this
    rw [hi] at hi'
    exact Option.some.inj hi'
  · obtain ⟨i, hi, z1⟩ := acA_some nd h1
    exact z.2 i (.inl (ioAt_mem hi)) z1
/-- the caller's owned things behind a call -/
def afA (as : List E.Arg) (As1 Ac : Nat → List Addr) : Nat → List Addr := fun i => match ioAt as i with
  | some j => Ac j
  | none => As1 i
theorem outE_get {io : List Nat} {np : Nat} {outs : List Slot} {j : Nat} (h : j < np) : getS (outE io np outs) j = ((io.zip outs).lookup j).getD .no := by
  unfold getS outE
  rw [List.getD_eq_getElem?_getD, List.getElem?_map, List.getElem?_range h]
  rfl
theorem ioAt_lt : ∀ {as : List E.Arg} {i j : Nat}, ioAt as i = some j → j < as.length
  | .io k :: as, i, j, h => by
    unfold ioAt at h
    by_cases e : k = i
    · rw [if_pos e] at h; cases h; simp
    · rw [if_neg e] at h
      obtain ⟨m, hm, rfl⟩ := Option.map_eq_some_iff.mp h
      have := ioAt_lt hm
      simp; omega
  | .v _ :: as, i, j, h => by obtain ⟨m, hm, rfl⟩ := Option.map_eq_some_iff.mp (show (ioAt as i).map (· + 1) = some j from h); have := ioAt_lt (as := as) hm; simp; omega
  | .x _ :: as, i, j, h => by obtain ⟨m, hm, rfl⟩ := Option.map_eq_some_iff.mp (show (ioAt as i).map (· + 1) = some j from h); have := ioAt_lt (as := as) hm; simp; omega
  | .fs _ :: as, i, j, h => by obtain ⟨m, hm, rfl⟩ := Option.map_eq_some_iff.mp (show (ioAt as i).map (· + 1) = some j from h); have := ioAt_lt (as := as) hm; simp; omega
  | .bw _ :: as, i, j, h => by obtain ⟨m, hm, rfl⟩ := Option.map_eq_some_iff.mp (show (ioAt as i).map (· + 1) = some j from h); have := ioAt_lt (as := as) hm; simp; omega
theorem args_val : ∀ {as : List E.Arg} {ss : List Slot} {vs : List V} {i j : Nat}, ArgsR T Oc σ H1 As1 as ss vs → ioAt as i = some j → (vs.map some)[j]?.join = σ[i]?.join
  | .io k :: as, s :: ss, v :: vs, i, j, ⟨⟨_, ev⟩, h⟩, hj => by
    unfold ioAt at hj
    by_cases e : k = i
    · rw [if_pos e] at hj; cases hj; subst e; exact ev.symm
    · rw [if_neg e] at hj
      obtain ⟨m, hm, rfl⟩ := Option.map_eq_some_iff.mp hj
      exact (show (vs.map some)[m]?.join = σ[i]?.join from args_val h hm)
  | .v _ :: as, s :: ss, v :: vs, i, j, ⟨_, h⟩, hj => by obtain ⟨m, hm, rfl⟩ := Option.map_eq_some_iff.mp (show (ioAt as i).map (· + 1) = some j from hj); exact (show (vs.map some)[m]?.join = σ[i]?.join from args_val h hm)
  | .x _ :: as, s :: ss, v :: vs, i, j, ⟨_, h⟩, hj => by obtain ⟨m, hm, rfl⟩ := Option.map_eq_some_iff.mp (show (ioAt as i).map (· + 1) = some j from hj); exact (show (vs.map some)[m]?.join = σ[i]?.join from args_val h hm)
  | .bw _ :: as, s :: ss, v :: vs, i, j, ⟨_, h⟩, hj => by obtain ⟨m, hm, rfl⟩ := Option.map_eq_some_iff.mp (show (ioAt as i).map (· + 1) = some j from hj); exact (show (vs.map some)[m]?.join = σ[i]?.join from args_val h hm)
theorem args_len : ∀ {as : List E.Arg} {ss : List Slot} {vs : List V}, ArgsR T Oc σ H1 As1 as ss vs → vs.length = as.length ∧ noFs as = true
  | [], [], [], _ => ⟨rfl, rfl⟩
  | .v _ :: as, s :: ss, v :: vs, ⟨_, h⟩ => ⟨congrArg Nat.succ (args_len (as := as) h).1, (args_len (as := as) h).2⟩
  | .io _ :: as, s :: ss, v :: vs, ⟨_, h⟩ => ⟨congrArg Nat.succ (args_len (as := as) h).1, (args_len (as := as) h).2⟩
  | .x _ :: as, s :: ss, v :: vs, ⟨_, h⟩ => ⟨congrArg Nat.succ (args_len (as := as) h).1, (args_len (as := as) h).2⟩
  | .bw _ :: as, s :: ss, v :: vs, ⟨_, h⟩ => ⟨congrArg Nat.succ (args_len (as := as) h).1, (args_len (as := as) h).2⟩

theorem call_env {as : List E.Arg} {ss : List Slot} {vs : List V} {d : Def} {outs : List Slot} {Ac : Nat → List Addr} {A : List Addr} (en : EnvR T false Oc H1 σ r1 As1) (h : ArgsR T Oc σ H1 As1 as ss vs) (nd : (ioSl as).Nodup) (hnb : bwSl as = [] ∨ ioSl as = []) (hio : ioPos 0 as = d.io) (hnp : as.length = d.np)
    (hput : E.putOuts as outs r1 = some r2) (pe : EnvR T false (fun a => OcC Oc As1 as a ∨ a ∈ A) H' (vs.map some) (outE d.io d.np outs) Ac) (kp : Kp (fun a => ∃ j, a ∈ acA As1 as j) H1 H') (gr : ∀ j a, a ∈ Ac j → a ∈ acA As1 as j ∨ H1 a = none) (frA : ∀ a ∈ A, H1 a = none ∧ H' a ≠ none) :
    EnvR T false (fun a => Oc a ∨ a ∈ A) H' σ r2 (afA as As1 Ac) := by
  have ioLt : ∀ i ∈ ioSl as, i < r1.length := fun i hi => by
    obtain ⟨j, hj⟩ := mem_ioAt hi
    have e := args_val h hj
    have lj := ioAt_lt hj
    rw [← (args_len h).1] at lj
    have : ∃ v, (vs.map some)[j]?.join = some v := by
      rw [List.getElem?_map, List.getElem?_eq_getElem lj]
      exact ⟨_, rfl⟩
    obtain ⟨v, hv⟩ := this
    rw [e] at hv
    have := join_some hv
    rw [en.len]
    exact (List.getElem?_eq_some_iff.mp this).1
  obtain ⟨e1, e2, e3⟩ := putOuts_spec 0 (args_len h).2 nd ioLt hput
  have ocIn : ∀ a, Oc a → OcC Oc As1 as a := fun a z => ⟨.inr z, fun i _ w => en.oc i a w z⟩
  have nio : ∀ i, ioAt as i = none → i ∉ ioSl as := fun i hi z => by
    obtain ⟨j, hj⟩ := mem_ioAt z
    rw [hi] at hj; cases hj
  have slIn : ∀ i a, ioAt as i = none → (∃ k, k ∈ ioSl as) → a ∈ As1 i → OcC Oc As1 as a := fun i a hi ⟨k0, hk0⟩ ha => by
    refine ⟨.inl ⟨i, ha⟩, fun k hk w => ?_⟩
    have e := en.dj i k a ha w
    subst e
    rcases hk with hk | hk
    · exact nio i hi hk
    · rcases hnb with z | z
      · rw [z] at hk; cases hk
      · rw [z] at hk0; cases hk0
  have poC : ∀ a, (∃ k, k ∈ ioSl as) → PO (fun a => Oc a ∨ a ∈ A) (afA as As1 Ac) a → PO (fun a => OcC Oc As1 as a ∨ a ∈ A) Ac a := fun a hk z => by
    rcases z with ⟨i, z⟩ | z | z
    · unfold afA at z
      cases q : ioAt as i with
      | none => rw [q] at z; exact .inr (.inl (slIn i a q hk z))
      | some j => rw [q] at z; exact .inl ⟨j, z⟩
    · exact .inr (.inl (ocIn a z))
    · exact .inr (.inr z)
  have po1 : ∀ a, H1 a ≠ none → PO (fun a => Oc a ∨ a ∈ A) (afA as As1 Ac) a → PO Oc As1 a := fun a ha z => by
    rcases z with ⟨i, z⟩ | z | z
    · unfold afA at z
      cases q : ioAt as i with
      | none => rw [q] at z; exact .inl ⟨i, z⟩
      | some j =>
        rw [q] at z
        rcases gr j a z with w | w
        · obtain ⟨k, _, w⟩ := acA_some nd w
          exact .inl ⟨k, w⟩
        · exact absurd w ha
    · exact .inr z
    · exact absurd (frA a z).1 ha
  have kpO : Kp (PO Oc As1) H1 H' := kp.mono fun a ⟨j, z⟩ => by
    obtain ⟨k, _, w⟩ := acA_some nd z
    exact .inl ⟨k, w⟩
  have cas : ∀ i a, a ∈ afA as As1 Ac i → (∃ j, ioAt as i = some j ∧ a ∈ Ac j) ∨ (ioAt as i = none ∧ a ∈ As1 i) := fun i a z => by
    unfold afA at z
    cases q : ioAt as i with
    | none => rw [q] at z; exact .inr ⟨rfl, z⟩
    | some j => rw [q] at z; exact .inl ⟨j, rfl, z⟩
  refine ⟨by rw [e1]; exact en.len, fun i => ?_, fun i => ?_, fun i j a h1 h2 => ?_, fun i a h1 z => ?_, fun a z => ?_⟩
  · cases q : ioAt as i with
    | none =>
      have ea : afA as As1 Ac i = As1 i := by unfold afA; rw [q]
      rw [ea, e2 i (nio i q)]
      refine (en.sl i).keep kpO (fun z => absurd z (by decide)) po1 fun a ha => ?_
      cases w : H1 a with
      | none => exact absurd w ((en.sl i).dom a ha)
      | some o =>
        refine kp.old a o w fun ⟨j, z⟩ => ?_
        obtain ⟨k, hk, z⟩ := acA_some nd z
        have e := en.dj i k a ha z
        subst e
        rw [q] at hk; cases hk
    | some j =>
      have ea : afA as As1 Ac i = Ac j := by unfold afA; rw [q]
      rw [ea, e3 i j q, ← args_val h q]
      have sl := pe.sl j
      rw [outE_get (by rw [← hnp]; exact ioAt_lt q), ← hio] at sl
      rw [Nat.zero_add]
      exact sl.keep Kp.refl (fun _ => Ext.refl) (fun a _ z => poC a ⟨i, ioAt_mem q⟩ z) fun _ _ => rfl
  · unfold afA
    cases q : ioAt as i with
    | none => exact en.nd i
    | some j => exact pe.nd j
  · rcases cas i a h1 with ⟨k, q, z⟩ | ⟨q, z⟩
    · rcases cas j a h2 with ⟨k', q', z'⟩ | ⟨q', z'⟩
      · have e := pe.dj k k' a z z'
        subst e
        have f1 := acA_io (As := fun i => [i]) q
        have f2 := acA_io (As := fun i => [i]) q'
        rw [f1] at f2
        simpa using f2
      · exact absurd (.inl (slIn j a q' ⟨i, ioAt_mem q⟩ z')) (pe.oc k a z)
    · rcases cas j a h2 with ⟨k', q', z'⟩ | ⟨q', z'⟩
      · exact absurd (.inl (slIn i a q ⟨j, ioAt_mem q'⟩ z)) (pe.oc k' a z')
      · exact en.dj i j a z z'
  · rcases cas i a h1 with ⟨k, q, w⟩ | ⟨q, w⟩
    · rcases z with z | z
      · exact pe.oc k a w (.inl (ocIn a z))
      · exact pe.oc k a w (.inr z)
    · rcases z with z | z
      · exact en.oc i a w z
      · exact (en.sl i).dom a w (frA a z).1
  · rcases z with z | z
    · exact kp.dom a (en.od a z)
    · exact (frA a z).2
/-- a call as a step of the caller -/
theorem call_step {as : List E.Arg} {ss : List Slot} {vs : List V} {d : Def} {outs : List Slot} {Ac : Nat → List Addr} (en : EnvR T false Oc H1 σ r1 As1) (h : ArgsR T Oc σ H1 As1 as ss vs) (nd : (ioSl as).Nodup) (hnb : bwSl as = [] ∨ ioSl as = []) (hio : ioPos 0 as = d.io) (hnp : as.length = d.np)
    (hput : E.putOuts as outs r1 = some r2) (P : Post T (OcC Oc As1 as) d vs H1 (acA As1 as) H' outs Ac) : Step T false Oc σ (ioSl as) H1 r1 As1 H' r2 (afA as As1 Ac) := by
  have pe : EnvR T false (fun a => OcC Oc As1 as a ∨ a ∈ ([] : List Addr)) H' (vs.map some) (outE d.io d.np outs) Ac := P.env.lessOc fun a z => z.elim id fun z => nomatch z
  have ev := call_env en h nd hnb hio hnp hput pe P.kp P.gr fun _ z => nomatch z
  have nio : ∀ i, i ∉ ioSl as → ioAt as i = none := fun i hi => by
    cases q : ioAt as i with
    | none => rfl
    | some j => exact absurd (ioAt_mem q) hi
  have ioLt : ∀ i ∈ ioSl as, i < r1.length := fun i hi => by
    obtain ⟨j, hj⟩ := mem_ioAt hi
    have e := args_val h hj
    have lj := ioAt_lt hj
    rw [← (args_len h).1] at lj
    have : ∃ v, (vs.map some)[j]?.join = some v := by
      rw [List.getElem?_map, List.getElem?_eq_getElem lj]
      exact ⟨_, rfl⟩
    obtain ⟨v, hv⟩ := this
    rw [e] at hv
    rw [en.len]
    exact (List.getElem?_eq_some_iff.mp (join_some hv)).1
  obtain ⟨e1, e2, e3⟩ := putOuts_spec 0 (args_len h).2 nd ioLt hput
  refine ⟨ev.lessOc fun a z => .inl z, P.kp.mono fun a ⟨j, z⟩ => ?_, fun i a z => ?_, fun i hi => ⟨e2 i hi, ?_⟩⟩
  · obtain ⟨k, hk, w⟩ := acA_some nd z
    exact ⟨k, ioAt_mem hk, w⟩
  · unfold afA at z
    cases q : ioAt as i with
    | none => rw [q] at z; exact .inl z
    | some j =>
      rw [q] at z
      rcases P.gr j a z with w | w
      · rw [acA_io q] at w; exact .inl w
      · exact .inr w
  · unfold afA
    rw [nio i hi]
end
section
variable {T : Tab} {X : Cx} {n : Nat} {t : List Nat} {κ : Kd}
def rkK (k : Nat) : Kd := if k = 0 then .s else .f k
theorem d_callC {f : Nat} {d : Def} {as : List E.Arg} {p0 : Expr} {ps : List Expr} {x : PySem.Str} {q pos : Pos} (G : Gd T n X) (hp : T.pr f = true) (ht : tbl[f]? = some d) (hx : T.nm f = x) (ha : DAg T X (p0 :: ps) as t) (hio : ioPos 0 as = d.io) (hnp : as.length = d.np) (nd : (ioSl as).Nodup) (hnb : bwSl as = [] ∨ ioSl as = [])
    (hg : Gl X x) (hdb : (x == ("__debug__" : PySem.Str)) = false) (he : starEach (p0 :: ps) X.env = (false, eval p0 X.env) :: starEach ps X.env) (hpl : (backTo pos (starEach ps X.env)).any (·.1) = false) {e : E} {κ : Kd}
    (hb : ∀ i ∈ bwSl as, i ∉ ioSl as)
    (fin : ∀ W Oc σ H1 r1 As1 ss vs Q, EnvR T false Oc H1 σ r1 As1 → ArgsR T Oc σ H1 As1 as ss vs → Aft T false Oc σ W (ResR T false Oc σ κ) (ioSl as) H1 r1 As1 (match run n f (E.resolve as ss r1) with
      | .ok x outs => (match E.putOuts as outs r1 with
        | some r => .ok x r
        | none => .stuck)
      | .raise c outs => (match E.putOuts as outs r1 with
        | some r => .raise c r
        | none => .stuck)
      | .stuck => .stuck : Res D) Q → CAft T (OcC Oc As1 as) d vs H1 (acA As1 as) (run n f (E.resolve as ss r1)) Q (WE W σ))
    : DE T false X (.Call (.Name x q) (p0 :: ps) [] pos) (E.call (run n) f as) κ (t ++ ioSl as) := fun W tk => by
  obtain ⟨d', a, fd, pn, e1, F, hm, hk, hbn⟩ := (G.fns f hp).ex
  rw [ht] at e1
  cases e1
  rw [hx] at hm
  refine PE.imp (pe_callS (pos := pos) (p := q) (E := WE W) F (G.room.mono (by omega)) hg hm hk hbn (fun σ => passAt tk σ) (ha W tk) hdb he hpl) fun σ H Q ⟨Oc, r, As, en, h⟩ => ?_
  refine ⟨Oc, r, As, en, aft_mono (aft_bind (t2 := ioSl as) (R1 := RRg T Oc σ as) wid_res h) fun vs H1 ⟨r1, As1, ss, st1, rs1, a1⟩ => ?_⟩
  exact ⟨_, _, _, call_start st1.env rs1 nd hb, by rw [(args_len rs1).1, hnp], fin W Oc σ H1 r1 As1 ss vs Q st1.env rs1 a1⟩
/-- f(..), nothing lent but what comes back changed -/
theorem d_call {f : Nat} {d : Def} {as : List E.Arg} {p0 : Expr} {ps : List Expr} {x : PySem.Str} {q pos : Pos} (G : Gd T n X) (ha : DAg T X (p0 :: ps) as t) (hp : T.pr f = true := by rfl) (ht : tbl[f]? = some d := by rfl) (hx : T.nm f = x := by rfl) (hio : ioPos 0 as = d.io := by rfl) (hnp : as.length = d.np := by rfl) (nd : (ioSl as).Nodup := by first | decide | exact nd_of rfl) (hnb : bwSl as = [] := by rfl)
    (hκ : κ = rkK d.rk := by rfl) (h99 : d.rk ≠ 99 := by decide) (hg : Gl X x := by rfl) (hdb : (x == ("__debug__" : PySem.Str)) = false := by decide +kernel) (he : starEach (p0 :: ps) X.env = (false, eval p0 X.env) :: starEach ps X.env := by rfl) (hpl : (backTo pos (starEach ps X.env)).any (·.1) = false := by rfl) :
    DE T false X (.Call (.Name x q) (p0 :: ps) [] pos) (E.call (run n) f as) κ (t ++ ioSl as) := by
  refine d_callC G hp ht hx ha hio hnp nd (.inl hnb) hg hdb he hpl (by rw [hnb]; intro i hi; cases hi) (e := E.call (run n) f as) fun W Oc σ H1 r1 As1 ss vs Q en rs a1 => ?_
  unfold CAft
  cases q : run n f (E.resolve as ss r1) with
  | ok x outs =>
    rw [q] at a1
    simp only at a1
    cases hput : E.putOuts as outs r1 with
    | none => rw [hput] at a1; exact a1.elim
    | some r2 =>
      rw [hput] at a1
      intro v H' Ac P R
      have st := call_step en rs nd (.inl hnb) hio hnp hput P
      refine a1 v H' _ st ?_
      have poC : ∀ a, PO Oc (afA as As1 Ac) a → PO (OcC Oc As1 as) Ac a := fun a z => by
        rcases z with ⟨i, z⟩ | z
        · unfold afA at z
          cases q : ioAt as i with
          | none =>
            rw [q] at z
            refine .inr ⟨.inl ⟨i, z⟩, fun k hk w => ?_⟩
            have e := en.dj i k a z w
            subst e
            rcases hk with hk | hk
            · obtain ⟨j, hj⟩ := mem_ioAt hk
              rw [q] at hj; cases hj
            · rw [hnb] at hk; cases hk
          | some j => rw [q] at z; exact .inl ⟨j, z⟩
        · exact .inr ⟨.inr z, fun i _ w => en.oc i a w z⟩
      cases hr : d.rk with
      | zero =>
        rw [hr] at hκ R
        have hκ : κ = .s := hκ
        subst hκ
        exact Rep.keep Kp.refl (fun a _ z => poC a z) R
      | succ k =>
        have R : ∃ A, OwnR T.K (PO (fun a => OcC Oc As1 as a ∨ a ∈ A) Ac) H' (k + 1) v x A ∧ A.Nodup ∧ (∀ a ∈ A, H1 a = none ∧ ¬ PO (OcC Oc As1 as) Ac a) ∧ EnvR T false (fun a => OcC Oc As1 as a ∨ a ∈ A) H' (vs.map some) (outE d.io d.np outs) Ac := by
          rw [hr] at R
          unfold RetP at R
          split at R
          · rename_i e; cases e
          · rename_i e; exact absurd (hr.trans e) h99
          · exact R
        have hκ : κ = .f (k + 1) := by rw [hκ, hr]; rfl
        subst hκ
        obtain ⟨A, o, nA, fr, ex⟩ := R
        have frA : ∀ a ∈ A, H1 a = none ∧ H' a ≠ none := fun a ha => ⟨(fr a ha).1, OwnR.dom (k + 1) o a ha⟩
        refine ⟨A, OwnR.keep Kp.refl (fun a _ z => ?_) (k + 1) (fun _ _ => rfl) o, nA, fun a ha => ⟨(fr a ha).1, fun z => (fr a ha).2 (poC a z)⟩, call_env en rs nd (.inl hnb) hio hnp hput ex P.kp P.gr frA⟩
        rcases z with z | z | z
        · rcases poC a (.inl z) with w | w
          · exact .inl w
          · exact .inr (.inl w)
        · rcases poC a (.inr z) with w | w
          · exact .inl w
          · exact .inr (.inl w)
        · exact .inr (.inr z)
  | raise c outs =>
    rw [q] at a1
    simp only at a1
    cases hput : E.putOuts as outs r1 with
    | none => rw [hput] at a1; exact a1.elim
    | some r2 =>
      rw [hput] at a1
      intro H' Ac P
      exact a1 H' _ (call_step en rs nd (.inl hnb) hio hnp hput P)
  | stuck => rw [q] at a1; exact a1.elim
end
end O
end
section
set_option Elab.async false
set_option linter.all false
set_option maxRecDepth 100000
/-! Sound14: statements: the step, the wish, the judgement; the plain ones. -/
namespace O
open PySem PySem.Spec PyProof.Rows L2
/-- a def's head: the parameters that come back changed, their number, how deep the result is owned -/
structure Sg where
  io : List Nat
  np : Nat
  rk : Nat
/-- what a statement may change -/
structure StepS (T : Tab) (io : List Nat) (Oc : AP1) (σ : St) (H : Hp) (As : Nat → List Addr) (σ' : St) (H' : Hp) (r' : Env) (As' : Nat → List Addr) : Prop where
  env : EnvR T false Oc H' σ' r' As'
  kp : Kp (fun a => ∃ i, a ∈ As i) H H'
  gr : ∀ i a, a ∈ As' i → a ∈ As i ∨ H a = none
  pin : ∀ i, i ∈ io → σ'[i]?.join = σ[i]?.join
def rio (io : List Nat) (As : Nat → List Addr) : Nat → List Addr := fun i => if i ∈ io then As i else []
def rioE (io : List Nat) (r : Env) : Env := (List.range r.length).map fun i => if i ∈ io then getS r i else .no
/-- what is known of what is handed back -/
def RetS (T : Tab) (g : Sg) (Oc : AP1) (H : Hp) (As : Nat → List Addr) (σ' : St) (H' : Hp) (r' : Env) (As' : Nat → List Addr) (v : V) (d : D) : Prop := match g.rk with
  | 0 => Rep T.K (PO Oc (rio g.io As')) H' v d
  | 99 => True
  | k => ∃ A, OwnR T.K (PO (fun a => Oc a ∨ a ∈ A) (rio g.io As')) H' k v d A ∧ A.Nodup ∧ (∀ a ∈ A, (∃ i, g.np ≤ i ∧ a ∈ As i) ∨ H a = none) ∧ (∀ a ∈ A, ¬ PO Oc (rio g.io As') a) ∧ EnvR T false (fun a => Oc a ∨ a ∈ A) H' σ' (rioE g.io r') (rio g.io As')
def AftS (T : Tab) (g : Sg) (Oc : AP1) (W : WX) (σ : St) (H : Hp) (As : Nat → List Addr) (res : Res Flow) (D : Ends) : Prop := match res with
  | .ok .nx r' => ∀ σ' H' As', StepS T g.io Oc σ H As σ' H' r' As' → D.nx σ' H'
  | .ok .bk r' => ∀ σ' H' As', StepS T g.io Oc σ H As σ' H' r' As' → D.bk σ' H'
  | .ok .ct r' => ∀ σ' H' As', StepS T g.io Oc σ H As σ' H' r' As' → D.ct σ' H'
  | .ok (.rt d) r' => ∀ v σ' H' As', StepS T g.io Oc σ H As σ' H' r' As' → RetS T g Oc H As σ' H' r' As' v d → D.rt v H'
  | .raise c r' => ∀ σ' H' As', StepS T g.io Oc σ H As σ' H' r' As' → W (.ref (T.xc c)) none σ' H'
  | .stuck => False
def TSv (T : Tab) (g : Sg) (W : WX) (s : S) : TS := fun D σ H => ∃ Oc r As, EnvR T false Oc H σ r As ∧ AftS T g Oc W σ H As (s r) D
def DS (T : Tab) (g : Sg) (X : Cx) (p : Stmt) (s : S) : Prop := ∀ W : WX, Takes X W → PS X p (TSv T g W s)
def DSs (T : Tab) (g : Sg) (X : Cx) (p : List Stmt) (s : S) : Prop := ∀ W : WX, Takes X W → PSs X p (TSv T g W s)
theorem PS.impI {X : Cx} {p : Stmt} {t t' : TS} (h : PS X p t) (hi : ∀ D σ H, σ.length = X.N.length → t' D σ H → t D σ H) : PS X p t' := ⟨fun pins s σ H Q I q => h.run pins s σ H Q I (hi Q σ H I.len q)⟩
theorem PSs.impI {X : Cx} {p : List Stmt} {t t' : TS} (h : PSs X p t) (hi : ∀ D σ H, σ.length = X.N.length → t' D σ H → t D σ H) : PSs X p t' := ⟨fun pins s σ H Q I q => h.run pins s σ H Q I (hi Q σ H I.len q)⟩
section
variable {T : Tab} {g : Sg} {Oc : AP1} {W : WX} {σ σ1 σ2 : St} {H H1 H2 : Hp} {r r1 r2 : Env} {As As1 As2 : Nat → List Addr} {io : List Nat}
theorem StepS.refl (e : EnvR T false Oc H σ r As) : StepS T io Oc σ H As σ H r As := ⟨e, Kp.refl, fun _ _ h => .inl h, fun _ _ => rfl⟩
theorem Step.toS {t : List Nat} (s : Step T false Oc σ t H r As H1 r1 As1) : StepS T io Oc σ H As σ H1 r1 As1 := ⟨s.env, s.kp.mono fun _ ⟨i, _, h⟩ => ⟨i, h⟩, s.gr, fun _ _ => rfl⟩
theorem StepS.trans (a : StepS T io Oc σ H As σ1 H1 r1 As1) (b : StepS T io Oc σ1 H1 As1 σ2 H2 r2 As2) : StepS T io Oc σ H As σ2 H2 r2 As2 where
  env := b.env
  kp := a.kp.trans b.kp (fun _ h => h) fun x hx ⟨i, h⟩ => by
    rcases a.gr i x h with z | z
    · exact ⟨i, z⟩
    · exact absurd z hx
  gr := fun i x h => by
    rcases b.gr i x h with z | z
    · exact a.gr i x z
    · cases q : H x with
      | none => exact .inr rfl
      | some o => exact absurd z (a.kp.dom x (by rw [q]; simp))
  pin := fun i hi => (b.pin i hi).trans (a.pin i hi)
theorem RetS.back (s : StepS T io Oc σ H As σ1 H1 r1 As1) {v : V} {d : D} (h : RetS T g Oc H1 As1 σ2 H2 r2 As2 v d) : RetS T g Oc H As σ2 H2 r2 As2 v d := by
  unfold RetS at h ⊢
  split
  · rename_i e; rw [e] at h; exact h
  · trivial
  · rename_i k h0 h9
    have h : ∃ A, OwnR T.K (PO (fun a => Oc a ∨ a ∈ A) (rio g.io As2)) H2 g.rk v d A ∧ A.Nodup ∧ (∀ a ∈ A, (∃ i, g.np ≤ i ∧ a ∈ As1 i) ∨ H1 a = none) ∧ (∀ a ∈ A, ¬ PO Oc (rio g.io As2) a) ∧ EnvR T false (fun a => Oc a ∨ a ∈ A) H2 σ2 (rioE g.io r2) (rio g.io As2) := by
      split at h
      · rename_i e; exact absurd e h0
      · rename_i e; exact absurd e h9
      · exact h
    obtain ⟨A, h1, h2, h3, h4, h5⟩ := h
    refine ⟨A, h1, h2, fun a ha => ?_, h4, h5⟩
    rcases h3 a ha with ⟨i, hi, z⟩ | z
    · rcases s.gr i a z with w | w
      · exact .inl ⟨i, hi, w⟩
      · exact .inr w
    · cases q : H a with
      | none => exact .inr rfl
      | some o => exact absurd z (s.kp.dom a (by rw [q]; simp))
/-- the rest of a block, seen from a later start -/
theorem AftS.from (s : StepS T g.io Oc σ H As σ1 H1 r1 As1) {res : Res Flow} {D : Ends} (h : AftS T g Oc W σ H As res D) : AftS T g Oc W σ1 H1 As1 res D := by
  cases res with
  | ok f r' =>
    cases f with
    | nx => exact fun σ' H' As' st => h σ' H' As' (s.trans st)
    | bk => exact fun σ' H' As' st => h σ' H' As' (s.trans st)
    | ct => exact fun σ' H' As' st => h σ' H' As' (s.trans st)
    | rt d => exact fun v σ' H' As' st rt => h v σ' H' As' (s.trans st) (rt.back s)
  | raise c r' => exact fun σ' H' As' st => h σ' H' As' (s.trans st)
  | stuck => exact h
/-- an expression ahead of the rest -/
theorem aftS_bind {α β : Type} {R1 : Hp → Hp → Env → (Nat → List Addr) → β → α → Prop} {t : List Nat} {x : Res α} {f : α → Env → Res Flow} {D : Ends} (h : AftS T g Oc W σ H As (x.bind f) D) :
    Aft T false Oc σ W R1 t H r As x fun v H1 => ∃ r1 As1 d, Step T false Oc σ t H r As H1 r1 As1 ∧ R1 H H1 r1 As1 v d ∧ AftS T g Oc W σ H1 As1 (f d r1) D := by
  cases x with
  | ok d r1 => exact fun v H1 As1 st rs => ⟨r1, As1, d, st, rs, AftS.from (Step.toS (io := g.io) st) (show AftS T g Oc W σ H As (f d r1) D from h)⟩
  | raise c r1 => exact fun H1 As1 st => (show ∀ σ' H' As', StepS T g.io Oc σ H As σ' H' r1 As' → W (.ref (T.xc c)) none σ' H' from h) σ H1 As1 (Step.toS st)
  | stuck => exact h
/-! ### blocks -/
variable {X : Cx} {p : Stmt} {ps : List Stmt} {a b : S} {n : Nat}
theorem t_seq {D : Ends} (h : TSv T g W (S.seq a b) D σ H) : tSeq (TSv T g W a) (TSv T g W b) D σ H := by
  obtain ⟨Oc, r, As, en, h⟩ := h
  refine ⟨Oc, r, As, en, ?_⟩
  unfold S.seq at h
  cases q : a r with
  | ok f r' =>
    rw [q] at h
    cases f with
    | nx => exact fun σ' H' As' st => ⟨Oc, r', As', st.env, AftS.from st h⟩
    | bk => exact h
    | ct => exact h
    | rt d => exact h
  | raise c r' => rw [q] at h; exact h
  | stuck => rw [q] at h; exact h
theorem ds_one (h : DS T g X p a) : DSs T g X [p] a := fun W tk => pss_one (h W tk)
theorem ds_seq (h : DS T g X p a) (hr : DSs T g X ps b) : DSs T g X (p :: ps) (S.seq a b) := fun W tk => PSs.impI (pss_cons (h W tk) (hr W tk)) fun D σ H _ q => t_seq q
theorem ds_nil : DSs T g X [] S.pass := fun W tk => PSs.impI pss_nil fun D σ H _ ⟨Oc, r, As, en, h⟩ => h σ H As (.refl en)
theorem ds_pass {pos : Pos} : DS T g X (.Pass pos) S.pass := fun W tk => PS.impI ps_pass fun D σ H _ ⟨Oc, r, As, en, h⟩ => h σ H As (.refl en)
theorem ds_brk {pos : Pos} : DS T g X (.Break pos) S.brk := fun W tk => PS.impI ps_break fun D σ H _ ⟨Oc, r, As, en, h⟩ => h σ H As (.refl en)
/-- an error that is not of the text: something is no longer owned -/
theorem frz_env {i : Nat} {k : Nat} {d : D} (en : EnvR T false Oc H σ r As) (hg : getS r i = .val k d) : EnvR T false Oc H σ (r.set i (.val 0 d)) (upA As i []) := by
  have sl := en.sl i
  rw [hg] at sl
  obtain ⟨v, ev, o⟩ := sl
  have hi : i < r.length := by
    rw [en.len]
    have : σ[i]?.join = some v := ev
    exact (List.getElem?_eq_some_iff.mp (join_some this)).1
  have hp : ∀ a, PO Oc (upA As i []) a → PO Oc As a := fun a z => by
    rcases z with ⟨j, z⟩ | z
    · by_cases e : j = i
      · subst e; rw [upA_same] at z; cases z
      · rw [upA_ne e] at z; exact .inl ⟨j, z⟩
    · exact .inr z
  have np : ∀ a ∈ As i, ¬ PO Oc (upA As i []) a := fun a ha z => by
    rcases z with ⟨j, z⟩ | z
    · by_cases e : j = i
      · subst e; rw [upA_same] at z; cases z
      · rw [upA_ne e] at z; exact e (en.dj j i a z ha)
    · exact en.oc i a ha z
  refine ⟨by simpa using en.len, fun j => ?_, fun j => ?_, fun j l a h1 h2 => ?_, fun j a h1 => ?_, en.od⟩
  · rw [getS_set _ _ _ _ hi]
    by_cases e : j = i
    · subst e
      rw [if_pos rfl, upA_same]
      exact ⟨v, ev, rfl, OwnR.rep (fun a _ z => hp a z) k np o⟩
    · rw [if_neg e, upA_ne e]
      exact (en.sl j).keep Kp.refl (fun _ => Ext.refl) (fun a _ z => hp a z) fun _ _ => rfl
  · by_cases e : j = i
    · subst e; rw [upA_same]; exact List.nodup_nil
    · rw [upA_ne e]; exact en.nd j
  · by_cases e1 : j = i
    · subst e1; rw [upA_same] at h1; cases h1
    · by_cases e2 : l = i
      · subst e2; rw [upA_same] at h2; cases h2
      · rw [upA_ne e1] at h1; rw [upA_ne e2] at h2; exact en.dj j l a h1 h2
  · by_cases e : j = i
    · subst e; rw [upA_same] at h1; cases h1
    · rw [upA_ne e] at h1; exact en.oc j a h1
theorem frz_step {i : Nat} {k : Nat} {d : D} (en : EnvR T false Oc H σ r As) (hg : getS r i = .val k d) : StepS T io Oc σ H As σ H (r.set i (.val 0 d)) (upA As i []) :=
  ⟨frz_env en hg, Kp.refl, fun j a h => by
    by_cases e : j = i
    · subst e; rw [upA_same] at h; cases h
    · rw [upA_ne e] at h; exact .inl h, fun _ _ => rfl⟩
/-- ahead of a statement, or of the end of a block -/
theorem t_frz {i : Nat} {D : Ends} (h : TSv T g W (S.seq (S.frz i) b) D σ H) : TSv T g W b D σ H := by
  obtain ⟨Oc, r, As, en, h⟩ := h
  unfold S.seq S.frz at h
  cases q : getS r i with
  | val k d =>
    simp only [q] at h
    exact ⟨Oc, _, _, frz_env en q, AftS.from (frz_step en q) h⟩
  | _ => simp only [q] at h; exact h.elim
theorem ds_frz {i : Nat} (h : DSs T g X ps b) : DSs T g X ps (S.seq (S.frz i) b) := fun W tk => PSs.impI (h W tk) fun D σ H _ q => t_frz q
end
end O
end
section
set_option Elab.async false
set_option linter.all false
set_option maxRecDepth 100000
/-! Sound15: names stored, results, tests, loops, errors. -/
namespace O
open PySem PySem.Spec PyProof.Rows L2
structure Gs (T : Tab) (n : Nat) (X : Cx) : Prop extends Gd T n X where
  pw : PassesOwn (model X.prog X.w) X.A X.env X.xe
  st : X.stack = X.env :: X.outer
  fr : X.env.frame = some X.env.locals
section
variable {T : Tab} {g : Sg} {Oc : AP1} {W : WX} {σ σ1 σ2 : St} {H H1 H2 : Hp} {r r1 r2 : Env} {As As1 As2 : Nat → List Addr} {io : List Nat}
variable {X : Cx} {n : Nat} {t : List Nat} {κ : Kd} {p e : Expr} {ee : E} {pos : Pos}
/-- an expression ahead of the rest, the start kept -/
theorem aftS_bindF {α β : Type} {R1 : Hp → Hp → Env → (Nat → List Addr) → β → α → Prop} {t : List Nat} {x : Res α} {f : α → Env → Res Flow} {D : Ends} (h : AftS T g Oc W σ H As (x.bind f) D) :
    Aft T false Oc σ W R1 t H r As x fun v H1 => ∃ r1 As1 d, Step T false Oc σ t H r As H1 r1 As1 ∧ R1 H H1 r1 As1 v d ∧ AftS T g Oc W σ H As (f d r1) D := by
  cases x with
  | ok d r1 => exact fun v H1 As1 st rs => ⟨r1, As1, d, st, rs, (show AftS T g Oc W σ H As (f d r1) D from h)⟩
  | raise c r1 => exact fun H1 As1 st => (show ∀ σ' H' As', StepS T g.io Oc σ H As σ' H' r1 As' → W (.ref (T.xc c)) none σ' H' from h) σ H1 As1 (Step.toS st)
  | stuck => exact h
theorem pin_set {i : Nat} {v : Option V} (hi : i ∉ io) : ∀ j, j ∈ io → (σ.set i v)[j]?.join = σ[j]?.join := fun j hj => by
  rw [List.getElem?_set_ne (fun z => hi (by rw [z]; exact hj))]
theorem gr_upA {i : Nat} {A : List Addr} (hg : ∀ j a, a ∈ As1 j → a ∈ As j ∨ H a = none) (hA : ∀ a ∈ A, a ∈ As i ∨ H a = none) : ∀ j a, a ∈ upA As1 i A j → a ∈ As j ∨ H a = none := fun j a h => by
  by_cases e : j = i
  · subst e; rw [upA_same] at h; exact hA a h
  · rw [upA_ne e] at h; exact hg j a h
/-- a slot is stored: owned to the depth k, or shared -/
theorem put_step {i k : Nat} {v : V} {d : D} (st : Step T false Oc σ t H r As H1 r1 As1) (rs : ResR T false Oc σ κ H H1 r1 As1 v d) (hk : κ = .f k ∨ (κ.solid = true ∧ k = 0)) (hi : i < r1.length) (hio : i ∉ io) :
    ∃ As2, StepS T io Oc σ H As (σ.set i (some v)) H1 (r1.set i (.val k d)) As2 := by
  rcases hk with rfl | ⟨hs, rfl⟩
  · obtain ⟨A, o, nd, fr, ex⟩ := rs
    refine ⟨upA As1 i A, EnvR.put ex hi ⟨v, rfl, OwnR.keep Kp.refl (fun a _ z => po_upA a z) k (fun _ _ => rfl) o⟩ nd fun a ha z => (fr a ha).2 (.inr z), st.kp.mono fun _ ⟨j, _, h⟩ => ⟨j, h⟩, gr_upA st.gr fun a ha => .inr (fr a ha).1, pin_set hio⟩
  · exact ⟨upA As1 i [], ⟨st.env.put0 hi (rs.rep hs), st.kp.mono fun _ ⟨j, _, h⟩ => ⟨j, h⟩, gr_upA st.gr (fun a ha => by cases ha), pin_set hio⟩⟩
theorem t_asg {i k : Nat} {D : Ends} (hk : κ = .f k ∨ (κ.solid = true ∧ k = 0)) (hi : i < σ.length) (hio : i ∉ g.io) (h : TSv T g W (S.asg i k ee) D σ H) : TEv T false W ee κ t σ H fun x H1 => D.nx (σ.set i (some x)) H1 := by
  obtain ⟨Oc, r, As, en, h⟩ := h
  refine ⟨Oc, r, As, en, aft_mono (aftS_bindF h) fun x H1 ⟨r1, As1, d, st, rs, a⟩ => ?_⟩
  obtain ⟨As2, s2⟩ := put_step st rs hk (by rw [st.env.len]; exact hi) hio
  exact a _ _ _ s2
/-- x = e -/
theorem ds_asg {i k : Nat} {x : PySem.Str} {pos' : Pos} (G : Gs T n X) (he : DE T false X e ee κ t) (hk : κ = .f k ∨ (κ.solid = true ∧ k = 0) := by first | exact .inl rfl | exact .inr ⟨rfl, rfl⟩) (hio : i ∉ g.io := by first | decide | exact nm_of rfl) (hi : X.N[i]? = some x := by rfl) (hx : Loc X.env.scope x := by first | exact Or.inl rfl | exact Or.inr rfl)
    (hs : swapsWith e (some (.Name x pos')) pos.line X.env = pure false := by rfl) (hf : X.fn x = true ∨ X.env.scope.names.lookup x = some .local := by first | exact .inl rfl | exact .inr rfl) : DS T g X (.Assign [.Name x pos'] e pos) (S.asg i k ee) := fun W tk =>
  PS.impI (ps_set G.nd hi hx (he W tk) hs hf) fun D σ H hl h => t_asg hk (by rw [hl]; exact lt_of_get hi) hio h
/-- x = [.. for ..] -/
theorem ds_asgLc {i k : Nat} {x : PySem.Str} {pos' spos : Pos} {eltp tgp ip : Expr} {ifs : List Expr} {scope : Scope} {tg : E.Tg} {it : E.It} {cond elt : E} {κe : Kd} {t1 tc te : List Nat} (own : List (PySem.Str × Nat)) (ke : Nat) (G : Gs T n X) (hi : DI T false X tgp ip it t1)
    (hg : ∀ (s : Shared) (H : Hp) (C : Addr) (cl : List (PySem.Str × Addr)) (fp : List Addr), DG T false (X.blk s H scope (compEnvC scope cl C X.env) fp) tgp tg)
    (hc : ∀ (s : Shared) (H : Hp) (C : Addr) (cl : List (PySem.Str × Addr)) (fp : List Addr), DTs T (X.blk s H scope (compEnvC scope cl C X.env) fp) ifs cond tc)
    (he : ∀ (s : Shared) (H : Hp) (C : Addr) (cl : List (PySem.Str × Addr)) (fp : List Addr), DE T false (X.blk s H scope (compEnvC scope cl C X.env) fp) eltp elt κe te)
    (hke : κe = .f ke ∨ (κe = .s ∧ ke = 0) := by first | exact .inl rfl | exact .inr ⟨rfl, rfl⟩) (hk : k = 0 ∨ k = ke + 1 := by first | exact .inl rfl | exact .inr rfl) (hio : i ∉ g.io := by first | decide | exact nm_of rfl)
    (hx : X.N[i]? = some x := by rfl) (hxl : X.env.scope.names.lookup x = some .local := by rfl)
    (ok : blkC X.N X.env.scope scope own = true := by rfl) (ho : own.map (·.2) = tg.own := by rfl) (hsw : swapsWith (.ListComp eltp [⟨tgp, ip, ifs, 0⟩] scope pos) (some (.Name x pos')) spos.line X.env = pure true := by rfl) (hs : ∀ x, foldedSetIterable ip X.env x = pure x := by intro _; rfl) :
    DS T g X (.Assign [.Name x pos'] (.ListComp eltp [⟨tgp, ip, ifs, 0⟩] scope pos) spos) (S.asg i k (E.comp tg it cond elt)) := fun W tk => by
  have bk := blkOk_by ok
  refine PS.impI (ps_setLc (own := own) G.calm G.nd hx hxl hsw (hi W tk) bk hg hc (fun s H C cl fp => he s H C cl fp W0 takes0) hs) fun D σ H hl h => ?_
  rw [ho]
  have hb : ∀ j ∈ tg.own, j < σ.length := fun j hj => by
    rw [← ho] at hj
    obtain ⟨p, hp, rfl⟩ := List.mem_map.mp hj
    rw [hl]
    exact lt_of_get (bk.ix p hp)
  have hi : i < σ.length := by rw [hl]; exact lt_of_get hx
  rcases hk with rfl | rfl
  · exact t_comp (κ := .s) hke (.inl rfl) hb (t_asg (.inr ⟨rfl, rfl⟩) hi hio h)
  · exact t_comp (κ := .f (ke + 1)) hke (.inr rfl) hb (t_asg (.inl rfl) hi hio h)
/-- a, b = e -/
theorem ds_unpack {is : List Nat} {tg : Expr} (he : DE T false X e ee κ t) (hg : DG T false X tg (.many is)) (hk : κ.solid = true := by rfl) (hio : ∀ i ∈ g.io, i ∉ is := by first | decide | exact nm_of rfl)
    (hs : swapsWithSole [tg] e pos.line X.env = pure false := by rfl) (hw : swappedStores [tg] e X.env = pure none := by rfl) (h1 : (assignEach [tg] X.env).map (·.2) = [assign tg X.env] := by rfl) : DS T g X (.Assign [tg] e pos) (S.unpack is ee) := fun W tk =>
  PS.impI (ps_asg (he W tk) hg hs hw h1) fun D σ H hl ⟨Oc, r, As, en, h⟩ => by
    refine ⟨Oc, r, As, en, aft_mono (aftS_bind h) fun x H1 ⟨r1, As1, d, st, rs, a⟩ => ?_⟩
    refine ⟨Oc, r1, As1, d, st.env, rs.rep hk, ?_⟩
    cases q : (E.Tg.many is).put d r1 with
    | none => simp only [q] at a; exact a.elim
    | some r2 =>
      simp only [q] at a
      refine fun σ' As' en' h1 h2 h3 => a _ _ _ ⟨en', Kp.refl, fun i a ha => ?_, fun i hi => ?_⟩
      · by_cases m : i ∈ (E.Tg.many is).own
        · rw [h2 i m] at ha; cases ha
        · rw [(h1 i m).2] at ha; exact .inl ha
      · rw [(h1 i (hio i hi)).1]
theorem ds_expr (he : DE T false X e ee κ t) (hs : swapsWith e none pos.line X.env = pure false := by rfl) : DS T g X (.Expr e pos) (S.expr ee) := fun W tk =>
  PS.impI (ps_expr (he W tk) hs) fun D σ H hl ⟨Oc, r, As, en, h⟩ => by
    refine ⟨Oc, r, As, en, aft_mono (aftS_bind h) fun x H1 ⟨r1, As1, d, st, rs, a⟩ => ?_⟩
    exact a _ _ _ (.refl st.env)
theorem po_rio (io : List Nat) : ∀ a, PO Oc (rio io As) a → PO Oc As a := fun a z => by
  rcases z with ⟨i, z⟩ | z
  · unfold rio at z
    by_cases m : i ∈ io
    · rw [if_pos m] at z; exact .inl ⟨i, z⟩
    · rw [if_neg m] at z; cases z
  · exact .inr z
theorem getS_rioE (io : List Nat) (r : Env) (i : Nat) : getS (rioE io r) i = if i ∈ io then getS r i else .no := by
  unfold rioE getS
  rw [List.getD_eq_getElem?_getD, List.getElem?_map]
  by_cases h : i < r.length
  · rw [List.getElem?_range h]; rfl
  · have e : (List.range r.length)[i]? = none := List.getElem?_eq_none (by simpa using h)
    have : r[i]? = none := List.getElem?_eq_none (by omega)
    rw [e]
    simp [List.getD_eq_getElem?_getD, this]
/-- only what comes back -/
theorem EnvR.rio (en : EnvR T false Oc H σ r As) (io : List Nat) {Oc' : AP1} (hO : ∀ a, PO Oc' (O.rio io As) a → PO Oc As a) (oc : ∀ i a, i ∈ io → a ∈ As i → ¬ Oc' a) (od : ∀ a, Oc' a → H a ≠ none) : EnvR T false Oc' H σ (rioE io r) (O.rio io As) where
  len := by rw [← en.len]; unfold rioE; simp
  sl := fun i => by
    rw [getS_rioE]
    unfold O.rio
    by_cases m : i ∈ io
    · rw [if_pos m, if_pos m]
      exact (en.sl i).keep Kp.refl (fun _ => Ext.refl) (fun a _ z => hO a z) fun _ _ => rfl
    · rw [if_neg m, if_neg m]; rfl
  nd := fun i => by
    unfold O.rio
    by_cases m : i ∈ io
    · rw [if_pos m]; exact en.nd i
    · rw [if_neg m]; exact List.nodup_nil
  dj := fun i j a h1 h2 => by
    unfold O.rio at h1 h2
    by_cases m : i ∈ io
    · by_cases m2 : j ∈ io
      · rw [if_pos m] at h1; rw [if_pos m2] at h2; exact en.dj i j a h1 h2
      · rw [if_neg m2] at h2; cases h2
    · rw [if_neg m] at h1; cases h1
  oc := fun i a h1 => by
    unfold O.rio at h1
    by_cases m : i ∈ io
    · rw [if_pos m] at h1; exact oc i a m h1
    · rw [if_neg m] at h1; cases h1
  od := od
/-- return e, what is handed back being shared -/
theorem ds_ret (he : DE T false X e ee κ t) (hk : κ.solid = true := by rfl) (hr : g.rk = 0 := by rfl) : DS T g X (.Return (some e) pos) (S.ret ee) := fun W tk =>
  PS.impI (ps_ret (he W tk)) fun D σ H hl ⟨Oc, r, As, en, h⟩ => by
    refine ⟨Oc, r, As, en, aft_mono (aftS_bindF h) fun x H1 ⟨r1, As1, d, st, rs, a⟩ => ?_⟩
    refine a x σ H1 As1 (Step.toS st) ?_
    unfold RetS
    rw [hr]
    exact (rs.rep hk).keep Kp.refl fun a _ z => po_rio _ a z
/-- .. new -/
theorem ds_retF {k : Nat} (he : DE T false X e ee (.f k) t) (hr : g.rk = k := by rfl) (h0 : k ≠ 0 := by decide) (h9 : k ≠ 99 := by decide) : DS T g X (.Return (some e) pos) (S.ret ee) := fun W tk =>
  PS.impI (ps_ret (he W tk)) fun D σ H hl ⟨Oc, r, As, en, h⟩ => by
    refine ⟨Oc, r, As, en, aft_mono (aftS_bindF h) fun x H1 ⟨r1, As1, d, st, rs, a⟩ => ?_⟩
    refine a x σ H1 As1 (Step.toS st) ?_
    unfold RetS
    split
    · rename_i z; exact absurd (hr.symm.trans z) h0
    · rename_i z; exact absurd (hr.symm.trans z) h9
    · obtain ⟨A, o, nd, fr, ex⟩ := rs
      rw [hr]
      refine ⟨A, OwnR.keep Kp.refl (fun a _ z => po_rio _ a z) k (fun _ _ => rfl) o, nd, fun a ha => .inr (fr a ha).1, fun a ha z => (fr a ha).2 (po_rio _ a z), EnvR.rio ex g.io (fun a z => po_rio _ a z) (fun i a _ ha => ex.oc i a ha) ex.od⟩
/-- return x, x owned -/
theorem ds_retO {i k : Nat} {x : PySem.Str} {pos' : Pos} (hN : X.N[i]? = some x := by rfl) (hv : Vis X.env.scope x := by first | exact Or.inl rfl | exact Or.inr (Or.inl rfl) | exact Or.inr (Or.inr rfl)) (hr : g.rk = k := by rfl) (h0 : k ≠ 0 := by decide) (h9 : k ≠ 99 := by decide) (hnp : g.np ≤ i := by decide) (hio : i ∉ g.io := by first | decide | exact nm_of rfl)
    (hd : (x == ("__debug__" : PySem.Str)) = false := by decide +kernel) (hcd : (x == ("__classdict__" : PySem.Str)) = false := by decide +kernel) : DS T g X (.Return (some (.Name x pos')) pos) (S.retO i k) := fun W tk =>
  PS.impI (ps_ret (pe_var hN hv hd hcd)) fun D σ H hl ⟨Oc, r, As, en, h⟩ => by
    unfold S.retO at h
    cases q : getS r i with
    | val j d =>
      simp only [q] at h
      by_cases hj : j = k
      · rw [if_pos hj] at h
        subst hj
        have sl := en.sl i
        rw [q] at sl
        obtain ⟨v, ev, o⟩ := sl
        refine ⟨v, join_some ev, h v σ H As (.refl en) ?_⟩
        have hA : ∀ a, PO (fun a => Oc a ∨ a ∈ As i) (rio g.io As) a → PO Oc As a := fun a z => by
          rcases z with z | z | z
          · exact po_rio _ a (.inl z)
          · exact .inr z
          · exact .inl ⟨i, z⟩
        have hno : ∀ j a, j ∈ g.io → a ∈ As j → a ∈ As i → False := fun j a hj h1 h2 => by
          have e := en.dj j i a h1 h2
          subst e
          exact hio hj
        unfold RetS
        split
        · rename_i z; exact absurd (hr.symm.trans z) h0
        · rename_i z; exact absurd (hr.symm.trans z) h9
        · rw [hr]
          refine ⟨As i, OwnR.keep Kp.refl (fun a _ z => hA a z) j (fun _ _ => rfl) o, en.nd i, fun a ha => .inl ⟨i, hnp, ha⟩, fun a ha z => ?_, EnvR.rio en g.io hA (fun j a hj h1 z => ?_) fun a z => ?_⟩
          · rcases z with ⟨j, z⟩ | z
            · unfold rio at z
              by_cases m : j ∈ g.io
              · rw [if_pos m] at z; exact hno j a m z ha
              · rw [if_neg m] at z; cases z
            · exact en.oc i a ha z
          · rcases z with z | z
            · exact en.oc j a h1 z
            · exact hno j a hj h1 z
          · rcases z with z | z
            · exact en.od a z
            · exact OwnR.dom j o a z
      · rw [if_neg hj] at h; exact h.elim
    | _ => simp only [q] at h; exact h.elim
/-- raise C("..") -/
theorem ds_raise {x m : PySem.Str} {j : Nat} {q q2 qp : Pos} (c : Nat) (G : Gs T n X) (hp : T.xp c = true := by rfl) (hx : T.xn c = x := by rfl) (hg : Gl X x := by rfl) (hdb : (x == ("__debug__" : PySem.Str)) = false := by decide +kernel) : DS T g X (.Raise (some (.Call (.Name x q) [.Constant (.str m) j q2] [] qp)) none pos) (S.raise c) := fun W tk => by
  have F := G.xcs c hp
  refine PS.impI (ps_raise G.calm tk (pmk_own PySem.F.excBase_ValueError F.ex (by rw [← hx]; exact F.gl) F.kp (raises_own F.sb F.ty) hg hdb)) fun D σ H hl ⟨Oc, r, As, en, h⟩ => ?_
  exact h σ H As (.refl en)
/-! ### tests -/
variable {c : Expr} {ec : E} {pa pb : List Stmt} {a b : S}
theorem ds_if (hc : DT T false X c ec t) (ha : DSs T g X pa a) (hb : DSs T g X pb b) : DS T g X (.If c pa pb pos) (S.ite ec a b) := fun W tk =>
  PS.impI (ps_if (hc W tk) (ha W tk) (hb W tk)) fun D σ H hl ⟨Oc, r, As, en, h⟩ => by
    refine ⟨Oc, r, As, en, ?_⟩
    unfold S.ite at h
    cases q : ec r with
    | ok d r1 =>
      rw [q] at h
      cases d with
      | bl v =>
        intro H1 As1 st
        cases v with
        | true => exact ⟨Oc, r1, As1, st.env, AftS.from (Step.toS st) h⟩
        | false => exact ⟨Oc, r1, As1, st.env, AftS.from (Step.toS st) h⟩
      | _ => exact h.elim
    | raise c r1 => rw [q] at h; exact fun H1 As1 st => h σ H1 As1 (Step.toS st)
    | stuck => rw [q] at h; exact h
/-! ### loops -/
theorem ds_while {fuel : Nat} (G : Gs T n X) (hc : DT T false X c ec t) (ha : DSs T g X pa a) : DS T g X (.While c pa [] pos) (S.whl ec a fuel) := fun W tk =>
  PS.impI (ps_while G.pw (hc W tk) (ha W tk)) fun D σ H hl h => by
    refine ⟨fun m σ H => TSv T g W (S.whl ec a m) D σ H, ⟨fuel, h⟩, fun m σ H h => ?_⟩
    obtain ⟨Oc, r, As, en, h⟩ := h
    cases m with
    | zero => exact h.elim
    | succ m =>
      refine ⟨Oc, r, As, en, ?_⟩
      unfold S.whl at h
      cases q : ec r with
      | ok d r1 =>
        rw [q] at h
        cases d with
        | bl v =>
          intro H1 As1 st
          cases v with
          | false => exact h σ H1 As1 (Step.toS st)
          | true =>
            refine ⟨fun σ' H' => TSv T g W (S.whl ec a m) D σ' H', fun σ' H' z => ⟨m, Nat.lt_succ_self m, z⟩, Oc, r1, As1, st.env, ?_⟩
            have h : AftS T g Oc W σ H As (match a r1 with
              | .ok .nx r => S.whl ec a m r
              | .ok .ct r => S.whl ec a m r
              | .ok .bk r => .ok .nx r
              | x => x) D := h
            have h := AftS.from (Step.toS st) h
            cases q2 : a r1 with
            | ok f r2 =>
              rw [q2] at h
              cases f with
              | nx => exact fun σ' H' As' s2 => ⟨Oc, r2, As', s2.env, AftS.from s2 h⟩
              | ct => exact fun σ' H' As' s2 => ⟨Oc, r2, As', s2.env, AftS.from s2 h⟩
              | bk => exact h
              | rt d => exact h
            | raise c r2 => rw [q2] at h; exact h
            | stuck => rw [q2] at h; exact h
        | _ => exact h.elim
      | raise c r1 => rw [q] at h; exact fun H1 As1 st => h σ H1 As1 (Step.toS st)
      | stuck => rw [q] at h; exact h
theorem ds_for {tgp ip : Expr} {tg : E.Tg} {it : E.It} (G : Gs T n X) (hi : DI T false X tgp ip it t) (hg : DG T false X tgp tg) (hb : DSs T g X pa a) (hio : ∀ i ∈ g.io, i ∉ tg.own := by first | decide | exact nm_of rfl) (hs : ∀ x, foldedSetIterable ip X.env x = pure x := by intro _; rfl) : DS T g X (.For tgp ip pa [] pos) (S.for_ tg it a) := fun W tk =>
  PS.impI (ps_for G.pw G.calm (hi W tk) hg (hb W tk) hs) fun D σ H hl ⟨Oc, r, As, en, h⟩ => by
    refine ⟨Oc, r, As, en, aft_mono (aftS_bind h) fun J H1 ⟨r1, As1, xs, st1, ⟨⟨Y, wk, hy⟩, hlim⟩, a1⟩ => ?_⟩
    refine for_it wk (fun i σi Hi => ∃ ri Ai, StepS T g.io Oc σ H1 As1 σi Hi ri Ai ∧ AftS T g Oc W σi Hi Ai (S.forGo tg a (xs.drop i) ri) D) ⟨r1, As1, .refl st1.env, by rw [List.drop_zero]; exact a1⟩ (fun i σi Hi _ ⟨ri, Ai, s, _⟩ => s.kp.mono fun _ ⟨j, z⟩ => .inl ⟨j, z⟩) ?_ ?_
    · rintro i x σi Hi H' hi ⟨ri, Ai, s, h⟩ yy
      have kk : Kp (PO Oc As1) H1 Hi := s.kp.mono fun _ ⟨j, z⟩ => .inl ⟨j, z⟩
      obtain ⟨ext, hit⟩ := hy i Hi x H' yy hi kk
      obtain ⟨d, hd, rp⟩ := hit (PO Oc Ai) fun a ha z => by
        rcases z with ⟨j, z⟩ | z
        · rcases s.gr j a z with w | w
          · exact .inl ⟨j, w⟩
          · exact absurd w ha
        · exact .inr z
      have dr : xs.drop i = d :: xs.drop (i + 1) := by
        obtain ⟨h1, h2⟩ := List.getElem?_eq_some_iff.mp hd
        rw [List.drop_eq_getElem_cons h1, h2]
      rw [dr] at h
      unfold S.forGo at h
      refine ⟨Oc, ri, Ai, d, s.env.ext ext, rp, ?_⟩
      cases q : tg.put d ri with
      | none => rw [q] at h; exact h.elim
      | some r2 =>
        rw [q] at h
        intro σ' A2 en2 h1 h2 h3
        have s2 : StepS T g.io Oc σi Hi Ai σ' H' r2 A2 := ⟨en2, ext.kp, fun j a ha => by
          by_cases m : j ∈ tg.own
          · rw [h2 j m] at ha; cases ha
          · rw [(h1 j m).2] at ha; exact .inl ha, fun j hj => by rw [(h1 j (hio j hj)).1]⟩
        refine ⟨Oc, r2, A2, en2, ?_⟩
        have h : AftS T g Oc W σi Hi Ai (match a r2 with
          | .ok .nx r => S.forGo tg a (xs.drop (i + 1)) r
          | .ok .ct r => S.forGo tg a (xs.drop (i + 1)) r
          | .ok .bk r => .ok .nx r
          | x => x) D := h
        have h := AftS.from s2 h
        cases q2 : a r2 with
        | ok f r3 =>
          rw [q2] at h
          cases f with
          | nx => exact fun σ' H' As' s3 => ⟨r3, As', (s.trans s2).trans s3, AftS.from s3 h⟩
          | ct => exact fun σ' H' As' s3 => ⟨r3, As', (s.trans s2).trans s3, AftS.from s3 h⟩
          | bk => exact h
          | rt d => exact h
        | raise c r2 => rw [q2] at h; exact h
        | stuck => rw [q2] at h; exact h
    · rintro σi Hi ⟨ri, Ai, s, h⟩
      rw [List.drop_length] at h
      exact h σi Hi Ai (.refl s.env)
end
end O
end
section
set_option Elab.async false
set_option linter.all false
set_option maxRecDepth 100000
/-! Sound16: a def keeps its promise, by its body. -/
namespace O
open PySem PySem.Spec PyProof.Rows L2
theorem lookup_zip_map {f : Nat → Slot} : ∀ (io : List Nat) (i : Nat), ((io.zip (io.map f)).lookup i) = if i ∈ io then some (f i) else none
  | [], i => rfl
  | j :: io, i => by
    show (((j, f j) :: io.zip (io.map f)).lookup i) = _
    by_cases e : i = j
    · subst e
      rw [List.lookup_cons]
      simp
    · rw [List.lookup_cons]
      have : (i == j) = false := by simpa using e
      rw [this]
      show (io.zip (io.map f)).lookup i = _
      rw [lookup_zip_map io i]
      simp [e]
theorem getS_outE (io : List Nat) (np : Nat) (hio : ∀ i ∈ io, i < np) (r : Env) (i : Nat) : getS (outE io np (io.map (getS r))) i = if i ∈ io then getS r i else .no := by
  unfold outE
  show (((List.range np).map fun i => ((io.zip (io.map (getS r))).lookup i).getD .no)).getD i .no = _
  rw [List.getD_eq_getElem?_getD, List.getElem?_map]
  by_cases h : i < np
  · rw [List.getElem?_range h]
    show ((io.zip (io.map (getS r))).lookup i).getD .no = _
    rw [lookup_zip_map]
    by_cases m : i ∈ io
    · rw [if_pos m, if_pos m]; rfl
    · rw [if_neg m, if_neg m]; rfl
  · have e : (List.range np)[i]? = none := List.getElem?_eq_none (by simpa using h)
    rw [e, if_neg fun m => h (hio i m)]
    rfl
section
variable {T : Tab} {Oc : AP1} {H H' : Hp} {σ' : St} {r' : Env} {As As' : Nat → List Addr} {vs : List V}
theorem EnvR_out {io : List Nat} {np : Nat} (hio : ∀ i ∈ io, i < np) (hl : vs.length = np) (en : EnvR T false Oc H σ' (rioE io r') (rio io As')) (pin : ∀ i, i ∈ io → σ'[i]?.join = (vs.map some)[i]?.join) : EnvR T false Oc H (vs.map some) (outE io np (io.map (getS r'))) (rio io As') where
  len := by unfold outE; simp [hl]
  sl := fun i => by
    have sl := en.sl i
    rw [getS_rioE] at sl
    rw [getS_outE io np hio]
    by_cases m : i ∈ io
    · rw [if_pos m] at sl ⊢
      rw [← pin i m]
      exact sl
    · rw [if_neg m] at sl ⊢
      exact sl
  nd := en.nd
  dj := en.dj
  oc := en.oc
  od := en.od
end
theorem start_join {N : List PySem.Str} {vs : List V} {i : Nat} (h : i < vs.length) : (L2.start N vs)[i]?.join = (vs.map some)[i]?.join := by
  unfold L2.start
  rw [List.getElem?_append_left (by simpa using h)]
/-- a def of the text, by the reading of its body -/
theorem fn_rule {T : Tab} {n f : Nat} {P : Program} {w : World} {K : PySem.W.Frag} {mg : PySem.Str → Option Value} {base : Heap} {x qual : PySem.Str} {params : Arguments} {body : List Stmt} {scope : Scope} {a : Addr} {fd : FuncData} {N ps : List PySem.Str} {d : Def}
    (hK : K = T.K) (L : Lf T n P w K mg base) (F : FunD K x qual params body scope [] [] a fd) (S : FnScope N ps scope) (ht : tbl[f]? = some d) (hnp : ps.length = d.np) (hN : N.length = d.ns) (hle : d.np ≤ d.ns) (hio : ∀ i ∈ d.io, i < d.np)
    (hb : ∀ (cdv : Value) (A : Around) (outer : List PySem.Env) (s : Shared) (H : Hp) (E : XK), Gs T n (cxOf (L2.CX P w) P w K mg base N qual scope a cdv A outer s H E) → DSs T ⟨d.io, d.np, d.rk⟩ (cxOf (L2.CX P w) P w K mg base N qual scope a cdv A outer s H E) body (d.body (run n))) :
    FnOk P w K mg base (L2.CX P w) (2 * (n + 1)) a fd ps (spI T (run (n + 1)) f d) := by
  refine F.ok (k := 2 * n + 1) S (fun vs H Q E ⟨_, _, _, _, hl, _⟩ => by rw [hl, hnp]) fun cdv A outer s H vs Q E hr hsp => ?_
  have G : Gs T n (cxOf (L2.CX P w) P w K mg base N qual scope a cdv A outer s H E) := ⟨⟨hK, rfl, S.nd, hr, L⟩, passes_of (X := cxOf (L2.CX P w) P w K mg base N qual scope a cdv A outer s H E) rfl, rfl, rfl⟩
  have tk : Takes (cxOf (L2.CX P w) P w K mg base N qual scope a cdv A outer s H E) (fun cls d _ H => E cls d H) := takes_of (X := cxOf (L2.CX P w) P w K mg base N qual scope a cdv A outer s H E) rfl rfl rfl rfl
  refine ⟨_, hb cdv A outer s H E G _ tk, ?_⟩
  obtain ⟨Oc, ss, As, en, hl, c⟩ := hsp
  have hss : ss.length = d.np := by rw [en.len, List.length_map, hl]
  have hAs : ∀ i, d.np ≤ i → As i = [] := fun i hi => by
    have sl := en.sl i
    have e : getS ss i = .no := by unfold getS; rw [List.getD_eq_getElem?_getD, List.getElem?_eq_none (by omega)]; rfl
    rw [e] at sl
    exact sl
  have er : run (n + 1) f ss = d.run (run n) ss := by
    show (match tbl[f]? with
      | some d => d.run (run n) ss
      | none => .stuck) = _
    rw [ht]
  rw [er] at c
  unfold Def.run at c
  rw [if_pos hss] at c
  have en0 : EnvR T false Oc H (L2.start N vs) (ss ++ List.replicate (d.ns - d.np) .no) As := by
    refine ⟨?_, fun i => ?_, en.nd, en.dj, en.oc, en.od⟩
    · unfold L2.start
      simp [hss, hl, hN]
    · by_cases h : i < d.np
      · have e : getS (ss ++ List.replicate (d.ns - d.np) .no) i = getS ss i := by
          unfold getS
          rw [List.getD_eq_getElem?_getD, List.getD_eq_getElem?_getD, List.getElem?_append_left (by omega)]
        rw [e, start_join (by omega)]
        exact en.sl i
      · have e : getS (ss ++ List.replicate (d.ns - d.np) .no) i = .no := by
          unfold getS
          rw [List.getD_eq_getElem?_getD, List.getElem?_append_right (by omega), List.getElem?_replicate]
          split <;> rfl
        rw [e]
        exact hAs i (by omega)
  refine ⟨Oc, _, As, en0, ?_⟩
  have post : ∀ {σ' H' r' As'}, StepS T d.io Oc (L2.start N vs) H As σ' H' r' As' → Post T Oc d vs H As H' (d.io.map (getS r')) (rio d.io As') := fun {σ' H' r' As'} st =>
    ⟨EnvR_out hio hl (EnvR.rio st.env d.io (fun a z => po_rio _ a z) (fun i a _ ha => st.env.oc i a ha) st.env.od) fun i hi => (st.pin i hi).trans (start_join (by rw [hl]; exact hio i hi)), st.kp, fun i a ha => by
      unfold rio at ha
      by_cases m : i ∈ d.io
      · rw [if_pos m] at ha; exact st.gr i a ha
      · rw [if_neg m] at ha; cases ha⟩
  have ret : ∀ {σ' H' r' As' v x}, StepS T d.io Oc (L2.start N vs) H As σ' H' r' As' → RetS T ⟨d.io, d.np, d.rk⟩ Oc H As σ' H' r' As' v x → RetP T Oc (vs.map some) d.rk H H' (outE d.io d.np (d.io.map (getS r'))) (rio d.io As') v x := fun {σ' H' r' As' v x} st rt => by
    unfold RetS at rt
    unfold RetP
    split
    · rename_i e
      simp only [e] at rt
      exact rt
    · trivial
    · rename_i k h0 h9
      have rt : ∃ A, OwnR T.K (PO (fun a => Oc a ∨ a ∈ A) (rio d.io As')) H' d.rk v x A ∧ A.Nodup ∧ (∀ a ∈ A, (∃ i, d.np ≤ i ∧ a ∈ As i) ∨ H a = none) ∧ (∀ a ∈ A, ¬ PO Oc (rio d.io As') a) ∧ EnvR T false (fun a => Oc a ∨ a ∈ A) H' σ' (rioE d.io r') (rio d.io As') := by
        split at rt
        · rename_i e; exact absurd e h0
        · rename_i e; exact absurd e h9
        · exact rt
      obtain ⟨A, o, nd, fr, np, ex⟩ := rt
      refine ⟨A, o, nd, fun a ha => ⟨?_, np a ha⟩, EnvR_out hio hl ex fun i hi => (st.pin i hi).trans (start_join (by rw [hl]; exact hio i hi))⟩
      rcases fr a ha with ⟨i, hi, z⟩ | z
      · rw [hAs i hi] at z; cases z
      · exact z
  cases q : d.body (run n) (ss ++ List.replicate (d.ns - d.np) .no) with
  | ok fl r' =>
    rw [q] at c
    cases fl with
    | nx =>
      intro σ' H' As' st
      refine c .non H' _ (post st) (ret st ?_)
      unfold RetS
      split
      · exact .non
      · trivial
      · refine ⟨[], ?_, List.nodup_nil, (fun _ z => by cases z), (fun _ z => by cases z), (EnvR.rio st.env d.io (fun a z => po_rio _ a z) (fun i a _ ha => st.env.oc i a ha) st.env.od).lessOc fun a z => z.elim id fun z => nomatch z⟩
        rename_i k h0 h9
        show OwnR T.K _ H' d.rk _ _ _
        cases e : d.rk with
        | zero => exact absurd e h0
        | succ k => exact .inl ⟨rfl, rfl, .non⟩
    | rt x => exact fun v σ' H' As' st rt => c v H' _ (post st) (ret st rt)
    | bk => exact c.elim
    | ct => exact c.elim
  | raise k r' =>
    rw [q] at c
    exact fun σ' H' As' st => c H' _ (post st)
  | stuck => rw [q] at c; exact c.elim
/-- nothing is promised at no depth -/
theorem fn_zero {T : Tab} {f : Nat} {P : Program} {w : World} {K : PySem.W.Frag} {mg : PySem.Str → Option Value} {base : Heap} {a : Addr} {fd : FuncData} {ps : List PySem.Str} {d : Def} : FnOk P w K mg base (L2.CX P w) (2 * 0) a fd ps (spI T (run 0) f d) :=
  ⟨fun vs H Q E ⟨_, _, _, _, _, c⟩ => c.elim, fun A outer s H args us vs Q E _ _ _ _ ⟨_, _, _, _, _, c⟩ => c.elim⟩
end O
end
section
set_option Elab.async false
set_option linter.all false
set_option maxRecDepth 100000
/-! Sound17: lists that are changed in place. -/
namespace O
open PySem PySem.Spec PyProof.Rows L2
/-! ### three lists side by side -/
theorem All3.len {α β γ : Type} {f : α → β → γ → Prop} : ∀ {as : List α} {bs : List β} {cs : List γ}, All3 f as bs cs → as.length = bs.length ∧ bs.length = cs.length
  | [], [], [], _ => ⟨rfl, rfl⟩
  | _ :: _, _ :: _, _ :: _, ⟨_, y⟩ => ⟨congrArg Nat.succ (All3.len y).1, congrArg Nat.succ (All3.len y).2⟩
  | [], [], _ :: _, z => z.elim
  | [], _ :: _, _, z => z.elim
  | _ :: _, [], _, z => z.elim
  | _ :: _, _ :: _, [], z => z.elim
theorem All3.get {α β γ : Type} {f : α → β → γ → Prop} : ∀ {as : List α} {bs : List β} {cs : List γ} {i : Nat} {b : β}, All3 f as bs cs → bs[i]? = some b → ∃ a c, as[i]? = some a ∧ cs[i]? = some c ∧ f a b c
  | [], [], [], _, _, _, e => by simp at e
  | _ :: _, _ :: _, _ :: _, 0, _, ⟨x, _⟩, e => by simp at e; subst e; exact ⟨_, _, rfl, rfl, x⟩
  | _ :: _, _ :: _, _ :: _, i + 1, _, ⟨_, y⟩, e => by
    obtain ⟨a, c, h1, h2, h3⟩ := All3.get (i := i) y (by simpa using e)
    exact ⟨a, c, by simpa using h1, by simpa using h2, h3⟩
  | [], [], _ :: _, _, _, z, _ => z.elim
  | [], _ :: _, _, _, _, z, _ => z.elim
  | _ :: _, [], _, _, _, z, _ => z.elim
  | _ :: _, _ :: _, [], _, _, z, _ => z.elim
theorem All3.app {α β γ : Type} {f : α → β → γ → Prop} : ∀ {as as' : List α} {bs bs' : List β} {cs cs' : List γ}, All3 f as bs cs → All3 f as' bs' cs' → All3 f (as ++ as') (bs ++ bs') (cs ++ cs')
  | [], _, [], _, [], _, _, h => h
  | _ :: _, _, _ :: _, _, _ :: _, _, ⟨x, y⟩, h => ⟨x, All3.app y h⟩
  | [], _, [], _, _ :: _, _, z, _ => z.elim
  | [], _, _ :: _, _, _, _, z, _ => z.elim
  | _ :: _, _, [], _, _, _, z, _ => z.elim
  | _ :: _, _, _ :: _, _, [], _, z, _ => z.elim
theorem All3.monoI {α β γ : Type} {f g : α → β → γ → Prop} : ∀ {as : List α} {bs : List β} {cs : List γ}, All3 f as bs cs → (∀ (j : Nat) a b c, as[j]? = some a → cs[j]? = some c → f a b c → g a b c) → All3 g as bs cs
  | [], [], [], _, _ => trivial
  | a :: _, b :: _, c :: _, ⟨x, y⟩, k => ⟨k 0 a b c rfl rfl x, All3.monoI y fun j a b c h1 h2 => k (j + 1) a b c (by simpa using h1) (by simpa using h2)⟩
  | [], [], _ :: _, z, _ => z.elim
  | [], _ :: _, _, z, _ => z.elim
  | _ :: _, [], _, z, _ => z.elim
  | _ :: _, _ :: _, [], z, _ => z.elim
/-- one place turned, the others kept -/
theorem All3.set {α β γ : Type} {f g : α → β → γ → Prop} : ∀ {as : List α} {bs : List β} {cs : List γ} (i : Nat) {a' : α} {b' : β} {c : γ}, All3 f as bs cs → cs[i]? = some c → g a' b' c → (∀ j a b c, j ≠ i → as[j]? = some a → cs[j]? = some c → f a b c → g a b c) → All3 g (as.set i a') (bs.set i b') cs
  | [], [], [], _, _, _, _, _, e, _, _ => by simp at e
  | a :: as, b :: bs, c :: cs, 0, a', b', c', ⟨_, y⟩, e, h, k => by
    simp at e; subst e
    exact ⟨h, All3.monoI y fun j a b c h1 h2 => k (j + 1) a b c (by omega) (by simpa using h1) (by simpa using h2)⟩
  | a :: as, b :: bs, c :: cs, i + 1, a', b', c', ⟨x, y⟩, e, h, k => ⟨k 0 a b c (by omega) rfl rfl x, All3.set i y (by simpa using e) h fun j a b c hj h1 h2 => k (j + 1) a b c (by omega) (by simpa using h1) (by simpa using h2)⟩
  | [], [], _ :: _, _, _, _, _, z, _, _, _ => z.elim
  | [], _ :: _, _, _, _, _, _, z, _, _, _ => z.elim
  | _ :: _, [], _, _, _, _, _, z, _, _, _ => z.elim
  | _ :: _, _ :: _, [], _, _, _, _, z, _, _, _ => z.elim
theorem set_self {α : Type} {as : List α} {i : Nat} {a : α} (h : as[i]? = some a) : as.set i a = as := by
  apply List.ext_getElem?
  intro j
  by_cases e : i = j
  · subst e; rw [List.getElem?_set_self (List.getElem?_eq_some_iff.mp h).1, h]
  · rw [List.getElem?_set_ne e]
section
variable {T : Tab} {g : Sg} {Oc : AP1} {W : WX} {σ : St} {H H1 : Hp} {r r1 : Env} {As As1 : Nat → List Addr} {io : List Nat}
theorem own_lst {K : PySem.W.Frag} {P : AP1} {k : Nat} {v : V} {ds : List D} {A : List Addr} (h : OwnR K P H (k + 1) v (.lst ds) A) : ∃ a vs Bs, v = .ref a ∧ H a = some (.lst vs) ∧ A = a :: Bs.flatten ∧ All3 (OwnR K P H k) vs ds Bs := by
  rcases h with ⟨z, _⟩ | ⟨a, vs, ds', Bs, e1, e2, e3, e4, q⟩
  · cases z
  · cases e2; exact ⟨a, vs, Bs, e1, e3, e4, q⟩
theorem slot_own {i k : Nat} {d : D} (en : EnvR T false Oc H σ r As) (hg : getS r i = .val k d) : ∃ v, σ[i]?.join = some v ∧ OwnR T.K (PO Oc As) H k v d (As i) := by
  have sl := en.sl i
  rw [hg] at sl
  exact sl
theorem flat0 {K : PySem.W.Frag} {P : AP1} : ∀ {vs : List V} {ds : List D} {Bs : List (List Addr)}, All3 (OwnR K P H 0) vs ds Bs → Bs.flatten = [] ∧ Reps K P H vs ds
  | [], [], [], _ => ⟨rfl, .nil⟩
  | _ :: _, _ :: _, _ :: _, ⟨⟨e, x⟩, y⟩ => by
    obtain ⟨h1, h2⟩ := flat0 y
    exact ⟨by rw [List.flatten_cons, e, h1]; rfl, .cons x h2⟩
  | [], [], _ :: _, z => z.elim
  | [], _ :: _, _, z => z.elim
  | _ :: _, [], _, z => z.elim
  | _ :: _, _ :: _, [], z => z.elim
theorem own_one {K : PySem.W.Frag} {P : AP1} {v : V} {ds : List D} {A : List Addr} (h : OwnR K P H 1 v (.lst ds) A) : ∃ a vs, v = .ref a ∧ H a = some (.lst vs) ∧ A = [a] ∧ Reps K P H vs ds := by
  obtain ⟨a, vs, Bs, e1, e2, e3, q⟩ := own_lst h
  obtain ⟨h1, h2⟩ := flat0 q
  exact ⟨a, vs, e1, e2, by rw [e3, h1], h2⟩
theorem one_all {K : PySem.W.Frag} {P : AP1} : ∀ {vs : List V} {ds : List D}, Reps K P H vs ds → All3 (OwnR K P H 0) vs ds (vs.map fun _ => [])
  | _, _, .nil => trivial
  | _, _, .cons r t => ⟨⟨rfl, r⟩, one_all t⟩
theorem nil_flat (vs : List V) : (vs.map fun _ => ([] : List Addr)).flatten = [] := by
  induction vs with
  | nil => rfl
  | cons _ _ ih => exact ih
theorem one_own {K : PySem.W.Frag} {P : AP1} {a : Addr} {vs : List V} {ds : List D} (h : H a = some (.lst vs)) (q : Reps K P H vs ds) : OwnR K P H 1 (.ref a) (.lst ds) [a] :=
  .inr ⟨a, vs, ds, _, rfl, rfl, h, by rw [nil_flat], one_all q⟩
theorem slot_lt {i : Nat} {a : Addr} (en : EnvR T false Oc H σ r As) (h : a ∈ As i) : i < r.length := by
  by_cases q : i < r.length
  · exact q
  · have sl := en.sl i
    have e : getS r i = .no := by unfold getS; rw [List.getD_eq_getElem?_getD, List.getElem?_eq_none (by omega)]; rfl
    rw [e] at sl
    rw [show As i = [] from sl] at h
    cases h
/-- a list of slot i is changed -/
theorem EnvR.updOwn {i : Nat} {p : Addr} {vs ws : List V} {s' : Slot} {B A' : List Addr} (ex : EnvR T false (fun a => Oc a ∨ a ∈ B) H σ r As) (hp : p ∈ As i) (h2 : H p = some (.lst vs)) (hsub : ∀ a ∈ A', a ∈ As i ∨ a ∈ B) (nd : A'.Nodup) (hB : ∀ a ∈ B, ¬ Oc a)
    (hs : SlotR T false (PO Oc (upA As i A')) (upd H p (.lst ws)) (σ[i]?.join) s' A') : EnvR T false Oc (upd H p (.lst ws)) σ (r.set i s') (upA As i A') where
  len := by simpa using ex.len
  sl := fun j => by
    rw [getS_set _ _ _ _ (slot_lt ex hp)]
    by_cases h : j = i
    · subst h
      rw [if_pos rfl, upA_same]
      exact hs
    · rw [if_neg h, upA_ne h]
      refine (ex.sl j).keep (kp_upd (.inl ⟨i, hp⟩) h2) (fun z => absurd z (by decide)) (fun a _ z => ?_) fun a ha => upd_ne fun z => h (ex.dj j i a ha (by rw [z]; exact hp))
      rcases z with ⟨l, z⟩ | z
      · by_cases e : l = i
        · subst e
          rw [upA_same] at z
          rcases hsub a z with w | w
          · exact .inl ⟨l, w⟩
          · exact .inr (.inr w)
        · rw [upA_ne e] at z
          exact .inl ⟨l, z⟩
      · exact .inr (.inl z)
  nd := fun j => by
    by_cases h : j = i
    · subst h; rw [upA_same]; exact nd
    · rw [upA_ne h]; exact ex.nd j
  dj := fun j k a h1 h2 => by
    by_cases e1 : j = i
    · by_cases e2 : k = i
      · rw [e1, e2]
      · rw [e1, upA_same] at h1
        rw [upA_ne e2] at h2
        rcases hsub a h1 with w | w
        · rw [e1]; exact ex.dj i k a w h2
        · exact absurd (.inr w) (ex.oc k a h2)
    · rw [upA_ne e1] at h1
      by_cases e2 : k = i
      · rw [e2, upA_same] at h2
        rcases hsub a h2 with w | w
        · rw [e2]; exact ex.dj j i a h1 w
        · exact absurd (.inr w) (ex.oc j a h1)
      · rw [upA_ne e2] at h2
        exact ex.dj j k a h1 h2
  oc := fun j a h z => by
    by_cases e : j = i
    · rw [e, upA_same] at h
      rcases hsub a h with w | w
      · exact ex.oc i a w (.inl z)
      · exact hB a w z
    · rw [upA_ne e] at h; exact ex.oc j a h (.inl z)
  od := fun a z => by
    by_cases q : a = p
    · rw [q, upd_same]; simp
    · rw [upd_ne q]; exact ex.od a (.inl z)
theorem upd_step {i : Nat} {p : Addr} {vs ws : List V} {s' : Slot} {B A' : List Addr} {t : List Nat} (st : Step T false Oc σ t H r As H1 r1 As1) (hp : p ∈ As1 i) (h2 : H1 p = some (.lst vs)) (hsub : ∀ a ∈ A', a ∈ As1 i ∨ a ∈ B) (hB : ∀ a ∈ B, H a = none)
    (en : EnvR T false Oc (upd H1 p (.lst ws)) σ (r1.set i s') (upA As1 i A')) : StepS T io Oc σ H As σ (upd H1 p (.lst ws)) (r1.set i s') (upA As1 i A') where
  env := en
  kp := st.kp.trans (kp_upd (P := fun a => a = p) rfl h2) (fun _ ⟨j, _, h⟩ => ⟨j, h⟩) fun x hx e => by
    subst e
    rcases st.gr i x hp with z | z
    · exact ⟨i, z⟩
    · exact absurd z hx
  gr := gr_upA st.gr fun a ha => by
    rcases hsub a ha with z | z
    · exact st.gr i a z
    · exact .inr (hB a z)
  pin := fun _ _ => rfl
/-- what is owned avoids what is changed -/
theorem po_self {i : Nat} {A' B : List Addr} (hsub : ∀ a ∈ A', a ∈ As i ∨ a ∈ B) : ∀ a, PO Oc (upA As i A') a → PO (fun a => Oc a ∨ a ∈ B) As a := fun a z => by
  rcases z with ⟨l, z⟩ | z
  · by_cases e : l = i
    · subst e
      rw [upA_same] at z
      rcases hsub a z with w | w
      · exact .inl ⟨l, w⟩
      · exact .inr (.inr w)
    · rw [upA_ne e] at z
      exact .inl ⟨l, z⟩
  · exact .inr (.inl z)
end
section
variable {T : Tab} {g : Sg} {X : Cx} {n : Nat} {t t1 t2 : List Nat} {κ κ1 κ2 : Kd} {e a b : Expr} {ee ea eb : E} {pos : Pos}
theorem isL_some {s : Slot} (h : S.isL s = true) : ∃ k ds, s = .val k (.lst ds) := by
  cases s with
  | val k d => cases d with
    | lst ds => exact ⟨k, ds, rfl⟩
    | _ => cases h
  | _ => cases h
theorem slot_isList {Oc : AP1} {H : Hp} {σ : St} {r : Env} {As : Nat → List Addr} {i k : Nat} {ds : List D} (en : EnvR T false Oc H σ r As) (hg : getS r i = .val k (.lst ds)) : ∃ p vs, σ[i]?.join = some (.ref p) ∧ H p = some (.lst vs) := by
  obtain ⟨v, ev, o⟩ := slot_own en hg
  obtain ⟨p, vs, rfl, e1, _, _⟩ := rep_lst o.weak
  exact ⟨p, vs, ev, e1⟩
/-- x.append(e) -/
theorem ds_app {i k : Nat} {x : PySem.Str} {xpos apos cpos : Pos} (G : Gs T n X) (he : DE T false X e ee κ t) (hk : κ = .f (k - 1) ∨ (κ.solid = true ∧ k = 1) := by first | exact .inr ⟨rfl, rfl⟩ | exact .inl rfl) (hk1 : 1 ≤ k := by decide) (hit : i ∉ t := by first | decide | exact nm_of rfl)
    (hN : X.N[i]? = some x := by rfl) (hv : Vis X.env.scope x := by first | exact Or.inl rfl | exact Or.inr (Or.inl rfl) | exact Or.inr (Or.inr rfl)) (hd : (x == ("__debug__" : PySem.Str)) = false := by decide +kernel) (hcd : (x == ("__classdict__" : PySem.Str)) = false := by decide +kernel)
    (hbase : attributeBase (.Name x xpos) "append" X.env (eval (.Name x xpos) X.env) = eval (.Name x xpos) X.env := by rfl) (hs : starEach [e] X.env = [(false, eval e X.env)] := by rfl)
    (hfew : ((backTo cpos (starEach [e] X.env)).all (fun x => !x.1) && (backToKw cpos (keywordEach [] X.env)).all (fun x => x.1.isSome) && decide ([e].length + ([] : List Keyword).length + (if ([] : List Keyword).isEmpty then 0 else 1) < 30)) = true := by rfl)
    (hline : (apos.endLine == cpos.line) = true := by rfl) (hsw : swapsWith (.Call (.Attribute (.Name x xpos) "append" apos) [e] [] cpos) none pos.line X.env = pure false := by rfl) :
    DS T g X (.Expr (.Call (.Attribute (.Name x xpos) "append" apos) [e] [] cpos) pos) (S.app i k ee) := fun W tk =>
  PS.impI (ps_expr (pe_bm PySem.F.plainAttrs_list PySem.F.slot_list_append PySem.F.type_list_append mt_append (pe_var hN hv hd hcd) (pa_cons (he W tk) pa_nil hs) hbase hfew hline hs rfl) hsw) fun D σ H hl ⟨Oc, r, As, en, h⟩ => by
    unfold S.app at h
    by_cases hL : S.isL (getS r i) = true
    · rw [if_pos hL] at h
      obtain ⟨k0, ds, hg⟩ := isL_some hL
      obtain ⟨p, vs, ev, hp⟩ := slot_isList en hg
      refine ⟨_, join_some ev, .inl ⟨rfl, vs, SqL.of hp⟩, Oc, r, As, en, aft_mono (aftS_bindF h) fun y H1 ⟨r1, As1, d, st, rs, a⟩ => ?_⟩
      have hg1 : getS r1 i = .val k0 (.lst ds) := by rw [(st.sm i hit).1]; exact hg
      rw [hg1] at a
      simp only at a
      by_cases hc : k0 = k ∧ ds.length < LIM
      · rw [if_pos hc] at a
        obtain ⟨rfl, hlen⟩ := hc
        obtain ⟨m, rfl⟩ : ∃ m, k0 = m + 1 := ⟨k0 - 1, by omega⟩
        -- the item's own addresses
        have item : ∃ B, OwnR T.K (PO (fun a => Oc a ∨ a ∈ B) As1) H1 m y d B ∧ B.Nodup ∧ (∀ a ∈ B, H a = none ∧ ¬ PO Oc As1 a) ∧ EnvR T false (fun a => Oc a ∨ a ∈ B) H1 σ r1 As1 := by
          rcases hk with hκ | ⟨hsol, hm⟩
          · rw [hκ] at rs
            have e : m + 1 - 1 = m := rfl
            rw [e] at rs
            exact rs
          · have hm : m = 0 := by omega
            subst hm
            exact ⟨[], ⟨rfl, (rs.rep hsol).keep Kp.refl fun a _ z => by
              rcases z with z | z | z
              · exact .inl z
              · exact .inr z
              · cases z⟩, List.nodup_nil, (fun _ z => by cases z), st.env.lessOc fun a z => z.elim id fun z => by cases z⟩
        obtain ⟨B, oB, nB, fB, ex⟩ := item
        obtain ⟨v1, ev1, o⟩ := slot_own ex hg1
        rw [ev] at ev1
        cases ev1
        obtain ⟨p', vs1, Bs, e1, e2, e3, q⟩ := own_lst o
        cases e1
        have lv : vs1.length < sizeLine := by rw [q.len.1, ← lim_line]; exact hlen
        refine ⟨p, vs1, y, rfl, rfl, e2, lv, ?_⟩
        have hpA : p ∈ As1 i := by rw [e3]; exact List.mem_cons_self
        have hsub : ∀ a ∈ As1 i ++ B, a ∈ As1 i ∨ a ∈ B := fun a ha => List.mem_append.mp ha
        have kp := kp_upd (ws := vs1 ++ [y]) (P := PO (fun a => Oc a ∨ a ∈ B) As1) (.inl ⟨i, hpA⟩) e2
        have hpp := po_self (Oc := Oc) hsub
        have pB : p ∉ B := fun z => (fB p z).2 (.inl ⟨i, hpA⟩)
        have ndA : (p :: Bs.flatten).Nodup := by rw [← e3]; exact st.env.nd i
        have en2 : EnvR T false Oc (upd H1 p (.lst (vs1 ++ [y]))) σ (r1.set i (.val (m + 1) (.lst (ds ++ [d])))) (upA As1 i (As1 i ++ B)) := by
          refine EnvR.updOwn ex hpA e2 hsub ?_ (fun a ha z => (fB a ha).2 (.inr z)) ⟨.ref p, ev, .inr ⟨p, vs1 ++ [y], ds ++ [d], Bs ++ [B], rfl, rfl, upd_same, ?_, ?_⟩⟩
          · refine List.nodup_append.mpr ⟨st.env.nd i, nB, fun a ha b hb e => ?_⟩
            subst e
            exact (fB a hb).2 (.inl ⟨i, ha⟩)
          · rw [e3]; simp
          · refine All3.app (All3.mono (fun v d C hv hC w => OwnR.keep kp (fun a _ z => hpp a z) m (fun c hc => upd_ne fun z => ?_) w) q) ⟨OwnR.keep kp (fun a _ z => hpp a z) m (fun c hc => upd_ne fun z => ?_) oB, trivial⟩
            · subst z
              exact (List.nodup_cons.mp ndA).1 (List.mem_flatten.mpr ⟨C, hC, hc⟩)
            · subst z
              exact pB hc
        exact a _ _ _ (upd_step st hpA e2 hsub (fun a ha => (fB a ha).1) en2)
      · rw [if_neg hc] at a; exact a.elim
    · rw [if_neg hL] at h; exact h.elim
end
end O
end
section
set_option Elab.async false
set_option linter.all false
set_option maxRecDepth 100000
/-! Sound18: insert; places of owned lists. -/
namespace O
open PySem PySem.Spec PyProof.Rows L2
section
variable {T : Tab} {Oc : AP1} {σ : St} {H H1 : Hp} {r r1 : Env} {As As1 : Nat → List Addr} {io : List Nat}
/-- a flat list of slot i is changed -/
theorem one_step {i : Nat} {p : Addr} {vs ws : List V} {ds : List D} {t : List Nat} (st : Step T false Oc σ t H r As H1 r1 As1) (ev : σ[i]?.join = some (.ref p)) (hA : As1 i = [p]) (h2 : H1 p = some (.lst vs)) (q : Reps T.K (PO Oc As1) H1 ws ds) :
    StepS T io Oc σ H As σ (upd H1 p (.lst ws)) (r1.set i (.val 1 (.lst ds))) (upA As1 i (As1 i)) := by
  have hp : p ∈ As1 i := by rw [hA]; exact List.mem_cons_self
  have hsub : ∀ a ∈ As1 i, a ∈ As1 i ∨ a ∈ ([] : List Addr) := fun a h => .inl h
  have kp := kp_upd (ws := ws) (P := PO Oc As1) (.inl ⟨i, hp⟩) h2
  refine upd_step (B := []) st hp h2 hsub (fun _ z => by cases z) (EnvR.updOwn (B := []) (st.env.lessOc fun a z => z.elim id fun z => by cases z) hp h2 hsub (st.env.nd i) (fun _ z => by cases z) ⟨.ref p, ev, ?_⟩)
  rw [hA]
  refine one_own upd_same (q.keep kp fun a _ z => ?_)
  rcases po_self (B := []) (Oc := Oc) (i := i) (A' := [p]) (As := As1) (fun a h => by rw [hA]; exact .inl h) a z with z | z | z
  · exact .inl z
  · exact .inr z
  · cases z
end
section
variable {T : Tab} {g : Sg} {X : Cx} {n : Nat} {t t1 t2 : List Nat} {κ κ1 κ2 : Kd} {e a b : Expr} {ee ea eb : E} {pos : Pos}
/-- x.insert(a, e) -/
theorem ds_ins {i : Nat} {x : PySem.Str} {xpos apos cpos : Pos} (G : Gs T n X) (ha : DE T false X a ea κ1 t1) (he : DE T false X e ee κ2 t2) (hk : κ2.solid = true := by rfl) (hit1 : i ∉ t1 := by first | decide | exact nm_of rfl) (hit2 : i ∉ t2 := by first | decide | exact nm_of rfl)
    (hN : X.N[i]? = some x := by rfl) (hv : Vis X.env.scope x := by first | exact Or.inl rfl | exact Or.inr (Or.inl rfl) | exact Or.inr (Or.inr rfl)) (hd : (x == ("__debug__" : PySem.Str)) = false := by decide +kernel) (hcd : (x == ("__classdict__" : PySem.Str)) = false := by decide +kernel)
    (hbase : attributeBase (.Name x xpos) "insert" X.env (eval (.Name x xpos) X.env) = eval (.Name x xpos) X.env := by rfl) (hs : starEach [a, e] X.env = (false, eval a X.env) :: starEach [e] X.env := by rfl) (hs2 : starEach [e] X.env = [(false, eval e X.env)] := by rfl)
    (hfew : ((backTo cpos (starEach [a, e] X.env)).all (fun x => !x.1) && (backToKw cpos (keywordEach [] X.env)).all (fun x => x.1.isSome) && decide ([a, e].length + ([] : List Keyword).length + (if ([] : List Keyword).isEmpty then 0 else 1) < 30)) = true := by rfl)
    (hline : (apos.endLine == cpos.line) = true := by rfl) (hpl : (backTo cpos (starEach [e] X.env)).any (·.1) = false := by rfl) (hsw : swapsWith (.Call (.Attribute (.Name x xpos) "insert" apos) [a, e] [] cpos) none pos.line X.env = pure false := by rfl) :
    DS T g X (.Expr (.Call (.Attribute (.Name x xpos) "insert" apos) [a, e] [] cpos) pos) (S.ins i ea ee) := fun W tk =>
  PS.impI (ps_expr (pe_bm PySem.F.plainAttrs_list PySem.F.slot_list_insert PySem.F.type_list_insert mt_insert (pe_var hN hv hd hcd) (pa_cons (ha W tk) (pa_cons (he W tk) pa_nil hs2) hs) hbase hfew hline hs hpl) hsw) fun D σ H hl ⟨Oc, r, As, en, h⟩ => by
    unfold S.ins at h
    by_cases hL : S.isL (getS r i) = true
    · rw [if_pos hL] at h
      obtain ⟨k0, ds, hg⟩ := isL_some hL
      obtain ⟨p, vs, ev, hp⟩ := slot_isList en hg
      refine ⟨_, join_some ev, .inl ⟨rfl, vs, SqL.of hp⟩, Oc, r, As, en, aft_mono (aftS_bind h) fun y H1 ⟨r1, As1, c1, st1, rs1, h1⟩ => ?_⟩
      refine ⟨Oc, r1, As1, st1.env, aft_mono (aftS_bind h1) fun z H2 ⟨r2, As2, c2, st2, rs2, a2⟩ => ?_⟩
      have hg2 : getS r2 i = .val k0 (.lst ds) := by rw [(st2.sm i hit2).1, (st1.sm i hit1).1]; exact hg
      rw [hg2] at a2
      cases c1 with
      | int m =>
        by_cases hk0 : k0 = 1
        · subst hk0
          simp only at a2
          by_cases hc : 0 ≤ m ∧ m ≤ LIM ∧ ds.length < LIM
          · rw [if_pos hc] at a2
            obtain ⟨v1, ev1, o⟩ := slot_own st2.env hg2
            rw [ev] at ev1
            cases ev1
            obtain ⟨p', vs1, e1, e2, e3, q⟩ := own_one o
            cases e1
            obtain rfl := rep_int rs1.weak
            have lim : LIM = 16777216 := rfl
            refine ⟨p, vs1, m, z, rfl, rfl, e2, by rw [q.length, ← lim_line]; exact hc.2.2, hc.1, by omega, ?_⟩
            exact a2 _ _ _ (one_step (Step.refl st2.env (t := [])) ev e3 e2 (((q.take _).app (.cons (rs2.rep hk) .nil)).app (q.drop _)))
          · rw [if_neg hc] at a2; exact a2.elim
        · match k0, hk0, a2 with
          | 0, _, a2 => exact a2.elim
          | m + 2, _, a2 => exact a2.elim
      | _ => exact a2.elim
    · rw [if_neg hL] at h; exact h.elim
end
/-! ### places of owned lists -/
/-- the places' numbers, and what stands there -/
theorem res_assoc {α β γ : Type} (x : Res α) (f : α → Env → Res β) (g : β → Env → Res γ) : (x.bind f).bind g = x.bind fun a r => (f a r).bind g := by cases x <;> rfl
theorem pathI_snoc (es : List E) (e : E) : ∀ (d : D) (r : Env), pathI (es ++ [e]) d r = (pathI es d r).bind fun z r => (e r).bind fun x r => match z.2, x, idxD z.2 x with
    | .lst _, .int j, some y => .ok (z.1 ++ [j], y) r
    | _, _, _ => .stuck := by
  induction es with
  | nil =>
    intro d r
    show (e r).bind _ = (e r).bind _
    congr 1
  | cons f es ih =>
    intro d r
    show (f r).bind _ = Res.bind ((f r).bind _) _
    rw [res_assoc]
    congr 1
    funext x r
    cases d with
    | lst ds => cases x with
      | int j =>
        cases hi : idxD (.lst ds) (.int j) with
        | none => rfl
        | some y =>
          show (pathI (es ++ [e]) y r).bind _ = _
          rw [ih y r, res_assoc]
          show _ = Res.bind ((pathI es y r).bind fun z r => .ok (j :: z.1, z.2) r) _
          rw [res_assoc]
          congr 1
          funext z r
          show Res.bind (Res.bind (e r) _) _ = Res.bind (Res.ok _ r) _
          rw [res_assoc]
          show _ = (e r).bind _
          congr 1
          funext x r
          obtain ⟨js, w⟩ := z
          cases w <;> cases x <;> first | rfl | (simp only []; cases idxD _ _ <;> rfl)
      | _ => rfl
    | _ => cases x <;> rfl
theorem setGo_path (es : List E) (e : E) (v : D) : ∀ (d : D) (r : Env), S.setGo (es ++ [e]) v d r = (pathI es d r).bind fun z r => (e r).bind fun x r => lift (setAt d z.1 x v) r := by
  induction es with
  | nil => intro d r; rfl
  | cons f es ih =>
    intro d r
    have e1 : S.setGo (f :: es ++ [e]) v d r = (f r).bind fun x r => match d, idxD d x with
      | .lst _, some y => (S.setGo (es ++ [e]) v y r).bind fun y' r => lift (setD d x y') r
      | _, _ => .stuck := by
      cases es <;> rfl
    rw [e1]
    show _ = Res.bind ((f r).bind _) _
    rw [res_assoc]
    congr 1
    funext x r
    cases d with
    | lst ds => cases x with
      | int j =>
        cases hi : idxD (.lst ds) (.int j) with
        | none => rfl
        | some y =>
          show (S.setGo (es ++ [e]) v y r).bind _ = Res.bind ((pathI es y r).bind _) _
          rw [ih y r, res_assoc, res_assoc]
          congr 1
          funext z r
          show Res.bind ((e r).bind _) _ = (e r).bind _
          rw [res_assoc]
          congr 1
          funext x r
          show Res.bind (lift (setAt y z.1 x v) r) _ = lift (setAt (.lst ds) (j :: z.1) x v) r
          have e2 : setAt (.lst ds) (j :: z.1) x v = (setAt y z.1 x v).bind fun y' => setD (.lst ds) (.int j) y' := by
            show (idxD (.lst ds) (.int j)).bind _ = _
            rw [hi]; rfl
          rw [e2]
          cases setAt y z.1 x v <;> rfl
      | _ => rfl
    | _ => cases x <;> rfl
/-- from v down the places js one comes to u -/
def Reach (H : Hp) : V → D → List Int → V → D → Prop
  | v, d, [], u, y => u = v ∧ y = d
  | v, d, j :: js, u, y => ∃ a vs ds m v1 d1, v = .ref a ∧ d = .lst ds ∧ H a = some (.lst vs) ∧ posI ds.length j = some m ∧ vs[m]? = some v1 ∧ ds[m]? = some d1 ∧ Reach H v1 d1 js u y
theorem Reach.snoc {H : Hp} {a : Addr} {vs : List V} {ds : List D} {j : Int} {m : Nat} {u : V} {y : D} (e1 : H a = some (.lst vs)) (e2 : posI ds.length j = some m) (e3 : vs[m]? = some u) (e4 : ds[m]? = some y) : ∀ {js : List Int} {v : V} {d : D}, Reach H v d js (.ref a) (.lst ds) → Reach H v d (js ++ [j]) u y
  | [], v, d, ⟨h1, h2⟩ => ⟨a, vs, ds, m, u, y, h1.symm, h2.symm, e1, e2, e3, e4, rfl, rfl⟩
  | _ :: _, _, _, ⟨b, ws, es, k, v1, d1, f1, f2, f3, f4, f5, f6, h⟩ => ⟨b, ws, es, k, v1, d1, f1, f2, f3, f4, f5, f6, Reach.snoc e1 e2 e3 e4 h⟩
theorem Reach.own {K : PySem.W.Frag} {P : AP1} {H : Hp} : ∀ {js : List Int} {k : Nat} {v : V} {d : D} {A : List Addr} {u : V} {y : D}, Reach H v d js u y → OwnR K P H (js.length + k) v d A → ∃ B, (∀ b ∈ B, b ∈ A) ∧ OwnR K P H k u y B
  | [], k, v, d, A, u, y, ⟨h1, h2⟩, o => by
    subst h1 h2
    exact ⟨A, fun _ h => h, by simpa using o⟩
  | j :: js, k, v, d, A, u, y, ⟨b, ws, es, m, v1, d1, f1, f2, f3, f4, f5, f6, h⟩, o => by
    subst f1 f2
    have e : (j :: js).length + k = (js.length + k) + 1 := by simp; omega
    rw [e] at o
    obtain ⟨a, vs, Bs, g1, g2, g3, q⟩ := own_lst o
    cases g1
    rw [f3] at g2
    cases g2
    obtain ⟨v2, C, h1, h2, h3⟩ := q.get f6
    rw [f5] at h1
    cases h1
    obtain ⟨B, hB, oB⟩ := Reach.own h h3
    exact ⟨B, fun x hx => by rw [g3]; exact List.mem_cons_of_mem _ (List.mem_flatten.mpr ⟨C, List.mem_of_getElem? h2, hB x hx⟩), oB⟩
theorem Reach.keep {K : PySem.W.Frag} {P : AP1} {H H' : Hp} : ∀ {js : List Int} {k : Nat} {v : V} {d : D} {A : List Addr} {u : V} {y : D}, Reach H v d js u y → OwnR K P H (js.length + k) v d A → (∀ a ∈ A, H' a = H a) → Reach H' v d js u y
  | [], _, _, _, _, _, _, h, _, _ => h
  | j :: js, k, v, d, A, u, y, ⟨b, ws, es, m, v1, d1, f1, f2, f3, f4, f5, f6, h⟩, o, hA => by
    subst f1 f2
    have e : (j :: js).length + k = (js.length + k) + 1 := by simp; omega
    rw [e] at o
    obtain ⟨a, vs, Bs, g1, g2, g3, q⟩ := own_lst o
    cases g1
    rw [f3] at g2
    cases g2
    obtain ⟨v2, C, h1, h2, h3⟩ := q.get f6
    rw [f5] at h1
    cases h1
    refine ⟨b, ws, es, m, v1, d1, rfl, rfl, ?_, f4, f5, f6, Reach.keep h h3 fun a ha => hA a ?_⟩
    · rw [hA b (by rw [g3]; exact List.mem_cons_self)]; exact f3
    · rw [g3]; exact List.mem_cons_of_mem _ (List.mem_flatten.mpr ⟨C, List.mem_of_getElem? h2, ha⟩)
theorem posI_lt {n : Nat} {j : Int} {m : Nat} (h : posI n j = some m) : m < n := by
  unfold posI at h
  split at h
  · split at h
    · cases h; assumption
    · cases h
  · split at h
    · cases h; omega
    · cases h
theorem posI_ix {n : Nat} {j : Int} {m : Nat} (h : posI n j = some m) : L2.ixN n j = some m := by
  unfold posI at h
  unfold L2.ixN
  split at h
  · rename_i h0
    rw [if_pos h0]
    split at h
    · cases h; rw [if_pos (by omega)]
    · cases h
  · rename_i h0
    rw [if_neg h0]
    split at h
    · cases h; rw [if_pos (by omega)]
    · cases h
theorem idx_pos {ds : List D} {j : Int} {y : D} (h : idxD (.lst ds) (.int j) = some y) : ∃ m, posI ds.length j = some m ∧ ds[m]? = some y := by
  have h : O.atI ds j = some y := h
  unfold O.atI at h
  unfold posI
  split at h
  · rename_i h0
    rw [if_pos h0]
    have := (List.getElem?_eq_some_iff.mp h).1
    rw [if_pos this]
    exact ⟨_, rfl, h⟩
  · rename_i h0
    rw [if_neg h0]
    split at h
    · rename_i h1
      rw [if_pos h1]
      exact ⟨_, rfl, h⟩
    · cases h
theorem pos_idx {ds : List D} {j : Int} {m : Nat} {y : D} (h1 : posI ds.length j = some m) (h2 : ds[m]? = some y) : idxD (.lst ds) (.int j) = some y := by
  show O.atI ds j = some y
  rw [atI_eq]
  unfold L2.atI
  rw [posI_ix h1]
  exact h2
theorem flat_dj {α : Type} {Bs : List (List α)} (nd : Bs.flatten.Nodup) {i j : Nat} {B C : List α} (hi : Bs[i]? = some B) (hj : Bs[j]? = some C) (ne : i ≠ j) {x : α} (h1 : x ∈ B) (h2 : x ∈ C) : False := by
  obtain ⟨h3, h4⟩ := List.pairwise_flatten.mp nd
  obtain ⟨l1, e1⟩ := List.getElem?_eq_some_iff.mp hi
  obtain ⟨l2, e2⟩ := List.getElem?_eq_some_iff.mp hj
  rw [List.pairwise_iff_getElem] at h4
  rcases Nat.lt_or_gt_of_ne ne with z | z
  · exact h4 i j l1 l2 z x (by rw [e1]; exact h1) x (by rw [e2]; exact h2) rfl
  · exact h4 j i l2 l1 z x (by rw [e2]; exact h2) x (by rw [e1]; exact h1) rfl
/-- a place of an owned list is turned -/
theorem own_set {K : PySem.W.Frag} {P : AP1} {H : Hp} {w : V} {z : D} {j : Int} (rw' : Rep K P H w z) : ∀ {js : List Int} {v : V} {d d' : D} {A : List Addr} {u : V} {y : D}, OwnR K P H (js.length + 1) v d A → A.Nodup → (∀ a ∈ A, P a) → Reach H v d js u y → setAt d js (.int j) z = some d' →
    ∃ p vs m, u = .ref p ∧ p ∈ A ∧ H p = some (.lst vs) ∧ L2.ixN vs.length j = some m ∧ OwnR K P (upd H p (.lst (vs.set m w))) (js.length + 1) v d' A
  | [], v, d, d', A, u, y, o, nd, hP, ⟨h1, h2⟩, hs => by
    subst h1 h2
    have hs : setD y (.int j) z = some d' := hs
    cases y with
    | lst ds =>
      obtain ⟨a, vs, e1, e2, e3, q⟩ := own_one o
      obtain ⟨m, hm, rfl⟩ := Option.map_eq_some_iff.mp (show (posI ds.length j).map (fun j => D.lst (ds.set j z)) = some d' from hs)
      refine ⟨a, vs, m, e1, by rw [e3]; exact List.mem_cons_self, e2, by rw [q.length]; exact posI_ix hm, ?_⟩
      have pa : P a := hP a (by rw [e3]; exact List.mem_cons_self)
      have kp := kp_upd (ws := vs.set m w) pa e2
      rw [e3, e1]
      exact one_own upd_same (Reps.set (rw'.keep kp fun _ _ z => z) m (q.keep kp fun _ _ z => z))
    | _ => cases hs
  | j1 :: js, v, d, d', A, u, y, o, nd, hP, ⟨b, ws, es, m, v1, d1, f1, f2, f3, f4, f5, f6, h⟩, hs => by
    subst f1 f2
    have o : OwnR K P H ((js.length + 1) + 1) (.ref b) (.lst es) A := o
    obtain ⟨a, vs, Bs, g1, g2, g3, q⟩ := own_lst o
    cases g1
    rw [f3] at g2
    cases g2
    obtain ⟨v2, C, h1, h2, h3⟩ := q.get f6
    rw [f5] at h1
    cases h1
    have hs : ((idxD (.lst es) (.int j1)).bind fun y => (setAt y js (.int j) z).bind fun y' => setD (.lst es) (.int j1) y') = some d' := hs
    rw [pos_idx f4 f6] at hs
    obtain ⟨d2, hd2, hs⟩ := Option.bind_eq_some_iff.mp (show ((setAt d1 js (.int j) z).bind fun y' => setD (.lst es) (.int j1) y') = some d' from hs)
    obtain ⟨m', hm', rfl⟩ := Option.map_eq_some_iff.mp (show (posI es.length j1).map (fun j => D.lst (es.set j d2)) = some d' from hs)
    rw [f4] at hm'
    cases hm'
    rw [g3] at nd
    obtain ⟨nb, ndF⟩ := List.nodup_cons.mp nd
    have inA : ∀ {B : List Addr} {x : Addr}, B ∈ Bs → x ∈ B → x ∈ A := fun {B x} hB hx => by rw [g3]; exact List.mem_cons_of_mem _ (List.mem_flatten.mpr ⟨B, hB, hx⟩)
    obtain ⟨p, vs', k, i1, i2, i3, i4, i5⟩ := own_set rw' h3 ((List.pairwise_flatten.mp ndF).1 C (List.mem_of_getElem? h2)) (fun x hx => hP x (inA (List.mem_of_getElem? h2) hx)) h hd2
    have hpA := inA (List.mem_of_getElem? h2) i2
    refine ⟨p, vs', k, i1, hpA, i3, i4, ?_⟩
    have kp := kp_upd (ws := vs'.set k w) (hP p hpA) i3
    refine .inr ⟨b, ws, es.set m d2, Bs, rfl, rfl, ?_, g3, ?_⟩
    · rw [upd_ne]
      · exact f3
      · intro e
        rw [e] at nb
        exact nb (List.mem_flatten.mpr ⟨C, List.mem_of_getElem? h2, i2⟩)
    · have key : All3 (OwnR K P (upd H p (.lst (vs'.set k w))) (js.length + 1)) (ws.set m v1) (es.set m d2) Bs := All3.set m q h2 i5 fun l x y B hl hx hB o => OwnR.keep kp (fun _ _ z => z) (js.length + 1) (fun c hc => upd_ne fun e => by
        subst e
        exact flat_dj ndF hB h2 hl hc i2) o
      rw [set_self f5] at key
      exact key
end O
end
section
set_option Elab.async false
set_option linter.all false
set_option maxRecDepth 100000
/-! Sound19: places of owned lists are stored. -/
namespace O
open PySem PySem.Spec PyProof.Rows L2
theorem upA_id {As : Nat → List Addr} {i : Nat} : upA As i (As i) = As := by
  funext j
  by_cases h : j = i
  · subst h; exact upA_same
  · exact upA_ne h
section
variable {T : Tab} {g : Sg} {Oc : AP1} {W : WX} {σ : St} {H H1 : Hp} {r r1 : Env} {As As1 : Nat → List Addr} {t : List Nat}
theorem Step.same (st : Step T false Oc σ t H r As H1 r1 As1) (en : EnvR T false Oc H σ r As) {i : Nat} (hi : i ∉ t) : ∀ a ∈ As i, H1 a = H a := fun a ha => by
  cases q : H a with
  | none => exact absurd q ((en.sl i).dom a ha)
  | some o => exact st.kp.old a o q fun ⟨j, hj, z⟩ => hi (by rw [en.dj i j a ha z]; exact hj)
def TPo (T : Tab) (W : WX) (i : Nat) (es : List E) (t : List Nat) : TE := fun σ H Q => ∃ Oc r As, EnvR T false Oc H σ r As ∧ ∃ k d v0, getS r i = .val k d ∧ es.length < k ∧ σ[i]?.join = some v0 ∧
  Aft T false Oc σ W (fun _ H' _ _ v y => Reach H' v0 d y.1 v y.2 ∧ y.1.length = es.length) t H r As (pathI es d r) Q
/-- p walks from the owned slot i along es -/
def DPo (T : Tab) (X : Cx) (p : Expr) (i : Nat) (es : List E) (t : List Nat) : Prop := ∀ W : WX, Takes X W → PE X p (TPo T W i es t)
def AftG (T : Tab) (Oc : AP1) (W : WX) (σ : St) (H : Hp) (As : Nat → List Addr) (res : Res Flow) (Q : Hp → Prop) : Prop := match res with
  | .ok .nx r' => ∀ H' As', StepS T [] Oc σ H As σ H' r' As' → Q H'
  | .raise c r' => ∀ H' As', StepS T [] Oc σ H As σ H' r' As' → W (.ref (T.xc c)) none σ H'
  | _ => False
theorem StepS.any {io : List Nat} (s : StepS T [] Oc σ H As σ H1 r1 As1) : StepS T io Oc σ H As σ H1 r1 As1 := ⟨s.env, s.kp, s.gr, fun _ _ => rfl⟩
theorem AftG.from {σ : St} (s : StepS T [] Oc σ H As σ H1 r1 As1) {res : Res Flow} {Q : Hp → Prop} (h : AftG T Oc W σ H As res Q) : AftG T Oc W σ H1 As1 res Q := by
  cases res with
  | ok f r' => cases f with
    | nx => exact fun H' As' st => h H' As' (s.trans st)
    | _ => exact h.elim
  | raise c r' => exact fun H' As' st => h H' As' (s.trans st)
  | stuck => exact h
theorem aftG_bind {α β : Type} {R1 : Hp → Hp → Env → (Nat → List Addr) → β → α → Prop} {x : Res α} {f : α → Env → Res Flow} {Q : Hp → Prop} (h : AftG T Oc W σ H As (x.bind f) Q) :
    Aft T false Oc σ W R1 t H r As x fun v H1 => ∃ r1 As1 d, Step T false Oc σ t H r As H1 r1 As1 ∧ R1 H H1 r1 As1 v d ∧ AftG T Oc W σ H1 As1 (f d r1) Q := by
  cases x with
  | ok d r1 => exact fun v H1 As1 st rs => ⟨r1, As1, d, st, rs, AftG.from (Step.toS st) (show AftG T Oc W σ H As (f d r1) Q from h)⟩
  | raise c r1 => exact fun H1 As1 st => (show ∀ H' As', StepS T [] Oc σ H As σ H' r1 As' → W (.ref (T.xc c)) none σ H' from h) H1 As1 (Step.toS st)
  | stuck => exact h
end
def isNx : Res Flow → Prop
  | .ok .nx _ => True
  | .ok _ _ => False
  | _ => True
theorem aftG_of {T : Tab} {g : Sg} {Oc : AP1} {W : WX} {σ : St} {H : Hp} {As : Nat → List Addr} {res : Res Flow} {D : Ends} (hn : isNx res) (h : AftS T g Oc W σ H As res D) : AftG T Oc W σ H As res (D.nx σ) := by
  cases res with
  | ok f r' => cases f with
    | nx => exact fun H' As' st => h σ H' As' st.any
    | _ => exact hn.elim
  | raise c r' => exact fun H' As' st => h σ H' As' st.any
  | stuck => exact h
theorem isNx_bind {α : Type} {x : Res α} {f : α → Env → Res Flow} (h : ∀ a r, isNx (f a r)) : isNx (x.bind f) := by
  cases x with
  | ok a r => exact h a r
  | raise c r => trivial
  | stuck => trivial
theorem isNx_putp {i : Nat} {es : List E} {v : D} {r : Env} : isNx (S.putp i es v r) := by
  unfold S.putp
  split
  · split
    · exact isNx_bind fun _ _ => trivial
    · trivial
  · trivial
theorem isNx_puts : ∀ {ts : List (Nat × List E)} {vs : List D} {r : Env}, isNx (S.puts ts vs r)
  | [], [], _ => trivial
  | [], _ :: _, _ => trivial
  | _ :: _, [], _ => trivial
  | (i, es) :: ts, v :: vs, r => by
    unfold S.puts
    have h := isNx_putp (i := i) (es := es) (v := v) (r := r)
    cases q : S.putp i es v r with
    | ok f r' =>
      rw [q] at h
      cases f with
      | nx => exact isNx_puts
      | _ => exact h.elim
    | raise c r' => trivial
    | stuck => trivial
theorem setAt_int {x v : D} : ∀ {js : List Int} {d d' : D}, setAt d js x v = some d' → ∃ j, x = .int j
  | [], d, d', h => by
    have h : setD d x v = some d' := h
    unfold setD at h
    split at h
    · exact ⟨_, rfl⟩
    · cases h
  | j :: js, d, d', h => by
    obtain ⟨y, _, h⟩ := Option.bind_eq_some_iff.mp (show ((idxD d (.int j)).bind fun y => (setAt y js x v).bind fun y' => setD d (.int j) y') = some d' from h)
    obtain ⟨y', h, _⟩ := Option.bind_eq_some_iff.mp h
    exact setAt_int h
section
variable {T : Tab} {g : Sg} {X : Cx} {n : Nat} {t t1 t2 : List Nat} {κ κ1 κ2 : Kd} {e a b : Expr} {ee ea eb : E} {pos : Pos}
theorem dpo_nil (i : Nat) {x : PySem.Str} {pos : Pos} (hN : X.N[i]? = some x := by rfl) (hv : Vis X.env.scope x := by first | exact Or.inl rfl | exact Or.inr (Or.inl rfl) | exact Or.inr (Or.inr rfl))
    (hd : (x == ("__debug__" : PySem.Str)) = false := by decide +kernel) (hcd : (x == ("__classdict__" : PySem.Str)) = false := by decide +kernel) : DPo T X (.Name x pos) i [] [] := fun W tk =>
  PE.imp (pe_var hN hv hd hcd) fun σ H Q ⟨Oc, r, As, en, k, d, v0, hg, hk, ev, a⟩ => ⟨v0, join_some ev, aft_end a en Ext.refl ⟨⟨rfl, rfl⟩, rfl⟩⟩
theorem dpo_snoc {p q : Expr} {i : Nat} {es : List E} {e : E} {pos : Pos} (G : Gd T n X) (hp : DPo T X p i es t1) (hq : DE T false X q e κ1 t2) (hi1 : i ∉ t1 := by first | decide | exact nm_of rfl) (hi2 : i ∉ t2 := by first | decide | exact nm_of rfl) (hs : PlainIx q := by intro _ _; rfl) : DPo T X (.Subscript p q pos) i (es ++ [e]) (t1 ++ t2) := fun W tk =>
  PE.imp (pe_ix (r := rIdx T.K) (by have := IxR.or (ix_list (X := X)) (ix_tup (X := X)); rw [G.K] at this; exact this) (hp W tk) (hq W tk) hs) fun σ H Q ⟨Oc, r, As, en, k, d, v0, hg, hk, ev, a⟩ => by
    rw [pathI_snoc] at a
    have w : Wid (fun (_ : Hp) (H' : Hp) (_ : Env) (_ : Nat → List Addr) (v : V) (y : List Int × D) => Reach H' v0 d y.1 v y.2 ∧ y.1.length = (es ++ [e]).length) := fun _ _ _ _ _ _ _ _ h => h
    have hk' : es.length + 1 < k := by simpa using hk
    refine ⟨Oc, r, As, en, k, d, v0, hg, by omega, ev, aft_mono (aft_bind (t2 := t2) w a) fun x H1 ⟨r1, As1, z, st1, ⟨hR, hl⟩, a1⟩ => ?_⟩
    refine ⟨Oc, r1, As1, st1.env, aft_mono (aft_bind0 (R1 := ResR T false Oc σ κ1) w a1) fun y H2 ⟨r2, As2, c2, st2, rs2, a2⟩ => ?_⟩
    obtain ⟨js, y0⟩ := z
    have hg1 : getS r1 i = .val k d := by rw [(st1.sm i hi1).1]; exact hg
    have hg2 : getS r2 i = .val k d := by rw [(st2.sm i hi2).1]; exact hg1
    obtain ⟨m, rfl⟩ : ∃ m, k = js.length + (m + 1) := ⟨k - js.length - 1, by simp only at hl; omega⟩
    obtain ⟨v1, ev1, o1⟩ := slot_own st1.env hg1
    rw [ev] at ev1; cases ev1
    obtain ⟨v2, ev2, o2⟩ := slot_own st2.env hg2
    rw [ev] at ev2; cases ev2
    have hR2 : Reach H2 v0 d js x y0 := hR.keep o1 (st2.same st1.env hi2)
    obtain ⟨B, _, oB⟩ := hR2.own o2
    cases y0 with
    | lst ds => cases c2 with
      | int j =>
        cases hi : idxD (.lst ds) (.int j) with
        | none => simp only [hi] at a2; exact a2.elim
        | some z =>
          simp only [hi] at a2
          obtain ⟨p0, hp0, hz⟩ := idx_pos hi
          obtain ⟨a0, vs, Bs, rfl, e2, _, qq⟩ := own_lst oB
          obtain ⟨u, C, h1, _, _⟩ := qq.get hz
          obtain rfl := rep_int rs2.weak
          refine .inl ⟨a0, vs, j, u, rfl, rfl, SqL.of e2, ?_, ?_⟩
          · unfold L2.atI
            rw [qq.len.1, posI_ix hp0]
            exact h1
          · exact aft_end a2 st2.env Ext.refl ⟨Reach.snoc e2 hp0 h1 hz hR2, by simpa using hl⟩
      | _ => exact a2.elim
    | _ => cases c2 <;> exact a2.elim
def TGp (T : Tab) (W : WX) (i : Nat) (es : List E) : TG := fun v σ H Q => ∃ Oc r As d, EnvR T false Oc H σ r As ∧ Rep T.K (PO Oc As) H v d ∧ AftG T Oc W σ H As (S.putp i es d r) (Q σ)
/-- p as a target is the place es of the owned slot i -/
def DGp (T : Tab) (X : Cx) (p : Expr) (i : Nat) (es : List E) : Prop := ∀ W : WX, Takes X W → PG X p (TGp T W i es)
theorem dgp_sub {p q : Expr} {i : Nat} {es : List E} {e : E} {pos : Pos} (hp : DPo T X p i es t1) (hq : DE T false X q e κ1 t2) (hi1 : i ∉ t1 := by first | decide | exact nm_of rfl) (hi2 : i ∉ t2 := by first | decide | exact nm_of rfl)
    (ha : ∀ v, assign (.Subscript p q pos) X.env v = (do
      let ov ← holding [v] (eval p X.env)
      let iv ← holding [v, ov] (eval q X.env)
      standAt pos
      holding [v, ov, iv] (setItem ov iv v)
      release [v, ov, iv] []) := by intro _; rfl) : DGp T X (.Subscript p q pos) i (es ++ [e]) := fun W tk =>
  PG.impI (pg_sub (hp W tk) (hq W tk) set_list ha) fun v σ H Q hl ⟨Oc, r, As, z, en, rz, h⟩ => by
    unfold S.putp at h
    cases q : getS r i with
    | val k d =>
      simp only [q] at h
      by_cases hk : k = (es ++ [e]).length
      · rw [if_pos hk, setGo_path, res_assoc] at h
        obtain ⟨v0, ev, o⟩ := slot_own en q
        have hk' : k = es.length + 1 := by simpa using hk
        refine ⟨Oc, r, As, en, k, d, v0, q, by omega, ev, aft_mono (aftG_bind h) fun x H1 ⟨r1, As1, z1, st1, ⟨hR, hl⟩, h1⟩ => ?_⟩
        rw [res_assoc] at h1
        refine ⟨Oc, r1, As1, st1.env, aft_mono (aftG_bind (R1 := ResR T false Oc σ κ1) h1) fun y H2 ⟨r2, As2, c2, st2, rs2, h2⟩ => ?_⟩
        obtain ⟨js, y0⟩ := z1
        have hg1 : getS r1 i = .val k d := by rw [(st1.sm i hi1).1]; exact q
        have hg2 : getS r2 i = .val k d := by rw [(st2.sm i hi2).1]; exact hg1
        cases hd : setAt d js c2 z with
        | none => simp only [hd, lift] at h2; exact h2.elim
        | some d' =>
          simp only [hd, lift] at h2
          have h2 : ∀ H' As', StepS T [] Oc σ H2 As2 σ H' (r2.set i (.val k d')) As' → Q σ H' := h2
          obtain ⟨j, rfl⟩ := setAt_int hd
          obtain rfl := rep_int rs2.weak
          obtain ⟨m, rfl⟩ : ∃ m, k = js.length + 1 + m := ⟨k - js.length - 1, by simp only at hl; omega⟩
          obtain rfl : m = 0 := by simp only at hl; omega
          obtain ⟨v1, ev1, o1⟩ := slot_own st1.env hg1
          rw [ev] at ev1; cases ev1
          obtain ⟨v2, ev2, o2⟩ := slot_own st2.env hg2
          rw [ev] at ev2; cases ev2
          have hR2 : Reach H2 v0 d js x y0 := hR.keep (k := 1) o1 (st2.same st1.env hi2)
          have rz2 : Rep T.K (PO Oc As2) H2 v z := (rz.keep st1.kpO st1.po).keep st2.kpO st2.po
          obtain ⟨p0, vs, m, rfl, f2, f3, f4, f5⟩ := own_set rz2 o2 (st2.env.nd i) (fun a ha => .inl ⟨i, ha⟩) hR2 hd
          refine ⟨p0, vs, j, m, rfl, rfl, f3, f4, h2 _ _ (upd_step (B := []) (Step.refl st2.env (t := [])) f2 f3 (fun a h => .inl h) (fun _ z => by cases z)
            (EnvR.updOwn (B := []) (st2.env.lessOc fun a z => z.elim id fun z => by cases z) f2 f3 (fun a h => .inl h) (st2.env.nd i) (fun _ z => by cases z) ⟨v0, ev, ?_⟩))⟩
          rw [upA_id]
          exact f5
      · rw [if_neg hk] at h; exact h.elim
    | _ => simp only [q] at h; exact h.elim
/-- x[..].. = e -/
theorem ds_setp {i : Nat} {es : List E} {tg : Expr} (he : DE T false X e ee κ t) (hg : DGp T X tg i es) (hk : κ.solid = true := by rfl)
    (hs : swapsWithSole [tg] e pos.line X.env = pure false := by rfl) (hw : swappedStores [tg] e X.env = pure none := by rfl) (h1 : (assignEach [tg] X.env).map (·.2) = [assign tg X.env] := by rfl) : DS T g X (.Assign [tg] e pos) (S.setp i es ee) := fun W tk =>
  PS.impI (ps_asg (he W tk) (hg W tk) hs hw h1) fun D σ H hl ⟨Oc, r, As, en, h⟩ => by
    refine ⟨Oc, r, As, en, aft_mono (aftS_bind h) fun x H1 ⟨r1, As1, d, st, rs, a⟩ => ?_⟩
    exact ⟨Oc, r1, As1, d, st.env, rs.rep hk, aftG_of isNx_putp a⟩
def TGps (T : Tab) (W : WX) (ts : List (Nat × List E)) : TGs := fun vs σ H Q => ∃ Oc r As ds, EnvR T false Oc H σ r As ∧ Reps T.K (PO Oc As) H vs ds ∧ AftG T Oc W σ H As (S.puts ts ds r) (Q σ)
def DGps (T : Tab) (X : Cx) (ps : List Expr) (ts : List (Nat × List E)) : Prop := ∀ W : WX, Takes X W → PGs X ps (TGps T W ts)
theorem dgps_nil : DGps T X [] [] := fun W tk => PGs.imp pgs_nil fun vs σ H Q hl ⟨Oc, r, As, ds, en, rp, h⟩ => by
  cases rp with
  | nil => exact ⟨rfl, h H As (.refl en)⟩
  | cons _ _ => exact h.elim
theorem StepS.kpO {T : Tab} {io : List Nat} {Oc : AP1} {σ σ' : St} {H H' : Hp} {As As' : Nat → List Addr} {r' : Env} (s : StepS T io Oc σ H As σ' H' r' As') : Kp (PO Oc As) H H' := s.kp.mono fun _ h => .inl h
theorem StepS.po {T : Tab} {io : List Nat} {Oc : AP1} {σ σ' : St} {H H' : Hp} {As As' : Nat → List Addr} {r' : Env} (s : StepS T io Oc σ H As σ' H' r' As') : ∀ a, H a ≠ none → PO Oc As' a → PO Oc As a := fun a ha h => by
  rcases h with ⟨i, h⟩ | h
  · rcases s.gr i a h with z | z
    · exact .inl ⟨i, z⟩
    · exact absurd z ha
  · exact .inr h
theorem dgps_cons {p : Expr} {ps : List Expr} {i : Nat} {es : List E} {ts : List (Nat × List E)} (h1 : DGp T X p i es) (h2 : DGps T X ps ts) (hs : (assignEach (p :: ps) X.env).map (·.2) = assign p X.env :: (assignEach ps X.env).map (·.2) := by rfl) : DGps T X (p :: ps) ((i, es) :: ts) := fun W tk =>
  PGs.imp (pgs_cons (h1 W tk) (h2 W tk) hs) fun vs σ H Q hl ⟨Oc, r, As, ds, en, rp, h⟩ => by
    cases rp with
    | nil => exact h.elim
    | @cons v d vs ds rv rt =>
      refine ⟨v, vs, rfl, Oc, r, As, d, en, rv, ?_⟩
      unfold S.puts at h
      have hn := isNx_putp (i := i) (es := es) (v := d) (r := r)
      cases q : S.putp i es d r with
      | ok f r' =>
        rw [q] at h hn
        cases f with
        | nx => exact fun H' As' st => ⟨Oc, r', As', ds, st.env, rt.keep st.kpO st.po, AftG.from st h⟩
        | _ => exact hn.elim
      | raise c r' => rw [q] at h; exact h
      | stuck => rw [q] at h; exact h
theorem seqs_len : ∀ {es : List E} {r r' : Env} {vs : List D}, E.seqs es r = .ok vs r' → vs.length = es.length
  | [], _, _, _, h => by cases h; rfl
  | e :: es, r, r', vs, h => by
    have h : ((e r).bind fun x r => (E.seqs es r).bind fun xs r => .ok (x :: xs) r) = .ok vs r' := h
    cases q : e r with
    | ok x r1 =>
      rw [q] at h
      have h : ((E.seqs es r1).bind fun xs r => .ok (x :: xs) r) = .ok vs r' := h
      cases q2 : E.seqs es r1 with
      | ok xs r2 =>
        rw [q2] at h
        cases h
        exact congrArg Nat.succ (seqs_len q2)
      | raise c r2 => rw [q2] at h; cases h
      | stuck => rw [q2] at h; cases h
    | raise c r1 => rw [q] at h; cases h
    | stuck => rw [q] at h; cases h
/-- x[..], y[..] = a, b -/
theorem ds_setps {ps : List Expr} {ts : List (Nat × List E)} {es : List E} {k : Nat} {tpos : Pos} (G : Gs T n X) (he : DE T false X e (E.tup es) κ t) (hg : DGps T X ps ts) (hlen : es.length = ts.length := by rfl) (hk : κ.solid = true := by rfl) (hn : (assignEach ps X.env).length = ts.length := by rfl) (hst : (assignEach ps X.env).findIdx? (·.1) = none := by rfl)
    (hs : swapsWithSole [.Tuple ps k tpos] e pos.line X.env = pure false := by rfl) (hw : swappedStores [.Tuple ps k tpos] e X.env = pure none := by rfl) (h1 : (assignEach [.Tuple ps k tpos] X.env).map (·.2) = [assign (.Tuple ps k tpos) X.env] := by rfl) : DS T g X (.Assign [.Tuple ps k tpos] e pos) (S.setps ts es) := fun W tk =>
  PS.impI (ps_asg (he W tk) (pg_tup G.calm (hg W tk) hn hst) hs hw h1) fun D σ H hl ⟨Oc, r, As, en, h⟩ => by
    have e1 : S.setps ts es r = (E.tup es r).bind fun d r => (match d with
      | .tup vs => if vs.length = ts.length then S.puts ts vs r else .stuck
      | _ => .stuck) := by
      show (E.seqs es r).bind _ = Res.bind ((E.seqs es r).bind _) _
      rw [res_assoc]
      cases q : E.seqs es r with
      | ok vs r1 =>
        show S.puts ts vs r1 = if vs.length = ts.length then S.puts ts vs r1 else .stuck
        rw [if_pos (by rw [seqs_len q, hlen])]
      | raise c r1 => rfl
      | stuck => rfl
    rw [e1] at h
    refine ⟨Oc, r, As, en, aft_mono (aftS_bind h) fun x H1 ⟨r1, As1, d, st, rs, a⟩ => ?_⟩
    cases d with
    | tup ds =>
      obtain ⟨p, vs, rfl, e2, q⟩ := rep_tup (rs.rep hk)
      have a : AftS T g Oc W σ H1 As1 (if ds.length = ts.length then S.puts ts ds r1 else .stuck) D := a
      by_cases ln : ds.length = ts.length
      · rw [if_pos ln] at a
        rw [G.K]
        exact ⟨p, vs, rfl, e2, by rw [q.length, ln], Oc, r1, As1, ds, st.env, q, aftG_of isNx_puts a⟩
      · rw [if_neg ln] at a; exact a.elim
    | _ => exact a.elim
end
end O
end
section
set_option Elab.async false
set_option linter.all false
set_option maxRecDepth 100000
/-! Sound20: more built-ins; the script; calls that are lent something. -/
namespace O
open PySem PySem.Spec PyProof.Rows L2
section
variable {T : Tab} {bo : Bool} {X : Cx} {n : Nat}
variable {a b c e : Expr} {ea eb ec ee : E} {κ1 κ2 κ3 κ : Kd} {t t1 t2 t3 : List Nat} {pos : Pos}
/-! ### x.index(y) -/
theorem index_some : ∀ {y : D} {xs : List D} {j : Nat}, indexL y xs = some j → (∃ z, xs[j]? = some z ∧ eqD z y = true) ∧ ∀ m z', m < j → xs[m]? = some z' → eqD z' y = false
  | y, [], _, h => by cases h
  | y, x :: r, j, h => by
    unfold indexL at h
    by_cases hx : eqD x y = true
    · rw [if_pos hx] at h
      cases h
      exact ⟨⟨x, rfl, hx⟩, fun m z' hm => absurd hm (Nat.not_lt_zero m)⟩
    · rw [if_neg hx] at h
      obtain ⟨k, hk, rfl⟩ := Option.map_eq_some_iff.mp h
      obtain ⟨⟨z, h1, h2⟩, h3⟩ := index_some hk
      refine ⟨⟨z, by simpa using h1, h2⟩, fun m z' hm hz => ?_⟩
      cases m with
      | zero => simp at hz; subst hz; simpa using hx
      | succ m => exact h3 m z' (by omega) (by simpa using hz)
theorem p_indexL {K : PySem.W.Frag} {H : Hp} {p : Addr} {vs : List V} {xs : List D} {v : V} {y : D} {j : Nat} {Q : VK} (e1 : H p = some (.lst vs)) (q : RepsW K H vs xs) (rv : RepW K H v y) (hf : flatD y = true) (hx : xs.all flatD = true) (hj : indexL y xs = some j) (hQ : Q (.int (j : Nat)) H) : rIndex K (.ref p) [v] H Q := by
  obtain ⟨⟨z, h1, h2⟩, h3⟩ := index_some hj
  obtain ⟨u, g1, g2⟩ := q.get h1
  have fz : ∀ {m : Nat} {z : D}, xs[m]? = some z → flatD z = true := fun h => List.all_eq_true.mp hx _ (List.mem_of_getElem? h)
  refine ⟨p, vs, v, j, u, rfl, rfl, SqL.of e1, flat_flat rv hf, flats_flat q hx, g1, ?_, fun m z' hm hz => ?_, hQ⟩
  · rw [flat_eq g2 rv (fz h1) hf]; exact h2
  · obtain ⟨d, k1, k2⟩ := q.get' hz
    rw [flat_eq k2 rv (fz k1) hf]
    exact h3 m d hm k1
theorem d_indexL {apos cpos : Pos} (G : Gd T n X) (ha : DE T bo X a ea κ1 t1) (hb : DE T bo X b eb κ2 t2) (hq : (κ1.solid || t2.isEmpty) = true := by rfl)
    (hbase : attributeBase a "index" X.env (eval a X.env) = eval a X.env := by rfl) (hs : starEach [b] X.env = [(false, eval b X.env)] := by rfl)
    (hfew : ((backTo cpos (starEach [b] X.env)).all (fun x => !x.1) && (backToKw cpos (keywordEach [] X.env)).all (fun x => x.1.isSome) && decide ([b].length + ([] : List Keyword).length + (if ([] : List Keyword).isEmpty then 0 else 1) < 30)) = true := by rfl)
    (hline : (apos.endLine == cpos.line) = true := by rfl) : DE T bo X (.Call (.Attribute a "index" apos) [b] [] cpos) (E.binM isLst indexD ea eb) κ (t1 ++ t2) := fun W tk =>
  PE.imp (pe_bm PySem.F.plainAttrs_list PySem.F.slot_list_index PySem.F.type_list_index mt_index (ha W tk) (pa_cons (hb W tk) pa_nil hs) hbase hfew hline hs rfl) fun σ H Q ⟨Oc, r, As, en, h⟩ => by
    refine ⟨Oc, r, As, en, aft_mono (aft_bind (t2 := t2) (R1 := ResR T bo Oc σ κ1) wid_res h) fun x H1 ⟨r1, As1, c1, st1, rs1, a1⟩ => ?_⟩
    cases c1 with
    | lst xs =>
      obtain ⟨p, vs, rfl, e1, _, _⟩ := rep_lst rs1.weak
      refine ⟨.inl ⟨rfl, vs, SqL.of e1⟩, Oc, r1, As1, st1.env, aft_mono (aft_bind0 (R1 := ResR T bo Oc σ κ2) wid_res a1) fun y H2 ⟨r2, As2, c2, st2, rs2, a2⟩ => ?_⟩
      have rs1' := rs1.stay st2 hq
      obtain ⟨p', vs', e0, e1', _, q⟩ := rep_lst rs1'.weak
      cases e0
      cases hi : indexD (.lst xs) c2 with
      | none => rw [hi] at a2; exact a2.elim
      | some w =>
        rw [hi] at a2
        have hi : (if flatD c2 && xs.all flatD then (indexL c2 xs).map fun (n : Nat) => D.int n else none) = some w := hi
        by_cases hc : (flatD c2 && xs.all flatD) = true
        · rw [if_pos hc] at hi
          obtain ⟨j, hj, rfl⟩ := Option.map_eq_some_iff.mp hi
          obtain ⟨h1, h2⟩ := Bool.and_eq_true_iff.mp hc
          rw [G.K]
          exact p_indexL e1' q rs2.weak h1 h2 hj (aft_end a2 st2.env Ext.refl (res_flat rfl st2.env (.int _)))
        · rw [if_neg hc] at hi; cases hi
    | _ => exact a1.elim
/-! ### sorted(x), list(range(n)), tuple(range(n)) -/
theorem p_sorted {κ1 κ : Kd} (hk : κ = .s ∨ κ = .f 1 ∨ κ = .f 0) : Pr1 T (fun v => rSortedI T.K [v]) sortedD κ1 κ := by
  intro bo Oc σ W H0 H r As x c e Q en r1 hf a
  cases c with
  | lst xs => exact p_sortedL hk en r1 hf a
  | _ => cases hf
theorem d_sorted {p : Pos} (G : Gd T n X) (ha : DE T bo X a ea κ1 t) (hk : κ = .s ∨ κ = .f 1 ∨ κ = .f 0 := by decide) (hg : Gl X "sorted" := by rfl) (he : starEach [a] X.env = [(false, eval a X.env)] := by rfl) : DE T bo X (.Call (.Name "sorted" p) [a] [] pos) (E.un sortedD ea) κ t :=
  d_call1B (b := .sorted) G cr_sortedI (by decide +kernel) (by rw [G.K]; exact p_sorted hk) ha rfl hg (by decide +kernel) (by decide +kernel) he
theorem rg_reps {K : PySem.W.Frag} {P : AP1} {H : Hp} (m : Int) : Reps K P H (rgV 0 m) (rangeL m) := by
  have e1 : rgV 0 m = ((List.range m.toNat).map fun (i : Nat) => (i : Int)).map V.int := by
    unfold rgV
    simp
  have e2 : rangeL m = ((List.range m.toNat).map fun (i : Nat) => (i : Int)).map D.int := by
    unfold rangeL
    simp
  rw [e1, e2]
  exact ints_reps _
theorem rg_ok {m : Int} (h : 0 ≤ m ∧ m ≤ LIM) : RgOk 0 m := by
  have : LIM = 16777216 := rfl
  have := lim_line
  refine ⟨by decide, by decide, by omega, by omega, ?_⟩
  omega
theorem d_listRg {p q pos2 : Pos} (G : Gd T n X) (ha : DE T bo X a ea κ1 t) (hk : κ = .s ∨ κ = .f 1 ∨ κ = .f 0 := by decide) (hg : Gl X "list" := by rfl) (hg2 : Gl X "range" := by rfl) (na : starEach [a] X.env = (false, eval a X.env) :: starEach [] X.env := by rfl)
    (nb : starEach [.Call (.Name "range" q) [a] [] pos2] X.env = (false, eval (.Call (.Name "range" q) [a] [] pos2) X.env) :: starEach [] X.env := by rfl) : DE T bo X (.Call (.Name "list" p) [.Call (.Name "range" q) [a] [] pos2] [] pos) (E.un listRangeD ea) κ t := fun W tk =>
  PE.imp (pe_listRg G.calm hg (G.bn .list) (prg_1 hg2 (G.bn .range) (ha W tk) na) nb) fun σ H Q ⟨Oc, r, As, en, h⟩ => by
    refine ⟨Oc, r, As, en, aft_mono (aft_bind0 (R1 := ResR T bo Oc σ κ1) wid_res h) fun x H1 ⟨r1, As1, c1, st1, rs1, a1⟩ => ?_⟩
    cases c1 with
    | int m =>
      have a1 : Aft T bo Oc σ W (ResR T bo Oc σ κ) [] H1 r1 As1 (lift (if 0 ≤ m ∧ m ≤ LIM then some (.lst (rangeL m)) else none) r1) Q := a1
      by_cases hm : 0 ≤ m ∧ m ≤ LIM
      · rw [if_pos hm] at a1
        exact ⟨m, rep_int rs1.weak, rg_ok hm, fun q hq => aft_end a1 st1.env (Ext.upd hq) (res_new hk st1.env (fun _ z => z) hq (rg_reps m))⟩
      · rw [if_neg hm] at a1; exact a1.elim
    | _ => exact a1.elim
theorem d_tupRg {p q pos2 : Pos} (G : Gd T n X) (ha : DE T bo X a ea κ1 t) (hg : Gl X "tuple" := by rfl) (hg2 : Gl X "range" := by rfl) (na : starEach [a] X.env = (false, eval a X.env) :: starEach [] X.env := by rfl)
    (nb : starEach [.Call (.Name "range" q) [a] [] pos2] X.env = (false, eval (.Call (.Name "range" q) [a] [] pos2) X.env) :: starEach [] X.env := by rfl) : DE T bo X (.Call (.Name "tuple" p) [.Call (.Name "range" q) [a] [] pos2] [] pos) (E.un tupleRangeD ea) κ t := fun W tk =>
  PE.imp (pe_tupRg G.calm hg (G.bn .tuple) (prg_1 hg2 (G.bn .range) (ha W tk) na) nb) fun σ H Q ⟨Oc, r, As, en, h⟩ => by
    refine ⟨Oc, r, As, en, aft_mono (aft_bind0 (R1 := ResR T bo Oc σ κ1) wid_res h) fun x H1 ⟨r1, As1, c1, st1, rs1, a1⟩ => ?_⟩
    cases c1 with
    | int m =>
      have a1 : Aft T bo Oc σ W (ResR T bo Oc σ κ) [] H1 r1 As1 (lift (if 0 ≤ m ∧ m ≤ LIM then some (.tup (rangeL m)) else none) r1) Q := a1
      by_cases hm : 0 ≤ m ∧ m ≤ LIM
      · rw [if_pos hm] at a1
        exact ⟨m, rep_int rs1.weak, rg_ok hm, fun q hq => aft_end a1 st1.env (Ext.upd hq) (res_flat rfl (st1.env.ext (Ext.upd hq)) (rep_newT st1.env hq (rg_reps m)))⟩
      · rw [if_neg hm] at a1; exact a1.elim
    | _ => exact a1.elim
/-! ### the script -/
theorem shp_ints (ns : List Int) : shp 1 (.lst (ns.map .int)) = true := by
  show (ns.map D.int).all (shp 0) = true
  rw [List.all_map]
  exact List.all_eq_true.mpr fun _ _ => rfl
theorem scr_at {Oc : AP1} {H : Hp} {σ : St} {r : Env} {As : Nat → List Addr} {i : Nat} {ns : List Int} (en : EnvR T bo Oc H σ r As) (hg : getS r i = .scr ns) : ∃ p, σ[i]?.join = some (.ref p) ∧ SqL T.K H p (ns.map V.int) := by
  have sl := en.sl i
  rw [hg] at sl
  obtain ⟨_, p, e, h⟩ := sl
  exact ⟨p, e, h.sq⟩
theorem d_scrNe (i : Nat) {x : PySem.Str} {xpos p2 : Pos} (G : Gd T n X) (hN : X.N[i]? = some x := by rfl) (hv : Vis X.env.scope x := by first | exact Or.inl rfl | exact Or.inr (Or.inl rfl) | exact Or.inr (Or.inr rfl))
    (hd : (x == ("__debug__" : PySem.Str)) = false := by decide +kernel) (hcd : (x == ("__classdict__" : PySem.Str)) = false := by decide +kernel) : DE T bo X (.Compare (.Name x xpos) [.NotEq] [.List [] p2] pos) (E.scrNe i) κ [] := fun W tk =>
  PE.imp (pe_cmpR (op_neD (X := X) G.units) (pe_var hN hv hd hcd) (pe_lst pa_nil) (nobehind _ (by decide) (by decide))) fun σ H Q ⟨Oc, r, As, en, h⟩ => by
    unfold E.scrNe at h
    cases q : getS r i with
    | scr ns =>
      simp only [q] at h
      obtain ⟨p, ev, sq⟩ := scr_at en q
      refine ⟨_, join_some ev, Nat.zero_le _, fun p2 hp2 => ?_⟩
      have sq2 : SqL T.K (upd H p2 (.lst [])) p (ns.map V.int) := SqL.ext (Ext.upd hp2) sq
      refine ⟨toPy (.lst (ns.map .int)), toPy (.lst []), by rw [G.K]; exact .lst sq2 (Reps.dp (P := fun _ => False) (ints_reps ns)), by rw [G.K]; exact .lst (SqL.of upd_same) .nil, ?_, rfl, ?_⟩
      · refine (show SeqAt.shaped (toPy (.lst (ns.map .int))) = true from ?_)
        exact Rep.shaped (K := T.K) (P := fun _ => False) (H := upd H 0 (.lst (ns.map V.int))) (v := .ref 0) (.lst upd_same (fun z => z) (ints_reps ns)) (n := 1) (shp_ints ns) (by decide)
      · have e : (!PyData.eqv (toPy (.lst (ns.map .int))) (toPy (.lst []))) = decide (ns ≠ []) := by
          rw [eqv_toPy]
          cases ns <;> rfl
        rw [e]
        exact aft_end h en (Ext.upd hp2) (res_flat rfl (en.ext (Ext.upd hp2)) (.bl _))
    | _ => simp only [q] at h; exact h.elim
theorem d_scrList (i : Nat) {x : PySem.Str} {xpos p : Pos} (G : Gd T n X) (hk : κ = .s ∨ κ = .f 1 ∨ κ = .f 0 := by decide) (hg : Gl X "list" := by rfl) (hN : X.N[i]? = some x := by rfl) (hv : Vis X.env.scope x := by first | exact Or.inl rfl | exact Or.inr (Or.inl rfl) | exact Or.inr (Or.inr rfl))
    (hd : (x == ("__debug__" : PySem.Str)) = false := by decide +kernel) (hcd : (x == ("__classdict__" : PySem.Str)) = false := by decide +kernel) (he : starEach [.Name x xpos] X.env = [(false, eval (.Name x xpos) X.env)] := by rfl) : DE T bo X (.Call (.Name "list" p) [.Name x xpos] [] pos) (E.scrList i) κ [] := fun W tk =>
  PE.imp (pe_callTy (pos := pos) (p := p) call_list_of hg (G.bn .list) (by decide +kernel) (pa_cons (pe_var hN hv hd hcd) pa_nil he) (by decide +kernel) (by decide +kernel) he rfl) fun σ H Q ⟨Oc, r, As, en, h⟩ => by
    unfold E.scrList at h
    cases q : getS r i with
    | scr ns =>
      simp only [q] at h
      obtain ⟨p, ev, sq⟩ := scr_at en q
      refine ⟨_, join_some ev, p, _, rfl, .inl (by rw [G.K]; exact sq), fun l hl => aft_end h en (Ext.upd hl) (res_new hk en (fun _ z => z) hl (ints_reps ns))⟩
    | _ => simp only [q] at h; exact h.elim
/-- [a, c], a new -/
theorem d_lst2 {k : Nat} {c : Int} {j : Nat} {cpos : Pos} (ha : DE T false X a ea (.f (k + 1)) t) (hs : starEach [a, .Constant (.int c) j cpos] X.env = (false, eval a X.env) :: starEach [.Constant (.int c) j cpos] X.env := by rfl) : DE T false X (.List [a, .Constant (.int c) j cpos] pos) (E.lst [ea, E.int c]) (.f (k + 2)) t := fun W tk =>
  PE.imp (pe_lst (pa_cons (ha W tk) (pa_cons pe_int pa_nil rfl) hs)) fun σ H Q ⟨Oc, r, As, en, h⟩ => by
    have e : E.lst [ea, E.int c] r = (ea r).bind fun x r => .ok (.lst [x, .int c]) r := by
      show Res.bind ((ea r).bind _) _ = _
      rw [res_assoc]; rfl
    rw [e] at h
    refine ⟨Oc, r, As, en, ?_⟩
    cases hq : ea r with
    | ok c1 r1 =>
      rw [hq] at h
      have h : ∀ v H' As', Step T false Oc σ t H r As H' r1 As' → ResR T false Oc σ (.f (k + 2)) H H' r1 As' v (.lst [c1, .int c]) → Q v H' := h
      intro x H1 As1 st1 rs1
      refine ⟨by show 2 ≤ sizeLine; decide, fun p hp => ?_⟩
      obtain ⟨A, o, nd, fr, ex⟩ := rs1
      have Adom := OwnR.dom (k + 1) o
      have pA : p ∉ A := fun z => Adom p z hp
      have pn : ¬ PO Oc As1 p := fun z => st1.env.dom p z hp
      have ext := Ext.upd (o := .lst [x, .int c]) hp
      have hp0 : H p = none := by
        cases q : H p with
        | none => rfl
        | some o => exact absurd hp (st1.kp.dom p (by rw [q]; simp))
      refine h (.ref p) _ As1 ⟨st1.env.ext ext, st1.kp.trans (ext.kp (P := fun _ => False)) (fun _ z => z) (fun _ _ z => z.elim), st1.gr, st1.sm⟩ ⟨p :: A, ?_, List.nodup_cons.mpr ⟨pA, nd⟩, ?_, ?_⟩
      · refine .inr ⟨p, [x, .int c], [c1, .int c], [A, []], rfl, rfl, upd_same, by simp, ?_, .inl ⟨rfl, rfl, .int c⟩, trivial⟩
        refine OwnR.keep ext.kp (fun a ha z => ?_) (k + 1) (fun a ha => upd_ne fun z => pA (by rw [← z]; exact ha)) o
        rcases z with z | z | z
        · exact .inl z
        · exact .inr (.inl z)
        · rcases List.mem_cons.mp z with w | w
          · rw [w] at ha; exact absurd hp ha
          · exact .inr (.inr w)
      · intro a ha
        rcases List.mem_cons.mp ha with w | w
        · rw [w]; exact ⟨hp0, pn⟩
        · exact fr a w
      · have ex2 := ex.addOc (A := [p]) ext (fun a ha => by rw [List.mem_singleton.mp ha]; exact hp) (fun a ha => by rw [List.mem_singleton.mp ha, upd_same]; simp)
        exact ex2.lessOc fun a z => by
          rcases z with z | z
          · exact .inl (.inl z)
          · rcases List.mem_cons.mp z with w | w
            · exact .inr (List.mem_singleton.mpr w)
            · exact .inl (.inr w)
    | raise c1 r1 => rw [hq] at h; exact h
    | stuck => rw [hq] at h; exact h
/-! ### a call that is lent something -/
theorem scalar_rep {K : PySem.W.Frag} {P P' : AP1} {H : Hp} {v : V} {d : D} (hs : E.scalar d = true) (h : Rep K P H v d) : Rep K P' H v d := by
  cases h with
  | non => exact .non
  | bl b => exact .bl b
  | int i => exact .int i
  | str s h1 h2 => exact .str s h1 h2
  | lst _ _ _ => cases hs
  | tup _ _ => cases hs
theorem scalar_flat {d : D} (hs : E.scalar d = true) : scalarD d = true := by cases d <;> first | rfl | cases hs
theorem d_callB {f : Nat} {d : Def} {as : List E.Arg} {p0 : Expr} {ps : List Expr} {x : PySem.Str} {q pos : Pos} (G : Gd T n X) (ha : DAg T X (p0 :: ps) as t) (hp : T.pr f = true := by rfl) (ht : tbl[f]? = some d := by rfl) (hx : T.nm f = x := by rfl) (hio : ioPos 0 as = d.io := by rfl) (hnp : as.length = d.np := by rfl) (hno : ioSl as = [] := by rfl)
    (hrk : d.rk = 0 := by rfl) (hg : Gl X x := by rfl) (hdb : (x == ("__debug__" : PySem.Str)) = false := by decide +kernel) (he : starEach (p0 :: ps) X.env = (false, eval p0 X.env) :: starEach ps X.env := by rfl) (hpl : (backTo pos (starEach ps X.env)).any (·.1) = false := by rfl) :
    DE T false X (.Call (.Name x q) (p0 :: ps) [] pos) (E.callB (run n) f as) κ t := fun W tk => by
  obtain ⟨d', a, fd, pn, e1, F, hm, hk, hbn⟩ := (G.fns f hp).ex
  rw [ht] at e1
  cases e1
  rw [hx] at hm
  have nd : (ioSl as).Nodup := by rw [hno]; exact List.nodup_nil
  refine PE.imp (pe_callS (pos := pos) (p := q) (E := WE W) F (G.room.mono (by omega)) hg hm hk hbn (fun σ => passAt tk σ) (ha W tk) hdb he hpl) fun σ H Q ⟨Oc, r, As, en, h⟩ => ?_
  have h : Aft T false Oc σ W (ResR T false Oc σ κ) t H r As ((E.call (run n) f as r).bind fun d r => if E.scalar d then .ok d r else .stuck) Q := h
  unfold E.call at h
  rw [res_assoc] at h
  refine ⟨Oc, r, As, en, aft_mono (aft_bind0 (R1 := RRg T Oc σ as) wid_res h) fun vs H1 ⟨r1, As1, ss, st1, rs1, a1⟩ => ?_⟩
  refine ⟨_, _, _, call_start st1.env rs1 nd (by rw [hno]; exact fun _ _ z => by cases z), by rw [(args_len rs1).1, hnp], ?_⟩
  unfold CAft
  cases q : run n f (E.resolve as ss r1) with
  | ok x outs =>
    rw [q] at a1
    simp only at a1
    cases hput : E.putOuts as outs r1 with
    | none => rw [hput] at a1; exact a1.elim
    | some r2 =>
      rw [hput] at a1
      intro v H' Ac P R
      have st := call_step st1.env rs1 nd (.inr hno) hio hnp hput P
      rw [hno] at st
      have a1 : Aft T false Oc σ W (ResR T false Oc σ κ) [] H1 r1 As1 (if E.scalar x then .ok x r2 else .stuck) Q := a1
      by_cases hs : E.scalar x = true
      · rw [if_pos hs] at a1
        refine a1 v H' _ st ?_
        unfold RetP at R
        rw [hrk] at R
        exact res_flat (scalar_flat hs) st.env (scalar_rep hs R)
      · rw [if_neg hs] at a1; exact a1.elim
  | raise c outs =>
    rw [q] at a1
    simp only at a1
    cases hput : E.putOuts as outs r1 with
    | none => rw [hput] at a1; exact a1.elim
    | some r2 =>
      rw [hput] at a1
      intro H' Ac P
      have st := call_step st1.env rs1 nd (.inr hno) hio hnp hput P
      rw [hno] at st
      exact a1 H' _ st
  | stuck => rw [q] at a1; exact a1.elim
end
end O
end
section
set_option Elab.async false
set_option linter.all false
set_option maxRecDepth 100000
/-! Sound21: comparisons as tests; branches; an empty list. -/
namespace O
open PySem PySem.Spec PyProof.Rows L2
section
variable {T : Tab} {bo : Bool} {X : Cx} {n : Nat}
variable {a b c e : Expr} {ea eb ec ee : E} {κ1 κ2 κ3 κ : Kd} {t t1 t2 t3 : List Nat} {pos : Pos}
theorem tt_te {W : WX} {σ : St} {H : Hp} {Q : Bool → Hp → Prop} (h : TTv T bo W ea t σ H Q) : TEv T bo W ea .s t σ H fun x H' => ∃ k, x = .bl k ∧ Q k H' := by
  obtain ⟨Oc, r, As, en, h⟩ := h
  refine ⟨Oc, r, As, en, ?_⟩
  unfold Aft
  cases q : ea r with
  | ok d r' =>
    rw [q] at h
    cases d with
    | bl b =>
      intro v H' As' st rs
      exact ⟨b, rep_bl rs.weak, h H' As' st⟩
    | _ => exact h.elim
  | raise c r' => rw [q] at h; exact h
  | stuck => rw [q] at h; exact h.elim
theorem dt_cmp {op : CmpOp} {f : D → D → Option D} {rr : R2} (ho : OpR X (compareOp op) rr) (pr : Pr2 T rr f κ1.dn κ2 .s) (ha : DE T bo X a ea κ1 t1) (hb : DE T bo X b eb κ2 t2) (hq : (κ1.solid || t2.isEmpty) = true) (hm : behindInMarks op b = false) :
    DT T bo X (.Compare a [op] [b] pos) (E.bin f ea eb) (t1 ++ t2) := fun W tk => PT.imp (pt_cmpR ho (ha W tk) (hb W tk) hm) fun σ H Q h => t_two pr hq (tt_te h)
theorem dt_lt (ha : DE T bo X a ea κ1 t1) (hb : DE T bo X b eb κ2 t2) (hq : (κ1.solid || t2.isEmpty) = true := by rfl) : DT T bo X (.Compare a [.Lt] [b] pos) (E.bin ltD ea eb) (t1 ++ t2) := dt_cmp op_lt p_lt ha hb hq (nobehind _ (by decide) (by decide))
theorem dt_le (ha : DE T bo X a ea κ1 t1) (hb : DE T bo X b eb κ2 t2) (hq : (κ1.solid || t2.isEmpty) = true := by rfl) : DT T bo X (.Compare a [.LtE] [b] pos) (E.bin leD ea eb) (t1 ++ t2) := dt_cmp op_le p_le ha hb hq (nobehind _ (by decide) (by decide))
theorem dt_gt (ha : DE T bo X a ea κ1 t1) (hb : DE T bo X b eb κ2 t2) (hq : (κ1.solid || t2.isEmpty) = true := by rfl) : DT T bo X (.Compare a [.Gt] [b] pos) (E.bin gtD ea eb) (t1 ++ t2) := dt_cmp op_gt p_gt ha hb hq (nobehind _ (by decide) (by decide))
theorem dt_ge (ha : DE T bo X a ea κ1 t1) (hb : DE T bo X b eb κ2 t2) (hq : (κ1.solid || t2.isEmpty) = true := by rfl) : DT T bo X (.Compare a [.GtE] [b] pos) (E.bin geD ea eb) (t1 ++ t2) := dt_cmp op_ge p_ge ha hb hq (nobehind _ (by decide) (by decide))
theorem dt_eq (G : Gd T n X) (ha : DE T bo X a ea κ1 t1) (hb : DE T bo X b eb κ2 t2) (hq : (κ1.solid || t2.isEmpty) = true := by rfl) : DT T bo X (.Compare a [.Eq] [b] pos) (E.eq ea eb) (t1 ++ t2) :=
  dt_cmp (rr := rEqD T.K) (by have := op_eqD (X := X) G.units; rw [G.K] at this; exact this) p_eq ha hb hq (nobehind _ (by decide) (by decide))
theorem dt_ne (G : Gd T n X) (ha : DE T bo X a ea κ1 t1) (hb : DE T bo X b eb κ2 t2) (hq : (κ1.solid || t2.isEmpty) = true := by rfl) : DT T bo X (.Compare a [.NotEq] [b] pos) (E.ne ea eb) (t1 ++ t2) :=
  dt_cmp (rr := rNeD T.K) (by have := op_neD (X := X) G.units; rw [G.K] at this; exact this) p_ne ha hb hq (nobehind _ (by decide) (by decide))
theorem dt_in (G : Gd T n X) (ha : DE T bo X a ea κ1 t1) (hb : DE T bo X b eb κ2 t2) (hq : (κ1.solid || t2.isEmpty) = true := by rfl) (hm : behindInMarks .In b = false := by rfl) : DT T bo X (.Compare a [.In] [b] pos) (E.inn ea eb) (t1 ++ t2) :=
  dt_cmp (rr := rInAll T.K false) (by have := OpR.or (op_inD (X := X) G.units1) (OpR.or (op_in_seq (X := X)) op_in_sign); rw [G.K] at this; exact this) p_in ha hb hq hm
theorem dt_notin (G : Gd T n X) (ha : DE T bo X a ea κ1 t1) (hb : DE T bo X b eb κ2 t2) (hq : (κ1.solid || t2.isEmpty) = true := by rfl) (hm : behindInMarks .NotIn b = false := by rfl) : DT T bo X (.Compare a [.NotIn] [b] pos) (E.notin ea eb) (t1 ++ t2) :=
  dt_cmp (rr := rInAll T.K true) (by have := OpR.or (op_notInD (X := X) G.units1) (OpR.or (op_notIn_seq (X := X)) op_notIn_sign); rw [G.K] at this; exact this) p_notin ha hb hq hm
theorem dt_isn {j pos'} (ha : DE T bo X a ea κ1 t) : DT T bo X (.Compare a [.Is] [.Constant .none j pos'] pos) (E.isn ea) t := fun W tk => PT.imp (pt_cmp (pc_isN (ha W tk)) (nobehind _ (by decide) (by decide))) fun σ H Q h => t_one p_isn (tt_te h)
theorem dt_notn {j pos'} (ha : DE T bo X a ea κ1 t) : DT T bo X (.Compare a [.IsNot] [.Constant .none j pos'] pos) (E.notn ea) t := fun W tk => PT.imp (pt_cmp (pc_notN (ha W tk)) (nobehind _ (by decide) (by decide))) fun σ H Q h => t_one p_notn (tt_te h)
theorem dt_isb {q : Bool} {j pos'} (ha : DE T bo X a ea κ1 t) : DT T bo X (.Compare a [.Is] [.Constant (.bool q) j pos'] pos) (E.isb q ea) t := fun W tk =>
  PT.imp (pt_cmpR op_isBl (ha W tk) pe_bl (nobehind _ (by decide) (by decide))) fun σ H Q h => t_one (rr := fun x H Q => rIsB x (.bl q) H Q) p_isb (tt_te h)
theorem dt_notb {q : Bool} {j pos'} (ha : DE T bo X a ea κ1 t) : DT T bo X (.Compare a [.IsNot] [.Constant (.bool q) j pos'] pos) (E.notb q ea) t := fun W tk =>
  PT.imp (pt_cmpR op_notBl (ha W tk) pe_bl (nobehind _ (by decide) (by decide))) fun σ H Q h => t_one (rr := fun x H Q => rNotB x (.bl q) H Q) p_notb (tt_te h)
theorem t_chain {W : WX} {f g : D → D → Option D} {p q : Int → Int → Bool} (hf : ∀ c d e, f c d = some e → ∃ i j, c = .int i ∧ d = .int j ∧ e = .bl (p i j)) (hg : ∀ c d e, g c d = some e → ∃ i j, c = .int i ∧ d = .int j ∧ e = .bl (q i j)) (hq : (κ1.solid || t2.isEmpty) = true) (hq2 : (κ2.solid || t3.isEmpty) = true)
    {σ : St} {H : Hp} {Q : VK} (h : TEv T bo W (E.chain f g ea eb ec) κ (t1 ++ (t2 ++ t3)) σ H Q) : tChain (rI0 fun i j => .bl (p i j)) (rI0 fun i j => .bl (q i j)) (TEv T bo W ea κ1 t1) (TEv T bo W eb κ2 t2) (TEv T bo W ec κ3 t3) σ H Q := by
  obtain ⟨Oc, r, As, en, h⟩ := h
  refine ⟨Oc, r, As, en, aft_mono (aft_bind (t2 := t2 ++ t3) wid_res h) fun x H1 ⟨r1, As1, c1, st1, rs1, a1⟩ => ?_⟩
  refine ⟨Oc, r1, As1, st1.env, aft_mono (aft_bind (t1 := t2) (t2 := t3) wid_res a1) fun y H2 ⟨r2, As2, c2, st2, rs2, a2⟩ => ?_⟩
  have rs1' := rs1.stay st2 hq
  cases e : f c1 c2 with
  | none => rw [e] at a2; exact a2.elim
  | some z =>
    obtain ⟨i, j, rfl, rfl, rfl⟩ := hf _ _ _ e
    rw [e] at a2
    refine ⟨i, j, rep_int rs1'.weak, rep_int rs2.weak, p i j, rfl, ?_⟩
    cases hp : p i j with
    | false =>
      rw [hp] at a2
      rw [if_neg (by decide)]
      exact a2 _ _ _ (.refl st2.env) (res_flat rfl st2.env (.bl _))
    | true =>
      rw [hp] at a2
      rw [if_pos rfl]
      refine ⟨Oc, r2, As2, st2.env, aft_mono (aft_bind0 wid_res a2) fun w H3 ⟨r3, As3, c3, st3, rs3, a3⟩ => ?_⟩
      have rs2' := rs2.stay st3 hq2
      obtain ⟨z2, e2, a4⟩ := wis a3
      obtain ⟨i2, j2, h1, rfl, rfl⟩ := hg _ _ _ e2
      cases h1
      exact ⟨_, _, rep_int rs2'.weak, rep_int rs3.weak, aft_end a4 st3.env Ext.refl (res_flat rfl st3.env (.bl _))⟩
theorem dt_leLe (ha : DE T bo X a ea κ1 t1) (hb : DE T bo X b eb κ2 t2) (hc : DE T bo X c ec κ3 t3) (hq : (κ1.solid || t2.isEmpty) = true := by rfl) (hq2 : (κ2.solid || t3.isEmpty) = true := by rfl) (hm : lastMarks [.LtE, .LtE] [b, c] = false := by with_unfolding_all rfl) :
    DT T bo X (.Compare a [.LtE, .LtE] [b, c] pos) (E.chain leD leD ea eb ec) (t1 ++ (t2 ++ t3)) := fun W tk => PT.imp (pt_chain op_le op_le (ha W tk) (hb W tk) (hc W tk) hm) fun σ H Q h => t_chain le_inv le_inv hq hq2 (tt_te h)
theorem dt_leLt (ha : DE T bo X a ea κ1 t1) (hb : DE T bo X b eb κ2 t2) (hc : DE T bo X c ec κ3 t3) (hq : (κ1.solid || t2.isEmpty) = true := by rfl) (hq2 : (κ2.solid || t3.isEmpty) = true := by rfl) (hm : lastMarks [.LtE, .Lt] [b, c] = false := by with_unfolding_all rfl) :
    DT T bo X (.Compare a [.LtE, .Lt] [b, c] pos) (E.chain leD ltD ea eb ec) (t1 ++ (t2 ++ t3)) := fun W tk => PT.imp (pt_chain op_le op_lt (ha W tk) (hb W tk) (hc W tk) hm) fun σ H Q h => t_chain le_inv lt_inv hq hq2 (tt_te h)
theorem DE.more (h : DE T bo X a ea κ t) (ht : ∀ i, i ∈ t → i ∈ t1) : DE T bo X a ea κ t1 := h.wid (fun _ _ _ _ _ _ _ _ r => r) ht
/-- a if c else b -/
theorem d_if (hc : DT T bo X c ec t1) (ha : DE T bo X a ea κ t2) (hb : DE T bo X b eb κ t3) : DE T bo X (.IfExp c a b pos) (E.ite ec ea eb) κ (t1 ++ (t2 ++ t3)) :=
  d_ite hc (ha.more fun i z => List.mem_append_left _ z) (hb.more fun i z => List.mem_append_right _ z)
/-- [], owned to any depth -/
theorem d_nil {k : Nat} : DE T bo X (.List [] pos) (E.lst []) (.f (k + 1)) [] := fun W tk =>
  PE.imp (pe_lst pa_nil) fun σ H Q ⟨Oc, r, As, en, h⟩ => by
    refine ⟨Nat.zero_le _, fun p hp => ?_⟩
    have ext := Ext.upd (o := .lst []) hp
    refine aft_end (v := .ref p) h en ext ⟨[p], .inr ⟨p, [], [], [], rfl, rfl, upd_same, rfl, trivial⟩, by simp, fun a ha => ?_, en.addOc ext (fun a ha => by rw [List.mem_singleton.mp ha]; exact hp) fun a ha => by rw [List.mem_singleton.mp ha, upd_same]; simp⟩
    rw [List.mem_singleton.mp ha]
    exact ⟨hp, fun z => en.dom p z hp⟩
end
end O
end
section
set_option Elab.async false
set_option linter.all false
set_option maxRecDepth 100000
/-! Sound22: the draw of the laws. -/
namespace O
open PySem PySem.Spec PyProof.Rows L2
section
variable {T : Tab}
theorem own_town {K : PySem.W.Frag} {P : AP1} {H : Hp} {v : V} {ns : List D} {c : Int} {A : List Addr} {nums : List Int} (h : OwnR K P H 2 v (.lst [.lst ns, .int c]) A) (hn : intsOf ns = some nums) :
    ∃ a b, v = .ref a ∧ H a = some (.lst [.ref b, .int c]) ∧ H b = some (.lst (nums.map V.int)) ∧ A = [a, b] := by
  obtain ⟨a, vs, Bs, e1, e2, e3, q⟩ := own_lst h
  match vs, Bs, q with
  | [v0, v1], [B0, B1], ⟨q0, q1, _⟩ =>
    obtain ⟨b, ws, f1, f2, f3, f4⟩ := own_one q0
    obtain rfl := intsOf_some hn
    rcases q1 with ⟨_, g2, g3⟩ | ⟨_, _, _, _, _, z, _⟩
    · obtain rfl := rep_int g3
      rw [reps_ints f4] at f2
      exact ⟨a, b, e1, by rw [e2, f1], f2, by rw [e3, f3, g2]; rfl⟩
    · cases z
  | [], _, q => match q with | z => cases ‹List (List Addr)› <;> exact z.elim
  | [_], Bs, q => match Bs, q with
    | [], z => exact z.elim
    | _ :: _, ⟨_, z⟩ => cases z
  | _ :: _ :: _ :: _, Bs, q => match Bs, q with
    | [], z => exact z.elim
    | [_], ⟨_, z⟩ => cases z
    | _ :: _ :: _, ⟨_, _, z⟩ => cases z
  | [_, _], [], q => exact q.elim
  | [_, _], [_], ⟨_, q⟩ => exact q.elim
  | [_, _], _ :: _ :: _ :: _, ⟨_, _, q⟩ => exact q.elim
theorem town_own {K : PySem.W.Frag} {P : AP1} {H : Hp} {a b : Addr} {c : Int} {nums : List Int} (h1 : H a = some (.lst [.ref b, .int c])) (h2 : H b = some (.lst (nums.map V.int))) : OwnR K P H 2 (.ref a) (townD nums c) [a, b] :=
  .inr ⟨a, [.ref b, .int c], _, [[b], []], rfl, rfl, h1, rfl, one_own h2 (ints_reps nums), .inl ⟨rfl, rfl, .int c⟩, trivial⟩
def t_town1 (K : PySem.W.Frag) : TE := tOp (rIxL K) (tVar 0) (tC (.int 1))
abbrev rAd : R2 := rI0 fun i j => .int (i + j)
abbrev rMu : R2 := rI CMul fun i j => .int (i * j)
abbrev rDv : R2 := rI CDiv fun i j => .int (i / j)
abbrev rMd : R2 := rI (fun _ j => 0 < j) fun i j => .int (i % j)
abbrev rPw : R2 := rI CPow fun i j => .int (i ^ j.toNat)
def rLenS (K : PySem.W.Frag) : List V → Hp → VK → Prop := fun xs H Q => ∃ p ys, xs = [.ref p] ∧ (SqL K H p ys ∨ SqT K H p ys) ∧ Q (.int ys.length) H
def t_drawEnd : TS := tRet (tOp rMd (tOp rDv (tOp rMd (tOp rAd (tOp rMu (tOp rDv (tVar 5) (tC (.int 64))) (tC (.int 69621))) (tVar 5)) (tC (.int 4294967231))) (tC (.int 8))) (tVar 1))
def t_draw (K : PySem.W.Frag) : TS := tSeq (tAsg (tOp (rIxL K) (tVar 0) (tC (.int 0))) (gName 2)) (tSeq (tAsg (tOp rAd (t_town1 K) (tC (.int 1))) (gSub (tVar 0) (tC (.int 1)) rSetL))
  (tSeq (tAsg (tOp rMd (t_town1 K) (tCB (rLenS K) (tCons (tVar 2) tNil))) (gName 3)) (tSeq (tAsg (tOp (rIxL K) (tVar 2) (tVar 3)) (gName 4))
  (tSeq (tIfS (tTest (tOp (rI0 fun i j => .bl (decide (j ≤ i))) (tVar 4) (tC (.int 1000000000000000000)))) (tSeq (tAsg (tOp rDv (tVar 4) (tVar 1)) (gSub (tVar 2) (tVar 3) rSetL)) (tRet (tOp rMd (tVar 4) (tVar 1)))) tNext)
  (tSeq (tAsg (tOp rMd (tOp rAd (tVar 4) (tOp rMu (tC (.int 104729)) (t_town1 K))) (tC (.int 4294967291))) (gName 5))
  (tSeq (tAsg (tOp rMd (tOp rPw (tVar 5) (tC (.int 5))) (tC (.int 4294967279))) (gName 5)) t_drawEnd))))))
theorem atI_two0 {u v : V} : L2.atI [u, v] 0 = some u := rfl
theorem atI_two1 {u v : V} : L2.atI [u, v] 1 = some v := rfl
theorem atI_nat {α : Type} {xs : List α} {p : Nat} {x : α} (h : xs[p]? = some x) : L2.atI xs (p : Int) = some x := by
  have hp := (List.getElem?_eq_some_iff.mp h).1
  unfold L2.atI L2.ixN
  rw [if_pos (by omega), if_pos (by omega)]
  exact h
theorem ixN_nat {n p : Nat} (h : p < n) : L2.ixN n (p : Int) = some p := by
  unfold L2.ixN
  rw [if_pos (by omega), if_pos (by omega)]
  rfl
theorem draw_pure {W : WX} {D : Ends} {σ : St} {H : Hp} (hl : σ.length = 6) (h : TSv T ⟨[0], 2, 0⟩ W drawBody D σ H) : t_draw T.K D σ H := by
  obtain ⟨Oc, r, As, en, h⟩ := h
  unfold drawBody at h
  split at h
  · rename_i ns c n' hg0 hg1
    split at h
    · rename_i nums hn
      split at h
      · rename_i hc
        obtain ⟨c1, c2, c3, c4, c5⟩ := hc
        obtain ⟨v, ev, o⟩ := slot_own en hg0
        obtain ⟨a, b, rfl, ha, hb, hA⟩ := own_town o hn
        obtain ⟨w, ew, _, rw1⟩ := slot_own en hg1
        obtain rfl := rep_int rw1
        have nab : a ≠ b := by
          have := en.nd 0
          rw [hA] at this
          simpa using this
        have aA : a ∈ As 0 := by rw [hA]; exact List.mem_cons_self
        have bA : b ∈ As 0 := by rw [hA]; exact List.mem_cons_of_mem _ List.mem_cons_self
        match σ, hl, ev, ew with
        | [s0, s1, s2, s3, s4, s5], _, ev, ew =>
          have ev : s0 = some (.ref a) := ev
          have ew : s1 = some (.int n') := ew
          subst ev ew
          -- the count
          have st1 : StepS T [0] Oc [some (.ref a), some (.int n'), s2, s3, s4, s5] H As [some (.ref a), some (.int n'), s2, s3, s4, s5] (upd H a (.lst [.ref b, .int (c + 1)])) (r.set 0 (.val 2 (townD nums (c + 1)))) (upA As 0 (As 0)) := by
            refine upd_step (B := []) (Step.refl en (t := [])) aA ha (fun a h => .inl h) (fun _ z => by cases z) (EnvR.updOwn (B := []) (en.lessOc fun a z => z.elim id fun z => by cases z) aA ha (fun a h => .inl h) (en.nd 0) (fun _ z => by cases z) ⟨.ref a, rfl, ?_⟩)
            rw [hA]
            exact town_own upd_same (by rw [upd_ne (Ne.symm nab)]; exact hb)
          rw [upA_id] at st1
          have hb1 : (upd H a (.lst [.ref b, .int (c + 1)])) b = some (.lst (nums.map V.int)) := by rw [upd_ne (Ne.symm nab)]; exact hb
          have ln : 0 < nums.length := List.length_pos_iff.mpr c3
          have pl : ((c + 1) % (nums.length : Int)).toNat < nums.length := by
            have h1 := Int.emod_nonneg (c + 1) (b := (nums.length : Int)) (by omega)
            have h2 := Int.emod_lt_of_pos (c + 1) (b := (nums.length : Int)) (by omega)
            omega
          have pe : (c + 1) % ((nums.map V.int).length : Int) = ((((c + 1) % (nums.length : Int)).toNat : Nat) : Int) := by
            have h1 := Int.emod_nonneg (c + 1) (b := (nums.length : Int)) (by omega)
            rw [List.length_map]
            omega
          have cell : (nums.map V.int)[((c + 1) % (nums.length : Int)).toNat]? = some (.int (nums.getD ((c + 1) % (nums.length : Int)).toNat 0)) := by
            rw [List.getElem?_map, List.getElem?_eq_getElem pl, List.getD_eq_getElem?_getD, List.getElem?_eq_getElem pl]
            rfl
          refine ⟨_, rfl, a, _, 0, _, rfl, rfl, SqL.of ha, rfl, ?_⟩
          refine ⟨_, rfl, a, _, 1, _, rfl, rfl, SqL.of ha, rfl, _, _, rfl, rfl, _, rfl, a, _, 1, 1, rfl, rfl, ha, rfl, ?_⟩
          refine ⟨_, rfl, a, _, 1, _, rfl, rfl, SqL.of upd_same, rfl, _, rfl, b, _, rfl, .inl (SqL.of hb1), _, _, rfl, rfl, by show (0 : Int) < ((nums.map V.int).length : Nat); rw [List.length_map]; omega, ?_⟩
          refine ⟨_, rfl, _, rfl, b, _, _, _, rfl, rfl, SqL.of hb1, by rw [pe]; exact atI_nat cell, ?_⟩
          refine ⟨_, rfl, _, _, rfl, rfl, _, rfl, ?_⟩
          have dr : ∀ {x : Int × List Int × Int}, drawF nums c n' = x → AftS T ⟨[0], 2, 0⟩ Oc W [some (.ref a), some (.int n'), s2, s3, s4, s5] H As (.ok (.rt (.int x.1)) (r.set 0 (.val 2 (townD x.2.1 x.2.2)))) D := fun e => by rw [← e]; exact h
          by_cases big : (1000000000000000000 : Int) ≤ nums.getD ((c + 1) % (nums.length : Int)).toNat 0
          · rw [decide_eq_true big]; change (if true = true then _ else _); rw [if_pos rfl]
            have e : drawF nums c n' = (nums.getD ((c + 1) % (nums.length : Int)).toNat 0 % n', nums.set ((c + 1) % (nums.length : Int)).toNat (nums.getD ((c + 1) % (nums.length : Int)).toNat 0 / n'), c + 1) := by
              unfold drawF
              simp only
              rw [if_pos big]
            have h := dr e
            refine ⟨_, rfl, _, rfl, _, _, rfl, rfl, ⟨c1, by omega⟩, _, rfl, _, rfl, b, _, _, ((c + 1) % (nums.length : Int)).toNat, rfl, rfl, hb1, by rw [pe, List.length_map]; exact ixN_nat pl, ?_⟩
            refine ⟨_, rfl, _, rfl, _, _, rfl, rfl, c1, ?_⟩
            refine h (.int _) [some (.ref a), some (.int n'), s2, s3, s4, s5] _ (upA As 0 (As 0)) ?_ (.int _)
            have key := EnvR.updOwn (i := 0) (p := b) (vs := nums.map V.int) (ws := (nums.map V.int).set ((c + 1) % (nums.length : Int)).toNat (.int (nums.getD ((c + 1) % (nums.length : Int)).toNat 0 / n'))) (s' := .val 2 (townD (nums.set ((c + 1) % (nums.length : Int)).toNat (nums.getD ((c + 1) % (nums.length : Int)).toNat 0 / n')) (c + 1))) (B := []) (A' := As 0) (st1.env.lessOc fun a z => z.elim id fun z => by cases z) bA hb1 (fun a h => .inl h) (st1.env.nd 0) (fun _ z => by cases z) ⟨.ref a, rfl, by
              rw [hA]
              refine town_own (by rw [upd_ne nab]; exact upd_same) ?_
              rw [upd_same, List.map_set]⟩
            have s3 := st1.trans (upd_step (io := [0]) (B := []) (Step.refl st1.env (t := [])) bA hb1 (fun a h => .inl h) (fun _ z => by cases z) key)
            rw [List.set_set] at s3
            exact s3
          · rw [decide_eq_false big]; change (if false = true then _ else _); rw [if_neg (by decide)]
            have e : drawF nums c n' = ((((nums.getD ((c + 1) % (nums.length : Int)).toNat 0 + 104729 * (c + 1)) % 4294967291) ^ 5 % 4294967279 / 64 * 69621 + ((nums.getD ((c + 1) % (nums.length : Int)).toNat 0 + 104729 * (c + 1)) % 4294967291) ^ 5 % 4294967279) % 4294967231 / 8 % n', nums, c + 1) := by
              unfold drawF
              simp only
              rw [if_neg big]
            have h := dr e
            have m1 := Int.emod_nonneg (nums.getD ((c + 1) % (nums.length : Int)).toNat 0 + 104729 * (c + 1)) (b := 4294967291) (by decide)
            have m2 := Int.emod_lt_of_pos (nums.getD ((c + 1) % (nums.length : Int)).toNat 0 + 104729 * (c + 1)) (b := 4294967291) (by decide)
            have m3 := Int.emod_nonneg (((nums.getD ((c + 1) % (nums.length : Int)).toNat 0 + 104729 * (c + 1)) % 4294967291) ^ 5) (b := 4294967279) (by decide)
            have m4 := Int.emod_lt_of_pos (((nums.getD ((c + 1) % (nums.length : Int)).toNat 0 + 104729 * (c + 1)) % 4294967291) ^ 5) (b := 4294967279) (by decide)
            refine ⟨_, rfl, _, rfl, a, _, 1, _, rfl, rfl, SqL.of upd_same, rfl, _, _, rfl, rfl, .inl ⟨by decide, by decide⟩, _, _, rfl, rfl, _, _, rfl, rfl, (by show (0 : Int) < _; decide), ?_⟩
            refine ⟨_, rfl, _, _, rfl, rfl, ⟨by decide, by decide, by omega⟩, _, _, rfl, rfl, (by show (0 : Int) < _; decide), ?_⟩
            refine ⟨_, rfl, _, _, rfl, rfl, ⟨by decide, by decide⟩, _, _, rfl, rfl, .inl ⟨by omega, by omega⟩, _, rfl, _, _, rfl, rfl, _, _, rfl, rfl, (by show (0 : Int) < _; decide), _, _, rfl, rfl, ⟨by decide, by decide⟩, _, rfl, _, _, rfl, rfl, c1, ?_⟩
            exact h (.int _) [some (.ref a), some (.int n'), s2, s3, s4, s5] _ _ st1 (.int _)
      · exact h.elim
    · exact h.elim
  · exact h.elim
end
end O
end
section
set_option Elab.async false
set_option linter.all false
set_option maxRecDepth 100000
/-! Sound23: two and three names at once; the script as a test. -/
namespace O
open PySem PySem.Spec PyProof.Rows L2
section
variable {T : Tab} {g : Sg} {bo : Bool} {X : Cx} {n : Nat}
variable {a b c e : Expr} {ea eb ec ee : E} {κ1 κ2 κ3 κ : Kd} {t t1 t2 t3 : List Nat} {pos : Pos}
theorem dt_scrNe (i : Nat) {x : PySem.Str} {xpos p2 : Pos} (G : Gd T n X) (hN : X.N[i]? = some x := by rfl) (hv : Vis X.env.scope x := by first | exact Or.inl rfl | exact Or.inr (Or.inl rfl) | exact Or.inr (Or.inr rfl))
    (hd : (x == ("__debug__" : PySem.Str)) = false := by decide +kernel) (hcd : (x == ("__classdict__" : PySem.Str)) = false := by decide +kernel) : DT T bo X (.Compare (.Name x xpos) [.NotEq] [.List [] p2] pos) (E.scrNe i) [] := fun W tk =>
  PT.imp (pt_cmpR (op_neD (X := X) G.units) (pe_var hN hv hd hcd) (pe_lst pa_nil) (nobehind _ (by decide) (by decide))) fun σ H Q h => by
    obtain ⟨Oc, r, As, en, h⟩ := tt_te h
    unfold E.scrNe at h
    cases q : getS r i with
    | scr ns =>
      simp only [q] at h
      obtain ⟨p, ev, sq⟩ := scr_at en q
      refine ⟨_, join_some ev, Nat.zero_le _, fun p2 hp2 => ?_⟩
      have sq2 : SqL T.K (upd H p2 (.lst [])) p (ns.map V.int) := SqL.ext (Ext.upd hp2) sq
      refine ⟨toPy (.lst (ns.map .int)), toPy (.lst []), by rw [G.K]; exact .lst sq2 (Reps.dp (P := fun _ => False) (ints_reps ns)), by rw [G.K]; exact .lst (SqL.of upd_same) .nil, ?_, rfl, ?_⟩
      · exact Rep.shaped (K := T.K) (P := fun _ => False) (H := upd H 0 (.lst (ns.map V.int))) (v := .ref 0) (.lst upd_same (fun z => z) (ints_reps ns)) (n := 1) (shp_ints ns) (by decide)
      · have e : (!PyData.eqv (toPy (.lst (ns.map .int))) (toPy (.lst []))) = decide (ns ≠ []) := by
          rw [eqv_toPy]
          cases ns <;> rfl
        rw [e]
        exact aft_end h en (Ext.upd hp2) (res_flat rfl (en.ext (Ext.upd hp2)) (.bl _))
    | _ => simp only [q] at h; exact h.elim
theorem rep_up {Oc : AP1} {H : Hp} {As : Nat → List Addr} {i : Nat} {v : V} {d : D} (h : Rep T.K (PO Oc As) H v d) : Rep T.K (PO Oc (upA As i [])) H v d := h.keep Kp.refl fun a _ z => by
  rcases po_upA a z with ⟨j, z⟩ | z | z
  · exact .inl ⟨j, z⟩
  · exact .inr z
  · cases z
theorem gr_nil {H : Hp} {As As1 : Nat → List Addr} {i : Nat} (h : ∀ j a, a ∈ As1 j → a ∈ As j ∨ H a = none) : ∀ j a, a ∈ upA As1 i [] j → a ∈ As j ∨ H a = none := gr_upA h fun a ha => by cases ha
theorem reps2 {K : PySem.W.Frag} {P : AP1} {H : Hp} : ∀ {vs : List V} {ds : List D}, Reps K P H vs ds → ds.length = 2 → ∃ v w d e, vs = [v, w] ∧ ds = [d, e] ∧ Rep K P H v d ∧ Rep K P H w e
  | _, _, .cons r1 (.cons r2 .nil), _ => ⟨_, _, _, _, rfl, rfl, r1, r2⟩
  | _, _, .nil, h => by cases h
  | _, _, .cons _ .nil, h => by simp at h
  | _, _, .cons _ (.cons _ (.cons _ _)), h => by simp at h
theorem reps3 {K : PySem.W.Frag} {P : AP1} {H : Hp} : ∀ {vs : List V} {ds : List D}, Reps K P H vs ds → ds.length = 3 → ∃ v w u d e f, vs = [v, w, u] ∧ ds = [d, e, f] ∧ Rep K P H v d ∧ Rep K P H w e ∧ Rep K P H u f
  | _, _, .cons r1 r, h => by
    obtain ⟨w, u, e, f, rfl, rfl, h1, h2⟩ := reps2 r (by simpa using h)
    exact ⟨_, w, u, _, e, f, rfl, rfl, r1, h1, h2⟩
  | _, _, .nil, h => by cases h
theorem par_eq (is : List Nat) (es : List E) (r : Env) : S.unpack is (E.tup es) r = (E.seqs es r).bind fun ds r => match E.setMany is ds r with
    | some r => .ok .nx r
    | none => .stuck := by
  show Res.bind ((E.seqs es r).bind _) _ = _
  rw [res_assoc]
  rfl
/-- x, y = a, b -/
theorem ds_par {i j : Nat} {x y : PySem.Str} {px py pt : Pos} {kt k2 pt2} (G : Gs T n X) (h : DA T false X [a, b] [ea, eb] t) (hij : i ≠ j := by decide) (hio : i ∉ g.io := by first | decide | exact nm_of rfl) (hjo : j ∉ g.io := by first | decide | exact nm_of rfl) (hi : X.N[i]? = some x := by rfl) (hj : X.N[j]? = some y := by rfl) (hx : X.env.scope.names.lookup x = some .local := by rfl) (hy : X.env.scope.names.lookup y = some .local := by rfl)
    (hw : swappedStores [.Tuple [.Name x px, .Name y py] kt pt] (.Tuple [a, b] k2 pt2) X.env = pure (some [x, y]) := by rfl) (hs : swapsWithSole [.Tuple [.Name x px, .Name y py] kt pt] (.Tuple [a, b] k2 pt2) pos.line X.env = pure false := by rfl) :
    DS T g X (.Assign [.Tuple [.Name x px, .Name y py] kt pt] (.Tuple [a, b] k2 pt2) pos) (S.unpack [i, j] (E.tup [ea, eb])) := fun W tk =>
  PS.impI (ps_par G.calm G.nd hi hj hij hx hy (h W tk) hw hs) fun D σ H hl ⟨Oc, r, As, en, h⟩ => by
    rw [par_eq] at h
    refine ⟨Oc, r, As, en, aft_mono (aftS_bind h) fun vs H1 ⟨r1, As1, ds, st, ⟨rs, hd⟩, h1⟩ => ?_⟩
    obtain ⟨v, w, d, e, rfl, rfl, r1', r2'⟩ := reps2 rs hd
    · skip
      refine ⟨v, w, rfl, ?_⟩
      have li : i < r1.length := by rw [st.env.len, hl]; exact lt_of_get hi
      have lj : j < r1.length := by rw [st.env.len, hl]; exact lt_of_get hj
      have e1 := st.env.put0 li r1'
      have e2 := e1.put0 (i := j) (by simpa using lj) (rep_up r2')
      refine h1 _ _ _ ⟨e2, Kp.refl, gr_nil (gr_nil fun _ _ h => .inl h), fun l hl' => ?_⟩
      rw [pin_set hjo l hl', pin_set hio l hl']
theorem ds_par3 {i j l : Nat} {x y z : PySem.Str} {px py pz pt : Pos} {kt k2 pt2} (G : Gs T n X) (h : DA T false X [a, b, c] [ea, eb, ec] t) (hij : i ≠ j := by decide) (hil : i ≠ l := by decide) (hjl : j ≠ l := by decide) (hio : i ∉ g.io := by first | decide | exact nm_of rfl) (hjo : j ∉ g.io := by first | decide | exact nm_of rfl) (hlo : l ∉ g.io := by first | decide | exact nm_of rfl) (hi : X.N[i]? = some x := by rfl) (hj : X.N[j]? = some y := by rfl) (hk : X.N[l]? = some z := by rfl)
    (hx : X.env.scope.names.lookup x = some .local := by rfl) (hy : X.env.scope.names.lookup y = some .local := by rfl) (hz : X.env.scope.names.lookup z = some .local := by rfl)
    (hw : swappedStores [.Tuple [.Name x px, .Name y py, .Name z pz] kt pt] (.Tuple [a, b, c] k2 pt2) X.env = pure (some [x, y, z]) := by rfl) (hs : swapsWithSole [.Tuple [.Name x px, .Name y py, .Name z pz] kt pt] (.Tuple [a, b, c] k2 pt2) pos.line X.env = pure false := by rfl) :
    DS T g X (.Assign [.Tuple [.Name x px, .Name y py, .Name z pz] kt pt] (.Tuple [a, b, c] k2 pt2) pos) (S.unpack [i, j, l] (E.tup [ea, eb, ec])) := fun W tk =>
  PS.impI (ps_par3 G.calm G.nd hi hj hk hij hil hjl hx hy hz (h W tk) hw hs) fun D σ H hl ⟨Oc, r, As, en, h⟩ => by
    rw [par_eq] at h
    refine ⟨Oc, r, As, en, aft_mono (aftS_bind h) fun vs H1 ⟨r1, As1, ds, st, ⟨rs, hd⟩, h1⟩ => ?_⟩
    obtain ⟨v, w, u, d, e, f, rfl, rfl, r1', r2', r3'⟩ := reps3 rs hd
    · skip
      refine ⟨v, w, u, rfl, ?_⟩
      have li : i < r1.length := by rw [st.env.len, hl]; exact lt_of_get hi
      have lj : j < r1.length := by rw [st.env.len, hl]; exact lt_of_get hj
      have lk : l < r1.length := by rw [st.env.len, hl]; exact lt_of_get hk
      have e1 := st.env.put0 li r1'
      have e2 := e1.put0 (i := j) (by simpa using lj) (rep_up r2')
      have e3 := e2.put0 (i := l) (by simpa using lk) (rep_up (rep_up r3'))
      refine h1 _ _ _ ⟨e3, Kp.refl, gr_nil (gr_nil (gr_nil fun _ _ h => .inl h)), fun m hm => ?_⟩
      rw [pin_set hlo m hm, pin_set hjo m hm, pin_set hio m hm]
end
end O
end
section
set_option Elab.async false
set_option linter.all false
set_option maxRecDepth 100000
/-! Sound24: all defs of a text, to any depth; the end of a law. -/
namespace O
open PySem PySem.Spec PyProof.Rows L2
/-- what a def of the text brings -/
structure FB (T : Tab) (P : Program) (w : World) (K : PySem.W.Frag) (mg : PySem.Str → Option Value) (base : Heap) (f : Nat) : Prop where
  ex : ∃ (d : Def) (a : Addr) (fd : FuncData) (ps : List PySem.Str), tbl[f]? = some d ∧ mg (T.nm f) = some (.ref a) ∧ PySem.W.keepIn K (.ref a) = true ∧ Binds K fd ps [] ∧
    ∀ n, Lf T n P w K mg base → FnOk P w K mg base (L2.CX P w) (2 * (n + 1)) a fd ps (spI T (run (n + 1)) f d)
section
variable {T : Tab} {P : Program} {w : World} {K : PySem.W.Frag} {mg : PySem.Str → Option Value} {base : Heap}
theorem lf_all (bn : ∀ b : Bn, mg b.name = none) (xcs : ∀ c, T.xp c = true → XFact T K mg c) (cns : ∀ c, T.cp c = true → CFact T mg c) (fb : ∀ f, T.pr f = true → FB T P w K mg base f) : ∀ n, Lf T n P w K mg base
  | 0 => ⟨bn, fun f hf => by
      obtain ⟨d, a, fd, ps, h1, h2, h3, h4, _⟩ := (fb f hf).ex
      exact ⟨d, a, fd, ps, h1, fn_zero, h2, h3, h4⟩, xcs, cns⟩
  | n + 1 => ⟨bn, fun f hf => by
      obtain ⟨d, a, fd, ps, h1, h2, h3, h4, h5⟩ := (fb f hf).ex
      exact ⟨d, a, fd, ps, h1, h5 n (lf_all bn xcs cns fb n), h2, h3, h4⟩, xcs, cns⟩
/-- the def x at the top, by its body's reading -/
theorem fb_of {f : Nat} {d : Def} {x : PySem.Str} {params : Arguments} {body : List Stmt} {scope : Scope} {a : Addr} {N ps : List PySem.Str} (hK : K = T.K) (F : ∃ fd, FunD K x x params body scope [] [] a fd) (gl : mg x = some (.ref a)) (hx : T.nm f = x) (S : FnScope N ps scope) (ht : tbl[f]? = some d) (hnp : ps.length = d.np) (hN : N.length = d.ns)
    (hb : ∀ (kV doc pm : Value) (an : Option Addr) (cdv ct : Value) (us : List Value), us.length = ps.length → bindArgs (PySem.W.fnOf x x params body scope .none kV doc pm an cdv ct) ⟨us, []⟩ = pure (ps.zip us))
    (hd : ∀ (n : Nat) (cdv : Value) (A : Around) (outer : List PySem.Env) (s : Shared) (H : Hp) (E : XK), Gs T n (cxOf (L2.CX P w) P w K mg base N x scope a cdv A outer s H E) → DSs T ⟨d.io, d.np, d.rk⟩ (cxOf (L2.CX P w) P w K mg base N x scope a cdv A outer s H E) body (d.body (run n)))
    (hle : d.np ≤ d.ns := by decide) (hio : ∀ i ∈ d.io, i < d.np := by decide) : FB T P w K mg base f := by
  obtain ⟨fd, F⟩ := F
  exact ⟨d, a, fd, ps, ht, by rw [hx]; exact gl, F.kp, F.bindsN hb, fun n L => fn_rule hK L F S ht hnp hN hle hio (hd n)⟩
theorem x_fact {h : Heap} (X : K.In h) (G : h.Ns mainGlobals mg) {c : Nat} {x : PySem.Str} (hx : T.xn c = x) (hc : T.xc c = He.ga K x) (f1 : (He.Fa.exc x).ok K = true) (f2 : (He.Fa.glo x).ok K = true) : XFact T K mg c := by
  obtain ⟨h1, h2, h3, h4⟩ := He.exc_ok f1
  exact ⟨by rw [hc]; exact h1, by rw [hx, hc]; exact He.glo_ok X G f2, by rw [hc]; exact h2, by rw [hc]; exact h3, by rw [hc]; exact h4⟩
theorem c_int {h : Heap} (X : K.In h) (G : h.Ns mainGlobals mg) {c : Nat} {x : PySem.Str} {i : Int} (hx : T.cn c = x) (hd : T.cd c = .int i) (f1 : (He.Fa.int x i).ok K = true) : CFact T mg c := by
  obtain ⟨t, e⟩ := He.int_ok X G f1
  exact ⟨.int i, _, by rw [hx]; exact e, ⟨t, rfl⟩, fun P H => by rw [hd]; exact .int i⟩
end
/-- nothing gets out -/
theorem fn_quiet {P : Program} {w : World} {K : PySem.W.Frag} {mg : PySem.Str → Option Value} {base : Heap} {k : Nat} {a : Addr} {fd : FuncData} {ps : List PySem.Str} {sp : Sp} (F : FnOk P w K mg base (L2.CX P w) k a fd ps sp) :
    FnOk P w K mg base (fun _ _ _ _ _ _ => False) k a fd ps (fun vs H Q _ => sp vs H Q fun _ _ _ => False) :=
  ⟨fun vs H Q E h => F.len vs H Q _ h, fun A outer s H args us vs Q E hr he hb hv hs => codeAny_mono (F.run A outer s H args us vs Q _ hr he hb hv hs) fun r s' q => by
    cases r with
    | ok f => cases f with
      | ret u => exact q
      | _ => exact q
    | error e =>
      obtain ⟨a, B, H', cls, d, _, _, _, _, _, _, _, z⟩ := q
      exact z⟩
/-- the law's call: the pure law tells true -/
theorem law_true {T : Tab} {K : PySem.W.Frag} {f n : Nat} {d : Def} {H : Hp} {a : Addr} {ns : List Int} (hK : K = T.K) (hnp : d.np = 1) (hio : d.io = []) (hrk : d.rk = 0) (hS : SqL K H a (ns.map V.int)) (h : run n f [.scr ns] = .ok (.bl true) []) :
    spI T (run n) f d [.ref a] H (fun v _ => v = .bl true) (fun _ _ _ => False) := by
  have hscr : ScrR T.K (PO (fun _ => False) (fun _ => ([] : List Addr))) H a (ns.map V.int) := by
    rw [← hK]
    rcases hS with (h | h) | h
    · exact .inl ⟨h, fun z => by rcases z with ⟨_, z⟩ | z <;> cases z⟩
    · exact .inr (.inl h)
    · exact .inr (.inr h)
  refine ⟨fun _ => False, [.scr ns], fun _ => [], ⟨rfl, fun i => ?_, fun _ => List.nodup_nil, fun _ _ _ z => by (cases z), fun _ _ z => by (cases z), fun _ z => z.elim⟩, by rw [hnp]; rfl, ?_⟩
  · cases i with
    | zero => exact ⟨rfl, a, rfl, hscr⟩
    | succ i => rfl
  · rw [h]
    intro v H' As' P R
    unfold RetP at R
    rw [hrk] at R
    exact rep_bl R
end O
namespace O
theorem all_cons (p : Nat → Prop) {a : Nat} {l : List Nat} (h : p a) (t : ∀ x, x ∈ l → p x) : ∀ x, x ∈ a :: l → p x := List.forall_mem_cons.mpr ⟨h, t⟩
theorem all_nil (p : Nat → Prop) : ∀ x, x ∈ ([] : List Nat) → p x := fun _ z => (List.not_mem_nil z).elim
end O
end
section
set_option Elab.async false
set_option linter.all false
set_option maxRecDepth 100000
/-! SoundX1: sums, least and greatest, products. -/
namespace O
open PySem PySem.Spec PyProof.Rows L2
/-! ### of tuples: sum -/
def rSumT (K : PySem.W.Frag) : List V → Hp → VK → Prop := fun vs H Q => ∃ (a : Addr) (ns : List Int), vs = [V.ref a] ∧ SqT K H a (ns.map V.int) ∧ Q (.int ns.sum) H
section
variable {X : Cx}
theorem IsTup.isTuple {h : Heap} {a : Addr} {its : Array Value} (x : IsTup h a its) : h.IsTuple a its := x
theorem cr_sumT (hc : X.calm = true) : CallR X (.builtin "sum") (rSumT X.K) := by
  intro pins s σ H vs us Q I r h
  obtain ⟨a, ns, rfl, hs, q⟩ := h
  obtain ⟨its, rv, hl, _⟩ := I.tuple hs
  rw [Vals.ref1 r]
  have hi := rv.ints
  obtain ⟨xs, hx⟩ := hi.allInts.items
  have hn : numsOf (intItems xs).toList = ns := by rw [← hx]; exact hi.numsOf
  rw [nums_intItems] at hn
  rw [hx] at hl
  refine PySem.W.ktm_sumG (I.ok.hd hc) hl fun h' tk t' hk => ?_
  rw [preSum_eq, List.take_of_length_le (by simp), hn]
  exact ⟨.int _, H, I.kept hk, ⟨_, rfl⟩, q⟩
end
section
variable {T : Tab} {bo : Bool} {X : Cx} {n : Nat} {κ1 κ2 κ : Kd} {t t1 t2 : List Nat} {a b : Expr} {ea eb : E} {pos : Pos}
def rSumA (K : PySem.W.Frag) : List V → Hp → VK → Prop := fun vs H Q => rSum K vs H Q ∨ rSumT K vs H Q
theorem p_sum : Pr1 T (fun v => rSumA T.K [v]) sumD κ1 κ := by
  intro bo Oc σ W H0 H r As x c e Q en r1 hf a
  unfold sumD at hf
  split at hf
  · obtain ⟨l, hl, e⟩ := Option.map_eq_some_iff.mp hf
    subst e
    obtain rfl := intsOf_some hl
    obtain ⟨p, vs, rfl, e1, _, q⟩ := rep_lst r1.weak
    rw [reps_ints q] at e1
    exact .inl ⟨p, l, rfl, SqL.of e1, aft_end a en Ext.refl (res_flat rfl en (.int _))⟩
  · obtain ⟨l, hl, e⟩ := Option.map_eq_some_iff.mp hf
    subst e
    obtain rfl := intsOf_some hl
    obtain ⟨p, vs, rfl, e1, q⟩ := rep_tup r1.weak
    rw [reps_ints q] at e1
    exact .inr ⟨p, l, rfl, e1, aft_end a en Ext.refl (res_flat rfl en (.int _))⟩
  · cases hf
theorem d_sum {p : Pos} (G : Gd T n X) (ha : DE T bo X a ea κ1 t) (hg : Gl X "sum" := by rfl) (he : starEach [a] X.env = [(false, eval a X.env)] := by rfl) : DE T bo X (.Call (.Name "sum" p) [a] [] pos) (E.un sumD ea) κ t :=
  d_call1B (b := .sum) G (CallR.or (cr_sum G.calm) (cr_sumT G.calm)) (by decide +kernel) (by rw [G.K]; exact p_sum) ha rfl hg (by decide +kernel) (by decide +kernel) he
/-! a built-in of two parts -/
theorem d_call2B {bn : Bn} {id : String} {rr : List V → Hp → VK → Prop} {f : D → D → Option D} {x : PySem.Str} {p : Pos} (G : Gd T n X) (hc : CallR X (.builtin id) rr) (hv : bootBuiltins x = some (.builtin id)) (pr : Pr2 T (fun u v => rr [u, v]) f κ1.dn κ2 κ) (ha : DE T bo X a ea κ1 t1) (hb : DE T bo X b eb κ2 t2)
    (hq : (κ1.solid || t2.isEmpty) = true) (hx : bn.name = x) (hg : Gl X x) (hn : x ≠ "__name__") (hdb : (x == ("__debug__" : PySem.Str)) = false)
    (hs : starEach [a, b] X.env = (false, eval a X.env) :: starEach [b] X.env) (hs2 : starEach [b] X.env = [(false, eval b X.env)]) (hpl : (backTo pos (starEach [b] X.env)).any (·.1) = false) : DE T bo X (.Call (.Name x p) [a, b] [] pos) (E.bin f ea eb) κ (t1 ++ t2) := fun W tk =>
  PE.imp (pe_callB (pos := pos) (p := p) hc hg (hx ▸ G.bn bn) hv (pa_cons (ha W tk) (pa_cons (hb W tk) pa_nil hs2) hs) hn hdb hs hpl) fun σ H Q h => t_two pr hq h
theorem p_min2 : Pr2 T (fun u v => (fun xs H Q => ∃ i j, xs = [V.int i, V.int j] ∧ Q (.int (if j < i then j else i)) H) [u, v]) min2D κ1 κ2 κ := by
  intro bo Oc σ W H0 H0' H r As x y c d e Q en r1 r2 hf a
  unfold min2D at hf
  split at hf
  · cases hf
    obtain rfl := rep_int r1.weak
    obtain rfl := rep_int r2.weak
    exact ⟨_, _, rfl, aft_end a en Ext.refl (res_flat rfl en (.int _))⟩
  · cases hf
theorem p_max2 : Pr2 T (fun u v => (fun xs H Q => ∃ i j, xs = [V.int i, V.int j] ∧ Q (.int (if j > i then j else i)) H) [u, v]) max2D κ1 κ2 κ := by
  intro bo Oc σ W H0 H0' H r As x y c d e Q en r1 r2 hf a
  unfold max2D at hf
  split at hf
  · cases hf
    obtain rfl := rep_int r1.weak
    obtain rfl := rep_int r2.weak
    exact ⟨_, _, rfl, aft_end a en Ext.refl (res_flat rfl en (.int _))⟩
  · cases hf
theorem d_min2 {p : Pos} (G : Gd T n X) (ha : DE T bo X a ea κ1 t1) (hb : DE T bo X b eb κ2 t2) (hq : (κ1.solid || t2.isEmpty) = true := by rfl) (hg : Gl X "min" := by rfl) (hs : starEach [a, b] X.env = (false, eval a X.env) :: starEach [b] X.env := by rfl) (hs2 : starEach [b] X.env = [(false, eval b X.env)] := by rfl) (hpl : (backTo pos (starEach [b] X.env)).any (·.1) = false := by rfl) :
    DE T bo X (.Call (.Name "min" p) [a, b] [] pos) (E.bin min2D ea eb) κ (t1 ++ t2) :=
  d_call2B (bn := .min) G (call_min2 G.calm) (by decide +kernel) p_min2 ha hb hq rfl hg (by decide +kernel) (by decide +kernel) hs hs2 hpl
theorem d_max2 {p : Pos} (G : Gd T n X) (ha : DE T bo X a ea κ1 t1) (hb : DE T bo X b eb κ2 t2) (hq : (κ1.solid || t2.isEmpty) = true := by rfl) (hg : Gl X "max" := by rfl) (hs : starEach [a, b] X.env = (false, eval a X.env) :: starEach [b] X.env := by rfl) (hs2 : starEach [b] X.env = [(false, eval b X.env)] := by rfl) (hpl : (backTo pos (starEach [b] X.env)).any (·.1) = false := by rfl) :
    DE T bo X (.Call (.Name "max" p) [a, b] [] pos) (E.bin max2D ea eb) κ (t1 ++ t2) :=
  d_call2B (bn := .max) G (call_max2 G.calm) (by decide +kernel) p_max2 ha hb hq rfl hg (by decide +kernel) (by decide +kernel) hs hs2 hpl
theorem maxI_mem : ∀ (l : List Int) (m : Int), maxI l m = m ∨ maxI l m ∈ l
  | [], m => .inl rfl
  | x :: r, m => by
    show maxI r (if x > m then x else m) = m ∨ maxI r (if x > m then x else m) ∈ x :: r
    rcases maxI_mem r (if x > m then x else m) with h | h
    · rw [h]; split
      · exact .inr List.mem_cons_self
      · exact .inl rfl
    · exact .inr (List.mem_cons_of_mem _ h)
theorem maxI_ge : ∀ (l : List Int) (m : Int), m ≤ maxI l m ∧ ∀ y ∈ l, y ≤ maxI l m
  | [], m => ⟨Int.le_refl _, fun y z => nomatch z⟩
  | x :: r, m => by
    show m ≤ maxI r (if x > m then x else m) ∧ ∀ y ∈ x :: r, y ≤ maxI r (if x > m then x else m)
    obtain ⟨h1, h2⟩ := maxI_ge r (if x > m then x else m)
    refine ⟨Int.le_trans ?_ h1, fun y hy => ?_⟩
    · split <;> omega
    · rcases List.mem_cons.mp hy with e | e
      · refine Int.le_trans ?_ h1
        rw [e]; split <;> omega
      · exact h2 y e
theorem p_max1 : Pr1 T (fun v => rMax T.K [v]) max1D κ1 κ := by
  intro bo Oc σ W H0 H r As x c e Q en r1 hf a
  unfold max1D at hf
  split at hf
  · obtain ⟨l, hl, e⟩ := Option.bind_eq_some_iff.mp hf
    obtain rfl := intsOf_some hl
    obtain ⟨p, vs, rfl, e1, _, q⟩ := rep_lst r1.weak
    rw [reps_ints q] at e1
    cases l with
    | nil => cases e
    | cons i l =>
      cases e
      refine ⟨p, i :: l, rfl, SqL.of e1, by simp, fun m h1 h2 => ?_⟩
      have hg := maxI_ge l i
      have e3 : m = maxI l i := by
        refine Int.le_antisymm ?_ ?_
        · rcases List.mem_cons.mp h1 with e | e
          · rw [e]; exact hg.1
          · exact hg.2 m e
        · rcases maxI_mem l i with e | e
          · rw [e]; exact h2 i List.mem_cons_self
          · exact h2 _ (List.mem_cons_of_mem _ e)
      rw [e3]
      exact aft_end a en Ext.refl (res_flat rfl en (.int _))
  · cases hf
theorem d_max1 {p : Pos} (G : Gd T n X) (ha : DE T bo X a ea κ1 t) (hg : Gl X "max" := by rfl) (he : starEach [a] X.env = [(false, eval a X.env)] := by rfl) : DE T bo X (.Call (.Name "max" p) [a] [] pos) (E.un max1D ea) κ t :=
  d_call1B (b := .max) G (cr_max G.calm) (by decide +kernel) (by rw [G.K]; exact p_max1) ha rfl hg (by decide +kernel) (by decide +kernel) he
end
end O
end
section
set_option Elab.async false
set_option linter.all false
set_option maxRecDepth 100000
set_option maxHeartbeats 4000000
/-! SoundX2: products; enumerate of a tuple. -/
namespace O
open PySem PySem.Spec PyProof.Rows L2
open AutoSeq1 (wpAny_loadPart')
/-- a tuple taken once is itself -/
theorem tuple_once (l : Addr) (items : Array Value) (n : Nat) (dd : Option Addr) (sl : Array (Option Value)) (u : Tok) :
    Meets (Builtin.«tuple.__mul__» ⟨[.ref l, .int 1 u], []⟩) (fun _ R s => s.heap.get? l = some { cls := .type "tuple", dict := dd, data := .seq items n, slots := sl } ∧ R (.ok (.ret (Value.ref l))) s) :=
  .of_wp fun prog w A R s h => by
    obtain ⟨hp, g, d, tk, os⟩ := s
    obtain ⟨hl, h⟩ := h
    have f1 := AutoSeq1.idx_int
    have c1 : (items.isEmpty || (1 : Int) == 1) = true := by simp
    wp_walk using wpAny_loadPart' hl
    first
      | (exact ⟨_, rfl, h⟩)
      | (refine wpAny_ite_true (decide_eq_true c1) ?_; wp_walk using wpAny_loadPart' hl; exact ⟨_, rfl, h⟩)
def rOnce (K : PySem.W.Frag) : R2 := fun x y H Q => ∃ l xs, x = .ref l ∧ y = .int 1 ∧ SqT K H l xs ∧ Q (.ref l) H
section
variable {X : Cx}
theorem op_once : OpR X (binaryOp .Mult) (rOnce X.K) := by
  intro pins s σ H x y v u Q I rx ry h
  obtain ⟨l, xs, rfl, rfl, hT, q⟩ := h
  cases rx
  obtain ⟨t, rfl⟩ := ry
  obtain ⟨its, r, ⟨⟨cls, dd, data, sl⟩, ho, hc, n, hd⟩, hs⟩ := I.tuple hT
  simp only at hc hd
  subst hc hd
  refine wpAny_binaryOp_repeat_ref (T := "tuple") (U := "int") (by decide) ⟨_, ho, rfl⟩ (fun s' => typeIs_int s' 1 t) noFill_tuple_mul F.fills_int_mul F.slot_int_rmul repeat_tuple F.slot_int_index.lookup ?_
  refine call_meets F.slot_int_rmul (typeIs_int s 1 t) F.entry_int_rmul (F.args_int_rmul_2 _ _) (int_rmul_tuple 1 t l its.toArray n dd sl) ?_
  refine ⟨ho, rfl, ⟨_, ho, rfl⟩, call_meets F.slot_tuple_mul ⟨_, ho, rfl⟩ F.entry_tuple_mul (F.args_tuple_mul_2 _ _) (tuple_once l its.toArray n dd sl t) ⟨ho, ?_⟩⟩
  exact ⟨.ref l, H, I, rfl, q⟩
end
section
variable {T : Tab} {bo : Bool} {X : Cx} {n : Nat} {κ1 κ2 κ : Kd} {t t1 t2 : List Nat} {a b : Expr} {ea eb : E} {pos : Pos}
def rMulA (K : PySem.W.Frag) : R2 := fun x y H Q => rI CMul (fun i j => .int (i * j)) x y H Q ∨ rRep x y H Q ∨ rRepT K x y H Q ∨ rOnce K x y H Q
theorem op_mulA : OpR X (binaryOp .Mult) (rMulA X.K) := OpR.or op_mul (OpR.or op_rep (OpR.or op_repT op_once))
theorem rep_one {α : Type} (xs : List α) : repL xs 1 = xs := by
  show xs ++ [] = xs
  rw [List.append_nil]
theorem p_mul (h1 : κ1 ≠ .w) (hk : κ = .s ∨ κ = .f 0 ∨ κ = .f 1) : Pr2 T (rMulA T.K) mulD κ1 κ2 κ := by
  intro bo Oc σ W H0 H0' H r As x y c d e Q en r1 r2 hf a
  have b1 := r1.bor h1
  unfold mulD at hf
  split at hf
  · split at hf
    · rename_i hc
      cases hf
      obtain rfl := rep_int r1.weak
      obtain rfl := rep_int r2.weak
      refine .inl ⟨_, _, rfl, rfl, .inl ⟨?_, ?_⟩, aft_end a en Ext.refl (res_flat rfl en (.int _))⟩
      · have := hc.1; omega
      · have := hc.2; omega
    · cases hf
  · rename_i xs k
    split at hf
    · rename_i hc
      cases hf
      obtain rfl := rep_int r2.weak
      obtain ⟨p, vs, rfl, e1, q1⟩ := bor_lst b1
      have hl : vs.length * k.toNat ≤ 100000 := by rw [q1.length]; exact hc.2.2
      refine .inr (.inl ⟨p, k, vs, rfl, rfl, e1, by omega, by omega, ?_, fun l hl => ?_⟩)
      · rw [← lim_line]; have : LIM = 16777216 := rfl; omega
      · exact aft_end a en (Ext.upd hl) (res_new (by rcases hk with e | e | e <;> subst e <;> simp) en (fun _ z => z) hl (q1.rep _))
    · cases hf
  · rename_i xs k
    split at hf
    · rename_i hc
      cases hf
      obtain rfl := rep_int r2.weak
      obtain ⟨p, vs, rfl, e1, q1⟩ := bor_tup b1
      by_cases hone : k = 1
      · subst hone
        refine .inr (.inr (.inr ⟨p, vs, rfl, rfl, e1, ?_⟩))
        refine aft_end a en Ext.refl (res_flat rfl en ?_)
        show Rep _ _ _ _ (.tup (repL xs 1))
        rw [rep_one]
        exact .tup e1 q1
      · refine .inr (.inr (.inl ⟨p, k, vs, rfl, rfl, e1, ?_, by omega, by omega, by rw [q1.length]; exact hc.2.2.2, fun l hl => ?_⟩))
        · intro z
          have := q1.length
          rw [z] at this
          have h3 := hc.2.2.1
          rw [← this] at h3
          simp at h3
        · exact aft_end a en (Ext.upd hl) (res_flat rfl (en.ext (Ext.upd hl)) (rep_newT en hl (q1.rep _)))
    · cases hf
  · cases hf
theorem d_mul (G : Gd T n X) (ha : DE T bo X a ea κ1 t1) (hb : DE T bo X b eb κ2 t2) (hq : (κ1.solid || t2.isEmpty) = true := by rfl) (h1 : κ1.dn ≠ .w := by decide) (hk : κ = .s ∨ κ = .f 0 ∨ κ = .f 1 := by decide) : DE T bo X (.BinOp a .Mult b pos) (E.bin mulD ea eb) κ (t1 ++ t2) :=
  d_bin op_mulA (by rw [G.K]; exact p_mul h1 hk) ha hb hq
/-! ### enumerate of a tuple -/
end
/-- a tuple's items with their places, in new pairs -/
def Itet (K : PySem.W.Frag) (a : Addr) : It :=
  ⟨fun i H => ∃ xs x, SqT K H a xs ∧ xs[i]? = some x, fun i H v H' => ∃ Tn x, v = .ref Tn ∧ H Tn = none ∧ H' = upd H Tn (.tup [.int (i : Nat), x]) ∧ ∀ xs, SqT K H a xs → xs[i]? = some x, fun i H => ∃ xs, SqT K H a xs ∧ xs.length ≤ i⟩
theorem turn_enumT {P : Program} {w : World} {K : PySem.W.Frag} {elts : List Expr} {kk : Nat} {tpos : Pos} (a e it : Addr) :
    Turn P w K (.Tuple elts kk tpos) (Itet K a) [e, it] e (fun i h => (∃ o, IsEnum h e it ((i : Nat) : Int) o) ∧ h.IsTupleIter it a i ∧ e ≠ it) where
  mem := List.mem_cons_self
  obj := fun i h st b hb => by
    obtain ⟨⟨o1, h1⟩, ⟨o2, h2, _, h4⟩, _⟩ := st
    rcases List.mem_cons.mp hb with rfl | hb
    · exact ⟨_, h1, fun v q => by cases q⟩
    · obtain rfl := List.mem_singleton.mp hb
      exact ⟨o2, h2, fun v q => by rw [h4] at q; cases q⟩
  keep := fun i h h' st k => by
    obtain ⟨⟨o1, h1⟩, h2, h3⟩ := st
    exact ⟨⟨o1, k e List.mem_cons_self _ h1⟩, h2.at fun o q => k it (List.mem_cons_of_mem _ List.mem_cons_self) o q, h3⟩
  item := by
    intro X hP hw hK hc i pins s σ H E I hf st hg
    subst hP hw hK
    obtain ⟨⟨o1, he⟩, hit, hne⟩ := st
    obtain ⟨xs, x, hq, hx⟩ := hg
    obtain ⟨its, rv, ht, hz⟩ := I.tuple hq
    obtain ⟨u, hu, ru⟩ := rv.get hx
    have h1 : e < s.heap.objs.size := Heap.lt_size he
    have h2 : it < s.heap.objs.size := by
      obtain ⟨_, q, _⟩ := hit
      exact Heap.lt_size q
    have nait : a ≠ it := fun z => by
      obtain ⟨o, p1, p2, _⟩ := hit
      obtain ⟨o', p3, p4, _⟩ := ht
      rw [z, p1] at p3
      cases p3
      rw [p2] at p4
      exact absurd p4 (by decide)
    have nea : e ≠ a := fun z => by
      obtain ⟨o', p3, p4, _⟩ := ht
      rw [← z] at p3
      have p5 := he
      unfold IsEnum at p5
      rw [p5] at p3
      cases p3
      exact absurd (show Value.type "enumerate" = Value.type "tuple" from p4) (by decide)
    have D := Draws.tuple (prog := X.prog) (w := X.w) (A := X.A.in1) (I.ok.hd hc) it a nait its.toArray
    have hlt : i < its.toArray.size := by
      have := (List.getElem?_eq_some_iff.mp hu).1
      simpa using this
    refine wpAny_pyNext_enum_itemD D he ⟨hit, ht⟩ hlt hne (by simp [hne, nea]) fun y h' tk hy ho hit' hT hsz hk => ?_
    have ey : y = u := by
      have hy' : its.toArray[i]? = some y := hy
      rw [List.getElem?_toArray, hu] at hy'
      exact (Option.some.inj hy').symm
    subst ey
    refine ⟨_, rfl, wpAny_letOwnedTupleGo_enum (s := { s with heap := h', toks := tk + 1 }) ho fun hh he' sb => ?_⟩
    have hT2 := (sb.2 _ (Nat.ne_of_gt h1)).trans hT
    have nw : ObjOk X.prog X.w (upd H s.heap.objs.size (.tup [.int (i : Nat), x])) hh s.heap.objs.size (.tup [.int (i : Nat), x]) := by
      refine ⟨?_, [.int i tk, y], .cons ⟨_, rfl⟩ (.cons ru .nil), ⟨_, hT2, rfl, _, rfl⟩⟩
      show 2 ≤ sizeLine
      decide
    have I1 := I.turnedNew (ch := [e, it]) (t' := tk + 1) (h' := hh) (fun b ob hb q => by
      have q1 : b ≠ e := fun z => hb (by rw [z]; exact List.mem_cons_self)
      have q2 : b ≠ it := fun z => hb (by rw [z]; exact List.mem_cons_of_mem _ List.mem_cons_self)
      exact (sb.2 b q1).trans (hk b ob q1 q2 q)) hf (Nat.le_refl _) nw
    refine ⟨.ref s.heap.objs.size, _, I1, rfl, ⟨_, x, rfl, I.hok.fresh (Nat.le_refl _), rfl, fun zs hzs => ?_⟩, ⟨⟨y, ?_⟩, hit'.1.at fun o q => (sb.2 it (Ne.symm hne)).trans q, hne⟩, fun b hb => ?_⟩
    · rw [I.tuple_inj hzs hq]; exact hx
    · have e1 : ((i + 1 : Nat) : Int) = (i : Int) + 1 := by omega
      rw [e1]; exact he'
    · have hb' : b < s.heap.objs.size := by
        rcases List.mem_cons.mp hb with rfl | hb
        · exact h1
        · rw [List.mem_singleton.mp hb]; exact h2
      rw [upd_ne (Nat.ne_of_lt hb')]
      exact (hf b hb).1
  done := by
    intro X hP hw hK hc i pins s σ H E I hf st hg
    subst hP hw hK
    obtain ⟨⟨o1, he⟩, hit, hne⟩ := st
    obtain ⟨xs, hq, hx⟩ := hg
    obtain ⟨its, rv, ht, hz⟩ := I.tuple hq
    have nait : a ≠ it := fun z => by
      obtain ⟨o, p1, p2, _⟩ := hit
      obtain ⟨o', p3, p4, _⟩ := ht
      rw [z, p1] at p3
      cases p3
      rw [p2] at p4
      exact absurd p4 (by decide)
    obtain ⟨f0, f1, f2, f3, f4, f5⟩ := hf it (List.mem_cons_of_mem _ List.mem_cons_self)
    have hl := rv.length
    have D : Draws X.prog X.w X.A.in1 it [it, a] i (fun _ _ => False) (fun j h => j = i ∧ h.IsTupleIter it a i ∧ h.IsTuple a its.toArray) := {
      live := fun j h z => by
        obtain ⟨o, ho, _⟩ := z.2.1
        exact ⟨o, ho⟩
      frame := fun j h h' z k => ⟨z.1, z.2.1.at fun o q => k it List.mem_cons_self o q, z.2.2.at fun o q => k a (List.mem_cons_of_mem _ List.mem_cons_self) o q⟩
      item := fun j s Q E hj z _ => absurd z.1 (Nat.ne_of_lt hj)
      done := fun s Q E z hE => wpAny_nextOf_tuple_end (I.ok.hd hc) z.2.1 z.2.2 (by simp; omega) hE }
    exact wpAny_pyNext_enum_endD D he ⟨rfl, hit, ht⟩ fun h' eb => ⟨rfl, I.turned (t' := s.toks) (fun b o hb q => eb b o hb q) f0 f1 f3 f4 f5⟩
  self := fun A i s Q E st h => by
    obtain ⟨⟨_, he⟩, _⟩ := st
    exact wpAny_pyIter_enum he h
/-- enumerate(v): its two new cells -/
theorem meets_enum1 {v : Value} {o : Obj} {Hc : Heap → Prop} (B : Begins v o Hc) :
    Meets (Builtin.«enumerate.__new__» ⟨[.type "enumerate", v], []⟩) (fun _ R s => Hc s.heap ∧
      R (.ok (.ret (.ref (s.heap.push o).objs.size))) { s with heap := (s.heap.push o).push { cls := .type "enumerate", data := .fields #[.none, .bool false, .ref s.heap.objs.size, rawInt 0, .none, .none] } }) :=
  .of_wp fun prog w A R s h => by
    obtain ⟨hp, g, d, tk, os⟩ := s
    obtain ⟨h1, h⟩ := h
    have hsub := sub_enumerate
    have q1 : ∀ {A' : Around} {E : Value → Shared → Prop} {Q : Value → Shared → Prop}, Q (.ref hp.objs.size) ⟨hp.push o, g, d, tk, os⟩ → wpAny (model prog w) A' (pyIter v) Q E ⟨hp, g, d, tk, os⟩ := fun q => B.iter prog w _ _ ⟨hp, g, d, tk, os⟩ _ h1 q
    wp_walk using q1
    refine wpAny_stack_any fun st => wpAny_pure ?_
    split
    · rename_i c _ _ _ _ _
      cases (c == Value.type "enumerate") <;> (wp_walk using q1; exact ⟨_, rfl, h⟩)
    · wp_walk using q1; exact ⟨_, rfl, h⟩
theorem enum1 {prog : Program} {w : World} {A : Around} {E : Value → Shared → Prop} {s : Shared} {v : Value} {o : Obj} {Hc : Heap → Prop} {Q : Value → Shared → Prop} (B : Begins v o Hc) (h1 : Hc s.heap)
    (h : ∀ h', IsEnum h' (s.heap.objs.size + 1) s.heap.objs.size 0 .none → h'.get? s.heap.objs.size = some o → (∀ b u, s.heap.get? b = some u → h'.get? b = some u) → Q (.ref (s.heap.objs.size + 1)) { s with heap := h' }) :
    wpAny (model prog w) A (call (.type "enumerate") [v]) Q E s := by
  refine callType_new F.called_enumerate (by decide) (F.typeCall_enumerate_1 _) (F.newCall_enumerate_1 _) (fun obj => F.args_object_init_2 obj _) F.entry_enumerate_new (meets_enum1 B) ⟨h1, ?_⟩
  have hz : (s.heap.push o).objs.size = s.heap.objs.size + 1 := Heap.size_push ..
  have he := Heap.get?_push_size (s.heap.push o) (o := { cls := .type "enumerate", data := .fields #[.none, .bool false, .ref s.heap.objs.size, rawInt 0, .none, .none] }) rfl
  show _ ∧ _
  rw [hz] at he ⊢
  exact ⟨⟨_, he, rfl⟩, h _ he (Heap.get?_push_of_some _ (Heap.get?_push_size _ B.free)) fun b u x => Heap.get?_push_of_some _ (Heap.get?_push_of_some _ x)⟩
def iEnumTup (K : PySem.W.Frag) (ta : TA) : TI := fun σ H R => ta σ H fun vs H1 => ∃ a xs, vs = [.ref a] ∧ SqT K H1 a xs ∧ R (Itet K a) H1
theorem pi_enumT {X : Cx} {e : Expr} {ta : TA} {p pos tpos : Pos} {elts : List Expr} {kk : Nat} (hg : Gl X "enumerate") (hm : X.mg "enumerate" = none) (ha : PA X [e] ta) (hs : starEach [e] X.env = [(false, eval e X.env)] := by rfl) :
    PI X (.Tuple elts kk tpos) (.Call (.Name "enumerate" p) [e] [] pos) (iEnumTup X.K ta) := ⟨fun pins s σ H R I h => by
  refine Call_ (ld_blt I hg hm boot_enumerate (PyProof.Rows.callWith_type1 (thn (ha.run pos pins s σ H _ I h) fun us s1 ⟨vs, H1, I1, r1, q1⟩ => ?_) hs rfl))
  obtain ⟨a, xs, ex, hq, q⟩ := q1
  subst ex
  rw [Vals.ref1 r1]
  obtain ⟨its, rv, ht, hz⟩ := I1.tuple hq
  refine enum1 (begins_tuple a its.toArray) ht fun h' he hit hk => wpAny_pyIter_enum he ?_
  have I2 : Inv X pins σ H1 { s1 with heap := h' } := I1.kept (t' := s1.toks) hk
  refine ⟨s1.heap.objs.size + 1, [s1.heap.objs.size + 1, s1.heap.objs.size], _, _, H1, rfl, I2, turn_enumT a (s1.heap.objs.size + 1) s1.heap.objs.size, ⟨⟨.none, he⟩, ⟨_, hit, rfl, rfl⟩, Nat.succ_ne_self _⟩, fun b hb => ?_, q⟩
  have hle : s1.heap.objs.size ≤ b := by
    rcases List.mem_cons.mp hb with rfl | hb
    · exact Nat.le_add_right _ _
    · rw [List.mem_singleton.mp hb]; exact Nat.le_refl _
  exact I1.fpOk hle (I1.hok.fresh hle)⟩
section
variable {T : Tab} {bo : Bool} {X : Cx} {n : Nat} {κ1 : Kd} {t : List Nat} {a : Expr} {ea : E} {pos : Pos}
theorem di_enumT {p tpos : Pos} {elts : List Expr} {kk : Nat} (G : Gd T n X) (ha : DE T bo X a ea κ1 t) (hk : κ1.solid = true := by rfl) (hg : Gl X "enumerate" := by rfl) (hs : starEach [a] X.env = [(false, eval a X.env)] := by rfl) :
    DI T bo X (.Tuple elts kk tpos) (.Call (.Name "enumerate" p) [a] [] pos) (E.iEnumT ea) t := fun W tk =>
  PI.imp (pi_enumT hg (G.bn .enumerate) (pa_cons (ha W tk) pa_nil hs) hs) fun σ H R ⟨Oc, r, As, en, h⟩ => by
    refine ⟨Oc, r, As, en, aft_mono (aft_bind0 (R1 := ResR T bo Oc σ κ1) wid_walk h) fun x H1 ⟨r1, As1, c1, st1, rs1, a1⟩ => ?_⟩
    cases c1 with
    | tup xs =>
      have a1 : Aft T bo Oc σ W _ [] H1 r1 As1 (if xs.length ≤ LIM then .ok (E.enumL 0 xs) r1 else .stuck) R := a1
      by_cases hl : xs.length ≤ LIM
      · rw [if_pos hl] at a1
        obtain ⟨p, vs, rfl, e1, q⟩ := rep_tup (rs1.rep hk)
        refine ⟨p, vs, rfl, by rw [G.K]; exact e1, ?_⟩
        rw [G.K]
        refine aft_end a1 st1.env Ext.refl ⟨?_, by rw [enumL_len]; exact hl⟩
        refine ⟨YPair (fun i => some (.int (i : Nat))) (fun i => vs[i]?), ?_, fun i H x H' y hi k => ?_⟩
        · rw [enumL_len, ← q.length]
          refine ⟨fun i H hi k => ⟨vs, vs[i], SqT.kp k e1, by simp [hi]⟩, fun H k => ⟨vs, SqT.kp k e1, Nat.le_refl _⟩, fun i H v H' _ k y => ?_⟩
          obtain ⟨Tn, x, h1, h2, h3, h4⟩ := y
          exact ⟨Tn, .int (i : Nat), x, h1, h2, h3, rfl, h4 vs (SqT.kp k e1)⟩
        · obtain ⟨Tn, x', y', rfl, hT, rfl, e2, e3⟩ := y
          cases e2
          refine ⟨Ext.upd hT, fun P' hp => ?_⟩
          obtain ⟨d, h1, h2⟩ := q.get' e3
          refine ⟨.tup [.int (i : Nat), d], ?_, ?_⟩
          · rw [enumL_get, h1]; simp
          · exact .tup (SqT.of upd_same) (.cons (.int _) (.cons ((h2.keep k hp).keep (Ext.upd hT).kp fun _ _ z => z) .nil))
      · rw [if_neg hl] at a1; exact a1.elim
    | _ => exact a1.elim
end
end O
end
section
set_option Elab.async false
set_option linter.all false
set_option maxRecDepth 100000
/-! SoundX3: places changed in place: op=, one more, lists made longer. -/
namespace O
open PySem PySem.Spec PyProof.Rows L2
theorem pget_list {X : Cx} : PGet X (rIxL X.K) := by
  intro pins s σ H x y v u Q I rx ry h
  obtain ⟨p, xs, i, z, rfl, rfl, hq, he, q⟩ := h
  cases rx
  obtain ⟨t, rfl⟩ := ry
  obtain ⟨its, r, pl, hz⟩ := I.list hq
  obtain ⟨j, h1, h2, h3, h4, h5⟩ := atI_get he
  obtain ⟨w, ew, rw'⟩ := r.get h2
  have hl := r.length
  have hn := line63
  have fin : EP X pins σ Q w s := ⟨z, H, I, rw', q⟩
  by_cases h0 : 0 ≤ i
  · have hj : i.toNat = j := Option.some.inj ((seqIndex_of h0 h5).symm.trans h1)
    exact wpAny_getItem_list pl.isList h0 (by omega) (by rw [hj]; simpa using ew) fin
  · have hj : (i + (its.toArray.size : Int)).toNat = j := by
      have := Option.some.inj ((seqIndex_neg (by omega) h4).symm.trans h1)
      rw [List.size_toArray, ← hl]
      exact this
    exact wpAny_getItem_list_neg pl.isList (by omega) (by rw [List.size_toArray]; omega) (by omega) (by rw [hj]; simpa using ew) fin
section
variable {T : Tab} {g : Sg} {X : Cx} {n : Nat} {κ κ1 κ2 : Kd} {t t1 t2 t3 : List Nat} {e p q : Expr} {ee eq : E} {pos : Pos}
theorem add_inv {y w v : D} (h : addI y w = some v) : ∃ i j, y = .int i ∧ w = .int j ∧ v = .int (i + j) := by
  unfold addI at h
  split at h
  · cases h; exact ⟨_, _, rfl, rfl, rfl⟩
  · cases h
theorem sub_inv {y w v : D} (h : subD y w = some v) : ∃ i j, y = .int i ∧ w = .int j ∧ v = .int (i - j) := by
  unfold subD at h
  split at h
  · cases h; exact ⟨_, _, rfl, rfl, rfl⟩
  · cases h
theorem ds_augG {op : Operator} {f : D → D → Option D} {gg : Int → Int → Int} {i : Nat} {es : List E} {tpos : Pos} (G : Gs T n X) (hop : PIp X op (ipI gg)) (hf : ∀ y w v, f y w = some v → ∃ i j, y = .int i ∧ w = .int j ∧ v = .int (gg i j)) (hp : DPo T X p i es t1) (hq : DE T false X q eq κ1 t2) (he : DE T false X e ee κ2 t3) (hi1 : i ∉ t1) (hi2 : i ∉ t2) (hi3 : i ∉ t3)
    (ha : ∀ ov iv new, augStore q ov iv new = (do holding [new, ov, iv] (setItem ov iv new); release [new, ov, iv] []; pure .next)) : DS T g X (.AugAssign (.Subscript p q tpos) op e pos) (S.augp i es eq f ee) := fun W tk =>
  PS.impI (ps_augS (hp W tk) (hq W tk) pget_list (he W tk) hop set_list ha) fun D σ H hl ⟨Oc, r, As, en, h⟩ => by
    unfold S.augp at h
    cases qq : getS r i with
    | val k d =>
      simp only [qq] at h
      by_cases hk : k = es.length + 1
      · rw [if_pos hk] at h
        obtain ⟨v0, ev, o⟩ := slot_own en qq
        refine ⟨Oc, r, As, en, k, d, v0, qq, by omega, ev, aft_mono (aftS_bind h) fun x H1 ⟨r1, As1, z1, st1, ⟨hR, hl⟩, h1⟩ => ?_⟩
        refine ⟨Oc, r1, As1, st1.env, aft_mono (aftS_bind (R1 := ResR T false Oc σ κ1) h1) fun y H2 ⟨r2, As2, c2, st2, rs2, h2⟩ => ?_⟩
        obtain ⟨js, y0⟩ := z1
        have hg1 : getS r1 i = .val k d := by rw [(st1.sm i hi1).1]; exact qq
        have hg2 : getS r2 i = .val k d := by rw [(st2.sm i hi2).1]; exact hg1
        obtain ⟨m, rfl⟩ : ∃ m, k = js.length + (m + 1) := ⟨k - js.length - 1, by simp only at hl; omega⟩
        obtain rfl : m = 0 := by simp only at hl; omega
        obtain ⟨v1, ev1, o1⟩ := slot_own st1.env hg1
        rw [ev] at ev1; cases ev1
        obtain ⟨v2, ev2, o2⟩ := slot_own st2.env hg2
        rw [ev] at ev2; cases ev2
        have hR2 : Reach H2 v0 d js x y0 := hR.keep o1 (st2.same st1.env hi2)
        obtain ⟨B, _, oB⟩ := hR2.own o2
        cases y0 with
        | lst ds => cases c2 with
          | int j =>
            cases hi : idxD (.lst ds) (.int j) with
            | none => simp only [hi] at h2; exact h2.elim
            | some z =>
              simp only [hi] at h2
              obtain ⟨p0, hp0, hz⟩ := idx_pos hi
              obtain ⟨a0, vs, Bs, rfl, e2, _, q2⟩ := own_lst oB
              obtain ⟨u, C, g1, _, gz⟩ := q2.get hz
              obtain rfl := rep_int rs2.weak
              refine ⟨a0, vs, j, u, rfl, rfl, SqL.of e2, ?_, ?_⟩
              · unfold L2.atI
                rw [q2.len.1, posI_ix hp0]
                exact g1
              · refine ⟨Oc, r2, As2, st2.env, aft_mono (aftS_bind (R1 := ResR T false Oc σ κ2) h2) fun w H3 ⟨r3, As3, c3, st3, rs3, h3⟩ => ?_⟩
                cases hv : f z c3 with
                | none => simp only [hv] at h3; exact h3.elim
                | some v =>
                  simp only [hv] at h3
                  obtain ⟨i1, i2, rfl, rfl, rfl⟩ := hf _ _ _ hv
                  cases hd : setAt d js (.int j) (.int (gg i1 i2)) with
                  | none => simp only [hd] at h3; exact h3.elim
                  | some d' =>
                    simp only [hd] at h3
                    obtain rfl := rep_int rs3.weak
                    obtain rfl := rep_int gz.2
                    refine ⟨i1, i2, rfl, rfl, ?_⟩
                    have hg3 : getS r3 i = .val (js.length + (0 + 1)) d := by rw [(st3.sm i hi3).1]; exact hg2
                    obtain ⟨v3, ev3, o3⟩ := slot_own st3.env hg3
                    rw [ev] at ev3; cases ev3
                    have hR3 := hR2.keep (k := 1) o2 (st3.same st2.env hi3)
                    obtain ⟨p1, vs1, m, e5, f2, f3, f4, f5⟩ := own_set (Rep.int (gg i1 i2)) o3 (st3.env.nd i) (fun a ha => .inl ⟨i, ha⟩) hR3 hd
                    cases e5
                    refine ⟨a0, vs1, j, m, rfl, rfl, f3, f4, ?_⟩
                    have h3 : ∀ σ' H' As', StepS T g.io Oc σ H3 As3 σ' H' (r3.set i (.val (js.length + (0 + 1)) d')) As' → D.nx σ' H' := h3
                    refine h3 σ _ _ (StepS.any (upd_step (B := []) (Step.refl st3.env (t := [])) f2 f3 (fun a h => .inl h) (fun _ z => by cases z)
                      (EnvR.updOwn (B := []) (st3.env.lessOc fun a z => z.elim id fun z => by cases z) f2 f3 (fun a h => .inl h) (st3.env.nd i) (fun _ z => by cases z) ⟨v0, ev, ?_⟩)))
                    rw [upA_id]
                    exact f5
          | _ => exact h2.elim
        | _ => cases c2 <;> exact h2.elim
      · rw [if_neg hk] at h; exact h.elim
    | _ => simp only [qq] at h; exact h.elim
theorem ds_augp {i : Nat} {es : List E} {tpos : Pos} (G : Gs T n X) (hp : DPo T X p i es t1) (hq : DE T false X q eq κ1 t2) (he : DE T false X e ee κ2 t3) (hi1 : i ∉ t1 := by first | decide | exact nm_of rfl) (hi2 : i ∉ t2 := by first | decide | exact nm_of rfl) (hi3 : i ∉ t3 := by first | decide | exact nm_of rfl)
    (ha : ∀ ov iv new, augStore q ov iv new = (do holding [new, ov, iv] (setItem ov iv new); release [new, ov, iv] []; pure .next) := by intros; rfl) : DS T g X (.AugAssign (.Subscript p q tpos) .Add e pos) (S.augp i es eq addI ee) := ds_augG G ip_add (fun _ _ _ h => add_inv h) hp hq he hi1 hi2 hi3 ha
theorem ds_augpS {i : Nat} {es : List E} {tpos : Pos} (G : Gs T n X) (hp : DPo T X p i es t1) (hq : DE T false X q eq κ1 t2) (he : DE T false X e ee κ2 t3) (hi1 : i ∉ t1 := by first | decide | exact nm_of rfl) (hi2 : i ∉ t2 := by first | decide | exact nm_of rfl) (hi3 : i ∉ t3 := by first | decide | exact nm_of rfl)
    (ha : ∀ ov iv new, augStore q ov iv new = (do holding [new, ov, iv] (setItem ov iv new); release [new, ov, iv] []; pure .next) := by intros; rfl) : DS T g X (.AugAssign (.Subscript p q tpos) .Sub e pos) (S.augp i es eq subD ee) := ds_augG G ip_sub (fun _ _ _ h => sub_inv h) hp hq he hi1 hi2 hi3 ha
/-- x += e, ints -/
theorem ds_augI {i : Nat} {x : PySem.Str} {pos' : Pos} (G : Gs T n X) (he : DE T false X e ee κ t) (hit : i ∉ t := by first | decide | exact nm_of rfl) (hio : i ∉ g.io := by first | decide | exact nm_of rfl) (hi : X.N[i]? = some x := by rfl) (hx : Loc X.env.scope x := by first | exact Or.inl rfl | exact Or.inr rfl)
    (hf : X.fn x = true ∨ X.env.scope.names.lookup x = some .local := by first | exact .inl rfl | exact .inr rfl) : DS T g X (.AugAssign (.Name x pos') .Add e pos) (S.augI i ee) := fun W tk =>
  PS.impI (ps_aug G.nd hi hx (he W tk) ip_add hf) fun D σ H hl ⟨Oc, r, As, en, h⟩ => by
    unfold S.augI at h
    have sl := en.sl i
    cases qq : getS r i with
    | val k d =>
      rw [qq] at sl
      simp only [qq] at h
      cases k with
      | zero =>
        cases d with
        | int a =>
          obtain ⟨v, ev, _, rv⟩ := sl
          obtain rfl := rep_int rv
          refine ⟨_, join_some ev, Oc, r, As, en, aft_mono (aftS_bindF h) fun y H1 ⟨r1, As1, d, st, rs, a1⟩ => ?_⟩
          cases d with
          | int b =>
            obtain rfl := rep_int rs.weak
            refine ⟨a, b, rfl, rfl, ?_⟩
            obtain ⟨As2, s2⟩ := put_step (κ := .s) (i := i) (k := 0) (io := g.io) st (show ResR T false Oc σ .s H H1 r1 As1 (.int (a + b)) (.int (a + b)) from .int _) (.inr ⟨rfl, rfl⟩) (by rw [st.env.len, hl]; exact lt_of_get hi) hio
            exact a1 _ _ _ s2
          | _ => exact a1.elim
        | _ => exact h.elim
      | succ k => exact h.elim
    | _ => simp only [qq] at h; exact h.elim
def seqR (x : Res Flow) (b : S) : Res Flow := match x with
  | .ok .nx r => b r
  | y => y
theorem seqR_bind {α : Type} (x : Res α) (f : α → O.Env → Res Flow) (b : S) : seqR (x.bind f) b = x.bind fun a r => seqR (f a r) b := by cases x <;> rfl
/-- own = x[..]; at = e; own[at] = own[at] + 1 -/
theorem ds_bump {i jo ja : Nat} {es : List E} {xo xa : PySem.Str} {ps : List Stmt} {b : S} {p1 p2 p3 p4 p5 p6 p7 p8 p9 p10 pos1 pos2 pos3 : Pos} {kk : Nat} (G : Gs T n X) (hp : DPo T X p i es t1) (he : DE T false X e ee κ t2) (hr : DSs T g X ps b) (hi1 : i ∉ t1 := by first | decide | exact nm_of rfl) (hi2 : i ∉ t2 := by first | decide | exact nm_of rfl)
    (hoi : i ≠ jo := by decide) (hai : i ≠ ja := by decide) (hoa : jo ≠ ja := by decide) (hjo : jo ∉ g.io := by first | decide | exact nm_of rfl) (hja : ja ∉ g.io := by first | decide | exact nm_of rfl)
    (ho : X.N[jo]? = some xo := by rfl) (ha : X.N[ja]? = some xa := by rfl) (hxo : X.env.scope.names.lookup xo = some .local := by rfl) (hxa : X.env.scope.names.lookup xa = some .local := by rfl)
    (hd1 : (xo == ("__debug__" : PySem.Str)) = false := by decide +kernel) (hc1 : (xo == ("__classdict__" : PySem.Str)) = false := by decide +kernel) (hd2 : (xa == ("__debug__" : PySem.Str)) = false := by decide +kernel) (hc2 : (xa == ("__classdict__" : PySem.Str)) = false := by decide +kernel)
    (hs1 : swapsWith p (some (.Name xo p1)) pos1.line X.env = pure false := by rfl) (hs2 : swapsWith e (some (.Name xa p2)) pos2.line X.env = pure false := by rfl)
    (hs3 : swapsWithSole [.Subscript (.Name xo p3) (.Name xa p4) p5] (.BinOp (.Subscript (.Name xo p6) (.Name xa p7) p8) .Add (.Constant (.int 1) kk p9) p10) pos3.line X.env = pure false := by rfl)
    (hw3 : swappedStores [.Subscript (.Name xo p3) (.Name xa p4) p5] (.BinOp (.Subscript (.Name xo p6) (.Name xa p7) p8) .Add (.Constant (.int 1) kk p9) p10) X.env = pure none := by rfl)
    (h13 : (assignEach [.Subscript (.Name xo p3) (.Name xa p4) p5] X.env).map (·.2) = [assign (.Subscript (.Name xo p3) (.Name xa p4) p5) X.env] := by rfl)
    (hasg : ∀ v, assign (.Subscript (.Name xo p3) (.Name xa p4) p5) X.env v = (do
      let ov ← holding [v] (eval (.Name xo p3) X.env)
      let iv ← holding [v, ov] (eval (.Name xa p4) X.env)
      standAt p5
      holding [v, ov, iv] (setItem ov iv v)
      release [v, ov, iv] []) := by intro _; rfl)
    (hpi : PlainIx (.Name xa p7) := by intro _ _; rfl) :
    DSs T g X (.Assign [.Name xo p1] p pos1 :: .Assign [.Name xa p2] e pos2 :: .Assign [.Subscript (.Name xo p3) (.Name xa p4) p5] (.BinOp (.Subscript (.Name xo p6) (.Name xa p7) p8) .Add (.Constant (.int 1) kk p9) p10) pos3 :: ps) (S.seq (S.bump i es jo ja ee) b) := fun W tk => by
  refine PSs.impI (pss_cons (ps_set (i := jo) G.nd ho (.inl hxo) (hp W tk) hs1 (.inr hxo)) (pss_cons (ps_set (i := ja) G.nd ha (.inl hxa) (he W tk) hs2 (.inr hxa)) (pss_cons (ps_asg (pe_op op_add (pe_ix ix_list (pe_var (i := jo) ho (.inl hxo) hd1 hc1) (pe_var (i := ja) ha (.inl hxa) hd2 hc2) hpi) pe_int) (pg_sub (pe_var (i := jo) ho (.inl hxo) hd1 hc1) (pe_var (i := ja) ha (.inl hxa) hd2 hc2) set_list hasg) hs3 hw3 h13) (hr W tk)))) fun D σ H hl ⟨Oc, r, As, en, h⟩ => ?_
  have h : AftS T g Oc W σ H As (seqR (S.bump i es jo ja ee r) b) D := h
  unfold S.bump at h
  cases qq : getS r i with
  | val k d =>
    simp only [qq] at h
    by_cases hk : k = es.length + 1
    · rw [if_pos hk, seqR_bind] at h
      obtain ⟨v0, ev, o⟩ := slot_own en qq
      have lo : jo < σ.length := by rw [hl]; exact lt_of_get ho
      have la : ja < σ.length := by rw [hl]; exact lt_of_get ha
      refine ⟨Oc, r, As, en, k, d, v0, qq, by omega, ev, aft_mono (aftS_bindF h) fun x H1 ⟨r1, As1, z1, st1, ⟨hR, hlz⟩, h1⟩ => ?_⟩
      have lr1 : jo < r1.length := by rw [st1.env.len]; exact lo
      have en1 : EnvR T false Oc H1 (σ.set jo (some x)) (r1.set jo .no) (upA As1 jo []) := st1.env.putNo lr1
      have s1 : StepS T g.io Oc σ H As (σ.set jo (some x)) H1 (r1.set jo .no) (upA As1 jo []) := ⟨en1, st1.kp.mono fun _ ⟨j, _, h⟩ => ⟨j, h⟩, gr_upA st1.gr (fun a ha => by cases ha), pin_set hjo⟩
      have h1 := AftS.from s1 h1
      rw [seqR_bind] at h1
      refine ⟨Oc, _, _, en1, aft_mono (aftS_bindF (R1 := ResR T false Oc (σ.set jo (some x)) κ) h1) fun y H2 ⟨r2, As2, c2, st2, rs2, h2⟩ => ?_⟩
      obtain ⟨js, y0⟩ := z1
      have e1 : getS (r1.set jo .no) i = .val k d := by
        rw [getS_set _ _ _ _ lr1, if_neg hoi, (st1.sm i hi1).1]; exact qq
      have e2 : getS r2 i = .val k d := by rw [(st2.sm i hi2).1]; exact e1
      have evi : (σ.set jo (some x))[i]?.join = some v0 := by rw [join_set _ _ _ _ lo, if_neg hoi]; exact ev
      obtain ⟨m, rfl⟩ : ∃ m, k = js.length + (m + 1) := ⟨k - js.length - 1, by simp only at hlz; omega⟩
      obtain rfl : m = 0 := by simp only at hlz; omega
      obtain ⟨v1, ev1, o1⟩ := slot_own en1 e1
      rw [evi] at ev1; cases ev1
      obtain ⟨v2, ev2, o2⟩ := slot_own st2.env e2
      rw [evi] at ev2; cases ev2
      have hR2 : Reach H2 v0 d js x y0 := hR.keep o1 (st2.same en1 hi2)
      obtain ⟨B, _, oB⟩ := hR2.own o2
      cases y0 with
      | lst ds => cases c2 with
        | int j =>
          cases hi : idxD (.lst ds) (.int j) with
          | none => simp only [hi] at h2; exact h2.elim
          | some z =>
            simp only [hi] at h2
            cases hv : addI z (.int 1) with
            | none => simp only [hv] at h2; exact h2.elim
            | some v =>
              simp only [hv] at h2
              obtain ⟨i1, i2, rfl, e9, rfl⟩ := add_inv hv
              cases e9
              cases hd : setAt d js (.int j) (.int (i1 + 1)) with
              | none => simp only [hd] at h2; exact h2.elim
              | some d' =>
                simp only [hd] at h2
                obtain ⟨p0, hp0, hz⟩ := idx_pos hi
                obtain ⟨a0, vs, Bs, rfl, g2, _, q2⟩ := own_lst oB
                obtain ⟨u, C, g1, _, gz⟩ := q2.get hz
                obtain rfl := rep_int rs2.weak
                obtain rfl := rep_int gz.2
                have sj : ((σ.set jo (some (.ref a0))).set ja (some (.int j)))[jo]? = some (some (.ref a0)) := by
                  rw [List.getElem?_set_ne (Ne.symm hoa), List.getElem?_set_self lo]
                have sa : ((σ.set jo (some (.ref a0))).set ja (some (.int j)))[ja]? = some (some (.int j)) := List.getElem?_set_self (by simpa using la)
                refine ⟨.ref a0, sj, .int j, sa, a0, vs, j, .int i1, rfl, rfl, SqL.of g2, ?_, i1, 1, rfl, rfl, ?_⟩
                · unfold L2.atI
                  rw [q2.len.1, posI_ix hp0]
                  exact g1
                · obtain ⟨p1', vs1, m, e5, f2, f3, f4, f5⟩ := own_set (Rep.int (i1 + 1)) o2 (st2.env.nd i) (fun a ha => .inl ⟨i, ha⟩) hR2 hd
                  cases e5
                  refine ⟨.ref a0, sj, .int j, sa, a0, vs1, j, m, rfl, rfl, f3, f4, ?_⟩
                  have en3 : EnvR T false Oc (upd H2 a0 (.lst (vs1.set m (.int (i1 + 1))))) (σ.set jo (some (.ref a0))) (r2.set i (.val (js.length + (0 + 1)) d')) (upA As2 i (As2 i)) := by
                    refine EnvR.updOwn (B := []) (st2.env.lessOc fun a z => z.elim id fun z => by cases z) f2 f3 (fun a h => .inl h) (st2.env.nd i) (fun _ z => by cases z) ⟨v0, evi, ?_⟩
                    rw [upA_id]
                    exact f5
                  have s3 : StepS T g.io Oc (σ.set jo (some (.ref a0))) H2 As2 (σ.set jo (some (.ref a0))) _ _ _ := StepS.any (upd_step (B := []) (Step.refl st2.env (t := [])) f2 f3 (fun a h => .inl h) (fun _ z => by cases z) en3)
                  have la2 : ja < (r2.set i (.val (js.length + (0 + 1)) d')).length := by rw [en3.len]; simpa using la
                  have en4 := en3.put0 la2 (Rep.int j)
                  have s4 : StepS T g.io Oc (σ.set jo (some (.ref a0))) _ _ ((σ.set jo (some (.ref a0))).set ja (some (.int j))) _ _ _ := ⟨en4, Kp.refl, gr_upA (fun _ _ h => .inl h) (fun a ha => by cases ha), pin_set hja⟩
                  exact ⟨Oc, _, _, en4, AftS.from ((Step.toS st2).trans (s3.trans s4)) h2⟩
        | _ => exact h2.elim
      | _ => cases c2 <;> exact h2.elim
    · rw [if_neg hk] at h; exact h.elim
  | _ => simp only [qq] at h; exact h.elim
end
end O
end
section
set_option Elab.async false
set_option linter.all false
set_option maxRecDepth 100000
/-! SoundX4: list comprehensions of two clauses, items shared. -/
namespace O
open PySem PySem.Spec PyProof.Rows L2
theorem env_ext {a b : Env} (hl : a.length = b.length) (h : ∀ i, getS a i = getS b i) : a = b := by
  refine List.ext_getElem hl fun i h1 h2 => ?_
  have := h i
  unfold getS at this
  rw [List.getD_eq_getElem?_getD, List.getD_eq_getElem?_getD, List.getElem?_eq_getElem h1, List.getElem?_eq_getElem h2] at this
  exact this
theorem wipe_mem {a b : List Nat} (h : ∀ i, i ∈ a ↔ i ∈ b) (r : Env) : E.wipe a r = E.wipe b r := by
  refine env_ext (by rw [len_wipe, len_wipe]) fun i => ?_
  rw [getS_wipe, getS_wipe]
  by_cases hi : i ∈ a
  · rw [if_pos hi, if_pos ((h i).mp hi)]
  · rw [if_neg hi, if_neg (fun z => hi ((h i).mpr z))]
theorem wipe_app (a b : List Nat) (r : Env) : E.wipe (a ++ b) r = E.wipe a (E.wipe b r) := by
  refine env_ext (by rw [len_wipe, len_wipe, len_wipe]) fun i => ?_
  rw [getS_wipe, getS_wipe, getS_wipe]
  by_cases h1 : i ∈ a
  · rw [if_pos h1, if_pos (List.mem_append_left _ h1)]
  · rw [if_neg h1]
    by_cases h2 : i ∈ b
    · rw [if_pos h2, if_pos (List.mem_append_right _ h2)]
    · rw [if_neg h2, if_neg (fun z => (List.mem_append.mp z).elim h1 h2)]
def OcQ (Oc : AP1) (own : List Nat) (As1 : Nat → List Addr) (Dd : Addr) : AP1 := fun a => Oc a ∨ (∃ i, i ∈ own ∧ a ∈ As1 i) ∨ a = Dd
/-- within a comprehension's block -/
structure Bk (T : Tab) (Oc : AP1) (σ : St) (own t : List Nat) (H1 : Hp) (r1 : Env) (As1 : Nat → List Addr) (Dd : Addr) (H : Hp) (σi : St) (ri : Env) (Ai : Nat → List Addr) (acc : List V) (ys : List D) : Prop where
  env : EnvR T false (OcQ Oc own As1 Dd) H σi ri Ai
  dd : H Dd = some (.lst acc)
  it : Reps T.K (PO (OcQ Oc own As1 Dd) Ai) H acc ys
  kp : Kp (fun a => ∃ i, i ∈ t ∧ a ∈ As1 i) H1 H
  gr : ∀ i a, a ∈ Ai i → a ∈ As1 i ∨ H1 a = none
  sm : ∀ i, i ∉ t → i ∉ own → getS ri i = getS r1 i ∧ Ai i = As1 i
  ow : ∀ i, i ∈ own → Ai i = []
  ok : ∀ i a, i ∈ own → a ∈ As1 i → H1 a ≠ none ∧ H a = H1 a
  sg : ∀ i, i ∉ own → σi[i]? = σ[i]?
  ln : σi.length = σ.length
theorem ocb_nil {Oc : AP1} {own : List Nat} {As1 : Nat → List Addr} {Dd : Addr} {Ks : List (List Addr)} (hk : Ks.flatten = []) (a : Addr) : OcB Oc own As1 Dd Ks a ↔ OcQ Oc own As1 Dd a := by
  unfold OcB OcQ
  rw [hk]
  constructor
  · rintro (h | h | h | h)
    · exact .inl h
    · exact .inr (.inl h)
    · exact .inr (.inr h)
    · cases h
  · rintro (h | h | h)
    · exact .inl h
    · exact .inr (.inl h)
    · exact .inr (.inr (.inl h))
section
variable {T : Tab} {Oc : AP1} {σ σi σ2 : St} {own t t' : List Nat} {H1 H H' H4 : Hp} {r1 ri r' r4 : Env} {As1 Ai A2 A4 : Nat → List Addr} {Dd : Addr} {acc : List V} {ys : List D}
theorem Bk.toBlk (b : Bk T Oc σ own t H1 r1 As1 Dd H σi ri Ai acc ys) (hb : ∀ j ∈ own, j < σ.length) : Blk T Oc σ own t H1 r1 As1 Dd 0 H ri Ai acc ys (acc.map fun _ => []) := by
  have hK := nil_flat acc
  have w1 : wipeA own Ai = Ai := by
    funext i
    unfold wipeA
    by_cases h : i ∈ own
    · rw [if_pos h, b.ow i h]
    · rw [if_neg h]
  have w2 : L2.wipe σi own = L2.wipe σ own := by
    refine wipe_same hb (fun i hi => ?_) b.ln
    rw [wipe_get σ i own hb, if_neg hi]
    exact b.sg i hi
  have e0 := b.env.wipe (own := own) (by rw [b.ln]; exact hb)
  rw [w1, w2] at e0
  refine ⟨e0.lessOc fun a z => (ocb_nil hK a).mp z, b.dd, ?_, by rw [hK]; simp, by rw [hK]; exact (fun a z => nomatch z), b.kp, b.gr, b.sm, b.ow, b.ok⟩
  exact one_all (b.it.keep Kp.refl fun a _ z => z.imp id (ocb_nil hK a).mp)
theorem Bk.start (en1 : EnvR T false Oc H1 σ r1 As1) (hb : ∀ j ∈ own, j < σ.length) (hD : H1 Dd = none) :
    Bk T Oc σ own t H1 r1 As1 Dd (upd H1 Dd (.lst [])) (L2.wipe σ own) (E.wipe own r1) (wipeA own As1) [] [] := by
  have b := Blk.start (T := T) (t := t) (ke := 0) en1 hb hD
  have ww : E.wipe own (E.wipe own r1) = E.wipe own r1 := by
    rw [← wipe_app]
    exact wipe_mem (fun i => by simp) r1
  have e0 := b.env
  rw [ww] at e0
  exact ⟨e0.lessOc fun a z => (ocb_nil rfl a).mpr z, b.dd, .nil, b.kp, b.gr, b.sm, b.ow, b.ok, fun i hi => by rw [wipe_get σ i own hb, if_neg hi], L2.wipe_length _ _⟩
theorem Bk.notD (b : Bk T Oc σ own t H1 r1 As1 Dd H σi ri Ai acc ys) : ∀ a, OcQ Oc own As1 Dd a → ¬ ∃ i, a ∈ Ai i := fun a ha ⟨i, z⟩ => b.env.oc i a z ha
/-- an expression within -/
theorem Bk.expr (b : Bk T Oc σ own t H1 r1 As1 Dd H σi ri Ai acc ys) (ht : ∀ i, i ∈ t' → i ∈ t) (hto : ∀ i, i ∈ own → i ∉ t) (s : Step T false (OcQ Oc own As1 Dd) σi t' H ri Ai H4 r4 A4) : Bk T Oc σ own t H1 r1 As1 Dd H4 σi r4 A4 acc ys := by
  have keepB : ∀ a, OcQ Oc own As1 Dd a → H4 a = H a := fun a ha => by
    cases q : H a with
    | none => exact absurd q (b.env.od a ha)
    | some o => exact s.kp.old a o q fun ⟨i, _, z⟩ => b.notD a ha ⟨i, z⟩
  refine ⟨s.env, by rw [keepB Dd (.inr (.inr rfl))]; exact b.dd, b.it.keep s.kpO s.po, ?_, fun i a h => ?_, fun i hi ho => ?_, fun i hi => ?_, fun i a hi ha => ⟨(b.ok i a hi ha).1, (keepB a (.inr (.inl ⟨i, hi, ha⟩))).trans (b.ok i a hi ha).2⟩, b.sg, b.ln⟩
  · refine b.kp.trans s.kp (fun _ z => z) fun a ha ⟨i, hi, z⟩ => ?_
    rcases b.gr i a z with w | w
    · exact ⟨i, ht i hi, w⟩
    · exact absurd w ha
  · rcases s.gr i a h with z | z
    · exact b.gr i a z
    · cases w : H1 a with
      | none => exact .inr rfl
      | some o => exact absurd z (b.kp.dom a (by rw [w]; simp))
  · obtain ⟨e1, e3⟩ := s.sm i (fun z => hi (ht i z))
    obtain ⟨e5, e6⟩ := b.sm i hi ho
    exact ⟨e1.trans e5, e3.trans e6⟩
  · rw [(s.sm i (fun z => hto i hi (ht i z))).2]; exact b.ow i hi
/-- names of the block stored; the others as they were -/
theorem Bk.put (b : Bk T Oc σ own t H1 r1 As1 Dd H σi ri Ai acc ys) (x : Ext H H') (e2 : EnvR T false (OcQ Oc own As1 Dd) H' σ2 r' A2) (hr : ∀ i, i ∉ own → getS r' i = getS ri i) (h1 : ∀ i, i ∉ own → σ2[i]? = σi[i]?) (hA : ∀ i, A2 i = Ai i) (hl : σ2.length = σi.length) : Bk T Oc σ own t H1 r1 As1 Dd H' σ2 r' A2 acc ys := by
  have eA : A2 = Ai := funext hA
  subst eA
  refine ⟨e2, x _ _ b.dd, b.it.keep x.kp fun _ _ z => z, ?_, b.gr, fun i hi ho => ?_, b.ow, fun i a hi ha => ⟨(b.ok i a hi ha).1, ?_⟩, fun i hi => (h1 i hi).trans (b.sg i hi), hl.trans b.ln⟩
  · exact b.kp.trans (x.kp (P := fun _ => False)) (fun _ z => z) fun _ _ z => z.elim
  · exact ⟨(hr i ho).trans (b.sm i hi ho).1, (b.sm i hi ho).2⟩
  · obtain ⟨p1, p2⟩ := b.ok i a hi ha
    cases q : H a with
    | none => rw [q] at p2; exact absurd p2.symm p1
    | some o => rw [x a o q, ← p2, q]
/-- one more item -/
theorem Bk.push (b : Bk T Oc σ own t H1 r1 As1 Dd H σi ri Ai acc ys) (hD : H1 Dd = none) {v : V} {y : D} (rp : Rep T.K (PO (OcQ Oc own As1 Dd) Ai) H v y) : Bk T Oc σ own t H1 r1 As1 Dd (upd H Dd (.lst (acc ++ [v]))) σi ri Ai (acc ++ [v]) (ys ++ [y]) := by
  have dB : OcQ Oc own As1 Dd Dd := .inr (.inr rfl)
  have kp := kp_upd (ws := acc ++ [v]) (P := PO (OcQ Oc own As1 Dd) Ai) (.inr dB) b.dd
  refine ⟨b.env.updOc dB b.dd, upd_same, Reps.app (b.it.keep kp fun _ _ z => z) (.cons (rp.keep kp fun _ _ z => z) .nil), ?_, b.gr, b.sm, b.ow, fun i a hi ha => ⟨(b.ok i a hi ha).1, (upd_ne fun z => (b.ok i a hi ha).1 (by rw [z]; exact hD)).trans (b.ok i a hi ha).2⟩, b.sg, b.ln⟩
  refine b.kp.trans (kp_upd (P := fun a => a = Dd) rfl b.dd) (fun _ z => z) fun a ha z => ?_
  exact absurd (show H1 a = none by rw [show a = Dd from z]; exact hD) ha
end
/-! the pure form -/
section
variable (tg : E.Tg) (cond : E) (tg2 : E.Tg) (it2 : E.It) (cond2 elt : E) (r1 : Env)
def fin2 (ys : List D) (r2 : Env) : Res D := if ys.length ≤ LIM then .ok (.lst ys) (E.back r1 (tg.own ++ tg2.own) r2) else .stuck
def inn2 : Env → Res (List D) := fun r => (it2 r).bindN fun ys r => E.turns tg2 cond2 (E.one elt) ys r
def R2o (xs : List D) (ri : Env) (ys : List D) : Res D := (E.turnsW tg2.own tg cond (inn2 tg2 it2 cond2 elt) xs ri).bindN fun zs r2 => fin2 tg tg2 r1 (ys ++ zs) r2
def R2i (xs2 xs : List D) (rj : Env) (ys : List D) : Res D := (E.turns tg2 cond2 (E.one elt) xs2 rj).bindN fun zs r => R2o tg cond tg2 it2 cond2 elt r1 xs r (ys ++ zs)
end
section
variable {tg : E.Tg} {cond : E} {tg2 : E.Tg} {it2 : E.It} {cond2 elt : E} {r1 : Env}
theorem R2o_nil {ri : Env} {ys : List D} : R2o tg cond tg2 it2 cond2 elt r1 [] ri ys = fin2 tg tg2 r1 ys ri := by
  show fin2 tg tg2 r1 (ys ++ []) ri = _
  rw [List.append_nil]
theorem R2i_nil {xs : List D} {rj : Env} {ys : List D} : R2i tg cond tg2 it2 cond2 elt r1 [] xs rj ys = R2o tg cond tg2 it2 cond2 elt r1 xs rj ys := by
  show R2o tg cond tg2 it2 cond2 elt r1 xs rj (ys ++ []) = _
  rw [List.append_nil]
theorem R2o_len {xs : List D} {ri : Env} {ys : List D} (h : R2o tg cond tg2 it2 cond2 elt r1 xs ri ys ≠ .stuck) : ys.length ≤ LIM := by
  unfold R2o at h
  cases e : E.turnsW tg2.own tg cond (inn2 tg2 it2 cond2 elt) xs ri with
  | ok zs r =>
    rw [e] at h
    have h : fin2 tg tg2 r1 (ys ++ zs) r ≠ .stuck := h
    unfold fin2 at h
    split at h
    · rename_i hl
      rw [List.length_append] at hl
      omega
    · exact absurd rfl h
  | raise c r => rw [e] at h; exact absurd rfl h
  | stuck => rw [e] at h; exact absurd rfl h
theorem R2i_len {xs2 xs : List D} {ri : Env} {ys : List D} (h : R2i tg cond tg2 it2 cond2 elt r1 xs2 xs ri ys ≠ .stuck) : ys.length ≤ LIM := by
  unfold R2i at h
  cases e : E.turns tg2 cond2 (E.one elt) xs2 ri with
  | ok zs r =>
    rw [e] at h
    have h : R2o tg cond tg2 it2 cond2 elt r1 xs r (ys ++ zs) ≠ .stuck := h
    have := R2o_len h
    rw [List.length_append] at this
    omega
  | raise c r => rw [e] at h; exact absurd rfl h
  | stuck => rw [e] at h; exact absurd rfl h
theorem R2o_cons {x : D} {xs : List D} {ri : Env} {ys : List D} (h : R2o tg cond tg2 it2 cond2 elt r1 (x :: xs) ri ys ≠ .stuck) :
    ∃ r' b r3, tg.put x (E.wipe tg2.own ri) = some r' ∧ cond r' = .ok (.bl b) r3 ∧ (b = false → R2o tg cond tg2 it2 cond2 elt r1 (x :: xs) ri ys = R2o tg cond tg2 it2 cond2 elt r1 xs r3 ys) ∧
      (b = true → ∃ xs2 r4, it2 r3 = .ok xs2 r4 ∧ R2o tg cond tg2 it2 cond2 elt r1 (x :: xs) ri ys = R2i tg cond tg2 it2 cond2 elt r1 xs2 xs r4 ys) := by
  have e : E.turnsW tg2.own tg cond (inn2 tg2 it2 cond2 elt) (x :: xs) ri = match tg.put x (E.wipe tg2.own ri) with
    | none => .stuck
    | some r => (cond r).bindN fun c r => match c with
      | .bl true => (inn2 tg2 it2 cond2 elt r).bindN fun ys r => (E.turnsW tg2.own tg cond (inn2 tg2 it2 cond2 elt) xs r).bindN fun zs r => .ok (ys ++ zs) r
      | .bl false => E.turnsW tg2.own tg cond (inn2 tg2 it2 cond2 elt) xs r
      | _ => .stuck := rfl
  unfold R2o at h ⊢
  rw [e] at h ⊢
  cases hp : tg.put x (E.wipe tg2.own ri) with
  | none => rw [hp] at h; exact absurd rfl h
  | some r' =>
    rw [hp] at h
    cases hc : cond r' with
    | ok c r3 =>
      simp only [hc, Res.bindN] at h ⊢
      cases c with
      | bl b =>
        refine ⟨r', b, r3, rfl, hc, fun hb => by subst hb; rfl, fun hb => ?_⟩
        subst hb
        cases he : it2 r3 with
        | ok xs2 r4 =>
          refine ⟨xs2, r4, rfl, ?_⟩
          unfold R2i R2o
          simp only [inn2, he, Res.bindN]
          cases E.turns tg2 cond2 (E.one elt) xs2 r4 with
          | ok zs r5 =>
            simp only [Res.bindN]
            cases E.turnsW tg2.own tg cond (inn2 tg2 it2 cond2 elt) xs r5 with
            | ok zs' r6 => simp only [List.append_assoc]
            | raise _ _ => rfl
            | stuck => rfl
          | raise _ _ => rfl
          | stuck => rfl
        | raise c r4 => simp only [inn2, he, Res.bindN] at h; exact absurd rfl h
        | stuck => simp only [inn2, he, Res.bindN] at h; exact absurd rfl h
      | _ => exact absurd rfl h
    | raise c r3 => simp only [hc, Res.bindN] at h; exact absurd rfl h
    | stuck => simp only [hc, Res.bindN] at h; exact absurd rfl h
theorem R2i_cons {x : D} {xs2 xs : List D} {rj : Env} {ys : List D} (h : R2i tg cond tg2 it2 cond2 elt r1 (x :: xs2) xs rj ys ≠ .stuck) :
    ∃ r' b r3, tg2.put x rj = some r' ∧ cond2 r' = .ok (.bl b) r3 ∧ (b = false → R2i tg cond tg2 it2 cond2 elt r1 (x :: xs2) xs rj ys = R2i tg cond tg2 it2 cond2 elt r1 xs2 xs r3 ys) ∧
      (b = true → ∃ y r4, elt r3 = .ok y r4 ∧ R2i tg cond tg2 it2 cond2 elt r1 (x :: xs2) xs rj ys = R2i tg cond tg2 it2 cond2 elt r1 xs2 xs r4 (ys ++ [y])) := by
  have e : E.turns tg2 cond2 (E.one elt) (x :: xs2) rj = match tg2.put x rj with
    | none => .stuck
    | some r => (cond2 r).bindN fun c r => match c with
      | .bl true => (E.one elt r).bindN fun ys r => (E.turns tg2 cond2 (E.one elt) xs2 r).bindN fun zs r => .ok (ys ++ zs) r
      | .bl false => E.turns tg2 cond2 (E.one elt) xs2 r
      | _ => .stuck := rfl
  unfold R2i at h ⊢
  rw [e] at h ⊢
  cases hp : tg2.put x rj with
  | none => rw [hp] at h; exact absurd rfl h
  | some r' =>
    rw [hp] at h
    cases hc : cond2 r' with
    | ok c r3 =>
      simp only [hc, Res.bindN] at h ⊢
      cases c with
      | bl b =>
        refine ⟨r', b, r3, rfl, hc, fun hb => by subst hb; rfl, fun hb => ?_⟩
        subst hb
        cases he : elt r3 with
        | ok y r4 =>
          refine ⟨y, r4, rfl, ?_⟩
          simp only [E.one, he, Res.bindN]
          cases E.turns tg2 cond2 (E.one elt) xs2 r4 with
          | ok zs r5 => simp only [List.append_assoc]
          | raise _ _ => rfl
          | stuck => rfl
        | raise c r4 => simp only [E.one, he, Res.bindN] at h; exact absurd rfl h
        | stuck => simp only [E.one, he, Res.bindN] at h; exact absurd rfl h
      | _ => exact absurd rfl h
    | raise c r3 => simp only [hc, Res.bindN] at h; exact absurd rfl h
    | stuck => simp only [hc, Res.bindN] at h; exact absurd rfl h
end
section
variable {T : Tab} {X : Cx} {n : Nat}
theorem t_comp2 {W : WX} {tg : E.Tg} {it : E.It} {cond : E} {tg2 : E.Tg} {it2 : E.It} {cond2 elt : E} {κe κ : Kd} {t1 tc ti tc2 te : List Nat} (hke : κe.solid = true) (hk : κ = .s ∨ κ = .f 1) {σ : St} {H : Hp} {Q : VK} (hb : ∀ j ∈ tg.own ++ tg2.own, j < σ.length) (hto : ∀ i, i ∈ tg.own ++ tg2.own → i ∉ tc ++ (ti ++ (tc2 ++ te)))
    (h : TEv T false W (E.comp2 tg it cond tg2 it2 cond2 elt) κ (t1 ++ (tc ++ (ti ++ (tc2 ++ te)))) σ H Q) : tLc2 (TIv T false W it t1) (TGv T false tg) (TTv T false W0 cond tc) (TIv T false W0 it2 ti) (TGv T false tg2) (TTv T false W0 cond2 tc2) (TEv T false W0 elt κe te) (tg.own ++ tg2.own) tg2.own σ H Q := by
  obtain ⟨Oc, r, As, en, a⟩ := h
  have e : E.comp2 tg it cond tg2 it2 cond2 elt r = (it r).bind fun xs r1 => R2o tg cond tg2 it2 cond2 elt r1 xs (E.wipe (tg.own ++ tg2.own) r1) [] := by
    show ((it r).bind fun xs r1 => (E.turnsW tg2.own tg cond (inn2 tg2 it2 cond2 elt) xs (E.wipe (tg.own ++ tg2.own) r1)).bindN fun ys r2 => .ok ys (E.back r1 (tg.own ++ tg2.own) r2)).bind (fun ys r => if ys.length ≤ LIM then .ok (D.lst ys) r else .stuck) = _
    rw [Res.bind_assoc]
    congr 1
    funext xs r1
    unfold R2o
    cases E.turnsW tg2.own tg cond (inn2 tg2 it2 cond2 elt) xs (E.wipe (tg.own ++ tg2.own) r1) <;> rfl
  rw [e] at a
  refine ⟨Oc, r, As, en, aft_mono (aft_bind (t2 := tc ++ (ti ++ (tc2 ++ te))) wid_res a) fun J H1 ⟨r1, As1, xs, st1, ⟨⟨Y, wk, hy⟩, hl⟩, a1⟩ => ?_⟩
  intro Dd hD
  have en1 := st1.env
  have notStuck : R2o tg cond tg2 it2 cond2 elt r1 xs (E.wipe (tg.own ++ tg2.own) r1) [] ≠ .stuck := fun z => by rw [z] at a1; exact a1
  have hb2 : ∀ j ∈ tg2.own, j < σ.length := fun j hj => hb j (List.mem_append_right _ hj)
  generalize hwh : R2o tg cond tg2 it2 cond2 elt r1 xs (E.wipe (tg.own ++ tg2.own) r1) [] = whole at a1 notStuck
  refine ⟨fun i m H => m = xs.length - i ∧ i ≤ xs.length ∧ ∃ σi ri Ai acc ys, Bk T Oc σ (tg.own ++ tg2.own) (tc ++ (ti ++ (tc2 ++ te))) H1 r1 As1 Dd H σi ri Ai acc ys ∧ R2o tg cond tg2 it2 cond2 elt r1 (xs.drop i) ri ys = whole, ⟨xs.length, by simp, Nat.zero_le _, _, _, _, _, _, Bk.start en1 hb hD, by rw [List.drop_zero]; exact hwh⟩, ?_⟩
  rintro i m H ⟨rfl, hi, σi, ri, Ai, acc, ys, b, hrem⟩
  have kk : Kp (PO Oc As1) H1 H := b.kp.mono fun x ⟨j, _, z⟩ => .inl ⟨j, z⟩
  by_cases hlt : i < xs.length
  · refine .inr ⟨wk.goes i H hlt kk, fun H' => ∃ σi ri Ai acc ys, Bk T Oc σ (tg.own ++ tg2.own) (tc ++ (ti ++ (tc2 ++ te))) H1 r1 As1 Dd H' σi ri Ai acc ys ∧ R2o tg cond tg2 it2 cond2 elt r1 (xs.drop (i + 1)) ri ys = whole, fun H' p' => ⟨xs.length - (i + 1), by omega, rfl, hlt, p'⟩, fun x H' y => ?_⟩
    obtain ⟨ext, hit⟩ := hy i H x H' (wk.yields i H x H' hlt kk y) hlt kk
    have hp : ∀ a, H1 a ≠ none → PO (OcQ Oc (tg.own ++ tg2.own) As1 Dd) Ai a → PO Oc As1 a := fun a ha z => by
      rcases z with ⟨j, z⟩ | z | ⟨j, _, z⟩ | z
      · rcases b.gr j a z with w | w
        · exact .inl ⟨j, w⟩
        · exact absurd w ha
      · exact .inr z
      · exact .inl ⟨j, z⟩
      · exact absurd (show H1 a = none by rw [z]; exact hD) ha
    obtain ⟨d, hd, rp⟩ := hit _ hp
    have dr : xs.drop i = d :: xs.drop (i + 1) := by
      obtain ⟨h1, h2⟩ := List.getElem?_eq_some_iff.mp hd
      rw [← h2]
      exact (List.drop_eq_getElem_cons h1)
    rw [dr] at hrem
    obtain ⟨r', bb, r3, e1, e2, hf, ht⟩ := R2o_cons (by rw [hrem]; exact notStuck)
    have pw : tg.put d (E.wipe (tg.own ++ tg2.own) ri) = some r' := by rw [wipe_app, put_wipe]; exact e1
    obtain ⟨pg1, pg2⟩ := put_get pw
    have enw := (b.env.ext ext).wipe (own := tg.own ++ tg2.own) (by rw [b.ln]; exact hb)
    have w1 : wipeA (tg.own ++ tg2.own) Ai = Ai := by
      funext j
      unfold wipeA
      by_cases h : j ∈ tg.own ++ tg2.own
      · rw [if_pos h, b.ow j h]
      · rw [if_neg h]
    have w2 : L2.wipe σi (tg.own ++ tg2.own) = L2.wipe σ (tg.own ++ tg2.own) := wipe_same hb (fun j hj => by rw [wipe_get σ j _ hb, if_neg hj]; exact b.sg j hj) b.ln
    rw [w1, w2] at enw
    refine ⟨_, _, _, d, enw, rp, ?_⟩
    rw [pw]
    intro σ2 A2 en2 h1 h2 h3
    have nin : ∀ j, j ∉ tg.own ++ tg2.own → j ∉ tg.own := fun j hj z => hj (List.mem_append_left _ z)
    have hA : ∀ j, A2 j = Ai j := fun j => by
      by_cases hj : j ∈ tg.own
      · rw [h2 j hj, b.ow j (List.mem_append_left _ hj)]
      · exact (h1 j hj).2
    have h3' : σ2.length = σ.length := by rw [h3, L2.wipe_length]
    have s2 : ∀ j, j ∉ tg.own ++ tg2.own → σ2[j]? = σ[j]? := fun j hj => by rw [(h1 j (nin j hj)).1, wipe_get σ j _ hb, if_neg hj]
    have wsame : L2.wipe σ2 (tg.own ++ tg2.own) = L2.wipe σ (tg.own ++ tg2.own) := wipe_same hb (fun j hj => by rw [s2 j hj, wipe_get σ j _ hb, if_neg hj]) h3'
    have b2 := b.put ext en2 (fun j hj => by rw [pg1 j (nin j hj), getS_wipe, if_neg hj]) (fun j hj => (s2 j hj).trans (b.sg j hj).symm) hA (h3'.trans b.ln.symm)
    refine ⟨wsame, _, r', A2, en2, ?_⟩
    rw [e2]
    intro H3 A3 st3
    have b3 := b2.expr (fun j z => List.mem_append_left _ z) hto st3
    cases bb with
    | false =>
      rw [if_neg (by decide)]
      exact ⟨σ2, r3, A3, acc, ys, b3, by rw [← hf rfl]; exact hrem⟩
    | true =>
      rw [if_pos rfl]
      obtain ⟨xs2, r4, e4, hrem2⟩ := ht rfl
      refine ⟨_, r3, A3, st3.env, ?_⟩
      unfold Aft
      rw [e4]
      intro J1 H4 A4 st4 rs4
      obtain ⟨⟨Y1, wk1, hy1⟩, hl1⟩ := rs4
      have b4 := b3.expr (fun j z => List.mem_append_right _ (List.mem_append_left _ z)) hto st4
      refine ⟨fun j k H => k = xs2.length - j ∧ j ≤ xs2.length ∧ ∃ σj rj Aj acc ys, Bk T Oc σ (tg.own ++ tg2.own) (tc ++ (ti ++ (tc2 ++ te))) H1 r1 As1 Dd H σj rj Aj acc ys ∧ L2.wipe σj tg2.own = L2.wipe σ2 tg2.own ∧ Kp (PO (OcQ Oc (tg.own ++ tg2.own) As1 Dd) A4) H4 H ∧ (∀ a, H4 a ≠ none → PO (OcQ Oc (tg.own ++ tg2.own) As1 Dd) Aj a → PO (OcQ Oc (tg.own ++ tg2.own) As1 Dd) A4 a) ∧ R2i tg cond tg2 it2 cond2 elt r1 (xs2.drop j) (xs.drop (i + 1)) rj ys = whole,
        ⟨xs2.length, by simp, Nat.zero_le _, σ2, r4, A4, acc, ys, b4, rfl, Kp.refl, fun _ _ z => z, by rw [List.drop_zero, ← hrem2]; exact hrem⟩, ?_⟩
      rintro j k H5 ⟨rfl, hj, σj, rj, Aj, acc', ys', b5, hw, kq, pq, hrem5⟩
      by_cases hlt1 : j < xs2.length
      · refine .inr ⟨wk1.goes j H5 hlt1 kq, fun H' => ∃ σj rj Aj acc ys, Bk T Oc σ (tg.own ++ tg2.own) (tc ++ (ti ++ (tc2 ++ te))) H1 r1 As1 Dd H' σj rj Aj acc ys ∧ L2.wipe σj tg2.own = L2.wipe σ2 tg2.own ∧ Kp (PO (OcQ Oc (tg.own ++ tg2.own) As1 Dd) A4) H4 H' ∧ (∀ a, H4 a ≠ none → PO (OcQ Oc (tg.own ++ tg2.own) As1 Dd) Aj a → PO (OcQ Oc (tg.own ++ tg2.own) As1 Dd) A4 a) ∧ R2i tg cond tg2 it2 cond2 elt r1 (xs2.drop (j + 1)) (xs.drop (i + 1)) rj ys = whole,
          fun H' p' => ⟨xs2.length - (j + 1), by omega, rfl, hlt1, p'⟩, fun x H6 y => ?_⟩
        obtain ⟨ext5, hit5⟩ := hy1 j H5 x H6 (wk1.yields j H5 x H6 hlt1 kq y) hlt1 kq
        obtain ⟨d5, hd5, rp5⟩ := hit5 _ pq
        have dr5 : xs2.drop j = d5 :: xs2.drop (j + 1) := by
          obtain ⟨h1, h2⟩ := List.getElem?_eq_some_iff.mp hd5
          rw [← h2]
          exact (List.drop_eq_getElem_cons h1)
        rw [dr5] at hrem5
        obtain ⟨r6, bb6, r7, f1, f2, hf6, ht6⟩ := R2i_cons (by rw [hrem5]; exact notStuck)
        have pw5 : tg2.put d5 (E.wipe tg2.own rj) = some r6 := by rw [put_wipe]; exact f1
        obtain ⟨pg5, _⟩ := put_get f1
        have enw5 := (b5.env.ext ext5).wipe (own := tg2.own) (by rw [b5.ln]; exact hb2)
        have w5 : wipeA tg2.own Aj = Aj := by
          funext l
          unfold wipeA
          by_cases h : l ∈ tg2.own
          · rw [if_pos h, b5.ow l (List.mem_append_right _ h)]
          · rw [if_neg h]
        rw [w5, hw] at enw5
        refine ⟨_, _, _, d5, enw5, rp5, ?_⟩
        rw [pw5]
        intro σ6 A6 en6 g1 g2 g3
        have nin2 : ∀ l, l ∉ tg.own ++ tg2.own → l ∉ tg2.own := fun l hl z => hl (List.mem_append_right _ z)
        have hA6 : ∀ l, A6 l = Aj l := fun l => by
          by_cases hl : l ∈ tg2.own
          · rw [g2 l hl, b5.ow l (List.mem_append_right _ hl)]
          · exact (g1 l hl).2
        have l6 : σ6.length = σ2.length := by rw [g3, L2.wipe_length]
        have hb2' : ∀ l ∈ tg2.own, l < σ2.length := by rw [h3']; exact hb2
        have s6 : ∀ l, l ∉ tg2.own → σ6[l]? = σ2[l]? := fun l hl => by rw [(g1 l hl).1, wipe_get σ2 l _ hb2', if_neg hl]
        have ws6 : L2.wipe σ6 tg2.own = L2.wipe σ2 tg2.own := wipe_same hb2' (fun l hl => by rw [s6 l hl, wipe_get σ2 l _ hb2', if_neg hl]) l6
        have b6 := b5.put ext5 en6 (fun l hl => pg5 l (nin2 l hl)) (fun l hl => ((s6 l (nin2 l hl)).trans (s2 l hl)).trans (b5.sg l hl).symm) hA6 ((l6.trans h3').trans b5.ln.symm)
        have eA6 : A6 = Aj := funext hA6
        have kq6 : Kp (PO (OcQ Oc (tg.own ++ tg2.own) As1 Dd) A4) H4 H6 := kq.trans (ext5.kp (P := fun _ => False)) (fun _ z => z) fun _ _ z => z.elim
        have pq6 : ∀ a, H4 a ≠ none → PO (OcQ Oc (tg.own ++ tg2.own) As1 Dd) A6 a → PO (OcQ Oc (tg.own ++ tg2.own) As1 Dd) A4 a := by rw [eA6]; exact pq
        refine ⟨ws6, _, r6, A6, en6, ?_⟩
        rw [f2]
        intro H7 A7 st7
        have b7 := b6.expr (fun l z => List.mem_append_right _ (List.mem_append_right _ (List.mem_append_left _ z))) hto st7
        have kq7 : Kp (PO (OcQ Oc (tg.own ++ tg2.own) As1 Dd) A4) H4 H7 := kq6.trans st7.kpO (fun _ z => z) fun a ha z => pq6 a ha z
        have pq7 : ∀ a, H4 a ≠ none → PO (OcQ Oc (tg.own ++ tg2.own) As1 Dd) A7 a → PO (OcQ Oc (tg.own ++ tg2.own) As1 Dd) A4 a := fun a ha z => pq6 a ha (st7.po a (kq6.dom a ha) z)
        cases bb6 with
        | false =>
          rw [if_neg (by decide)]
          exact ⟨σ6, r7, A7, acc', ys', b7, ws6, kq7, pq7, by rw [← hf6 rfl]; exact hrem5⟩
        | true =>
          rw [if_pos rfl]
          obtain ⟨yv, r8, e8, hrem8⟩ := ht6 rfl
          refine ⟨_, r7, A7, st7.env, ?_⟩
          unfold Aft
          rw [e8]
          intro v H8 A8 st8 rs8
          have b8 := b7.expr (fun l z => List.mem_append_right _ (List.mem_append_right _ (List.mem_append_right _ z))) hto st8
          have kq8 : Kp (PO (OcQ Oc (tg.own ++ tg2.own) As1 Dd) A4) H4 H8 := kq7.trans st8.kpO (fun _ z => z) fun a ha z => pq7 a ha z
          have pq8 : ∀ a, H4 a ≠ none → PO (OcQ Oc (tg.own ++ tg2.own) As1 Dd) A8 a → PO (OcQ Oc (tg.own ++ tg2.own) As1 Dd) A4 a := fun a ha z => pq7 a ha (st8.po a (kq7.dom a ha) z)
          have acl : acc'.length = ys'.length := b8.it.length
          have lim := R2i_len (show R2i tg cond tg2 it2 cond2 elt r1 (xs2.drop (j + 1)) (xs.drop (i + 1)) r8 (ys' ++ [yv]) ≠ .stuck by rw [← hrem8, hrem5]; exact notStuck)
          rw [List.length_append] at lim
          refine ⟨acc', b8.dd, by rw [acl, ← lim_line]; simp at lim; omega, σ6, r8, A8, acc' ++ [v], ys' ++ [yv], b8.push hD (rs8.rep hke), ws6, ?_, pq8, by rw [← hrem8]; exact hrem5⟩
          exact kq8.trans (kp_upd (P := PO (OcQ Oc (tg.own ++ tg2.own) As1 Dd) A4) (.inr (.inr (.inr rfl))) b8.dd) (fun _ z => z) fun _ _ z => z
      · obtain rfl : j = xs2.length := by omega
        rw [List.drop_length, R2i_nil] at hrem5
        exact .inl ⟨wk1.stops H5 kq, σj, rj, Aj, acc', ys', b5, hrem5⟩
  · obtain rfl : i = xs.length := by omega
    refine .inl ⟨wk.stops H kk, ?_⟩
    rw [List.drop_length, R2o_nil] at hrem
    unfold fin2 at hrem
    split at hrem
    · rw [← hrem] at a1
      have bl := b.toBlk hb
      exact a1 _ _ _ (bl.step_back hb hD en1) (bl.res_back hb hD en1 hk)
    · exact absurd hrem.symm notStuck
theorem d_comp2 {eltp tgp ip tgp2 ip2 : Expr} {ifs ifs2 : List Expr} {scope : Scope} {pos : Pos} {tg : E.Tg} {it : E.It} {cond : E} {tg2 : E.Tg} {it2 : E.It} {cond2 elt : E} {κe κ : Kd} {t1 tc ti tc2 te : List Nat} (own : List (PySem.Str × Nat)) (ke : Nat) (G : Gd T n X) (hi : DI T false X tgp ip it t1)
    (hg : ∀ (s : Shared) (H : Hp) (C : Addr) (cl : List (PySem.Str × Addr)) (fp : List Addr), DG T false (X.blk s H scope (compEnvC scope cl C X.env) fp) tgp tg)
    (hc : ∀ (s : Shared) (H : Hp) (C : Addr) (cl : List (PySem.Str × Addr)) (fp : List Addr), DTs T (X.blk s H scope (compEnvC scope cl C X.env) fp) ifs cond tc)
    (hi2 : ∀ (s : Shared) (H : Hp) (C : Addr) (cl : List (PySem.Str × Addr)) (fp : List Addr), DI T false (X.blk s H scope (compEnvC scope cl C X.env) fp) tgp2 ip2 it2 ti)
    (hg2 : ∀ (s : Shared) (H : Hp) (C : Addr) (cl : List (PySem.Str × Addr)) (fp : List Addr), DG T false (X.blk s H scope (compEnvC scope cl C X.env) fp) tgp2 tg2)
    (hc2 : ∀ (s : Shared) (H : Hp) (C : Addr) (cl : List (PySem.Str × Addr)) (fp : List Addr), DTs T (X.blk s H scope (compEnvC scope cl C X.env) fp) ifs2 cond2 tc2)
    (he : ∀ (s : Shared) (H : Hp) (C : Addr) (cl : List (PySem.Str × Addr)) (fp : List Addr), DE T false (X.blk s H scope (compEnvC scope cl C X.env) fp) eltp elt κe te)
    (hke : κe.solid = true := by rfl) (hk : κ = .s ∨ κ = .f 1 := by first | exact .inl rfl | exact .inr rfl) (hto : ∀ i, i ∈ tg.own ++ tg2.own → i ∉ tc ++ (ti ++ (tc2 ++ te)) := by first | decide | exact nms_of rfl)
    (ok : blkC X.N X.env.scope scope own = true := by rfl) (ho : own.map (·.2) = tg.own ++ tg2.own := by rfl) (hs : ∀ x, foldedSetIterable ip X.env x = pure x := by intro _; rfl) (hs1 : ∀ env x, foldedSetIterable ip2 env x = pure x := by intro _ _; rfl) :
    DE T false X (.ListComp eltp [⟨tgp, ip, ifs, 0⟩, ⟨tgp2, ip2, ifs2, 0⟩] scope pos) (E.comp2 tg it cond tg2 it2 cond2 elt) κ (t1 ++ (tc ++ (ti ++ (tc2 ++ te)))) := fun W tk => by
  have bk := blkOk_by ok
  refine PE.impI (pe_lc2 (own := own) (vs1 := tg2.own) G.calm G.nd (hi W tk) bk (fun i hi => by rw [ho]; exact List.mem_append_right _ hi) hg hc (fun s H C cl fp => hi2 s H C cl fp W0 takes0) hg2 hc2 (fun s H C cl fp => he s H C cl fp W0 takes0) hs hs1) fun σ H Q hl h => ?_
  rw [ho]
  refine t_comp2 hke hk (fun j hj => ?_) hto h
  rw [← ho] at hj
  obtain ⟨p, hp, rfl⟩ := List.mem_map.mp hj
  rw [hl]
  exact lt_of_get (bk.ix p hp)
theorem ds_asgLc2 {g : Sg} {i k : Nat} {x : PySem.Str} {pos' spos : Pos} {eltp tgp ip tgp2 ip2 : Expr} {ifs ifs2 : List Expr} {scope : Scope} {pos : Pos} {tg : E.Tg} {it : E.It} {cond : E} {tg2 : E.Tg} {it2 : E.It} {cond2 elt : E} {κe : Kd} {t1 tc ti tc2 te : List Nat} (own : List (PySem.Str × Nat)) (ke : Nat) (G : Gs T n X) (hi : DI T false X tgp ip it t1)
    (hg : ∀ (s : Shared) (H : Hp) (C : Addr) (cl : List (PySem.Str × Addr)) (fp : List Addr), DG T false (X.blk s H scope (compEnvC scope cl C X.env) fp) tgp tg)
    (hc : ∀ (s : Shared) (H : Hp) (C : Addr) (cl : List (PySem.Str × Addr)) (fp : List Addr), DTs T (X.blk s H scope (compEnvC scope cl C X.env) fp) ifs cond tc)
    (hi2 : ∀ (s : Shared) (H : Hp) (C : Addr) (cl : List (PySem.Str × Addr)) (fp : List Addr), DI T false (X.blk s H scope (compEnvC scope cl C X.env) fp) tgp2 ip2 it2 ti)
    (hg2 : ∀ (s : Shared) (H : Hp) (C : Addr) (cl : List (PySem.Str × Addr)) (fp : List Addr), DG T false (X.blk s H scope (compEnvC scope cl C X.env) fp) tgp2 tg2)
    (hc2 : ∀ (s : Shared) (H : Hp) (C : Addr) (cl : List (PySem.Str × Addr)) (fp : List Addr), DTs T (X.blk s H scope (compEnvC scope cl C X.env) fp) ifs2 cond2 tc2)
    (he : ∀ (s : Shared) (H : Hp) (C : Addr) (cl : List (PySem.Str × Addr)) (fp : List Addr), DE T false (X.blk s H scope (compEnvC scope cl C X.env) fp) eltp elt κe te)
    (hke : κe.solid = true := by rfl) (hk : k = 0 ∨ k = 1 := by first | exact .inl rfl | exact .inr rfl) (hto : ∀ i, i ∈ tg.own ++ tg2.own → i ∉ tc ++ (ti ++ (tc2 ++ te)) := by first | decide | exact nms_of rfl) (hio : i ∉ g.io := by first | decide | exact nm_of rfl)
    (hx : X.N[i]? = some x := by rfl) (hxl : X.env.scope.names.lookup x = some .local := by rfl)
    (ok : blkC X.N X.env.scope scope own = true := by rfl) (ho : own.map (·.2) = tg.own ++ tg2.own := by rfl) (hsw : swapsWith (.ListComp eltp [⟨tgp, ip, ifs, 0⟩, ⟨tgp2, ip2, ifs2, 0⟩] scope pos) (some (.Name x pos')) spos.line X.env = pure true := by rfl) (hs : ∀ x, foldedSetIterable ip X.env x = pure x := by intro _; rfl) (hs1 : ∀ env x, foldedSetIterable ip2 env x = pure x := by intro _ _; rfl) :
    DS T g X (.Assign [.Name x pos'] (.ListComp eltp [⟨tgp, ip, ifs, 0⟩, ⟨tgp2, ip2, ifs2, 0⟩] scope pos) spos) (S.asg i k (E.comp2 tg it cond tg2 it2 cond2 elt)) := fun W tk => by
  have bk := blkOk_by ok
  refine PS.impI (ps_setLc2 (own := own) (vs1 := tg2.own) G.calm G.nd hx hxl hsw (hi W tk) bk (fun i hi => by rw [ho]; exact List.mem_append_right _ hi) hg hc (fun s H C cl fp => hi2 s H C cl fp W0 takes0) hg2 hc2 (fun s H C cl fp => he s H C cl fp W0 takes0) hs hs1) fun D σ H hl h => ?_
  rw [ho]
  have hb : ∀ j ∈ tg.own ++ tg2.own, j < σ.length := fun j hj => by
    rw [← ho] at hj
    obtain ⟨p, hp, rfl⟩ := List.mem_map.mp hj
    rw [hl]
    exact lt_of_get (bk.ix p hp)
  have hi : i < σ.length := by rw [hl]; exact lt_of_get hx
  rcases hk with rfl | rfl
  · exact t_comp2 (κ := .s) hke (.inl rfl) hb hto (t_asg (.inr ⟨rfl, rfl⟩) hi hio h)
  · exact t_comp2 (κ := .f 1) hke (.inr rfl) hb hto (t_asg (.inl rfl) hi hio h)
end
theorem seq_pass (a : S) : S.seq a S.pass = a := by
  funext r
  unfold S.seq
  cases a r with
  | ok f r => cases f <;> rfl
  | _ => rfl
section
variable {T : Tab} {g : Sg} {X : Cx} {n : Nat} {κ : Kd} {t1 t2 : List Nat} {e p : Expr} {ee : E}
theorem ds_bumpE {i jo ja : Nat} {es : List E} {xo xa : PySem.Str} {p1 p2 p3 p4 p5 p6 p7 p8 p9 p10 pos1 pos2 pos3 : Pos} {kk : Nat} (G : Gs T n X) (hp : DPo T X p i es t1) (he : DE T false X e ee κ t2) (hi1 : i ∉ t1 := by first | decide | exact nm_of rfl) (hi2 : i ∉ t2 := by first | decide | exact nm_of rfl)
    (hoi : i ≠ jo := by decide) (hai : i ≠ ja := by decide) (hoa : jo ≠ ja := by decide) (hjo : jo ∉ g.io := by first | decide | exact nm_of rfl) (hja : ja ∉ g.io := by first | decide | exact nm_of rfl)
    (ho : X.N[jo]? = some xo := by rfl) (ha : X.N[ja]? = some xa := by rfl) (hxo : X.env.scope.names.lookup xo = some .local := by rfl) (hxa : X.env.scope.names.lookup xa = some .local := by rfl)
    (hd1 : (xo == ("__debug__" : PySem.Str)) = false := by decide +kernel) (hc1 : (xo == ("__classdict__" : PySem.Str)) = false := by decide +kernel) (hd2 : (xa == ("__debug__" : PySem.Str)) = false := by decide +kernel) (hc2 : (xa == ("__classdict__" : PySem.Str)) = false := by decide +kernel)
    (hs1 : swapsWith p (some (.Name xo p1)) pos1.line X.env = pure false := by rfl) (hs2 : swapsWith e (some (.Name xa p2)) pos2.line X.env = pure false := by rfl)
    (hs3 : swapsWithSole [.Subscript (.Name xo p3) (.Name xa p4) p5] (.BinOp (.Subscript (.Name xo p6) (.Name xa p7) p8) .Add (.Constant (.int 1) kk p9) p10) pos3.line X.env = pure false := by rfl)
    (hw3 : swappedStores [.Subscript (.Name xo p3) (.Name xa p4) p5] (.BinOp (.Subscript (.Name xo p6) (.Name xa p7) p8) .Add (.Constant (.int 1) kk p9) p10) X.env = pure none := by rfl)
    (h13 : (assignEach [.Subscript (.Name xo p3) (.Name xa p4) p5] X.env).map (·.2) = [assign (.Subscript (.Name xo p3) (.Name xa p4) p5) X.env] := by rfl)
    (hasg : ∀ v, assign (.Subscript (.Name xo p3) (.Name xa p4) p5) X.env v = (do
      let ov ← holding [v] (eval (.Name xo p3) X.env)
      let iv ← holding [v, ov] (eval (.Name xa p4) X.env)
      standAt p5
      holding [v, ov, iv] (setItem ov iv v)
      release [v, ov, iv] []) := by intro _; rfl)
    (hpi : PlainIx (.Name xa p7) := by intro _ _; rfl) :
    DSs T g X [.Assign [.Name xo p1] p pos1, .Assign [.Name xa p2] e pos2, .Assign [.Subscript (.Name xo p3) (.Name xa p4) p5] (.BinOp (.Subscript (.Name xo p6) (.Name xa p7) p8) .Add (.Constant (.int 1) kk p9) p10) pos3] (S.bump i es jo ja ee) := by
  rw [← seq_pass (S.bump i es jo ja ee)]
  exact ds_bump G hp he ds_nil hi1 hi2 hoi hai hoa hjo hja ho ha hxo hxa hd1 hc1 hd2 hc2 hs1 hs2 hs3 hw3 h13 hasg hpi
end
end O
end
section
set_option Elab.async false
set_option linter.all false
set_option maxRecDepth 100000
set_option maxHeartbeats 0
namespace O
namespace L02
open PySem PySem.Spec PyProof.Rows L2
def top (i : Nat) : Stmt := PySem.Challenge.pw_outlines_k02_whole_sketches.main.body.getD i (.Pass ⟨0, 0, 0, 0⟩)
def ids : List Nat := [0, 2, 3, 4, 5, 8, 9, 10, 11, 12, 15, 16, 17, 18, 19, 20, 21, 22, 23, 24, 25, 26, 27, 28, 29, 30, 31, 32, 33]
def nms : List PySem.Str := ((["is_whole", "", "is_table", "columns_of", "is_square", "look_square", "", "", "_law_town", "_law_draw", "_law_is", "_law_order", "_law_square", "", "", "are_widths", "look_widths", "lot_of", "counts_of", "outline_of", "is_sketch", "look_sketch", "wrong_sums", "bars", "is_outline", "size_of", "_law_pick", "_law_side", "_law_widths", "_law_lots"] : List PySem.Str) ++ (["_law_counts", "_law_bars", "_law_sketch", "law", "", "", "", "", "", "", "", "", "", "", "", "", "", "", "", "", "", "", "", "", "", "", "", "", "", ""] : List PySem.Str) ++ (["", "", "", "", "", "", "", "", "", "", "", "", "", "", "", "", "", "", "", "", "", "", "", "", "", "", "", "", "", ""] : List PySem.Str) ++ (["", "", "", "", "", "", "", "", "", "", "", "", "", "", "", "", "", "", "", "", "", "", "", "", "", "", "", "", "", ""] : List PySem.Str) ++ (["", "", "", "", "", "", "", "", "", "", "", "", "", "", "", "", "", "", "", "", "", "", "", "", "", "", "", "", "", ""] : List PySem.Str) ++ (["", "", "", "", "", "", "", "", "", "", "", "", "", "", "", "", "", "", "", "", "", "", "", "", "", "", ""] : List PySem.Str))
def xids : List Nat := [0, 2, 3, 4]
def xns : List PySem.Str := ["SquareError", "BadSize", "BadSquare", "BadWidths", "BadOutline", "BadCorner", "BadChoice", "BadText", "NoneSuch"]
def cids : List Nat := [0]
def cns : List PySem.Str := ["MOST", "MOST_SMALL", "TO_FRONT", "BACK", "FIGURES"]
def cds : List D := [(.int 7), .non, .non, .non, .non]
abbrev tab (K : PySem.W.Frag) : Tab := ⟨K, fun c => He.ga K (xns.getD c ""), fun _ => 0, fun _ => "", fun f => ids.contains f, fun f => nms.getD f "", fun c => xids.contains c, fun c => xns.getD c "", fun c => cids.contains c, fun c => cns.getD c "", fun c => cds.getD c .non⟩
variable {P : Program} {w : World} {K : PySem.W.Frag} {mg : PySem.Str → Option Value} {base : Heap} {n : Nat} {a : Addr}
theorem sc_is_whole : FnScope ["thing", "low", "high"] ["thing", "low", "high"] (defScope (top 5)) := ⟨rfl, rfl, rfl, by decide +kernel, rfl, by decide +kernel, by decide +kernel⟩
theorem b_is_whole (cdv : Value) (A : Around) (outer : List PySem.Env) (s : Shared) (H : Hp) (E : XK) (G : Gs (tab K) n (cxOf (L2.CX P w) P w K mg base ["thing", "low", "high"] "is_whole" (defScope (top 5)) a cdv A outer s H E)) :
    DSs (tab K) ⟨[], 3, 0⟩ (cxOf (L2.CX P w) P w K mg base ["thing", "low", "high"] "is_whole" (defScope (top 5)) a cdv A outer s H E) (defBody (top 5)) (s_is_whole (run n)) := by
  unfold s_is_whole
  exact (ds_one (ds_ret (de_and (d_isty (κ := .s) G.toGd (d_var 0)) (de_and (de_not (κ := .s) (d_isty (κ := .s) G.toGd (d_var 0))) (de_one (d_leLe (κ := .s) (d_var 1) (d_var 0) (d_var 2)))))))
theorem sc_is_table : FnScope ["thing", "rows", "columns", "signs", "row", "one"] ["thing", "rows", "columns", "signs"] (defScope (top 8)) := ⟨rfl, rfl, rfl, by decide +kernel, rfl, by decide +kernel, by decide +kernel⟩
theorem b_is_table (cdv : Value) (A : Around) (outer : List PySem.Env) (s : Shared) (H : Hp) (E : XK) (G : Gs (tab K) n (cxOf (L2.CX P w) P w K mg base ["thing", "rows", "columns", "signs", "row", "one"] "is_table" (defScope (top 8)) a cdv A outer s H E)) :
    DSs (tab K) ⟨[], 4, 0⟩ (cxOf (L2.CX P w) P w K mg base ["thing", "rows", "columns", "signs", "row", "one"] "is_table" (defScope (top 8)) a cdv A outer s H E) (defBody (top 8)) (s_is_table (run n)) := by
  unfold s_is_table
  exact (ds_seq (ds_if (PWv.dt (dw_or (dt_not (dt_val (d_isty (κ := .s) G.toGd (d_var 0)))) (dw_or (dt_ne G.toGd (d_len (κ := .s) G.toGd (d_var 0)) (d_var 1)) (dw_or1 (dt_not (dt_val (d_all (κ := .s) G.toGd (d_comp [("row", 4)] 0 (κ := .s) G.toGd (di_seq G.toGd (d_var 0)) (fun _ _ _ _ _ => (dg_one G.toGd.blk.nd)) (fun _ _ _ _ _ => dts_nil) (fun _ _ _ _ _ => (d_isty (κ := .s) G.toGd.blk (d_var 4))))))))))) (ds_one (ds_ret (d_bl (k := 0)))) ds_nil) (ds_one (ds_ret (d_all (κ := .s) G.toGd (d_comp [("row", 4)] 0 (κ := .s) G.toGd (di_seq G.toGd (d_var 0)) (fun _ _ _ _ _ => (dg_one G.toGd.blk.nd)) (fun _ _ _ _ _ => dts_nil) (fun _ _ _ _ _ => (de_and (d_eq (κ := .s) G.toGd.blk (d_len (κ := .s) G.toGd.blk (d_var 4)) (d_var 2)) (de_one (d_all (κ := .s) G.toGd.blk (d_comp [("one", 5)] 0 (κ := .s) G.toGd.blk (di_seq G.toGd.blk (d_var 4)) (fun _ _ _ _ _ => (dg_one G.toGd.blk.blk.nd)) (fun _ _ _ _ _ => dts_nil) (fun _ _ _ _ _ => (d_call (κ := .s) G.toGd.blk.blk (dg_v (d_var 5) (dg_v (d_int (k := 0)) (dg_v (d_sub (κ := .s) (d_var 3) (d_int (k := 0))) dg_nil)))))))))))))))
theorem sc_columns_of : FnScope ["table", "column", "row"] ["table"] (defScope (top 9)) := ⟨rfl, rfl, rfl, by decide +kernel, rfl, by decide +kernel, by decide +kernel⟩
theorem b_columns_of (cdv : Value) (A : Around) (outer : List PySem.Env) (s : Shared) (H : Hp) (E : XK) (G : Gs (tab K) n (cxOf (L2.CX P w) P w K mg base ["table", "column", "row"] "columns_of" (defScope (top 9)) a cdv A outer s H E)) :
    DSs (tab K) ⟨[], 1, 0⟩ (cxOf (L2.CX P w) P w K mg base ["table", "column", "row"] "columns_of" (defScope (top 9)) a cdv A outer s H E) (defBody (top 9)) (s_columns_of (run n)) := by
  unfold s_columns_of
  exact (ds_one (ds_ret (d_comp [("column", 1)] 0 (κ := .s) G.toGd (di_range G.toGd (d_len (κ := .s) G.toGd (d_idx (κ := .s) G.toGd (d_var 0) (d_int (k := 0))))) (fun _ _ _ _ _ => (dg_one G.toGd.blk.nd)) (fun _ _ _ _ _ => dts_nil) (fun _ _ _ _ _ => (d_comp [("row", 2)] 0 (κ := .s) G.toGd.blk (di_seq G.toGd.blk (d_var 0)) (fun _ _ _ _ _ => (dg_one G.toGd.blk.blk.nd)) (fun _ _ _ _ _ => dts_nil) (fun _ _ _ _ _ => (d_idx (κ := .s) G.toGd.blk.blk (d_var 2) (d_var 1))))))))
theorem sc_is_square : FnScope ["thing", "size", "row"] ["thing"] (defScope (top 10)) := ⟨rfl, rfl, rfl, by decide +kernel, rfl, by decide +kernel, by decide +kernel⟩
theorem b_is_square (cdv : Value) (A : Around) (outer : List PySem.Env) (s : Shared) (H : Hp) (E : XK) (G : Gs (tab K) n (cxOf (L2.CX P w) P w K mg base ["thing", "size", "row"] "is_square" (defScope (top 10)) a cdv A outer s H E)) :
    DSs (tab K) ⟨[], 1, 0⟩ (cxOf (L2.CX P w) P w K mg base ["thing", "size", "row"] "is_square" (defScope (top 10)) a cdv A outer s H E) (defBody (top 10)) (s_is_square (run n)) := by
  unfold s_is_square
  exact (ds_seq (ds_if (PWv.dt (dw_or (dt_not (dt_val (d_isty (κ := .s) G.toGd (d_var 0)))) (dw_or1 (dt_not (dt_leLe (d_int (k := 0)) (d_len (κ := .s) G.toGd (d_var 0)) (d_con 0 (κ := .s) G.toGd)))))) (ds_one (ds_ret (d_bl (k := 0)))) ds_nil) (ds_seq (ds_asg G (d_len (κ := .s) G.toGd (d_var 0))) (ds_seq (ds_if (dt_not (dt_val (d_call (κ := .s) G.toGd (dg_v (d_var 0) (dg_v (d_var 1) (dg_v (d_var 1) (dg_v (d_var 1) dg_nil))))))) (ds_one (ds_ret (d_bl (k := 0)))) ds_nil) (ds_one (ds_ret (d_all (κ := .s) G.toGd (d_comp [("row", 2)] 0 (κ := .s) G.toGd (di_seq G.toGd (d_add (κ := .s) G.toGd (d_var 0) (d_call (κ := .s) G.toGd (dg_v (d_var 0) dg_nil)))) (fun _ _ _ _ _ => (dg_one G.toGd.blk.nd)) (fun _ _ _ _ _ => dts_nil) (fun _ _ _ _ _ => (d_eq (κ := .s) G.toGd.blk (d_sorted (κ := .s) G.toGd.blk (d_var 2)) (d_listRg (κ := .s) G.toGd.blk (d_var 1)))))))))))
theorem sc_look_square : FnScope ["square"] ["square"] (defScope (top 11)) := ⟨rfl, rfl, rfl, by decide +kernel, rfl, by decide +kernel, by decide +kernel⟩
theorem b_look_square (cdv : Value) (A : Around) (outer : List PySem.Env) (s : Shared) (H : Hp) (E : XK) (G : Gs (tab K) n (cxOf (L2.CX P w) P w K mg base ["square"] "look_square" (defScope (top 11)) a cdv A outer s H E)) :
    DSs (tab K) ⟨[], 1, 0⟩ (cxOf (L2.CX P w) P w K mg base ["square"] "look_square" (defScope (top 11)) a cdv A outer s H E) (defBody (top 11)) (s_look_square (run n)) := by
  unfold s_look_square
  exact (ds_one (ds_if (dt_not (dt_val (d_call (κ := .s) G.toGd (dg_v (d_var 0) dg_nil)))) (ds_one (ds_raise 2 G)) ds_nil))
theorem sc_l_town : FnScope ["script"] ["script"] (defScope (top 25)) := ⟨rfl, rfl, rfl, by decide +kernel, rfl, by decide +kernel, by decide +kernel⟩
theorem b_l_town (cdv : Value) (A : Around) (outer : List PySem.Env) (s : Shared) (H : Hp) (E : XK) (G : Gs (tab K) n (cxOf (L2.CX P w) P w K mg base ["script"] "_law_town" (defScope (top 25)) a cdv A outer s H E)) :
    DSs (tab K) ⟨[], 1, 2⟩ (cxOf (L2.CX P w) P w K mg base ["script"] "_law_town" (defScope (top 25)) a cdv A outer s H E) (defBody (top 25)) (s_l_town (run n)) := by
  unfold s_l_town
  exact (ds_one (ds_retF (d_lst2 (d_if (dt_scrNe 0 G.toGd) (d_scrList 0 (κ := .f 1) G.toGd) (d_lst (κ := .f 1) (da_cons (d_int (k := 0)) da_nil))))))
theorem sc_l_draw : FnScope ["town", "count", "numbers", "at", "cell", "mixed"] ["town", "count"] (defScope (top 26)) := ⟨rfl, rfl, rfl, by decide +kernel, rfl, by decide +kernel, by decide +kernel⟩
theorem b_l_draw (cdv : Value) (A : Around) (outer : List PySem.Env) (s : Shared) (H : Hp) (E : XK) (G : Gs (tab K) n (cxOf (L2.CX P w) P w K mg base ["town", "count", "numbers", "at", "cell", "mixed"] "_law_draw" (defScope (top 26)) a cdv A outer s H E)) :
    DSs (tab K) ⟨[0], 2, 0⟩ (cxOf (L2.CX P w) P w K mg base ["town", "count", "numbers", "at", "cell", "mixed"] "_law_draw" (defScope (top 26)) a cdv A outer s H E) (defBody (top 26)) (drawBody) := by
  exact fun W tk => PSs.impI (pss_cons (ps_set (i := 2) G.nd rfl (Or.inl rfl) (pe_ix ix_list (pe_var (i := 0) rfl (Or.inl rfl)) pe_int (by intro _ _; rfl))) (pss_cons (ps_asg (pe_op op_add (pe_ix ix_list (pe_var (i := 0) rfl (Or.inl rfl)) pe_int (by intro _ _; rfl)) pe_int) (pg_sub (pe_var (i := 0) rfl (Or.inl rfl)) pe_int set_list))
    (pss_cons (ps_set (i := 3) G.nd rfl (Or.inl rfl) (pe_op op_mod (pe_ix ix_list (pe_var (i := 0) rfl (Or.inl rfl)) pe_int (by intro _ _; rfl)) (pe_callB call_len_seq rfl (G.bn .len) boot_len (pa_cons (pe_var (i := 2) rfl (Or.inl rfl)) pa_nil))))
    (pss_cons (ps_set (i := 4) G.nd rfl (Or.inl rfl) (pe_ix ix_list (pe_var (i := 2) rfl (Or.inl rfl)) (pe_var (i := 3) rfl (Or.inl rfl)) (by intro _ _; rfl)))
    (pss_cons (ps_if (pt_cmpR op_ge (pe_var (i := 4) rfl (Or.inl rfl)) pe_int (nobehind _ (by decide) (by decide))) (pss_cons (ps_asg (pe_op op_fdiv (pe_var (i := 4) rfl (Or.inl rfl)) (pe_var (i := 1) rfl (Or.inl rfl))) (pg_sub (pe_var (i := 2) rfl (Or.inl rfl)) (pe_var (i := 3) rfl (Or.inl rfl)) set_list)) (pss_one (ps_ret (pe_op op_mod (pe_var (i := 4) rfl (Or.inl rfl)) (pe_var (i := 1) rfl (Or.inl rfl)))))) pss_nil)
    (pss_cons (ps_set (i := 5) G.nd rfl (Or.inl rfl) (pe_op op_mod (pe_op op_add (pe_var (i := 4) rfl (Or.inl rfl)) (pe_op op_mul pe_int (pe_ix ix_list (pe_var (i := 0) rfl (Or.inl rfl)) pe_int (by intro _ _; rfl)))) pe_int))
    (pss_cons (ps_set (i := 5) G.nd rfl (Or.inl rfl) (pe_op op_mod (pe_op op_pow (pe_var (i := 5) rfl (Or.inl rfl)) pe_int) pe_int))
    (pss_one (ps_ret (pe_op op_mod (pe_op op_fdiv (pe_op op_mod (pe_op op_add (pe_op op_mul (pe_op op_fdiv (pe_var (i := 5) rfl (Or.inl rfl)) pe_int) pe_int) (pe_var (i := 5) rfl (Or.inl rfl))) pe_int) pe_int) (pe_var (i := 1) rfl (Or.inl rfl)))))))))))) fun D σ H hl h => draw_pure hl h
theorem sc_l_is : FnScope ["told", "due"] ["told", "due"] (defScope (top 28)) := ⟨rfl, rfl, rfl, by decide +kernel, rfl, by decide +kernel, by decide +kernel⟩
theorem b_l_is (cdv : Value) (A : Around) (outer : List PySem.Env) (s : Shared) (H : Hp) (E : XK) (G : Gs (tab K) n (cxOf (L2.CX P w) P w K mg base ["told", "due"] "_law_is" (defScope (top 28)) a cdv A outer s H E)) :
    DSs (tab K) ⟨[], 2, 0⟩ (cxOf (L2.CX P w) P w K mg base ["told", "due"] "_law_is" (defScope (top 28)) a cdv A outer s H E) (defBody (top 28)) (s_l_is (run n)) := by
  unfold s_l_is
  exact (ds_one (ds_ret (de_and (d_isty (κ := .s) G.toGd (d_var 0)) (de_one (d_eq (κ := .s) G.toGd (d_var 0) (d_var 1))))))
theorem sc_l_order : FnScope ["town", "size", "found", "k"] ["town", "size"] (defScope (top 29)) := ⟨rfl, rfl, rfl, by decide +kernel, rfl, by decide +kernel, by decide +kernel⟩
theorem b_l_order (cdv : Value) (A : Around) (outer : List PySem.Env) (s : Shared) (H : Hp) (E : XK) (G : Gs (tab K) n (cxOf (L2.CX P w) P w K mg base ["town", "size", "found", "k"] "_law_order" (defScope (top 29)) a cdv A outer s H E)) :
    DSs (tab K) ⟨[0], 2, 0⟩ (cxOf (L2.CX P w) P w K mg base ["town", "size", "found", "k"] "_law_order" (defScope (top 29)) a cdv A outer s H E) (defBody (top 29)) (s_l_order (run n)) := by
  unfold s_l_order
  exact (ds_seq (ds_asg G (d_nil (k := 0))) (ds_seq (ds_for G (di_range G.toGd (d_var 1)) (dg_one G.toGd.nd) (ds_one (ds_ins G (d_call (κ := .s) G.toGd (dg_io 0 (dg_v (d_add (κ := .s) G.toGd (d_len (κ := .s) G.toGd (d_pk (dp_nil 2))) (d_int (k := 0))) dg_nil))) (d_var 3)))) (ds_one (ds_ret (d_tuple (κ := .s) G.toGd (d_pki (dp_nil 2)))))))
theorem sc_l_square : FnScope ["town", "size", "orders", "found", "row", "turn_of", "first", "k", "one", "two", "second", "signs", "column"] ["town", "size"] (defScope (top 30)) := ⟨rfl, rfl, rfl, by decide +kernel, rfl, by decide +kernel, by decide +kernel⟩
theorem b_l_square (cdv : Value) (A : Around) (outer : List PySem.Env) (s : Shared) (H : Hp) (E : XK) (G : Gs (tab K) n (cxOf (L2.CX P w) P w K mg base ["town", "size", "orders", "found", "row", "turn_of", "first", "k", "one", "two", "second", "signs", "column"] "_law_square" (defScope (top 30)) a cdv A outer s H E)) :
    DSs (tab K) ⟨[0], 2, 0⟩ (cxOf (L2.CX P w) P w K mg base ["town", "size", "orders", "found", "row", "turn_of", "first", "k", "one", "two", "second", "signs", "column"] "_law_square" (defScope (top 30)) a cdv A outer s H E) (defBody (top 30)) (s_l_square (run n)) := by
  unfold s_l_square
  exact (ds_seq (ds_asg G (d_comp [("k", 7)] 0 (κ := .s) G.toGd (di_range G.toGd (d_int (k := 0))) (fun _ _ _ _ _ => (dg_one G.toGd.blk.nd)) (fun _ _ _ _ _ => dts_nil) (fun _ _ _ _ _ => (d_call (κ := .s) G.toGd.blk (dg_io 0 (dg_v (d_var 1) dg_nil)))))) (ds_seq (ds_asg G (d_nil (k := 1))) (ds_seq (ds_for G (di_range G.toGd (d_var 1)) (dg_one G.toGd.nd) (ds_one (ds_app G (d_comp [("column", 12)] 0 (κ := .f 1) G.toGd (di_range G.toGd (d_var 1)) (fun _ _ _ _ _ => (dg_one G.toGd.blk.nd)) (fun _ _ _ _ _ => dts_nil) (fun _ _ _ _ _ => (d_idx (κ := .s) G.toGd.blk (d_idx (κ := .s) G.toGd.blk (d_var 2) (d_int (k := 0))) (d_mod (κ := .s) (d_add (κ := .s) G.toGd.blk (d_idx (κ := .s) G.toGd.blk (d_idx (κ := .s) G.toGd.blk (d_var 2) (d_int (k := 0))) (d_var 4)) (d_idx (κ := .s) G.toGd.blk (d_idx (κ := .s) G.toGd.blk (d_var 2) (d_int (k := 0))) (d_var 12))) (d_var 1)))))))) (ds_seq (ds_for G (di_range G.toGd (d_call (κ := .s) G.toGd (dg_io 0 (dg_v (d_int (k := 0)) dg_nil)))) (dg_one G.toGd.nd) (ds_seq (ds_par G (da_cons (d_call (κ := .s) G.toGd (dg_io 0 (dg_v (d_var 1) dg_nil))) (da_cons (d_call (κ := .s) G.toGd (dg_io 0 (dg_v (d_var 1) dg_nil))) da_nil))) (ds_one (ds_for G (di_range G.toGd (d_var 1)) (dg_one G.toGd.nd) (ds_seq (ds_asg G (d_indexL (κ := .s) G.toGd (d_pk (dp_snoc G.toGd (dp_nil 3) (d_var 9))) (d_pk (dp_snoc G.toGd (dp_snoc G.toGd (dp_nil 3) (d_var 8)) (d_var 6))))) (ds_one (ds_if (PWv.dt (dw_and (dt_ne G.toGd (d_var 8) (d_var 9)) (dw_and1 (dt_eq G.toGd (d_pk (dp_snoc G.toGd (dp_snoc G.toGd (dp_nil 3) (d_var 9)) (d_var 6))) (d_pk (dp_snoc G.toGd (dp_snoc G.toGd (dp_nil 3) (d_var 8)) (d_var 10))))))) (ds_seq (ds_asg G (d_tup (κ := .s) (da_cons (d_pth (dp_snoc G.toGd (dp_snoc G.toGd (dp_nil 3) (d_var 8)) (d_var 6))) (da_cons (d_pth (dp_snoc G.toGd (dp_snoc G.toGd (dp_nil 3) (d_var 9)) (d_var 6))) da_nil)))) (ds_seq (ds_setps G (d_tup (κ := .s) (da_cons (d_idx (κ := .s) G.toGd (d_var 11) (d_int (k := 0))) (da_cons (d_idx (κ := .s) G.toGd (d_var 11) (d_int (k := 0))) da_nil))) (dgps_cons (dgp_sub (dpo_snoc G.toGd (dpo_nil 3) (d_var 8)) (d_var 6)) (dgps_cons (dgp_sub (dpo_snoc G.toGd (dpo_nil 3) (d_var 9)) (d_var 6)) dgps_nil))) (ds_seq (ds_setps G (d_tup (κ := .s) (da_cons (d_idx (κ := .s) G.toGd (d_var 11) (d_int (k := 0))) (da_cons (d_idx (κ := .s) G.toGd (d_var 11) (d_int (k := 0))) da_nil))) (dgps_cons (dgp_sub (dpo_snoc G.toGd (dpo_nil 3) (d_var 8)) (d_var 10)) (dgps_cons (dgp_sub (dpo_snoc G.toGd (dpo_nil 3) (d_var 9)) (d_var 10)) dgps_nil))) (ds_one ds_brk)))) ds_nil))))))) (ds_frz (ds_one (ds_ret (d_var 3))))))))
theorem sc_are_widths : FnScope ["size", "thing", "one"] ["size", "thing"] (defScope (top 13)) := ⟨rfl, rfl, rfl, by decide +kernel, rfl, by decide +kernel, by decide +kernel⟩
theorem b_are_widths (cdv : Value) (A : Around) (outer : List PySem.Env) (s : Shared) (H : Hp) (E : XK) (G : Gs (tab K) n (cxOf (L2.CX P w) P w K mg base ["size", "thing", "one"] "are_widths" (defScope (top 13)) a cdv A outer s H E)) :
    DSs (tab K) ⟨[], 2, 0⟩ (cxOf (L2.CX P w) P w K mg base ["size", "thing", "one"] "are_widths" (defScope (top 13)) a cdv A outer s H E) (defBody (top 13)) (s_are_widths (run n)) := by
  unfold s_are_widths
  exact (ds_seq (ds_if (PWv.dt (dw_or (dt_not (dt_val (d_isty (κ := .s) G.toGd (d_var 1)))) (dw_or1 (dt_not (dt_val (d_all (κ := .s) G.toGd (d_comp [("one", 2)] 0 (κ := .s) G.toGd (di_seq G.toGd (d_var 1)) (fun _ _ _ _ _ => (dg_one G.toGd.blk.nd)) (fun _ _ _ _ _ => dts_nil) (fun _ _ _ _ _ => (d_call (κ := .s) G.toGd.blk (dg_v (d_var 2) (dg_v (d_int (k := 0)) (dg_v (d_var 0) dg_nil)))))))))))) (ds_one (ds_ret (d_bl (k := 0)))) ds_nil) (ds_one (ds_ret (d_eq (κ := .s) G.toGd (d_sum (κ := .s) G.toGd (d_var 1)) (d_var 0)))))
theorem sc_look_widths : FnScope ["size", "widths", "one"] ["size", "widths"] (defScope (top 14)) := ⟨rfl, rfl, rfl, by decide +kernel, rfl, by decide +kernel, by decide +kernel⟩
theorem b_look_widths (cdv : Value) (A : Around) (outer : List PySem.Env) (s : Shared) (H : Hp) (E : XK) (G : Gs (tab K) n (cxOf (L2.CX P w) P w K mg base ["size", "widths", "one"] "look_widths" (defScope (top 14)) a cdv A outer s H E)) :
    DSs (tab K) ⟨[], 2, 0⟩ (cxOf (L2.CX P w) P w K mg base ["size", "widths", "one"] "look_widths" (defScope (top 14)) a cdv A outer s H E) (defBody (top 14)) (s_look_widths (run n)) := by
  unfold s_look_widths
  exact (ds_one (ds_if (PWv.dt (dw_or (dt_not (dt_val (d_isty (κ := .s) G.toGd (d_var 1)))) (dw_or (dt_ne G.toGd (d_len (κ := .s) G.toGd (d_var 1)) (d_int (k := 0))) (dw_or1 (dt_not (dt_val (d_all (κ := .s) G.toGd (d_comp [("one", 2)] 0 (κ := .s) G.toGd (di_seq G.toGd (d_var 1)) (fun _ _ _ _ _ => (dg_one G.toGd.blk.nd)) (fun _ _ _ _ _ => dts_nil) (fun _ _ _ _ _ => (d_call (κ := .s) G.toGd.blk (dg_v (d_var 0) (dg_v (d_var 2) dg_nil)))))))))))) (ds_one (ds_raise 3 G)) ds_nil))
theorem sc_lot_of : FnScope ["widths", "turn", "k", "width"] ["widths"] (defScope (top 15)) := ⟨rfl, rfl, rfl, by decide +kernel, rfl, by decide +kernel, by decide +kernel⟩
theorem b_lot_of (cdv : Value) (A : Around) (outer : List PySem.Env) (s : Shared) (H : Hp) (E : XK) (G : Gs (tab K) n (cxOf (L2.CX P w) P w K mg base ["widths", "turn", "k", "width"] "lot_of" (defScope (top 15)) a cdv A outer s H E)) :
    DSs (tab K) ⟨[], 1, 0⟩ (cxOf (L2.CX P w) P w K mg base ["widths", "turn", "k", "width"] "lot_of" (defScope (top 15)) a cdv A outer s H E) (defBody (top 15)) (s_lot_of (run n)) := by
  unfold s_lot_of
  exact (ds_one (ds_ret (d_comp2 [("k", 2), ("width", 3), ("turn", 1)] 0 (κ := .s) G.toGd (di_enumT G.toGd (d_var 0)) (fun _ _ _ _ _ => (dg_many G.toGd.blk (dgs_cons (dgs_cons dgs_nil G.toGd.blk.nd) G.toGd.blk.nd))) (fun _ _ _ _ _ => dts_nil) (fun _ _ _ _ _ => (di_range G.toGd.blk (d_var 3))) (fun _ _ _ _ _ => (dg_one G.toGd.blk.nd)) (fun _ _ _ _ _ => dts_nil) (fun _ _ _ _ _ => (d_var 2)))))
theorem sc_counts_of : FnScope ["square", "widths", "found", "rows", "columns", "signs", "row", "line", "one", "i", "column", "sign", "j", "k"] ["square", "widths"] (defScope (top 16)) := ⟨rfl, rfl, rfl, by decide +kernel, rfl, by decide +kernel, by decide +kernel⟩
theorem b_counts_of (cdv : Value) (A : Around) (outer : List PySem.Env) (s : Shared) (H : Hp) (E : XK) (G : Gs (tab K) n (cxOf (L2.CX P w) P w K mg base ["square", "widths", "found", "rows", "columns", "signs", "row", "line", "one", "i", "column", "sign", "j", "k"] "counts_of" (defScope (top 16)) a cdv A outer s H E)) :
    DSs (tab K) ⟨[], 2, 0⟩ (cxOf (L2.CX P w) P w K mg base ["square", "widths", "found", "rows", "columns", "signs", "row", "line", "one", "i", "column", "sign", "j", "k"] "counts_of" (defScope (top 16)) a cdv A outer s H E) (defBody (top 16)) (s_counts_of (run n)) := by
  unfold s_counts_of
  exact (ds_seq (ds_unpack (d_comp [("one", 8)] 0 (κ := .s) G.toGd (di_seq G.toGd (d_var 1)) (fun _ _ _ _ _ => (dg_one G.toGd.blk.nd)) (fun _ _ _ _ _ => dts_nil) (fun _ _ _ _ _ => (d_call (κ := .s) G.toGd.blk (dg_v (d_var 8) dg_nil)))) (dg_many G.toGd (dgs_cons (dgs_cons (dgs_cons dgs_nil G.toGd.nd) G.toGd.nd) G.toGd.nd))) (ds_seq (ds_asgLc [("i", 9)] 2 G (di_seq G.toGd (d_idx (κ := .s) G.toGd (d_var 1) (d_int (k := 0)))) (fun _ _ _ _ _ => (dg_one G.toGd.blk.nd)) (fun _ _ _ _ _ => dts_nil) (fun _ _ _ _ _ => (d_comp [("j", 12)] 1 (κ := .f 2) G.toGd.blk (di_seq G.toGd.blk (d_idx (κ := .s) G.toGd.blk (d_var 1) (d_int (k := 0)))) (fun _ _ _ _ _ => (dg_one G.toGd.blk.blk.nd)) (fun _ _ _ _ _ => dts_nil) (fun _ _ _ _ _ => (d_comp [("k", 13)] 0 (κ := .f 1) G.toGd.blk.blk (di_seq G.toGd.blk.blk (d_idx (κ := .s) G.toGd.blk.blk (d_var 1) (d_int (k := 0)))) (fun _ _ _ _ _ => (dg_one G.toGd.blk.blk.blk.nd)) (fun _ _ _ _ _ => dts_nil) (fun _ _ _ _ _ => ((d_int (k := 0))).solid)))))) (ds_seq (ds_for G (di_enum G.toGd (d_var 0)) (dg_many G.toGd (dgs_cons (dgs_cons dgs_nil G.toGd.nd) G.toGd.nd)) (ds_one (ds_for G (di_enum G.toGd (d_var 7)) (dg_many G.toGd (dgs_cons (dgs_cons dgs_nil G.toGd.nd) G.toGd.nd)) (ds_one (ds_augp G (dpo_snoc G.toGd (dpo_snoc G.toGd (dpo_nil 2) (d_idx (κ := .s) G.toGd (d_var 3) (d_var 6))) (d_idx (κ := .s) G.toGd (d_var 4) (d_var 10))) (d_idx (κ := .s) G.toGd (d_var 5) (d_var 11)) (d_int (k := 0))))))) (ds_frz (ds_one (ds_ret (d_var 2)))))))
theorem sc_outline_of : FnScope ["square", "widths"] ["square", "widths"] (defScope (top 17)) := ⟨rfl, rfl, rfl, by decide +kernel, rfl, by decide +kernel, by decide +kernel⟩
theorem b_outline_of (cdv : Value) (A : Around) (outer : List PySem.Env) (s : Shared) (H : Hp) (E : XK) (G : Gs (tab K) n (cxOf (L2.CX P w) P w K mg base ["square", "widths"] "outline_of" (defScope (top 17)) a cdv A outer s H E)) :
    DSs (tab K) ⟨[], 2, 0⟩ (cxOf (L2.CX P w) P w K mg base ["square", "widths"] "outline_of" (defScope (top 17)) a cdv A outer s H E) (defBody (top 17)) (s_outline_of (run n)) := by
  unfold s_outline_of
  exact (ds_seq (ds_expr (d_call (κ := .s) G.toGd (dg_v (d_var 0) dg_nil))) (ds_seq (ds_expr (d_call (κ := .s) G.toGd (dg_v (d_len (κ := .s) G.toGd (d_var 0)) (dg_v (d_var 1) dg_nil)))) (ds_one (ds_ret (d_tup (κ := .s) (da_cons (d_var 1) (da_cons (d_call (κ := .s) G.toGd (dg_v (d_var 0) (dg_v (d_var 1) dg_nil))) da_nil)))))))
theorem sc_is_sketch : FnScope ["thing", "size", "table", "widths", "counts", "row", "one"] ["thing"] (defScope (top 18)) := ⟨rfl, rfl, rfl, by decide +kernel, rfl, by decide +kernel, by decide +kernel⟩
theorem b_is_sketch (cdv : Value) (A : Around) (outer : List PySem.Env) (s : Shared) (H : Hp) (E : XK) (G : Gs (tab K) n (cxOf (L2.CX P w) P w K mg base ["thing", "size", "table", "widths", "counts", "row", "one"] "is_sketch" (defScope (top 18)) a cdv A outer s H E)) :
    DSs (tab K) ⟨[], 1, 0⟩ (cxOf (L2.CX P w) P w K mg base ["thing", "size", "table", "widths", "counts", "row", "one"] "is_sketch" (defScope (top 18)) a cdv A outer s H E) (defBody (top 18)) (s_is_sketch (run n)) := by
  unfold s_is_sketch
  exact (ds_seq (ds_if (PWv.dt (dw_or (dt_not (dt_val (d_isty (κ := .s) G.toGd (d_var 0)))) (dw_or (dt_ne G.toGd (d_len (κ := .s) G.toGd (d_var 0)) (d_int (k := 0))) (dw_or (dt_not (dt_val (d_isty (κ := .s) G.toGd (d_idx (κ := .s) G.toGd (d_var 0) (d_int (k := 0)))))) (dw_or1 (dt_ne G.toGd (d_len (κ := .s) G.toGd (d_idx (κ := .s) G.toGd (d_var 0) (d_int (k := 0)))) (d_int (k := 0)))))))) (ds_one (ds_ret (d_bl (k := 0)))) ds_nil) (ds_seq (ds_unpack (d_var 0) (dg_many G.toGd (dgs_cons (dgs_cons dgs_nil G.toGd.nd) G.toGd.nd))) (ds_seq (ds_if (PWv.dt (dw_or (dt_not (dt_val (d_isty (κ := .s) G.toGd (d_idx (κ := .s) G.toGd (d_var 3) (d_int (k := 0)))))) (dw_or1 (dt_not (dt_val (d_all (κ := .s) G.toGd (d_comp [("one", 6)] 0 (κ := .s) G.toGd (di_seq G.toGd (d_idx (κ := .s) G.toGd (d_var 3) (d_int (k := 0)))) (fun _ _ _ _ _ => (dg_one G.toGd.blk.nd)) (fun _ _ _ _ _ => dts_nil) (fun _ _ _ _ _ => (d_call (κ := .s) G.toGd.blk (dg_v (d_var 6) (dg_v (d_int (k := 0)) (dg_v (d_con 0 (κ := .s) G.toGd.blk) dg_nil)))))))))))) (ds_one (ds_ret (d_bl (k := 0)))) ds_nil) (ds_seq (ds_asg G (d_sum (κ := .s) G.toGd (d_idx (κ := .s) G.toGd (d_var 3) (d_int (k := 0))))) (ds_seq (ds_if (PWv.dt (dw_or (dt_not (dt_leLe (d_int (k := 0)) (d_var 1) (d_con 0 (κ := .s) G.toGd))) (dw_or1 (dt_not (dt_val (d_all (κ := .s) G.toGd (d_comp [("one", 6)] 0 (κ := .s) G.toGd (di_seq G.toGd (d_var 3)) (fun _ _ _ _ _ => (dg_one G.toGd.blk.nd)) (fun _ _ _ _ _ => dts_nil) (fun _ _ _ _ _ => (d_call (κ := .s) G.toGd.blk (dg_v (d_var 1) (dg_v (d_var 6) dg_nil))))))))))) (ds_one (ds_ret (d_bl (k := 0)))) ds_nil) (ds_seq (ds_if (PWv.dt (dw_or (dt_not (dt_val (d_isty (κ := .s) G.toGd (d_var 4)))) (dw_or1 (dt_ne G.toGd (d_len (κ := .s) G.toGd (d_var 4)) (d_len (κ := .s) G.toGd (d_idx (κ := .s) G.toGd (d_var 3) (d_int (k := 0)))))))) (ds_one (ds_ret (d_bl (k := 0)))) ds_nil) (ds_seq (ds_for G (di_seq G.toGd (d_var 4)) (dg_one G.toGd.nd) (ds_seq (ds_if (PWv.dt (dw_or (dt_not (dt_val (d_isty (κ := .s) G.toGd (d_var 2)))) (dw_or1 (dt_ne G.toGd (d_len (κ := .s) G.toGd (d_var 2)) (d_len (κ := .s) G.toGd (d_idx (κ := .s) G.toGd (d_var 3) (d_int (k := 0)))))))) (ds_one (ds_ret (d_bl (k := 0)))) ds_nil) (ds_one (ds_for G (di_seq G.toGd (d_var 2)) (dg_one G.toGd.nd) (ds_seq (ds_if (PWv.dt (dw_or (dt_not (dt_val (d_isty (κ := .s) G.toGd (d_var 5)))) (dw_or1 (dt_ne G.toGd (d_len (κ := .s) G.toGd (d_var 5)) (d_len (κ := .s) G.toGd (d_idx (κ := .s) G.toGd (d_var 3) (d_int (k := 0)))))))) (ds_one (ds_ret (d_bl (k := 0)))) ds_nil) (ds_one (ds_if (dt_not (dt_val (d_all (κ := .s) G.toGd (d_comp [("one", 6)] 0 (κ := .s) G.toGd (di_seq G.toGd (d_var 5)) (fun _ _ _ _ _ => (dg_one G.toGd.blk.nd)) (fun _ _ _ _ _ => dts_nil) (fun _ _ _ _ _ => (d_call (κ := .s) G.toGd.blk (dg_v (d_var 6) (dg_v (d_int (k := 0)) (dg_v (d_mul (κ := .s) G.toGd.blk (d_con 0 (κ := .s) G.toGd.blk) (d_con 0 (κ := .s) G.toGd.blk)) dg_nil))))))))) (ds_one (ds_ret (d_bl (k := 0)))) ds_nil))))))) (ds_one (ds_ret (d_bl (k := 0)))))))))))
theorem sc_look_sketch : FnScope ["thing"] ["thing"] (defScope (top 19)) := ⟨rfl, rfl, rfl, by decide +kernel, rfl, by decide +kernel, by decide +kernel⟩
theorem b_look_sketch (cdv : Value) (A : Around) (outer : List PySem.Env) (s : Shared) (H : Hp) (E : XK) (G : Gs (tab K) n (cxOf (L2.CX P w) P w K mg base ["thing"] "look_sketch" (defScope (top 19)) a cdv A outer s H E)) :
    DSs (tab K) ⟨[], 1, 0⟩ (cxOf (L2.CX P w) P w K mg base ["thing"] "look_sketch" (defScope (top 19)) a cdv A outer s H E) (defBody (top 19)) (s_look_sketch (run n)) := by
  unfold s_look_sketch
  exact (ds_one (ds_if (dt_not (dt_val (d_call (κ := .s) G.toGd (dg_v (d_var 0) dg_nil)))) (ds_one (ds_raise 4 G)) ds_nil))
theorem sc_wrong_sums : FnScope ["sketch", "found", "j", "i", "widths", "counts", "k", "one", "table", "row"] ["sketch"] (defScope (top 20)) := ⟨rfl, rfl, rfl, by decide +kernel, rfl, by decide +kernel, by decide +kernel⟩
theorem b_wrong_sums (cdv : Value) (A : Around) (outer : List PySem.Env) (s : Shared) (H : Hp) (E : XK) (G : Gs (tab K) n (cxOf (L2.CX P w) P w K mg base ["sketch", "found", "j", "i", "widths", "counts", "k", "one", "table", "row"] "wrong_sums" (defScope (top 20)) a cdv A outer s H E)) :
    DSs (tab K) ⟨[], 1, 0⟩ (cxOf (L2.CX P w) P w K mg base ["sketch", "found", "j", "i", "widths", "counts", "k", "one", "table", "row"] "wrong_sums" (defScope (top 20)) a cdv A outer s H E) (defBody (top 20)) (s_wrong_sums (run n)) := by
  unfold s_wrong_sums
  exact (ds_seq (ds_unpack (d_var 0) (dg_many G.toGd (dgs_cons (dgs_cons dgs_nil G.toGd.nd) G.toGd.nd))) (ds_seq (ds_asg G (d_nil (k := 0))) (ds_seq (ds_for G (di_range G.toGd (d_len (κ := .s) G.toGd (d_idx (κ := .s) G.toGd (d_var 4) (d_int (k := 0))))) (dg_one G.toGd.nd) (ds_one (ds_for G (di_range G.toGd (d_len (κ := .s) G.toGd (d_idx (κ := .s) G.toGd (d_var 4) (d_int (k := 0))))) (dg_one G.toGd.nd) (ds_one (ds_app G (d_tup (κ := .s) (da_cons (d_int (k := 0)) (da_cons (d_var 2) (da_cons (d_var 6) (da_cons (d_sum (κ := .s) G.toGd (d_comp [("table", 8)] 0 (κ := .s) G.toGd (di_seq G.toGd (d_var 5)) (fun _ _ _ _ _ => (dg_one G.toGd.blk.nd)) (fun _ _ _ _ _ => dts_nil) (fun _ _ _ _ _ => (d_idx (κ := .s) G.toGd.blk (d_idx (κ := .s) G.toGd.blk (d_var 8) (d_var 2)) (d_var 6))))) (da_cons (d_mul (κ := .s) G.toGd (d_idx (κ := .s) G.toGd (d_idx (κ := .s) G.toGd (d_var 4) (d_int (k := 0))) (d_var 2)) (d_idx (κ := .s) G.toGd (d_idx (κ := .s) G.toGd (d_var 4) (d_int (k := 0))) (d_var 6))) da_nil))))))))))) (ds_seq (ds_for G (di_range G.toGd (d_len (κ := .s) G.toGd (d_idx (κ := .s) G.toGd (d_var 4) (d_int (k := 0))))) (dg_one G.toGd.nd) (ds_one (ds_for G (di_range G.toGd (d_len (κ := .s) G.toGd (d_idx (κ := .s) G.toGd (d_var 4) (d_int (k := 0))))) (dg_one G.toGd.nd) (ds_one (ds_app G (d_tup (κ := .s) (da_cons (d_int (k := 0)) (da_cons (d_var 3) (da_cons (d_var 6) (da_cons (d_sum (κ := .s) G.toGd (d_comp [("row", 9)] 0 (κ := .s) G.toGd (di_seq G.toGd (d_idx (κ := .s) G.toGd (d_var 5) (d_var 3))) (fun _ _ _ _ _ => (dg_one G.toGd.blk.nd)) (fun _ _ _ _ _ => dts_nil) (fun _ _ _ _ _ => (d_idx (κ := .s) G.toGd.blk (d_var 9) (d_var 6))))) (da_cons (d_mul (κ := .s) G.toGd (d_idx (κ := .s) G.toGd (d_idx (κ := .s) G.toGd (d_var 4) (d_int (k := 0))) (d_var 3)) (d_idx (κ := .s) G.toGd (d_idx (κ := .s) G.toGd (d_var 4) (d_int (k := 0))) (d_var 6))) da_nil))))))))))) (ds_seq (ds_for G (di_range G.toGd (d_len (κ := .s) G.toGd (d_idx (κ := .s) G.toGd (d_var 4) (d_int (k := 0))))) (dg_one G.toGd.nd) (ds_one (ds_for G (di_range G.toGd (d_len (κ := .s) G.toGd (d_idx (κ := .s) G.toGd (d_var 4) (d_int (k := 0))))) (dg_one G.toGd.nd) (ds_one (ds_app G (d_tup (κ := .s) (da_cons (d_int (k := 0)) (da_cons (d_var 3) (da_cons (d_var 2) (da_cons (d_sum (κ := .s) G.toGd (d_idx (κ := .s) G.toGd (d_idx (κ := .s) G.toGd (d_var 5) (d_var 3)) (d_var 2))) (da_cons (d_mul (κ := .s) G.toGd (d_idx (κ := .s) G.toGd (d_idx (κ := .s) G.toGd (d_var 4) (d_int (k := 0))) (d_var 3)) (d_idx (κ := .s) G.toGd (d_idx (κ := .s) G.toGd (d_var 4) (d_int (k := 0))) (d_var 2))) da_nil))))))))))) (ds_frz (ds_one (ds_ret (d_comp [("one", 7)] 0 (κ := .s) G.toGd (di_seq G.toGd (d_var 1)) (fun _ _ _ _ _ => (dg_one G.toGd.blk.nd)) (fun _ _ _ _ _ => (dts_one (dt_ne G.toGd.blk (d_idx (κ := .s) G.toGd.blk (d_var 7) (d_int (k := 0))) (d_idx (κ := .s) G.toGd.blk (d_var 7) (d_int (k := 0)))))) (fun _ _ _ _ _ => (d_var 7)))))))))))
theorem sc_bars : FnScope ["sketch"] ["sketch"] (defScope (top 21)) := ⟨rfl, rfl, rfl, by decide +kernel, rfl, by decide +kernel, by decide +kernel⟩
theorem b_bars (cdv : Value) (A : Around) (outer : List PySem.Env) (s : Shared) (H : Hp) (E : XK) (G : Gs (tab K) n (cxOf (L2.CX P w) P w K mg base ["sketch"] "bars" (defScope (top 21)) a cdv A outer s H E)) :
    DSs (tab K) ⟨[], 1, 0⟩ (cxOf (L2.CX P w) P w K mg base ["sketch"] "bars" (defScope (top 21)) a cdv A outer s H E) (defBody (top 21)) (s_bars (run n)) := by
  unfold s_bars
  exact (ds_seq (ds_expr (d_call (κ := .s) G.toGd (dg_v (d_var 0) dg_nil))) (ds_one (ds_ret (d_call (κ := .s) G.toGd (dg_v (d_var 0) dg_nil)))))
theorem sc_is_outline : FnScope ["thing"] ["thing"] (defScope (top 22)) := ⟨rfl, rfl, rfl, by decide +kernel, rfl, by decide +kernel, by decide +kernel⟩
theorem b_is_outline (cdv : Value) (A : Around) (outer : List PySem.Env) (s : Shared) (H : Hp) (E : XK) (G : Gs (tab K) n (cxOf (L2.CX P w) P w K mg base ["thing"] "is_outline" (defScope (top 22)) a cdv A outer s H E)) :
    DSs (tab K) ⟨[], 1, 0⟩ (cxOf (L2.CX P w) P w K mg base ["thing"] "is_outline" (defScope (top 22)) a cdv A outer s H E) (defBody (top 22)) (s_is_outline (run n)) := by
  unfold s_is_outline
  exact (ds_one (ds_ret (de_and (d_call (κ := .s) G.toGd (dg_v (d_var 0) dg_nil)) (de_one (d_eq (κ := .s) G.toGd (d_call (κ := .s) G.toGd (dg_v (d_var 0) dg_nil)) (d_lst (κ := .s) da_nil))))))
theorem sc_size_of : FnScope ["sketch"] ["sketch"] (defScope (top 23)) := ⟨rfl, rfl, rfl, by decide +kernel, rfl, by decide +kernel, by decide +kernel⟩
theorem b_size_of (cdv : Value) (A : Around) (outer : List PySem.Env) (s : Shared) (H : Hp) (E : XK) (G : Gs (tab K) n (cxOf (L2.CX P w) P w K mg base ["sketch"] "size_of" (defScope (top 23)) a cdv A outer s H E)) :
    DSs (tab K) ⟨[], 1, 0⟩ (cxOf (L2.CX P w) P w K mg base ["sketch"] "size_of" (defScope (top 23)) a cdv A outer s H E) (defBody (top 23)) (s_size_of (run n)) := by
  unfold s_size_of
  exact (ds_seq (ds_expr (d_call (κ := .s) G.toGd (dg_v (d_var 0) dg_nil))) (ds_one (ds_ret (d_sum (κ := .s) G.toGd (d_idx (κ := .s) G.toGd (d_idx (κ := .s) G.toGd (d_var 0) (d_int (k := 0))) (d_int (k := 0)))))))
theorem sc_l_pick : FnScope ["town", "some"] ["town", "some"] (defScope (top 27)) := ⟨rfl, rfl, rfl, by decide +kernel, rfl, by decide +kernel, by decide +kernel⟩
theorem b_l_pick (cdv : Value) (A : Around) (outer : List PySem.Env) (s : Shared) (H : Hp) (E : XK) (G : Gs (tab K) n (cxOf (L2.CX P w) P w K mg base ["town", "some"] "_law_pick" (defScope (top 27)) a cdv A outer s H E)) :
    DSs (tab K) ⟨[0], 2, 0⟩ (cxOf (L2.CX P w) P w K mg base ["town", "some"] "_law_pick" (defScope (top 27)) a cdv A outer s H E) (defBody (top 27)) (s_l_pick (run n)) := by
  unfold s_l_pick
  exact (ds_one (ds_ret (d_idx (κ := .s) G.toGd (d_var 1) (d_call (κ := .s) G.toGd (dg_io 0 (dg_v (d_len (κ := .s) G.toGd (d_var 1)) dg_nil))))))
theorem sc_l_side : FnScope ["town", "size", "found"] ["town", "size"] (defScope (top 31)) := ⟨rfl, rfl, rfl, by decide +kernel, rfl, by decide +kernel, by decide +kernel⟩
theorem b_l_side (cdv : Value) (A : Around) (outer : List PySem.Env) (s : Shared) (H : Hp) (E : XK) (G : Gs (tab K) n (cxOf (L2.CX P w) P w K mg base ["town", "size", "found"] "_law_side" (defScope (top 31)) a cdv A outer s H E)) :
    DSs (tab K) ⟨[0], 2, 0⟩ (cxOf (L2.CX P w) P w K mg base ["town", "size", "found"] "_law_side" (defScope (top 31)) a cdv A outer s H E) (defBody (top 31)) (s_l_side (run n)) := by
  unfold s_l_side
  exact (ds_seq (ds_asg G (d_nil (k := 0))) (ds_seq (ds_while G (dt_lt (d_sum (κ := .s) G.toGd (d_pk (dp_nil 2))) (d_var 1)) (ds_one (ds_app G (d_add (κ := .s) G.toGd (d_int (k := 0)) (d_call (κ := .s) G.toGd (dg_io 0 (dg_v (d_min2 (κ := .s) G.toGd (d_sub (κ := .s) (d_var 1) (d_sum (κ := .s) G.toGd (d_pk (dp_nil 2)))) (d_call (κ := .s) G.toGd (dg_io 0 (dg_v (d_lst (κ := .s) (da_cons (d_int (k := 0)) (da_cons (d_int (k := 0)) (da_cons (d_int (k := 0)) (da_cons (d_var 1) da_nil))))) dg_nil)))) dg_nil))))))) (ds_one (ds_ret (d_tuple (κ := .s) G.toGd (d_pki (dp_nil 2)))))))
theorem sc_l_widths : FnScope ["town", "size", "k"] ["town", "size"] (defScope (top 32)) := ⟨rfl, rfl, rfl, by decide +kernel, rfl, by decide +kernel, by decide +kernel⟩
theorem b_l_widths (cdv : Value) (A : Around) (outer : List PySem.Env) (s : Shared) (H : Hp) (E : XK) (G : Gs (tab K) n (cxOf (L2.CX P w) P w K mg base ["town", "size", "k"] "_law_widths" (defScope (top 32)) a cdv A outer s H E)) :
    DSs (tab K) ⟨[0], 2, 0⟩ (cxOf (L2.CX P w) P w K mg base ["town", "size", "k"] "_law_widths" (defScope (top 32)) a cdv A outer s H E) (defBody (top 32)) (s_l_widths (run n)) := by
  unfold s_l_widths
  exact (ds_one (ds_ret (d_tuple (κ := .s) G.toGd (d_comp [("k", 2)] 0 (κ := .s) G.toGd (di_range G.toGd (d_int (k := 0))) (fun _ _ _ _ _ => (dg_one G.toGd.blk.nd)) (fun _ _ _ _ _ => dts_nil) (fun _ _ _ _ _ => (d_call (κ := .s) G.toGd.blk (dg_io 0 (dg_v (d_var 1) dg_nil))))))))
theorem sc_l_lots : FnScope ["side", "found", "k"] ["side"] (defScope (top 33)) := ⟨rfl, rfl, rfl, by decide +kernel, rfl, by decide +kernel, by decide +kernel⟩
theorem b_l_lots (cdv : Value) (A : Around) (outer : List PySem.Env) (s : Shared) (H : Hp) (E : XK) (G : Gs (tab K) n (cxOf (L2.CX P w) P w K mg base ["side", "found", "k"] "_law_lots" (defScope (top 33)) a cdv A outer s H E)) :
    DSs (tab K) ⟨[], 1, 0⟩ (cxOf (L2.CX P w) P w K mg base ["side", "found", "k"] "_law_lots" (defScope (top 33)) a cdv A outer s H E) (defBody (top 33)) (s_l_lots (run n)) := by
  unfold s_l_lots
  exact (ds_seq (ds_asg G (d_lst (κ := .s) da_nil)) (ds_seq (ds_for G (di_range G.toGd (d_len (κ := .s) G.toGd (d_var 0))) (dg_one G.toGd.nd) (ds_one (ds_asg G (d_add (κ := .s) G.toGd (d_var 1) (d_mul (κ := .s) G.toGd (d_lst (κ := .s) (da_cons (d_var 2) da_nil)) (d_idx (κ := .s) G.toGd (d_var 0) (d_var 2))))))) (ds_one (ds_ret (d_var 1)))))
theorem sc_l_counts : FnScope ["square_here", "widths", "found", "i", "rows", "columns", "signs", "j", "one", "own", "at"] ["square_here", "widths"] (defScope (top 34)) := ⟨rfl, rfl, rfl, by decide +kernel, rfl, by decide +kernel, by decide +kernel⟩
theorem b_l_counts (cdv : Value) (A : Around) (outer : List PySem.Env) (s : Shared) (H : Hp) (E : XK) (G : Gs (tab K) n (cxOf (L2.CX P w) P w K mg base ["square_here", "widths", "found", "i", "rows", "columns", "signs", "j", "one", "own", "at"] "_law_counts" (defScope (top 34)) a cdv A outer s H E)) :
    DSs (tab K) ⟨[], 2, 3⟩ (cxOf (L2.CX P w) P w K mg base ["square_here", "widths", "found", "i", "rows", "columns", "signs", "j", "one", "own", "at"] "_law_counts" (defScope (top 34)) a cdv A outer s H E) (defBody (top 34)) (s_l_counts (run n)) := by
  unfold s_l_counts
  exact (ds_seq (ds_unpack (d_comp [("one", 8)] 0 (κ := .s) G.toGd (di_seq G.toGd (d_var 1)) (fun _ _ _ _ _ => (dg_one G.toGd.blk.nd)) (fun _ _ _ _ _ => dts_nil) (fun _ _ _ _ _ => (d_call (κ := .s) G.toGd.blk (dg_v (d_var 8) dg_nil)))) (dg_many G.toGd (dgs_cons (dgs_cons (dgs_cons dgs_nil G.toGd.nd) G.toGd.nd) G.toGd.nd))) (ds_seq (ds_asg G (d_nil (k := 2))) (ds_seq (ds_for G (di_seq G.toGd (d_idx (κ := .s) G.toGd (d_var 1) (d_int (k := 0)))) (dg_one G.toGd.nd) (ds_one (ds_app G (d_comp [("j", 7)] 1 (κ := .f 2) G.toGd (di_seq G.toGd (d_idx (κ := .s) G.toGd (d_var 1) (d_int (k := 0)))) (fun _ _ _ _ _ => (dg_one G.toGd.blk.nd)) (fun _ _ _ _ _ => dts_nil) (fun _ _ _ _ _ => (d_mul (κ := .f 1) G.toGd.blk (d_lst (κ := .s) (da_cons (d_int (k := 0)) da_nil)) (d_len (κ := .s) G.toGd.blk (d_idx (κ := .s) G.toGd.blk (d_var 1) (d_int (k := 0)))))))))) (ds_seq (ds_for G (di_range G.toGd (d_len (κ := .s) G.toGd (d_var 0))) (dg_one G.toGd.nd) (ds_one (ds_for G (di_range G.toGd (d_len (κ := .s) G.toGd (d_var 0))) (dg_one G.toGd.nd) (ds_bumpE G (dpo_snoc G.toGd (dpo_snoc G.toGd (dpo_nil 2) (d_idx (κ := .s) G.toGd (d_var 4) (d_var 3))) (d_idx (κ := .s) G.toGd (d_var 5) (d_var 7))) (d_idx (κ := .s) G.toGd (d_var 6) (d_idx (κ := .s) G.toGd (d_idx (κ := .s) G.toGd (d_var 0) (d_var 3)) (d_var 7))))))) (ds_one ds_retO)))))
theorem sc_l_bars : FnScope ["widths", "counts", "found", "j", "i", "k", "one", "table", "row"] ["widths", "counts"] (defScope (top 35)) := ⟨rfl, rfl, rfl, by decide +kernel, rfl, by decide +kernel, by decide +kernel⟩
theorem b_l_bars (cdv : Value) (A : Around) (outer : List PySem.Env) (s : Shared) (H : Hp) (E : XK) (G : Gs (tab K) n (cxOf (L2.CX P w) P w K mg base ["widths", "counts", "found", "j", "i", "k", "one", "table", "row"] "_law_bars" (defScope (top 35)) a cdv A outer s H E)) :
    DSs (tab K) ⟨[], 2, 0⟩ (cxOf (L2.CX P w) P w K mg base ["widths", "counts", "found", "j", "i", "k", "one", "table", "row"] "_law_bars" (defScope (top 35)) a cdv A outer s H E) (defBody (top 35)) (s_l_bars (run n)) := by
  unfold s_l_bars
  exact (ds_seq (ds_asg G (d_nil (k := 0))) (ds_seq (ds_for G (di_range G.toGd (d_len (κ := .s) G.toGd (d_idx (κ := .s) G.toGd (d_var 0) (d_int (k := 0))))) (dg_one G.toGd.nd) (ds_one (ds_for G (di_range G.toGd (d_len (κ := .s) G.toGd (d_idx (κ := .s) G.toGd (d_var 0) (d_int (k := 0))))) (dg_one G.toGd.nd) (ds_one (ds_app G (d_tup (κ := .s) (da_cons (d_int (k := 0)) (da_cons (d_var 3) (da_cons (d_var 5) (da_cons (d_sum (κ := .s) G.toGd (d_comp [("table", 7)] 0 (κ := .s) G.toGd (di_seq G.toGd (d_var 1)) (fun _ _ _ _ _ => (dg_one G.toGd.blk.nd)) (fun _ _ _ _ _ => dts_nil) (fun _ _ _ _ _ => (d_idx (κ := .s) G.toGd.blk (d_idx (κ := .s) G.toGd.blk (d_var 7) (d_var 3)) (d_var 5))))) (da_cons (d_mul (κ := .s) G.toGd (d_idx (κ := .s) G.toGd (d_idx (κ := .s) G.toGd (d_var 0) (d_int (k := 0))) (d_var 3)) (d_idx (κ := .s) G.toGd (d_idx (κ := .s) G.toGd (d_var 0) (d_int (k := 0))) (d_var 5))) da_nil))))))))))) (ds_seq (ds_for G (di_range G.toGd (d_len (κ := .s) G.toGd (d_idx (κ := .s) G.toGd (d_var 0) (d_int (k := 0))))) (dg_one G.toGd.nd) (ds_one (ds_for G (di_range G.toGd (d_len (κ := .s) G.toGd (d_idx (κ := .s) G.toGd (d_var 0) (d_int (k := 0))))) (dg_one G.toGd.nd) (ds_one (ds_app G (d_tup (κ := .s) (da_cons (d_int (k := 0)) (da_cons (d_var 4) (da_cons (d_var 5) (da_cons (d_sum (κ := .s) G.toGd (d_comp [("row", 8)] 0 (κ := .s) G.toGd (di_seq G.toGd (d_idx (κ := .s) G.toGd (d_var 1) (d_var 4))) (fun _ _ _ _ _ => (dg_one G.toGd.blk.nd)) (fun _ _ _ _ _ => dts_nil) (fun _ _ _ _ _ => (d_idx (κ := .s) G.toGd.blk (d_var 8) (d_var 5))))) (da_cons (d_mul (κ := .s) G.toGd (d_idx (κ := .s) G.toGd (d_idx (κ := .s) G.toGd (d_var 0) (d_int (k := 0))) (d_var 4)) (d_idx (κ := .s) G.toGd (d_idx (κ := .s) G.toGd (d_var 0) (d_int (k := 0))) (d_var 5))) da_nil))))))))))) (ds_seq (ds_for G (di_range G.toGd (d_len (κ := .s) G.toGd (d_idx (κ := .s) G.toGd (d_var 0) (d_int (k := 0))))) (dg_one G.toGd.nd) (ds_one (ds_for G (di_range G.toGd (d_len (κ := .s) G.toGd (d_idx (κ := .s) G.toGd (d_var 0) (d_int (k := 0))))) (dg_one G.toGd.nd) (ds_one (ds_app G (d_tup (κ := .s) (da_cons (d_int (k := 0)) (da_cons (d_var 4) (da_cons (d_var 3) (da_cons (d_sum (κ := .s) G.toGd (d_idx (κ := .s) G.toGd (d_idx (κ := .s) G.toGd (d_var 1) (d_var 4)) (d_var 3))) (da_cons (d_mul (κ := .s) G.toGd (d_idx (κ := .s) G.toGd (d_idx (κ := .s) G.toGd (d_var 0) (d_int (k := 0))) (d_var 4)) (d_idx (κ := .s) G.toGd (d_idx (κ := .s) G.toGd (d_var 0) (d_int (k := 0))) (d_var 3))) da_nil))))))))))) (ds_frz (ds_one (ds_ret (d_comp [("one", 6)] 0 (κ := .s) G.toGd (di_seq G.toGd (d_var 2)) (fun _ _ _ _ _ => (dg_one G.toGd.blk.nd)) (fun _ _ _ _ _ => (dts_one (dt_ne G.toGd.blk (d_idx (κ := .s) G.toGd.blk (d_var 6) (d_int (k := 0))) (d_idx (κ := .s) G.toGd.blk (d_var 6) (d_int (k := 0)))))) (fun _ _ _ _ _ => (d_var 6))))))))))
theorem sc_l_sketch : FnScope ["town", "size", "widths", "counts", "kind", "i", "j", "k", "two"] ["town", "size"] (defScope (top 36)) := ⟨rfl, rfl, rfl, by decide +kernel, rfl, by decide +kernel, by decide +kernel⟩
theorem b_l_sketch (cdv : Value) (A : Around) (outer : List PySem.Env) (s : Shared) (H : Hp) (E : XK) (G : Gs (tab K) n (cxOf (L2.CX P w) P w K mg base ["town", "size", "widths", "counts", "kind", "i", "j", "k", "two"] "_law_sketch" (defScope (top 36)) a cdv A outer s H E)) :
    DSs (tab K) ⟨[0], 2, 0⟩ (cxOf (L2.CX P w) P w K mg base ["town", "size", "widths", "counts", "kind", "i", "j", "k", "two"] "_law_sketch" (defScope (top 36)) a cdv A outer s H E) (defBody (top 36)) (s_l_sketch (run n)) := by
  unfold s_l_sketch
  exact (ds_seq (ds_asg G (d_call (κ := .s) G.toGd (dg_io 0 (dg_v (d_var 1) dg_nil)))) (ds_seq (ds_asg G (d_call (κ := .f 3) G.toGd (dg_v (d_call (κ := .s) G.toGd (dg_io 0 (dg_v (d_var 1) dg_nil))) (dg_v (d_var 2) dg_nil)))) (ds_seq (ds_asg G (d_call (κ := .s) G.toGd (dg_io 0 (dg_v (d_int (k := 0)) dg_nil)))) (ds_seq (ds_par3 G (da_cons (d_call (κ := .s) G.toGd (dg_io 0 (dg_v (d_len (κ := .s) G.toGd (d_idx (κ := .s) G.toGd (d_var 2) (d_int (k := 0)))) dg_nil))) (da_cons (d_call (κ := .s) G.toGd (dg_io 0 (dg_v (d_len (κ := .s) G.toGd (d_idx (κ := .s) G.toGd (d_var 2) (d_int (k := 0)))) dg_nil))) (da_cons (d_call (κ := .s) G.toGd (dg_io 0 (dg_v (d_len (κ := .s) G.toGd (d_idx (κ := .s) G.toGd (d_var 2) (d_int (k := 0)))) dg_nil))) da_nil)))) (ds_seq (ds_if (dt_eq G.toGd (d_var 4) (d_int (k := 0))) (ds_one (ds_setp (d_min2 (κ := .s) G.toGd (d_int (k := 0)) (d_max2 (κ := .s) G.toGd (d_int (k := 0)) (d_sub (κ := .s) (d_add (κ := .s) G.toGd (d_pth (dp_snoc G.toGd (dp_snoc G.toGd (dp_snoc G.toGd (dp_nil 3) (d_var 5)) (d_var 6)) (d_var 7))) (d_call (κ := .s) G.toGd (dg_io 0 (dg_v (d_int (k := 0)) dg_nil)))) (d_int (k := 0))))) (dgp_sub (dpo_snoc G.toGd (dpo_snoc G.toGd (dpo_nil 3) (d_var 5)) (d_var 6)) (d_var 7)))) (ds_one (ds_if (dt_eq G.toGd (d_var 4) (d_int (k := 0))) (ds_seq (ds_asg G (d_call (κ := .s) G.toGd (dg_io 0 (dg_v (d_len (κ := .s) G.toGd (d_idx (κ := .s) G.toGd (d_var 2) (d_int (k := 0)))) dg_nil)))) (ds_one (ds_if (dt_gt (d_pk (dp_snoc G.toGd (dp_snoc G.toGd (dp_snoc G.toGd (dp_nil 3) (d_var 5)) (d_var 6)) (d_var 7))) (d_int (k := 0))) (ds_seq (ds_setp (d_sub (κ := .s) (d_pth (dp_snoc G.toGd (dp_snoc G.toGd (dp_snoc G.toGd (dp_nil 3) (d_var 5)) (d_var 6)) (d_var 7))) (d_int (k := 0))) (dgp_sub (dpo_snoc G.toGd (dpo_snoc G.toGd (dpo_nil 3) (d_var 5)) (d_var 6)) (d_var 7))) (ds_one (ds_setp (d_add (κ := .s) G.toGd (d_pth (dp_snoc G.toGd (dp_snoc G.toGd (dp_snoc G.toGd (dp_nil 3) (d_var 5)) (d_var 6)) (d_var 8))) (d_int (k := 0))) (dgp_sub (dpo_snoc G.toGd (dpo_snoc G.toGd (dpo_nil 3) (d_var 5)) (d_var 6)) (d_var 8))))) ds_nil))) ds_nil))) (ds_frz (ds_one (ds_ret (d_tup (κ := .s) (da_cons (d_var 2) (da_cons (d_var 3) da_nil)))))))))))
theorem sc_law_k02 : FnScope ["script", "town", "size", "due", "sketch", "wrong", "whole", "back", "table", "square_here", "widths", "row"] ["script"] (defScope (top 37)) := ⟨rfl, rfl, rfl, by decide +kernel, rfl, by decide +kernel, by decide +kernel⟩
theorem b_law_k02 (cdv : Value) (A : Around) (outer : List PySem.Env) (s : Shared) (H : Hp) (E : XK) (G : Gs (tab K) n (cxOf (L2.CX P w) P w K mg base ["script", "town", "size", "due", "sketch", "wrong", "whole", "back", "table", "square_here", "widths", "row"] "law" (defScope (top 37)) a cdv A outer s H E)) :
    DSs (tab K) ⟨[], 1, 0⟩ (cxOf (L2.CX P w) P w K mg base ["script", "town", "size", "due", "sketch", "wrong", "whole", "back", "table", "square_here", "widths", "row"] "law" (defScope (top 37)) a cdv A outer s H E) (defBody (top 37)) (s_law_k02 (run n)) := by
  unfold s_law_k02 s_law_k02_1 s_law_k02_2
  exact (ds_seq (ds_asg G (d_call (κ := .f 2) G.toGd (dg_x 0 dg_nil))) (ds_seq (ds_asg G (d_add (κ := .s) G.toGd (d_int (k := 0)) (d_call (κ := .s) G.toGd (dg_io 1 (dg_v (d_int (k := 0)) dg_nil))))) (ds_seq (ds_par G (da_cons (d_call (κ := .s) G.toGd (dg_io 1 (dg_v (d_var 2) dg_nil))) (da_cons (d_call (κ := .s) G.toGd (dg_io 1 (dg_v (d_var 2) dg_nil))) da_nil))) (ds_seq (ds_asg G (d_tup (κ := .s) (da_cons (d_var 10) (da_cons (d_call (κ := .f 3) G.toGd (dg_v (d_var 9) (dg_v (d_var 10) dg_nil))) da_nil)))) (ds_seq (ds_if (PWv.dt (dw_or (dt_ne G.toGd (d_call (κ := .s) G.toGd (dg_v (d_var 9) (dg_v (d_var 10) dg_nil))) (d_var 3)) (dw_or (dt_ne G.toGd (d_call (κ := .s) G.toGd (dg_v (d_var 3) dg_nil)) (d_lst (κ := .s) da_nil)) (dw_or1 (dt_notb (d_call (κ := .s) G.toGd (dg_v (d_var 3) dg_nil))))))) (ds_one (ds_ret (d_bl (k := 0)))) ds_nil) (ds_seq (ds_asg G (d_call (κ := .s) G.toGd (dg_io 1 (dg_v (d_var 2) dg_nil)))) (ds_seq (ds_asg G (d_call (κ := .s) G.toGd (dg_v (d_idx (κ := .s) G.toGd (d_var 4) (d_int (k := 0))) (dg_v (d_idx (κ := .s) G.toGd (d_var 4) (d_int (k := 0))) dg_nil)))) (ds_seq (ds_if (PWv.dt (dw_or (dt_ne G.toGd (d_call (κ := .s) G.toGd (dg_v (d_var 4) dg_nil)) (d_var 5)) (dw_or1 (dt_not (dt_val (d_call (κ := .s) G.toGd (dg_v (d_call (κ := .s) G.toGd (dg_v (d_var 4) dg_nil)) (dg_v (d_eq (κ := .s) G.toGd (d_var 5) (d_lst (κ := .s) da_nil)) dg_nil)))))))) (ds_one (ds_ret (d_bl (k := 0)))) ds_nil) (ds_seq (ds_if (PWv.dt (dw_or (dt_ne G.toGd (d_call (κ := .s) G.toGd (dg_v (d_var 4) dg_nil)) (d_var 2)) (dw_or1 (dt_ne G.toGd (d_call (κ := .s) G.toGd (dg_v (d_var 3) dg_nil)) (d_var 2))))) (ds_one (ds_ret (d_bl (k := 0)))) ds_nil) (ds_seq (ds_asg G (d_tup (κ := .s) (da_cons (d_tup (κ := .s) (da_cons (d_var 2) da_nil)) (da_cons (d_tup (κ := .s) (da_cons (d_var 2) da_nil)) (da_cons (d_tup (κ := .s) (da_cons (d_var 2) da_nil)) da_nil))))) (ds_seq (ds_if (dt_ne G.toGd (d_call (κ := .s) G.toGd (dg_v (d_var 9) (dg_v (d_var 6) dg_nil))) (d_tup (κ := .s) (da_cons (d_var 6) (da_cons (d_lst (κ := .s) (da_cons (d_lst (κ := .s) (da_cons (d_lst (κ := .s) (da_cons (d_mul (κ := .s) G.toGd (d_var 2) (d_var 2)) da_nil)) da_nil)) da_nil)) da_nil)))) (ds_one (ds_ret (d_bl (k := 0)))) ds_nil) (ds_seq (ds_asg G (d_nil (k := 0))) (ds_seq (ds_for G (di_seq G.toGd (d_idx (κ := .s) G.toGd (d_call (κ := .s) G.toGd (dg_v (d_var 9) (dg_v (d_mul (κ := .s) G.toGd (d_tup (κ := .s) (da_cons (d_mul (κ := .s) G.toGd (d_tup (κ := .s) (da_cons (d_int (k := 0)) da_nil)) (d_var 2)) da_nil)) (d_int (k := 0))) dg_nil))) (d_int (k := 0)))) (dg_one G.toGd.nd) (ds_one (ds_app G (d_comp [("row", 11)] 0 (κ := .s) G.toGd (di_seq G.toGd (d_var 8)) (fun _ _ _ _ _ => (dg_one G.toGd.blk.nd)) (fun _ _ _ _ _ => dts_nil) (fun _ _ _ _ _ => (d_indexL (κ := .s) G.toGd.blk (d_var 11) (d_int (k := 0)))))))) (ds_one (ds_ret (d_eq (κ := .s) G.toGd (d_pk (dp_nil 7)) (d_var 9)))))))))))))))))
def fa : List He.Fa := [.glo "is_whole", .glo "is_table", .glo "columns_of", .glo "is_square", .glo "look_square", .glo "_law_town", .glo "_law_draw", .glo "_law_is", .glo "_law_order", .glo "_law_square", .glo "are_widths", .glo "look_widths", .glo "lot_of", .glo "counts_of", .glo "outline_of", .glo "is_sketch", .glo "look_sketch", .glo "wrong_sums", .glo "bars", .glo "is_outline", .glo "size_of", .glo "_law_pick", .glo "_law_side", .glo "_law_widths", .glo "_law_lots", .glo "_law_counts", .glo "_law_bars", .glo "_law_sketch", .glo "law", .exc "SquareError", .glo "SquareError", .exc "BadSquare", .glo "BadSquare", .exc "BadWidths", .glo "BadWidths", .exc "BadOutline", .glo "BadOutline", .int "MOST" 7, .free "len", .free "range", .free "list", .free "tuple", .free "isinstance", .free "sum", .free "all", .free "any", .free "sorted", .free "min", .free "max", .free "enumerate", .free "zip", .free "int", .free "bool", .free "str", .free "set", .free "ValueError"]
def fn : List He.DefD := [⟨("is_whole", none), "is_whole", "is_whole", defArgs (top 5), defBody (top 5), defScope (top 5), [], []⟩,
  ⟨("is_table", none), "is_table", "is_table", defArgs (top 8), defBody (top 8), defScope (top 8), [], []⟩,
  ⟨("columns_of", none), "columns_of", "columns_of", defArgs (top 9), defBody (top 9), defScope (top 9), [], []⟩,
  ⟨("is_square", none), "is_square", "is_square", defArgs (top 10), defBody (top 10), defScope (top 10), [], []⟩,
  ⟨("look_square", none), "look_square", "look_square", defArgs (top 11), defBody (top 11), defScope (top 11), [], []⟩,
  ⟨("_law_town", none), "_law_town", "_law_town", defArgs (top 25), defBody (top 25), defScope (top 25), [], []⟩,
  ⟨("_law_draw", none), "_law_draw", "_law_draw", defArgs (top 26), defBody (top 26), defScope (top 26), [], []⟩,
  ⟨("_law_is", none), "_law_is", "_law_is", defArgs (top 28), defBody (top 28), defScope (top 28), [], []⟩,
  ⟨("_law_order", none), "_law_order", "_law_order", defArgs (top 29), defBody (top 29), defScope (top 29), [], []⟩,
  ⟨("_law_square", none), "_law_square", "_law_square", defArgs (top 30), defBody (top 30), defScope (top 30), [], []⟩,
  ⟨("are_widths", none), "are_widths", "are_widths", defArgs (top 13), defBody (top 13), defScope (top 13), [], []⟩,
  ⟨("look_widths", none), "look_widths", "look_widths", defArgs (top 14), defBody (top 14), defScope (top 14), [], []⟩,
  ⟨("lot_of", none), "lot_of", "lot_of", defArgs (top 15), defBody (top 15), defScope (top 15), [], []⟩,
  ⟨("counts_of", none), "counts_of", "counts_of", defArgs (top 16), defBody (top 16), defScope (top 16), [], []⟩,
  ⟨("outline_of", none), "outline_of", "outline_of", defArgs (top 17), defBody (top 17), defScope (top 17), [], []⟩,
  ⟨("is_sketch", none), "is_sketch", "is_sketch", defArgs (top 18), defBody (top 18), defScope (top 18), [], []⟩,
  ⟨("look_sketch", none), "look_sketch", "look_sketch", defArgs (top 19), defBody (top 19), defScope (top 19), [], []⟩,
  ⟨("wrong_sums", none), "wrong_sums", "wrong_sums", defArgs (top 20), defBody (top 20), defScope (top 20), [], []⟩,
  ⟨("bars", none), "bars", "bars", defArgs (top 21), defBody (top 21), defScope (top 21), [], []⟩,
  ⟨("is_outline", none), "is_outline", "is_outline", defArgs (top 22), defBody (top 22), defScope (top 22), [], []⟩,
  ⟨("size_of", none), "size_of", "size_of", defArgs (top 23), defBody (top 23), defScope (top 23), [], []⟩,
  ⟨("_law_pick", none), "_law_pick", "_law_pick", defArgs (top 27), defBody (top 27), defScope (top 27), [], []⟩,
  ⟨("_law_side", none), "_law_side", "_law_side", defArgs (top 31), defBody (top 31), defScope (top 31), [], []⟩,
  ⟨("_law_widths", none), "_law_widths", "_law_widths", defArgs (top 32), defBody (top 32), defScope (top 32), [], []⟩,
  ⟨("_law_lots", none), "_law_lots", "_law_lots", defArgs (top 33), defBody (top 33), defScope (top 33), [], []⟩,
  ⟨("_law_counts", none), "_law_counts", "_law_counts", defArgs (top 34), defBody (top 34), defScope (top 34), [], []⟩,
  ⟨("_law_bars", none), "_law_bars", "_law_bars", defArgs (top 35), defBody (top 35), defScope (top 35), [], []⟩,
  ⟨("_law_sketch", none), "_law_sketch", "_law_sketch", defArgs (top 36), defBody (top 36), defScope (top 36), [], []⟩,
  ⟨("law", none), "law", "law", defArgs (top 37), defBody (top 37), defScope (top 37), [], []⟩]
abbrev R : PySem.W.OpenRow := PySem.W.OpenLaw.row PySem.Challenge.rw_outlines_k02_whole_sketches
abbrev hk : PySem.W.Hook := He.hookD 6 fa fn
def ob (s : PySem.W.SharedT) : He.AlD := He.obsDG 6 fa fn (HandSHeadRun.getT s)
theorem ob_eq (s : PySem.W.SharedT) : ob s = hk.obs s.abs := He.obsDG_eq (HandSHeadRun.getT_eq s)
def loose : List PySem.Str := (["SquareError", "BadSquare", "BadWidths", "BadOutline", "is_whole", "MOST", "is_table", "columns_of", "is_square", "look_square", "are_widths", "look_widths", "lot_of", "counts_of", "outline_of", "is_sketch", "look_sketch", "wrong_sums", "bars", "is_outline", "size_of", "_law_town", "_law_draw", "_law_pick", "_law_is", "_law_order", "_law_square", "_law_side", "_law_widths", "_law_lots"] : List PySem.Str) ++ (["_law_counts", "_law_bars", "_law_sketch"] : List PySem.Str)
theorem run_eq (w : World) : HandSHeadRun.RunEq R (PySem.W.view R.prog [37]) hk ob 60000 loose w := by
  intro os
  kernel_rfl
section
variable {h : Heap}
theorem lf (X : K.In h) (G : h.Ns mainGlobals mg) (c : He.SaysD fa fn K) : ∀ n, Lf (tab K) n P w K mg base := by
  refine lf_all (fun b => ?_) (fun e he => ?_) (fun e he => ?_) (fun f hf => ?_)
  · cases b with
    | len => exact He.free_ok X G (c.fact 38 (f := .free "len") rfl)
    | range => exact He.free_ok X G (c.fact 39 (f := .free "range") rfl)
    | list => exact He.free_ok X G (c.fact 40 (f := .free "list") rfl)
    | tuple => exact He.free_ok X G (c.fact 41 (f := .free "tuple") rfl)
    | isinstance => exact He.free_ok X G (c.fact 42 (f := .free "isinstance") rfl)
    | sum => exact He.free_ok X G (c.fact 43 (f := .free "sum") rfl)
    | all => exact He.free_ok X G (c.fact 44 (f := .free "all") rfl)
    | any => exact He.free_ok X G (c.fact 45 (f := .free "any") rfl)
    | sorted => exact He.free_ok X G (c.fact 46 (f := .free "sorted") rfl)
    | min => exact He.free_ok X G (c.fact 47 (f := .free "min") rfl)
    | max => exact He.free_ok X G (c.fact 48 (f := .free "max") rfl)
    | enumerate => exact He.free_ok X G (c.fact 49 (f := .free "enumerate") rfl)
    | zip => exact He.free_ok X G (c.fact 50 (f := .free "zip") rfl)
    | int => exact He.free_ok X G (c.fact 51 (f := .free "int") rfl)
    | bool => exact He.free_ok X G (c.fact 52 (f := .free "bool") rfl)
    | str => exact He.free_ok X G (c.fact 53 (f := .free "str") rfl)
    | set => exact He.free_ok X G (c.fact 54 (f := .free "set") rfl)
    | ValueError => exact He.free_ok X G (c.fact 55 (f := .free "ValueError") rfl)
  · have he : e ∈ xids := List.contains_iff_mem.mp he
    exact (all_cons (fun e => XFact (tab K) K mg e) (x_fact X G (c := 0) (x := "SquareError") rfl rfl (c.fact 29 (f := .exc "SquareError") rfl) (c.fact 30 (f := .glo "SquareError") rfl)) (all_cons (fun e => XFact (tab K) K mg e) (x_fact X G (c := 2) (x := "BadSquare") rfl rfl (c.fact 31 (f := .exc "BadSquare") rfl) (c.fact 32 (f := .glo "BadSquare") rfl)) (all_cons (fun e => XFact (tab K) K mg e) (x_fact X G (c := 3) (x := "BadWidths") rfl rfl (c.fact 33 (f := .exc "BadWidths") rfl) (c.fact 34 (f := .glo "BadWidths") rfl)) (all_cons (fun e => XFact (tab K) K mg e) (x_fact X G (c := 4) (x := "BadOutline") rfl rfl (c.fact 35 (f := .exc "BadOutline") rfl) (c.fact 36 (f := .glo "BadOutline") rfl)) (all_nil (fun e => XFact (tab K) K mg e)))))) e he
  · have he : e ∈ cids := List.contains_iff_mem.mp he
    exact (all_cons (fun e => CFact (tab K) mg e) (c_int X G (c := 0) (x := "MOST") rfl rfl (c.fact 37 (f := .int "MOST" 7) rfl)) (all_nil (fun e => CFact (tab K) mg e))) e he
  · have hf : f ∈ ids := List.contains_iff_mem.mp hf
    exact (all_cons (fun f => FB (tab K) P w K mg base f) (fb_of (f := 0) rfl (c.def_ 0 rfl) (He.glo_ok X G (c.fact 0 (f := .glo "is_whole") rfl)) rfl sc_is_whole rfl rfl rfl (fun _ _ _ _ _ _ us hl => match us, hl with | [_, _, _], _ => rfl) (fun n cdv A outer s H E G => b_is_whole cdv A outer s H E G)) (all_cons (fun f => FB (tab K) P w K mg base f) (fb_of (f := 2) rfl (c.def_ 1 rfl) (He.glo_ok X G (c.fact 1 (f := .glo "is_table") rfl)) rfl sc_is_table rfl rfl rfl (fun _ _ _ _ _ _ us hl => match us, hl with | [_, _, _, _], _ => rfl) (fun n cdv A outer s H E G => b_is_table cdv A outer s H E G)) (all_cons (fun f => FB (tab K) P w K mg base f) (fb_of (f := 3) rfl (c.def_ 2 rfl) (He.glo_ok X G (c.fact 2 (f := .glo "columns_of") rfl)) rfl sc_columns_of rfl rfl rfl (fun _ _ _ _ _ _ us hl => match us, hl with | [_], _ => rfl) (fun n cdv A outer s H E G => b_columns_of cdv A outer s H E G)) (all_cons (fun f => FB (tab K) P w K mg base f) (fb_of (f := 4) rfl (c.def_ 3 rfl) (He.glo_ok X G (c.fact 3 (f := .glo "is_square") rfl)) rfl sc_is_square rfl rfl rfl (fun _ _ _ _ _ _ us hl => match us, hl with | [_], _ => rfl) (fun n cdv A outer s H E G => b_is_square cdv A outer s H E G)) (all_cons (fun f => FB (tab K) P w K mg base f) (fb_of (f := 5) rfl (c.def_ 4 rfl) (He.glo_ok X G (c.fact 4 (f := .glo "look_square") rfl)) rfl sc_look_square rfl rfl rfl (fun _ _ _ _ _ _ us hl => match us, hl with | [_], _ => rfl) (fun n cdv A outer s H E G => b_look_square cdv A outer s H E G)) (all_cons (fun f => FB (tab K) P w K mg base f) (fb_of (f := 8) rfl (c.def_ 5 rfl) (He.glo_ok X G (c.fact 5 (f := .glo "_law_town") rfl)) rfl sc_l_town rfl rfl rfl (fun _ _ _ _ _ _ us hl => match us, hl with | [_], _ => rfl) (fun n cdv A outer s H E G => b_l_town cdv A outer s H E G)) (all_cons (fun f => FB (tab K) P w K mg base f) (fb_of (f := 9) rfl (c.def_ 6 rfl) (He.glo_ok X G (c.fact 6 (f := .glo "_law_draw") rfl)) rfl sc_l_draw rfl rfl rfl (fun _ _ _ _ _ _ us hl => match us, hl with | [_, _], _ => rfl) (fun n cdv A outer s H E G => b_l_draw cdv A outer s H E G)) (all_cons (fun f => FB (tab K) P w K mg base f) (fb_of (f := 10) rfl (c.def_ 7 rfl) (He.glo_ok X G (c.fact 7 (f := .glo "_law_is") rfl)) rfl sc_l_is rfl rfl rfl (fun _ _ _ _ _ _ us hl => match us, hl with | [_, _], _ => rfl) (fun n cdv A outer s H E G => b_l_is cdv A outer s H E G)) (all_cons (fun f => FB (tab K) P w K mg base f) (fb_of (f := 11) rfl (c.def_ 8 rfl) (He.glo_ok X G (c.fact 8 (f := .glo "_law_order") rfl)) rfl sc_l_order rfl rfl rfl (fun _ _ _ _ _ _ us hl => match us, hl with | [_, _], _ => rfl) (fun n cdv A outer s H E G => b_l_order cdv A outer s H E G)) (all_cons (fun f => FB (tab K) P w K mg base f) (fb_of (f := 12) rfl (c.def_ 9 rfl) (He.glo_ok X G (c.fact 9 (f := .glo "_law_square") rfl)) rfl sc_l_square rfl rfl rfl (fun _ _ _ _ _ _ us hl => match us, hl with | [_, _], _ => rfl) (fun n cdv A outer s H E G => b_l_square cdv A outer s H E G)) (all_cons (fun f => FB (tab K) P w K mg base f) (fb_of (f := 15) rfl (c.def_ 10 rfl) (He.glo_ok X G (c.fact 10 (f := .glo "are_widths") rfl)) rfl sc_are_widths rfl rfl rfl (fun _ _ _ _ _ _ us hl => match us, hl with | [_, _], _ => rfl) (fun n cdv A outer s H E G => b_are_widths cdv A outer s H E G)) (all_cons (fun f => FB (tab K) P w K mg base f) (fb_of (f := 16) rfl (c.def_ 11 rfl) (He.glo_ok X G (c.fact 11 (f := .glo "look_widths") rfl)) rfl sc_look_widths rfl rfl rfl (fun _ _ _ _ _ _ us hl => match us, hl with | [_, _], _ => rfl) (fun n cdv A outer s H E G => b_look_widths cdv A outer s H E G)) (all_cons (fun f => FB (tab K) P w K mg base f) (fb_of (f := 17) rfl (c.def_ 12 rfl) (He.glo_ok X G (c.fact 12 (f := .glo "lot_of") rfl)) rfl sc_lot_of rfl rfl rfl (fun _ _ _ _ _ _ us hl => match us, hl with | [_], _ => rfl) (fun n cdv A outer s H E G => b_lot_of cdv A outer s H E G)) (all_cons (fun f => FB (tab K) P w K mg base f) (fb_of (f := 18) rfl (c.def_ 13 rfl) (He.glo_ok X G (c.fact 13 (f := .glo "counts_of") rfl)) rfl sc_counts_of rfl rfl rfl (fun _ _ _ _ _ _ us hl => match us, hl with | [_, _], _ => rfl) (fun n cdv A outer s H E G => b_counts_of cdv A outer s H E G)) (all_cons (fun f => FB (tab K) P w K mg base f) (fb_of (f := 19) rfl (c.def_ 14 rfl) (He.glo_ok X G (c.fact 14 (f := .glo "outline_of") rfl)) rfl sc_outline_of rfl rfl rfl (fun _ _ _ _ _ _ us hl => match us, hl with | [_, _], _ => rfl) (fun n cdv A outer s H E G => b_outline_of cdv A outer s H E G)) (all_cons (fun f => FB (tab K) P w K mg base f) (fb_of (f := 20) rfl (c.def_ 15 rfl) (He.glo_ok X G (c.fact 15 (f := .glo "is_sketch") rfl)) rfl sc_is_sketch rfl rfl rfl (fun _ _ _ _ _ _ us hl => match us, hl with | [_], _ => rfl) (fun n cdv A outer s H E G => b_is_sketch cdv A outer s H E G)) (all_cons (fun f => FB (tab K) P w K mg base f) (fb_of (f := 21) rfl (c.def_ 16 rfl) (He.glo_ok X G (c.fact 16 (f := .glo "look_sketch") rfl)) rfl sc_look_sketch rfl rfl rfl (fun _ _ _ _ _ _ us hl => match us, hl with | [_], _ => rfl) (fun n cdv A outer s H E G => b_look_sketch cdv A outer s H E G)) (all_cons (fun f => FB (tab K) P w K mg base f) (fb_of (f := 22) rfl (c.def_ 17 rfl) (He.glo_ok X G (c.fact 17 (f := .glo "wrong_sums") rfl)) rfl sc_wrong_sums rfl rfl rfl (fun _ _ _ _ _ _ us hl => match us, hl with | [_], _ => rfl) (fun n cdv A outer s H E G => b_wrong_sums cdv A outer s H E G)) (all_cons (fun f => FB (tab K) P w K mg base f) (fb_of (f := 23) rfl (c.def_ 18 rfl) (He.glo_ok X G (c.fact 18 (f := .glo "bars") rfl)) rfl sc_bars rfl rfl rfl (fun _ _ _ _ _ _ us hl => match us, hl with | [_], _ => rfl) (fun n cdv A outer s H E G => b_bars cdv A outer s H E G)) (all_cons (fun f => FB (tab K) P w K mg base f) (fb_of (f := 24) rfl (c.def_ 19 rfl) (He.glo_ok X G (c.fact 19 (f := .glo "is_outline") rfl)) rfl sc_is_outline rfl rfl rfl (fun _ _ _ _ _ _ us hl => match us, hl with | [_], _ => rfl) (fun n cdv A outer s H E G => b_is_outline cdv A outer s H E G)) (all_cons (fun f => FB (tab K) P w K mg base f) (fb_of (f := 25) rfl (c.def_ 20 rfl) (He.glo_ok X G (c.fact 20 (f := .glo "size_of") rfl)) rfl sc_size_of rfl rfl rfl (fun _ _ _ _ _ _ us hl => match us, hl with | [_], _ => rfl) (fun n cdv A outer s H E G => b_size_of cdv A outer s H E G)) (all_cons (fun f => FB (tab K) P w K mg base f) (fb_of (f := 26) rfl (c.def_ 21 rfl) (He.glo_ok X G (c.fact 21 (f := .glo "_law_pick") rfl)) rfl sc_l_pick rfl rfl rfl (fun _ _ _ _ _ _ us hl => match us, hl with | [_, _], _ => rfl) (fun n cdv A outer s H E G => b_l_pick cdv A outer s H E G)) (all_cons (fun f => FB (tab K) P w K mg base f) (fb_of (f := 27) rfl (c.def_ 22 rfl) (He.glo_ok X G (c.fact 22 (f := .glo "_law_side") rfl)) rfl sc_l_side rfl rfl rfl (fun _ _ _ _ _ _ us hl => match us, hl with | [_, _], _ => rfl) (fun n cdv A outer s H E G => b_l_side cdv A outer s H E G)) (all_cons (fun f => FB (tab K) P w K mg base f) (fb_of (f := 28) rfl (c.def_ 23 rfl) (He.glo_ok X G (c.fact 23 (f := .glo "_law_widths") rfl)) rfl sc_l_widths rfl rfl rfl (fun _ _ _ _ _ _ us hl => match us, hl with | [_, _], _ => rfl) (fun n cdv A outer s H E G => b_l_widths cdv A outer s H E G)) (all_cons (fun f => FB (tab K) P w K mg base f) (fb_of (f := 29) rfl (c.def_ 24 rfl) (He.glo_ok X G (c.fact 24 (f := .glo "_law_lots") rfl)) rfl sc_l_lots rfl rfl rfl (fun _ _ _ _ _ _ us hl => match us, hl with | [_], _ => rfl) (fun n cdv A outer s H E G => b_l_lots cdv A outer s H E G)) (all_cons (fun f => FB (tab K) P w K mg base f) (fb_of (f := 30) rfl (c.def_ 25 rfl) (He.glo_ok X G (c.fact 25 (f := .glo "_law_counts") rfl)) rfl sc_l_counts rfl rfl rfl (fun _ _ _ _ _ _ us hl => match us, hl with | [_, _], _ => rfl) (fun n cdv A outer s H E G => b_l_counts cdv A outer s H E G)) (all_cons (fun f => FB (tab K) P w K mg base f) (fb_of (f := 31) rfl (c.def_ 26 rfl) (He.glo_ok X G (c.fact 26 (f := .glo "_law_bars") rfl)) rfl sc_l_bars rfl rfl rfl (fun _ _ _ _ _ _ us hl => match us, hl with | [_, _], _ => rfl) (fun n cdv A outer s H E G => b_l_bars cdv A outer s H E G)) (all_cons (fun f => FB (tab K) P w K mg base f) (fb_of (f := 32) rfl (c.def_ 27 rfl) (He.glo_ok X G (c.fact 27 (f := .glo "_law_sketch") rfl)) rfl sc_l_sketch rfl rfl rfl (fun _ _ _ _ _ _ us hl => match us, hl with | [_, _], _ => rfl) (fun n cdv A outer s H E G => b_l_sketch cdv A outer s H E G)) (all_cons (fun f => FB (tab K) P w K mg base f) (fb_of (f := 33) rfl (c.def_ 28 rfl) (He.glo_ok X G (c.fact 28 (f := .glo "law") rfl)) rfl sc_law_k02 rfl rfl rfl (fun _ _ _ _ _ _ us hl => match us, hl with | [_], _ => rfl) (fun n cdv A outer s H E G => b_law_k02 cdv A outer s H E G)) (all_nil (fun f => FB (tab K) P w K mg base f))))))))))))))))))))))))))))))) f hf
end
theorem facts {h : Heap} {f : Addr} (math : ∀ ns : List Int, ns.length ≤ 63 → run 40 i_law_k02 [.scr ns] = .ok (.bl true) []) (X : K.In h) (G : h.Ns mainGlobals mg) (hfa : mg ("law" : PySem.Str) = some (.ref f)) (c : He.SaysD fa fn K) :
    ∃ (fd : FuncData) (sp : Sp), (∀ (s : Shared) (v : Value), BindsTo s fd ⟨[v], []⟩ [("script", v)]) ∧ (∀ (H : Hp) (a : Addr) (ns : List Int), ns.length ≤ 63 → SqL K H a (ns.map V.int) → sp [.ref a] H (fun v _ => v = .bl true) fun _ _ _ => False) ∧
      ∀ base : Heap, FnOk P w K mg base (fun _ _ _ _ _ _ => False) 80 f fd ["script"] sp := by
  have e := hfa.symm.trans (He.glo_ok X G (c.fact 28 (f := .glo "law") rfl))
  cases e
  obtain ⟨fd, F⟩ := c.def_ 28 rfl
  have b := FunD.bindsA (ps := ["script"]) F fun _ _ _ _ _ _ us hl => match us, hl with | [_], _ => rfl
  refine ⟨fd, fun vs H Q _ => spI (tab K) (run 40) i_law_k02 d_law_k02 vs H Q fun _ _ _ => False, fun s v => b s [v] rfl, fun H a ns hl hS => law_true rfl rfl rfl rfl hS (math ns hl), fun base => ?_⟩
  exact fn_quiet (fn_rule (n := 39) (T := tab K) rfl (lf X G c 39) F sc_law_k02 rfl rfl rfl (by decide) (by decide) (fun cdv A outer s H E G => b_law_k02 cdv A outer s H E G))
open PySem PySem.W PySem.Calls PyProof.Rows in
theorem holds_of (math : ∀ ns : List Int, ns.length ≤ 63 → run 40 i_law_k02 [.scr ns] = .ok (.bl true) []) : PySem.Challenge.rw_outlines_k02_whole_sketches.Holds := by
  w_on; o_law
  refine HandSHeadRun.head_any (r := OpenLaw.row PySem.Challenge.rw_outlines_k02_whole_sketches) (q := view (OpenLaw.row PySem.Challenge.rw_outlines_k02_whole_sketches).prog [37]) (H := hk) (ob := ob) (M := 60000) (loose := loose) (d := HandSHeadRun.topDef (OpenLaw.row PySem.Challenge.rw_outlines_k02_whole_sketches).prog 37) (kwd := []) ob_eq
    (by kernel_rfl) (fun s => by kernel_rfl) run_eq (by kernel_rfl) (by kernel_rfl) (by kernel_rfl) (by rfl) (by first | assumption | decide +kernel) (by decide +kernel) ⟨rfl, rfl, rfl, rfl, rfl, by decide +kernel⟩ ?hw ?hc
  case hw => w_witness2
  case hc =>
    refine L2.walk_ofE (l := PySem.Challenge.rw_outlines_k02_whole_sketches) (n := 63) (k := 80) (x := "script") (CX := fun _ _ _ _ _ _ => False) rfl (by decide) (by kernel_rfl) ⟨rfl, by decide, by decide⟩ ?F (fun _ _ _ _ z => z)
    intro w mg fa h Y G hmg0
    obtain ⟨K, KX, c⟩ := Y
    have hmg : mg ("law" : PySem.Str) = some (.ref fa) := by
      have e : (HandSHeadRun.topDef (OpenLaw.row PySem.Challenge.rw_outlines_k02_whole_sketches).prog 37).name = ("law" : PySem.Str) := by kernel_rfl
      rw [← e]
      exact hmg0
    obtain ⟨fd, sp, hb, hsp, hF⟩ := facts (P := (PySem.Challenge.rw_outlines_k02_whole_sketches).prog) (w := w) math KX G hmg c
    exact ⟨K, fd, sp, KX, hb, fun H a ns hl _ hS => hsp H a ns hl hS, fun base _ _ => hF base⟩
end L02
end O
end
section
set_option linter.all false
set_option maxRecDepth 10000
/-! Math1: how a pure text is run: steps with a wish behind. -/
namespace O
/-- it goes well, and Q holds -/
def okR {α : Type} (x : Res α) (Q : α → Env → Prop) : Prop := ∃ a r, x = .ok a r ∧ Q a r
section
variable {α β : Type} {x : Res α} {f : α → Env → Res β} {Q : β → Env → Prop} {r : Env}
theorem okR_ok {a : α} {Q : α → Env → Prop} (h : Q a r) : okR (.ok a r) Q := ⟨a, r, rfl, h⟩
theorem okR_bind (h : okR x fun a r => okR (f a r) Q) : okR (x.bind f) Q := by
  obtain ⟨a, r, rfl, h⟩ := h
  exact h
theorem okR_bindN (h : okR x fun a r => okR (f a r) Q) : okR (x.bindN f) Q := by
  obtain ⟨a, r, rfl, h⟩ := h
  exact h
theorem okR_mono {Q Q' : α → Env → Prop} (h : okR x Q) (hq : ∀ a r, Q a r → Q' a r) : okR x Q' := by
  obtain ⟨a, r, rfl, h⟩ := h
  exact ⟨a, r, rfl, hq a r h⟩
theorem okR_of {a : α} {Q : α → Env → Prop} (e : x = .ok a r) (h : Q a r) : okR x Q := ⟨a, r, e, h⟩
end
section
variable {r : Env} {a b : S} {e c : E} {Q : Flow → Env → Prop} {P : D → Env → Prop}
/-- statements in a row: what is wanted where the first goes on, where it does not -/
theorem ok_seq (h : okR (a r) fun f r' => match f with
    | .nx => okR (b r') Q
    | f => Q f r') : okR (S.seq a b r) Q := by
  obtain ⟨f, r', e, h⟩ := h
  unfold S.seq
  cases f with
  | nx => rw [e]; exact h
  | rt d => exact ⟨_, _, by rw [e], h⟩
  | bk => exact ⟨_, _, by rw [e], h⟩
  | ct => exact ⟨_, _, by rw [e], h⟩
theorem ok_asg {i k : Nat} (h : okR (e r) fun d r' => Q .nx (r'.set i (.val k d))) : okR (S.asg i k e r) Q := okR_bind (okR_mono h fun d r' h => okR_ok h)
theorem ok_expr (h : okR (e r) fun _ r' => Q .nx r') : okR (S.expr e r) Q := okR_bind (okR_mono h fun d r' h => okR_ok h)
theorem ok_ret (h : okR (e r) fun d r' => Q (.rt d) r') : okR (S.ret e r) Q := okR_bind (okR_mono h fun d r' h => okR_ok h)
theorem ok_pass (h : Q .nx r) : okR (S.pass r) Q := okR_ok h
theorem ok_ite (h : okR (c r) fun x r' => (x = .bl true ∧ okR (a r') Q) ∨ (x = .bl false ∧ okR (b r') Q)) : okR (S.ite c a b r) Q := okR_bind (okR_mono h fun x r' h => by
  rcases h with ⟨rfl, h⟩ | ⟨rfl, h⟩
  · exact h
  · exact h)
theorem ok_frz {i k : Nat} {d : D} (hg : getS r i = .val k d) (h : Q .nx (r.set i (.val 0 d))) : okR (S.frz i r) Q := by
  unfold S.frz
  rw [hg]
  exact okR_ok h
theorem ok_unpack {is : List Nat} (h : okR (e r) fun d r' => ∃ r2, (E.Tg.many is).put d r' = some r2 ∧ Q .nx r2) : okR (S.unpack is e r) Q := okR_bind (okR_mono h fun d r' ⟨r2, e2, h⟩ => by
  simp only [e2]
  exact okR_ok h)
/-- a loop, by what holds ahead of each turn; a turn may leave -/
theorem ok_forGo {tg : E.Tg} (I : List D → Env → Prop) (hstep : ∀ x xs r, I (x :: xs) r → ∃ r', tg.put x r = some r' ∧ okR (b r') fun f r2 => match f with
    | .nx => I xs r2
    | .ct => I xs r2
    | .bk => Q .nx r2
    | .rt d => Q (.rt d) r2) (hend : ∀ r, I [] r → Q .nx r) : ∀ xs r, I xs r → okR (S.forGo tg b xs r) Q
  | [], r, h => okR_ok (hend r h)
  | x :: xs, r, h => by
    obtain ⟨r', e1, f, r2, e2, h2⟩ := hstep x xs r h
    unfold S.forGo
    simp only [e1, e2]
    cases f with
    | nx => exact ok_forGo I hstep hend xs r2 h2
    | ct => exact ok_forGo I hstep hend xs r2 h2
    | bk => exact okR_ok h2
    | rt d => exact okR_ok h2
theorem ok_for {tg : E.Tg} {it : E.It} (I : List D → Env → Prop) (h : okR (it r) I) (hstep : ∀ x xs r, I (x :: xs) r → ∃ r', tg.put x r = some r' ∧ okR (b r') fun f r2 => match f with
    | .nx => I xs r2
    | .ct => I xs r2
    | .bk => Q .nx r2
    | .rt d => Q (.rt d) r2) (hend : ∀ r, I [] r → Q .nx r) : okR (S.for_ tg it b r) Q := okR_bind (okR_mono h fun xs r' h => ok_forGo I hstep hend xs r' h)
/-! calls -/
theorem ok_call {cf : Calls} {f : Nat} {as : List E.Arg} (h : okR (E.evalArgs as r) fun ss r' => ∃ d outs r2, cf f (E.resolve as ss r') = .ok d outs ∧ E.putOuts as outs r' = some r2 ∧ P d r2) : okR (E.call cf f as r) P := okR_bind (okR_mono h fun ss r' ⟨d, outs, r2, e1, e2, h⟩ => by
  simp only [e1, e2]
  exact okR_ok h)
theorem ok_callB {cf : Calls} {f : Nat} {as : List E.Arg} (h : okR (E.call cf f as r) fun d r' => E.scalar d = true ∧ P d r') : okR (E.callB cf f as r) P := okR_bind (okR_mono h fun d r' ⟨h1, h2⟩ => by
  simp only [h1, if_true]
  exact okR_ok h2)
end
/-! ### comprehensions of one name that change nothing -/
theorem set_self' {r : Env} {j : Nat} (h : j < r.length) : r.set j (getS r j) = r := by
  apply List.ext_getElem?
  intro i
  by_cases e : j = i
  · subst e
    rw [List.getElem?_set_self h, List.getElem?_eq_getElem h]
    unfold getS
    rw [List.getD_eq_getElem?_getD, List.getElem?_eq_getElem h]
    rfl
  · rw [List.getElem?_set_ne e]
theorem turns_pure {j : Nat} {cond elt : E} {r : Env} (c : D → Bool) (f : D → D) : ∀ (xs : List D) (s : Slot),
    (∀ x ∈ xs, cond (r.set j (.val 0 x)) = .ok (.bl (c x)) (r.set j (.val 0 x))) → (∀ x ∈ xs, c x = true → elt (r.set j (.val 0 x)) = .ok (f x) (r.set j (.val 0 x))) →
    ∃ s', E.turns (.one j) cond (E.one elt) xs (r.set j s) = .ok ((xs.filter c).map f) (r.set j s')
  | [], s, _, _ => ⟨s, rfl⟩
  | x :: xs, s, hc, he => by
    obtain ⟨s', h⟩ := turns_pure c f xs (.val 0 x) (fun y hy => hc y (List.mem_cons_of_mem _ hy)) (fun y hy => he y (List.mem_cons_of_mem _ hy))
    refine ⟨s', ?_⟩
    have h1 := hc x List.mem_cons_self
    unfold E.turns
    show (match some ((r.set j s).set j (.val 0 x)) with
      | none => Res.stuck
      | some r => (cond r).bindN fun c r => match c with
        | .bl true => (E.one elt r).bindN fun ys r => (E.turns (.one j) cond (E.one elt) xs r).bindN fun zs r => .ok (ys ++ zs) r
        | .bl false => E.turns (.one j) cond (E.one elt) xs r
        | _ => .stuck) = _
    rw [List.set_set]
    simp only [h1, Res.bindN]
    cases hcx : c x with
    | true =>
      have h2 := he x List.mem_cons_self hcx
      simp only [E.one, h2, Res.bindN, h, List.filter_cons, hcx]
      rfl
    | false =>
      simp only [h, List.filter_cons, hcx]
      rfl
theorem comp_pure {j : Nat} {it : E.It} {cond elt : E} {r r1 : Env} {xs : List D} (c : D → Bool) (f : D → D) (hj : j < r1.length) (hi : it r = .ok xs r1)
    (hc : ∀ x ∈ xs, cond (r1.set j (.val 0 x)) = .ok (.bl (c x)) (r1.set j (.val 0 x))) (he : ∀ x ∈ xs, c x = true → elt (r1.set j (.val 0 x)) = .ok (f x) (r1.set j (.val 0 x))) :
    E.comp (.one j) it cond elt r = .ok (.lst ((xs.filter c).map f)) r1 := by
  obtain ⟨s', h⟩ := turns_pure (r := r1) c f xs .no hc he
  have hw : E.wipe (E.Tg.one j).own r1 = r1.set j .no := rfl
  have hb : E.back r1 (E.Tg.one j).own (r1.set j s') = r1 := by
    show (r1.set j s').set j (getS r1 j) = r1
    rw [List.set_set, set_self' hj]
  unfold E.comp E.items
  simp only [hi, Res.bind, hw, h, Res.bindN, hb]
/-- .. without a test -/
theorem comp_map {j : Nat} {it : E.It} {elt : E} {r r1 : Env} {xs : List D} (f : D → D) (hj : j < r1.length) (hi : it r = .ok xs r1) (he : ∀ x ∈ xs, elt (r1.set j (.val 0 x)) = .ok (f x) (r1.set j (.val 0 x))) :
    E.comp (.one j) it E.yes elt r = .ok (.lst (xs.map f)) r1 := by
  rw [comp_pure (cond := E.yes) (fun _ => true) f hj hi (fun _ _ => rfl) fun x hx _ => he x hx]
  congr 3
  exact List.filter_eq_self.mpr fun _ _ => rfl
/-! ### expressions -/
section
variable {r : Env} {a b c e : E} {P : D → Env → Prop}
theorem ok_var {i : Nat} {d : D} (hg : getS r i = .val 0 d) (h : P d r) : okR (E.var i r) P := okR_of (a := d) (r := r) (by simp only [E.var, hg]) h
theorem ok_un {f : D → Option D} (h : okR (a r) fun x r => ∃ y, f x = some y ∧ P y r) : okR (E.un f a r) P := okR_bind (okR_mono h fun x r' ⟨y, e, h⟩ => by rw [e]; exact okR_ok h)
theorem ok_bin {f : D → D → Option D} (h : okR (a r) fun x r => okR (b r) fun y r => ∃ z, f x y = some z ∧ P z r) : okR (E.bin f a b r) P := okR_bind (okR_mono h fun x r' h => okR_bind (okR_mono h fun y r2 ⟨z, e, h⟩ => by rw [e]; exact okR_ok h))
theorem ok_and (h : okR (a r) fun x r => (x = .bl true ∧ okR (b r) P) ∨ (x = .bl false ∧ P (.bl false) r)) : okR (E.and a b r) P := okR_bind (okR_mono h fun x r' h => by
  rcases h with ⟨rfl, h⟩ | ⟨rfl, h⟩
  · exact h
  · exact okR_ok h)
theorem ok_or (h : okR (a r) fun x r => (x = .bl true ∧ P (.bl true) r) ∨ (x = .bl false ∧ okR (b r) P)) : okR (E.or a b r) P := okR_bind (okR_mono h fun x r' h => by
  rcases h with ⟨rfl, h⟩ | ⟨rfl, h⟩
  · exact okR_ok h
  · exact h)
theorem ok_if (h : okR (c r) fun x r => (x = .bl true ∧ okR (a r) P) ∨ (x = .bl false ∧ okR (b r) P)) : okR (E.ite c a b r) P := okR_bind (okR_mono h fun x r' h => by
  rcases h with ⟨rfl, h⟩ | ⟨rfl, h⟩
  · exact h
  · exact h)
theorem ok_chain {f g : D → D → Option D} (h : okR (a r) fun x r => okR (b r) fun y r => (f x y = some (.bl true) ∧ okR (c r) fun z r => ∃ w, g y z = some w ∧ P w r) ∨ (f x y = some (.bl false) ∧ P (.bl false) r)) : okR (E.chain f g a b c r) P := okR_bind (okR_mono h fun x r' h => okR_bind (okR_mono h fun y r2 h => by
  rcases h with ⟨e, h⟩ | ⟨e, h⟩
  · rw [e]
    exact okR_bind (okR_mono h fun z r3 ⟨w, e2, h⟩ => by rw [e2]; exact okR_ok h)
  · rw [e]
    exact okR_ok h))
/-- a comprehension whose parts are pure: c the test, f the item -/
theorem ok_comp {j : Nat} {it : E.It} {cond elt : E} {xs : List D} (cf : D → Bool) (f : D → D) (hi : it r = .ok xs r) (hj : j < r.length)
    (hc : ∀ x ∈ xs, okR (cond (r.set j (.val 0 x))) fun y r' => y = .bl (cf x) ∧ r' = r.set j (.val 0 x)) (he : ∀ x ∈ xs, cf x = true → okR (elt (r.set j (.val 0 x))) fun y r' => y = f x ∧ r' = r.set j (.val 0 x)) (h : P (.lst ((xs.filter cf).map f)) r) : okR (E.comp (.one j) it cond elt r) P :=
  okR_of (comp_pure cf f hj hi (fun x hx => by
    obtain ⟨y, r', e, rfl, rfl⟩ := hc x hx
    exact e) fun x hx hcx => by
    obtain ⟨y, r', e, rfl, rfl⟩ := he x hx hcx
    exact e) h
theorem ok_map {j : Nat} {it : E.It} {elt : E} {xs : List D} (f : D → D) (hi : it r = .ok xs r) (hj : j < r.length) (he : ∀ x ∈ xs, okR (elt (r.set j (.val 0 x))) fun y r' => y = f x ∧ r' = r.set j (.val 0 x)) (h : P (.lst (xs.map f)) r) : okR (E.comp (.one j) it E.yes elt r) P :=
  okR_of (comp_map f hj hi fun x hx => by
    obtain ⟨y, r', e, rfl, rfl⟩ := he x hx
    exact e) h
end
/-! ### defs -/
def okC (x : CRes) (Q : D → List Slot → Prop) : Prop := ∃ d outs, x = .ok d outs ∧ Q d outs
/-- a def's body, run -/
theorem ok_def {n f : Nat} {d : Def} {as : List Slot} {Q : D → List Slot → Prop} (ht : tbl[f]? = some d) (hl : as.length = d.np) (h : okR (d.body (run n) (as ++ List.replicate (d.ns - d.np) .no)) fun fl r => match fl with
    | .rt x => Q x (d.io.map (getS r))
    | .nx => Q .non (d.io.map (getS r))
    | _ => False) : okC (run (n + 1) f as) Q := by
  obtain ⟨fl, r, e, h⟩ := h
  have e1 : run (n + 1) f as = d.run (run n) as := by
    show (match tbl[f]? with
      | some d => d.run (run n) as
      | none => .stuck) = _
    rw [ht]
  rw [e1]
  unfold Def.run
  rw [if_pos hl, e]
  cases fl with
  | rt x => exact ⟨_, _, rfl, h⟩
  | nx => exact ⟨_, _, rfl, h⟩
  | bk => exact h.elim
  | ct => exact h.elim
theorem ok_callC {r : Env} {P : D → Env → Prop} {cf : Calls} {f : Nat} {as : List E.Arg} {ss : List Slot} {r1 : Env} (he : E.evalArgs as r = .ok ss r1) (h : okC (cf f (E.resolve as ss r1)) fun d outs => ∃ r2, E.putOuts as outs r1 = some r2 ∧ P d r2) : okR (E.call cf f as r) P := by
  obtain ⟨d, outs, e1, r2, e2, h⟩ := h
  exact ok_call (okR_of he ⟨d, outs, r2, e1, e2, h⟩)
theorem okC_mono {x : CRes} {Q Q' : D → List Slot → Prop} (h : okC x Q) (hq : ∀ d o, Q d o → Q' d o) : okC x Q' := by
  obtain ⟨d, o, e, h⟩ := h
  exact ⟨d, o, e, hq d o h⟩
theorem okC_of {x : CRes} {Q : D → List Slot → Prop} {d : D} {o : List Slot} (e : x = .ok d o) (h : Q d o) : okC x Q := ⟨d, o, e, h⟩
end O
end
section
set_option linter.all false
set_option maxRecDepth 10000
/-! Math2: whole numbers, tables, squares. -/
namespace O
def isWholeD (t : D) (lo hi : Int) : Bool := match t with
  | .int i => decide (lo ≤ i) && decide (i ≤ hi)
  | _ => false
theorem r_is_whole (n : Nat) (t : D) (lo hi : Int) : run (n + 1) i_is_whole [.val 0 t, .val 0 (.int lo), .val 0 (.int hi)] = .ok (.bl (isWholeD t lo hi)) [] := by
  cases t with
  | int i =>
    show d_is_whole.run (run n) _ = _
    have e : isWholeD (.int i) lo hi = (decide (lo ≤ i) && decide (i ≤ hi)) := rfl
    rw [e]
    by_cases h : lo ≤ i
    · simp [Def.run, d_is_whole, s_is_whole, S.ret, E.and, E.isty, E.un, E.var, getS, istyO, isTy, lift, Res.bind, E.not, notD, E.chain, leD, h]
    · simp [Def.run, d_is_whole, s_is_whole, S.ret, E.and, E.isty, E.un, E.var, getS, istyO, isTy, lift, Res.bind, E.not, notD, E.chain, leD, h]
  | _ => rfl
/-- a table of ints -/
def dRow (row : List Int) : D := .lst (row.map .int)
def dTab (tb : List (List Int)) : D := .lst (tb.map dRow)
theorem allD_map {α : Type} (p : α → Bool) : ∀ xs : List α, allD (.lst (xs.map fun x => .bl (p x))) = some (.bl (xs.all p)) := by
  have h : ∀ xs : List α, boolsOf (xs.map fun x => .bl (p x)) = some (xs.map p) := fun xs => by
    induction xs with
    | nil => rfl
    | cons x xs ih => simp [boolsOf, ih]
  intro xs
  show (boolsOf _).map _ = _
  rw [h]
  simp [List.all_map]
theorem eqO_int (a b : Int) : eqO (.int a) (.int b) = some (.bl (decide (a = b))) := by simp [eqO, shp, eqD]
theorem neO_int (a b : Int) : neO (.int a) (.int b) = some (.bl (!decide (a = b))) := by simp [neO, shp, eqD]
def isTab (tb : List (List Int)) (rows cols signs : Int) : Bool := decide ((tb.length : Int) = rows) && tb.all fun row => decide ((row.length : Int) = cols) && row.all fun i => decide (0 ≤ i) && decide (i ≤ signs - 1)
theorem ok_is_whole {n : Nat} {t : D} {lo hi : Int} {Q : D → List Slot → Prop} (h : Q (.bl (isWholeD t lo hi)) []) : okC (run (n + 1) i_is_whole [.val 0 t, .val 0 (.int lo), .val 0 (.int hi)]) Q := okC_of (r_is_whole n t lo hi) h
def lenI : D → Int
  | .lst xs => xs.length
  | _ => 0
def rowOk (cols signs : Int) : D → Bool
  | .lst xs => decide ((xs.length : Int) = cols) && xs.all fun d => isWholeD d 0 (signs - 1)
  | _ => false
theorem bl_not {a : Bool} : (D.bl (!a) = .bl true ∧ a = false) ∨ (D.bl (!a) = .bl false ∧ a = true) := by cases a <;> simp
theorem ok_is_table {n : Nat} {tb : List (List Int)} {rows cols signs : Int} {Q : D → List Slot → Prop} (h : Q (.bl (isTab tb rows cols signs)) []) :
    okC (run (n + 2) i_is_table [.val 0 (dTab tb), .val 0 (.int rows), .val 0 (.int cols), .val 0 (.int signs)]) Q := by
  refine ok_def rfl rfl ?_
  refine ok_seq (ok_ite ?_)
  refine ok_or (okR_of rfl (.inr ⟨rfl, ok_or (okR_of (a := .bl (!decide (((tb.map dRow).length : Int) = rows))) rfl ?_)⟩))
  unfold isTab at h
  rw [List.length_map]
  by_cases hl : (tb.length : Int) = rows
  · rw [decide_eq_true hl] at h
    refine .inr ⟨by rw [decide_eq_true hl]; rfl, ?_⟩
    refine ok_un (ok_un (ok_map (xs := tb.map dRow) (fun _ => .bl true) rfl (Nat.le_of_ble_eq_true rfl) (fun x hx => ?_) ⟨_, allD_map (fun _ => true) _, _, rfl, .inr ⟨by simp, ?_⟩⟩))
    · obtain ⟨row, _, rfl⟩ := List.mem_map.mp hx
      exact okR_of rfl ⟨rfl, rfl⟩
    · refine ok_pass (ok_ret (ok_un (ok_map (xs := tb.map dRow) (fun d => .bl (rowOk cols signs d)) rfl (Nat.le_of_ble_eq_true rfl) (fun x hx => ?_) ⟨_, allD_map _ _, ?_⟩)))
      · obtain ⟨row, _, rfl⟩ := List.mem_map.mp hx
        refine ok_and (okR_of (a := .bl (decide (((row.map D.int).length : Int) = cols))) rfl ?_)
        by_cases hr : ((row.map D.int).length : Int) = cols
        · refine .inl ⟨by rw [decide_eq_true hr], ok_un (ok_map (xs := row.map .int) (fun d => .bl (isWholeD d 0 (signs - 1))) rfl (Nat.le_of_ble_eq_true rfl) (fun y hy => ?_) ⟨_, allD_map _ _, ?_, rfl⟩)⟩
          · exact ok_callC rfl (ok_is_whole ⟨_, rfl, rfl, rfl⟩)
          · show _ = D.bl (decide (((row.map D.int).length : Int) = cols) && _)
            rw [decide_eq_true hr]; rfl
        · refine .inr ⟨by rw [decide_eq_false hr], ?_, rfl⟩
          show _ = D.bl (decide (((row.map D.int).length : Int) = cols) && _)
          rw [decide_eq_false hr]; rfl
      · have e : ((tb.map dRow).all fun d => rowOk cols signs d) = tb.all fun row => decide ((row.length : Int) = cols) && row.all fun i => decide (0 ≤ i) && decide (i ≤ signs - 1) := by
          rw [List.all_map]
          congr 1
          funext row
          show (decide (((row.map D.int).length : Int) = cols) && (row.map D.int).all fun d => isWholeD d 0 (signs - 1)) = _
          rw [List.length_map, List.all_map]
          rfl
        show Q _ _
        rw [e]
        exact h
  · rw [decide_eq_false hl] at h
    exact .inl ⟨by rw [decide_eq_false hl]; rfl, .inl ⟨rfl, ok_ret (okR_of rfl h)⟩⟩
end O
end
section
set_option linter.all false
set_option maxRecDepth 10000
/-! Math3: squares. -/
namespace O
def colsOf (tb : List (List Int)) (m : Nat) : List (List Int) := (List.range m).map fun k => tb.map fun row => row.getD k 0
theorem idx_row {row : List Int} {k : Nat} (h : k < row.length) : idxD (dRow row) (.int k) = some (.int (row.getD k 0)) := by
  show atI (row.map D.int) (k : Int) = _
  unfold atI
  rw [if_pos (by omega), Int.toNat_natCast, List.getElem?_map, List.getElem?_eq_getElem h, List.getD_eq_getElem?_getD, List.getElem?_eq_getElem h]
  rfl
theorem rangeL_nat (m : Nat) : rangeL (m : Int) = (List.range m).map fun (k : Nat) => D.int k := by
  unfold rangeL
  rw [Int.toNat_natCast]
def nth (d : D) (k : D) : D := (idxD d k).getD .non
theorem ok_idx {r : Env} {a b : E} {P : D → Env → Prop} (h : okR (a r) fun x r => okR (b r) fun y r => ∃ z, idxD x y = some z ∧ P z r) : okR (E.idx a b r) P := ok_bin h
theorem ok_columns_of {n m : Nat} {tb : List (List Int)} {Q : D → List Slot → Prop} (hne : tb ≠ []) (hr : ∀ row ∈ tb, row.length = m) (hm : m ≤ 100000) (h : Q (dTab (colsOf tb m)) []) : okC (run (n + 1) i_columns_of [.val 0 (dTab tb)]) Q := by
  refine ok_def rfl rfl (ok_ret ?_)
  refine ok_map (xs := rangeL m) (fun k => .lst ((tb.map dRow).map fun d => nth d k)) ?_ (Nat.le_of_ble_eq_true rfl) (fun x hx => ?_) ?_
  · cases tb with
    | nil => exact absurd rfl hne
    | cons row rest =>
      show (if -100000 ≤ ((row.map D.int).length : Int) ∧ ((row.map D.int).length : Int) ≤ 100000 then Res.ok (rangeL ((row.map D.int).length : Int)) _ else .stuck) = _
      rw [List.length_map, hr row List.mem_cons_self, if_pos (by omega)]
  · rw [rangeL_nat] at hx
    obtain ⟨k, hk, rfl⟩ := List.mem_map.mp hx
    have hk : k < m := List.mem_range.mp hk
    refine ok_map (xs := tb.map dRow) (fun d => nth d (.int k)) rfl (Nat.le_of_ble_eq_true rfl) (fun y hy => ?_) ⟨rfl, rfl⟩
    obtain ⟨row, hrow, rfl⟩ := List.mem_map.mp hy
    have e := idx_row (row := row) (k := k) (by rw [hr row hrow]; exact hk)
    refine ok_idx (okR_of rfl (okR_of rfl ⟨_, e, ?_, rfl⟩))
    show _ = (idxD (dRow row) (.int k)).getD .non
    rw [e]; rfl
  · have e : (rangeL (m : Int)).map (fun k => D.lst ((tb.map dRow).map fun d => nth d k)) = (colsOf tb m).map dRow := by
      rw [rangeL_nat, colsOf, List.map_map, List.map_map]
      apply List.map_congr_left
      intro k hk
      have hk : k < m := List.mem_range.mp hk
      show D.lst ((tb.map dRow).map fun d => nth d (.int k)) = D.lst ((tb.map fun row => row.getD k 0).map D.int)
      congr 1
      rw [List.map_map, List.map_map]
      apply List.map_congr_left
      intro row hrow
      show (idxD (dRow row) (.int k)).getD .non = D.int (row.getD k 0)
      rw [idx_row (by rw [hr row hrow]; exact hk)]
      rfl
    show Q (.lst _) []
    rw [e]
    exact h
/-! ### sorted(row) == list(range(size)) -/
def isRange (row : List Int) (m : Nat) : Bool := decide (sortI row = (List.range m).map fun (k : Nat) => (k : Int))
theorem intsOf_int (l : List Int) : intsOf (l.map .int) = some l := by
  induction l with
  | nil => rfl
  | cons x l ih => simp [intsOf, ih]
theorem shp_row (n : Nat) (l : List Int) : shp (n + 1) (.lst (l.map .int)) = true := by
  show (l.map D.int).all (shp n) = true
  rw [List.all_map]
  exact List.all_eq_true.mpr fun x _ => by cases n <;> rfl
theorem eqDs_int : ∀ a b : List Int, eqDs (a.map .int) (b.map .int) = decide (a = b)
  | [], [] => rfl
  | [], _ :: _ => rfl
  | _ :: _, [] => rfl
  | x :: a, y :: b => by
    show (decide (x = y) && eqDs (a.map .int) (b.map .int)) = _
    rw [eqDs_int a b]
    by_cases h : x = y <;> by_cases h2 : a = b <;> simp [h, h2]
theorem eqO_row (a b : List Int) : eqO (.lst (a.map .int)) (.lst (b.map .int)) = some (.bl (decide (a = b))) := by
  unfold eqO
  rw [shp_row, shp_row]
  show some (D.bl (eqDs _ _)) = _
  rw [eqDs_int]
theorem neO_row (a b : List Int) : neO (.lst (a.map .int)) (.lst (b.map .int)) = some (.bl (!decide (a = b))) := by
  unfold neO
  rw [shp_row, shp_row]
  show some (D.bl (!eqDs _ _)) = _
  rw [eqDs_int]
theorem sorted_row (row : List Int) : sortedD (dRow row) = some (.lst ((sortI row).map .int)) := by
  show (intsOf (row.map .int)).map _ = _
  rw [intsOf_int]; rfl
theorem listRange_nat {m : Nat} (h : m ≤ 100000) : listRangeD (.int m) = some (.lst (((List.range m).map fun (k : Nat) => (k : Int)).map .int)) := by
  show (if 0 ≤ (m : Int) ∧ (m : Int) ≤ LIM then some (D.lst (rangeL m)) else none) = _
  have : LIM = 16777216 := rfl
  rw [if_pos (by omega), rangeL_nat, List.map_map]
  rfl
/-- a square of the size m -/
def sqB (tb : List (List Int)) (m : Nat) : Bool := (tb ++ colsOf tb m).all fun row => isRange row m
def dRange (m : Nat) (d : D) : Bool := match d with
  | .lst xs => (match intsOf xs with
    | some l => isRange l m
    | none => false)
  | _ => false
theorem ok_sortedIs {m : Nat} {r : Env} {a b : E} {row : List Int} {P : D → Env → Prop} (hm : m ≤ 100000) (ha : a r = .ok (dRow row) r) (hb : b r = .ok (.int m) r) (h : P (.bl (isRange row m)) r) : okR (E.eq (E.un sortedD a) (E.un listRangeD b) r) P :=
  ok_bin (ok_un (okR_of ha ⟨_, sorted_row row, ok_un (okR_of hb ⟨_, listRange_nat hm, _, eqO_row _ _, h⟩)⟩))
theorem leD_true {a b : Int} (h : a ≤ b) : leD (.int a) (.int b) = some (.bl true) := by
  show some (D.bl (decide (a ≤ b))) = _
  rw [decide_eq_true h]
theorem isTab_true {tb : List (List Int)} {m : Nat} (hl : tb.length = m) (hr : ∀ row ∈ tb, row.length = m) (hi : ∀ row ∈ tb, ∀ i ∈ row, 0 ≤ i ∧ i < (m : Int)) : isTab tb m m m = true := by
  unfold isTab
  rw [hl, decide_eq_true rfl, Bool.true_and]
  refine List.all_eq_true.mpr fun row hrow => ?_
  rw [hr row hrow, decide_eq_true rfl, Bool.true_and]
  refine List.all_eq_true.mpr fun i hi' => ?_
  have := hi row hrow i hi'
  rw [decide_eq_true this.1, decide_eq_true (by omega)]
  rfl
theorem ok_is_square {n m : Nat} {tb : List (List Int)} {Q : D → List Slot → Prop} (h1 : 1 ≤ m) (h7 : m ≤ 7) (hl : tb.length = m) (hr : ∀ row ∈ tb, row.length = m) (hi : ∀ row ∈ tb, ∀ i ∈ row, 0 ≤ i ∧ i < (m : Int)) (h : Q (.bl (sqB tb m)) []) :
    okC (run (n + 3) i_is_square [.val 0 (dTab tb)]) Q := by
  have ln : ((tb.map dRow).length : Int) = m := by rw [List.length_map, hl]
  have hne : tb ≠ [] := by
    intro z
    rw [z] at hl
    simp at hl
    omega
  refine ok_def rfl rfl ?_
  refine ok_seq (ok_ite (ok_or (okR_of rfl (.inr ⟨rfl, ok_un (ok_chain (okR_of rfl (okR_of (a := .int ((tb.map dRow).length : Nat)) rfl (.inl ⟨leD_true (by omega), okR_of rfl ⟨_, leD_true (by rw [ln]; omega), _, rfl, .inr ⟨rfl, ok_pass ?_⟩⟩⟩))))⟩))))
  refine ok_seq (ok_asg (okR_of (a := .int ((tb.map dRow).length : Nat)) rfl ?_))
  rw [ln]
  refine ok_seq (ok_ite (ok_un (ok_callC rfl (ok_is_table ⟨_, rfl, _, rfl, .inr ⟨by rw [isTab_true hl hr hi]; rfl, ok_pass ?_⟩⟩))))
  refine ok_ret (ok_un (ok_map (xs := (tb ++ colsOf tb m).map dRow) (fun d => .bl (dRange m d)) ?_ (Nat.le_of_ble_eq_true rfl) (fun x hx => ?_) ⟨_, allD_map _ _, ?_⟩))
  · have key : okR (E.bin addD (E.var 0) (E.call (run (n + 2)) i_columns_of [.v (E.var 0)]) [.val 0 (dTab tb), .val 0 (.int m), .no]) fun d r => d = dTab (tb ++ colsOf tb m) ∧ r = [.val 0 (dTab tb), .val 0 (.int m), .no] := by
      refine ok_bin (okR_of rfl (ok_callC rfl (ok_columns_of hne hr (by omega) ⟨_, rfl, _, ?_, rfl, rfl⟩)))
      show (if ((tb.map dRow).length + ((colsOf tb m).map dRow).length ≤ LIM) then some (D.lst (tb.map dRow ++ (colsOf tb m).map dRow)) else none) = _
      have : LIM = 16777216 := rfl
      rw [if_pos (by simp [colsOf]; omega), ← List.map_append]
      rfl
    obtain ⟨d, r, e, rfl, rfl⟩ := key
    show (E.bin addD _ _ _).bind _ = _
    have e2 := e
    exact (congrArg (fun z => Res.bind z _) e).trans rfl
  · obtain ⟨row, _, rfl⟩ := List.mem_map.mp hx
    refine ok_sortedIs (m := m) (by omega) rfl rfl ⟨?_, rfl⟩
    show _ = D.bl (match intsOf (row.map .int) with
      | some l => isRange l m
      | none => false)
    rw [intsOf_int]
  · have e : (((tb ++ colsOf tb m).map dRow).all fun d => dRange m d) = sqB tb m := by
      unfold sqB
      rw [List.all_map]
      congr 1
      funext row
      show (match intsOf (row.map .int) with
        | some l => isRange l m
        | none => false) = _
      rw [intsOf_int]
    show Q _ _
    rw [e]
    exact h
end O
end
section
set_option linter.all false
set_option maxRecDepth 10000
/-! Math4: the law's own look at a square. -/
namespace O
theorem shp_tab (n : Nat) (tb : List (List Int)) : shp (n + 2) (dTab tb) = true := by
  show (tb.map dRow).all (shp (n + 1)) = true
  rw [List.all_map]
  exact List.all_eq_true.mpr fun row _ => shp_row n row
theorem eqDs_nil (xs : List D) : eqDs xs [] = xs.isEmpty := by cases xs <;> rfl
theorem neO_nil {xs : List D} (h : shp 9 (.lst xs) = true) : neO (.lst xs) (.lst []) = some (.bl (!xs.isEmpty)) := by
  unfold neO
  rw [h]
  show some (D.bl (!eqDs xs [])) = _
  rw [eqDs_nil]
theorem eqO_nil {xs : List D} (h : shp 9 (.lst xs) = true) : eqO (.lst xs) (.lst []) = some (.bl xs.isEmpty) := by
  unfold eqO
  rw [h]
  show some (D.bl (eqDs xs [])) = _
  rw [eqDs_nil]
theorem filter_empty {α : Type} (p : α → Bool) (xs : List α) : (xs.filter p).isEmpty = xs.all fun x => !p x := by
  induction xs with
  | nil => rfl
  | cons x xs ih =>
    cases h : p x with
    | true => simp [List.filter_cons, h]
    | false => simp [List.filter_cons, h, ← ih]
theorem ok_sortedNot {m : Nat} {r : Env} {a b : E} {row : List Int} {P : D → Env → Prop} (hm : m ≤ 100000) (ha : okR (a r) fun d r' => d = dRow row ∧ r' = r) (hb : b r = .ok (.int m) r) (h : P (.bl (!isRange row m)) r) : okR (E.ne (E.un sortedD a) (E.un listRangeD b) r) P :=
  ok_bin (ok_un (okR_mono ha fun d r' ⟨e1, e2⟩ => by
    subst e1 e2
    exact ⟨_, sorted_row row, ok_un (okR_of hb ⟨_, listRange_nat hm, _, neO_row _ _, h⟩)⟩))
theorem ok_l_is_square {n m : Nat} {tb : List (List Int)} {Q : D → List Slot → Prop} (h7 : m ≤ 7) (hl : tb.length = m) (hr : ∀ row ∈ tb, row.length = m) (h : Q (.bl (sqB tb m)) []) :
    okC (run (n + 1) i_l_is_square [.val 0 (dTab tb), .val 0 (.int m)]) Q := by
  have ln : ((tb.map dRow).length : Int) = m := by rw [List.length_map, hl]
  refine ok_def rfl rfl ?_
  refine ok_seq (ok_ite (ok_or (okR_of rfl (.inr ⟨rfl, okR_of (a := .bl (!decide (((tb.map dRow).length : Int) = m))) rfl (.inr ⟨by rw [decide_eq_true ln]; rfl, ok_pass ?_⟩)⟩))))
  refine ok_seq (ok_ite (ok_bin (ok_comp (xs := tb.map dRow) (fun d => !dRange m d) (fun d => d) rfl (Nat.le_of_ble_eq_true rfl) (fun x hx => ?_) (fun x hx _ => okR_of rfl ⟨rfl, rfl⟩) (okR_of rfl ⟨_, neO_nil ?_, ?_⟩))))
  · obtain ⟨row, _, rfl⟩ := List.mem_map.mp hx
    refine ok_or (okR_of rfl (.inr ⟨rfl, ok_sortedNot (m := m) (row := row) (by omega) (okR_of rfl ⟨rfl, rfl⟩) rfl ⟨?_, rfl⟩⟩))
    show _ = D.bl (!(match intsOf (row.map .int) with
      | some l => isRange l m
      | none => false))
    rw [intsOf_int]
  · show (((tb.map dRow).filter fun d => !dRange m d).map fun d => d).all (shp 8) = true
    refine List.all_eq_true.mpr fun d hd => ?_
    obtain ⟨d', hd', rfl⟩ := List.mem_map.mp hd
    obtain ⟨row, _, rfl⟩ := List.mem_map.mp (List.mem_filter.mp hd').1
    exact shp_row 7 row
  · have e : (((tb.map dRow).filter fun d => !dRange m d).map fun d => d).isEmpty = tb.all fun row => isRange row m := by
      rw [List.isEmpty_map, filter_empty, List.all_map]
      congr 1
      funext row
      show (!!(match intsOf (row.map .int) with
        | some l => isRange l m
        | none => false)) = _
      rw [intsOf_int, Bool.not_not]
    rw [e]
    cases hrows : tb.all fun row => isRange row m with
    | false =>
      refine .inl ⟨rfl, ok_ret (okR_of rfl ?_)⟩
      unfold sqB at h
      rw [List.all_append, hrows] at h
      exact h
    | true =>
      refine .inr ⟨rfl, ok_pass (ok_ret (ok_bin (ok_comp (xs := rangeL m) (fun k => !isRange (tb.map fun row => row.getD (match k with | .int i => i.toNat | _ => 0) 0) m) (fun d => d) ?_ (Nat.le_of_ble_eq_true rfl) (fun x hx => ?_) (fun x hx _ => okR_of rfl ⟨rfl, rfl⟩) (okR_of rfl ⟨_, eqO_nil ?_, ?_⟩))))⟩
      · show (if -100000 ≤ (m : Int) ∧ (m : Int) ≤ 100000 then Res.ok (rangeL (m : Int)) _ else .stuck) = _
        rw [if_pos (by omega)]
      · rw [rangeL_nat] at hx
        obtain ⟨k, hk, rfl⟩ := List.mem_map.mp hx
        have hk : k < m := List.mem_range.mp hk
        refine ok_sortedNot (m := m) (row := tb.map fun row => row.getD k 0) (by omega) (ok_map (xs := tb.map dRow) (fun d => nth d (.int k)) rfl (Nat.le_of_ble_eq_true rfl) (fun y hy => ?_) ⟨?_, rfl⟩) rfl ⟨rfl, rfl⟩
        · obtain ⟨row, hrow, rfl⟩ := List.mem_map.mp hy
          have e := idx_row (row := row) (k := k) (by rw [hr row hrow]; exact hk)
          refine ok_idx (okR_of rfl (okR_of rfl ⟨_, e, ?_, rfl⟩))
          show _ = (idxD (dRow row) (.int k)).getD .non
          rw [e]; rfl
        · show D.lst ((tb.map dRow).map fun d => nth d (.int k)) = D.lst ((tb.map fun row => row.getD k 0).map D.int)
          congr 1
          rw [List.map_map, List.map_map]
          apply List.map_congr_left
          intro row hrow
          show (idxD (dRow row) (.int k)).getD .non = D.int (row.getD k 0)
          rw [idx_row (by rw [hr row hrow]; exact hk)]
          rfl
      · refine List.all_eq_true.mpr fun d hd => ?_
        obtain ⟨d', hd', rfl⟩ := List.mem_map.mp hd
        have hd' := (List.mem_filter.mp hd').1
        rw [rangeL_nat] at hd'
        obtain ⟨k, _, rfl⟩ := List.mem_map.mp hd'
        rfl
      · have e2 : (((rangeL (m : Int)).filter fun k => !isRange (tb.map fun row => row.getD (match k with | .int i => i.toNat | _ => 0) 0) m).map fun d => d).isEmpty = (colsOf tb m).all fun row => isRange row m := by
          rw [List.isEmpty_map, filter_empty, rangeL_nat, colsOf, List.all_map, List.all_map]
          congr 1
          funext k
          show (!!isRange (tb.map fun row => row.getD ((k : Int).toNat) 0) m) = _
          rw [Bool.not_not, Int.toNat_natCast]
          rfl
        rw [e2]
        unfold sqB at h
        rw [List.all_append, hrows, Bool.true_and] at h
        exact h
end O
end
section
set_option linter.all false
set_option maxRecDepth 10000
/-! Math5: the even square; where; draws. -/
namespace O
def evenT (m : Nat) : List (List Int) := (List.range m).map fun (i : Nat) => (List.range m).map fun (j : Nat) => ((i : Int) + j) % m
theorem isWhole_true {i lo hi : Int} (h : lo ≤ i ∧ i ≤ hi) : isWholeD (.int i) lo hi = true := by
  show (decide (lo ≤ i) && decide (i ≤ hi)) = true
  rw [decide_eq_true h.1, decide_eq_true h.2]; rfl
theorem ok_look_size {n m : Nat} {Q : D → List Slot → Prop} (h1 : 1 ≤ m) (h7 : m ≤ 7) (h : Q .non []) : okC (run (n + 2) i_look_size [.val 0 (.int m)]) Q := by
  refine ok_def rfl rfl (ok_ite (ok_un (ok_callC rfl (ok_is_whole ⟨_, rfl, _, rfl, .inr ⟨by rw [isWhole_true ⟨by omega, by omega⟩]; rfl, ok_pass h⟩⟩))))
theorem it_range {r : Env} {a : E} {m : Nat} (ha : a r = .ok (.int m) r) (hm : m ≤ 100000) : E.iRange a r = .ok (rangeL m) r := by
  show (a r).bind _ = _
  rw [ha]
  show (if -100000 ≤ (m : Int) ∧ (m : Int) ≤ 100000 then Res.ok (rangeL (m : Int)) _ else .stuck) = _
  rw [if_pos (by omega)]
theorem mem_rangeL {m : Nat} {x : D} (h : x ∈ rangeL m) : ∃ k : Nat, k < m ∧ x = .int k := by
  rw [rangeL_nat] at h
  obtain ⟨k, hk, rfl⟩ := List.mem_map.mp h
  exact ⟨k, List.mem_range.mp hk, rfl⟩
def intOf : D → Int
  | .int i => i
  | _ => 0
theorem modD_pos {a b : Int} (h : 0 < b) : modD (.int a) (.int b) = some (.int (a % b)) := by
  show (if 0 < b then some (D.int (a % b)) else none) = _
  rw [if_pos h]
theorem ok_even_square {n m : Nat} {Q : D → List Slot → Prop} (h1 : 1 ≤ m) (h7 : m ≤ 7) (h : Q (dTab (evenT m)) []) : okC (run (n + 3) i_even_square [.val 0 (.int m)]) Q := by
  refine ok_def rfl rfl (ok_seq (ok_expr (ok_callC rfl (ok_look_size h1 h7 ⟨_, rfl, ?_⟩))))
  refine ok_ret (ok_map (xs := rangeL m) (fun i => .lst ((rangeL m).map fun j => .int ((intOf i + intOf j) % m))) (it_range rfl (by omega)) (Nat.le_of_ble_eq_true rfl) (fun x hx => ?_) ?_)
  · obtain ⟨i, hi, rfl⟩ := mem_rangeL hx
    refine ok_map (xs := rangeL m) (fun j => .int (((i : Int) + intOf j) % m)) (it_range rfl (by omega)) (Nat.le_of_ble_eq_true rfl) (fun y hy => ?_) ⟨rfl, rfl⟩
    obtain ⟨j, hj, rfl⟩ := mem_rangeL hy
    exact ok_bin (okR_of rfl (okR_of rfl ⟨_, modD_pos (by omega), rfl, rfl⟩))
  · have e : (rangeL (m : Int)).map (fun i => D.lst ((rangeL (m : Int)).map fun j => .int ((intOf i + intOf j) % m))) = (evenT m).map dRow := by
      rw [rangeL_nat, evenT, List.map_map, List.map_map]
      apply List.map_congr_left
      intro i _
      show D.lst _ = D.lst _
      congr 1
      rw [List.map_map, List.map_map]
      rfl
    show Q (.lst _) []
    rw [e]
    exact h
/-! ### draws -/
/-- a town after at most m draws -/
def Tw (m : Nat) (s : Slot) : Prop := ∃ nums c, s = .val 2 (townD nums c) ∧ nums ≠ [] ∧ 0 ≤ c ∧ c ≤ (m : Int)
theorem draw_range {nums : List Int} {c n : Int} (hn : 0 < n) : 0 ≤ (drawF nums c n).1 ∧ (drawF nums c n).1 < n := by
  unfold drawF
  simp only
  split
  · exact ⟨Int.emod_nonneg _ (by omega), Int.emod_lt_of_pos _ hn⟩
  · exact ⟨Int.emod_nonneg _ (by omega), Int.emod_lt_of_pos _ hn⟩
theorem draw_town {nums : List Int} {c n : Int} (h : nums ≠ []) : (drawF nums c n).2.1 ≠ [] ∧ (drawF nums c n).2.2 = c + 1 := by
  unfold drawF
  simp only
  split
  · exact ⟨by simpa using h, rfl⟩
  · exact ⟨h, rfl⟩
theorem ok_draw {n m : Nat} {s : Slot} {k : Int} {Q : D → List Slot → Prop} (ht : Tw m s) (hk : 0 < k ∧ k < 1000000) (hm : m < 1000000) (h : ∀ (x : Nat) s', (x : Int) < k → Tw (m + 1) s' → Q (.int x) [s']) : okC (run (n + 1) i_l_draw [s, .val 0 (.int k)]) Q := by
  obtain ⟨nums, c, rfl, h1, h2, h3⟩ := ht
  have hb : drawBody [.val 2 (townD nums c), .val 0 (.int k), .no, .no, .no, .no] = .ok (.rt (.int (drawF nums c k).1)) [.val 2 (townD (drawF nums c k).2.1 (drawF nums c k).2.2), .val 0 (.int k), .no, .no, .no, .no] := by
    show (match intsOf (nums.map .int) with
      | some nums => if 0 < k ∧ k < 1000000 ∧ nums ≠ [] ∧ 0 ≤ c ∧ c < 1000000 then (let q := drawF nums c k; (Res.ok (.rt (.int q.1)) _ : Res Flow)) else .stuck
      | none => .stuck) = _
    rw [intsOf_int]
    simp only
    rw [if_pos ⟨hk.1, hk.2, h1, h2, by omega⟩]
    rfl
  refine ok_def rfl rfl (okR_of hb ?_)
  obtain ⟨r1, r2⟩ := draw_range (nums := nums) (c := c) hk.1
  obtain ⟨t1, t2⟩ := draw_town (c := c) (n := k) h1
  have := h (drawF nums c k).1.toNat (.val 2 (townD (drawF nums c k).2.1 (drawF nums c k).2.2)) (by omega) ⟨_, _, rfl, t1, by rw [t2]; omega, by rw [t2]; push_cast; omega⟩
  rw [Int.toNat_of_nonneg r1] at this
  exact this
end O
end
section
set_option linter.all false
set_option maxRecDepth 10000
/-! Math6: towns, orders. -/
namespace O
theorem ok_town {n : Nat} {ns : List Int} {Q : D → List Slot → Prop} (h : ∀ nums, nums ≠ [] → Q (townD nums 0) []) : okC (run (n + 1) i_l_town [.scr ns]) Q := by
  refine ok_def rfl rfl (ok_ret ?_)
  by_cases hn : ns = []
  · subst hn
    exact okR_of rfl (h [0] (by simp))
  · have e : E.lst [(E.ite (E.scrNe 0) (E.scrList 0) (E.lst [(E.int 0)])), (E.int 0)] [.scr ns] = .ok (townD ns 0) [.scr ns] := by
      show Res.bind (Res.bind (E.ite (E.scrNe 0) (E.scrList 0) (E.lst [(E.int 0)]) [.scr ns]) _) _ = _
      have e1 : E.ite (E.scrNe 0) (E.scrList 0) (E.lst [(E.int 0)]) [.scr ns] = .ok (.lst (ns.map .int)) [.scr ns] := by
        show Res.bind (Res.ok (D.bl (decide (ns ≠ []))) [.scr ns]) _ = _
        rw [decide_eq_true hn]
        rfl
      rw [e1]; rfl
    exact okR_of e (h ns hn)
theorem ok_ins {r : Env} {i : Nat} {a e : E} {Q : Flow → Env → Prop} (hL : S.isL (getS r i) = true) (h : okR (a r) fun p r => okR (e r) fun d r => ∃ (q : Nat) (xs : List D), p = .int q ∧ getS r i = .val 1 (.lst xs) ∧ q ≤ 16777216 ∧ xs.length < 16777216 ∧ Q .nx (r.set i (.val 1 (.lst (xs.take q ++ [d] ++ xs.drop q))))) : okR (S.ins i a e r) Q := by
  unfold S.ins
  rw [if_pos hL]
  refine okR_bind (okR_mono h fun p r1 h => okR_bind (okR_mono h fun d r2 ⟨q, xs, e1, e2, h1, h2, h3⟩ => ?_))
  subst e1
  simp only [e2]
  have : LIM = 16777216 := rfl
  rw [if_pos ⟨by omega, by omega, by omega⟩, Int.toNat_natCast]
  exact okR_ok h3
theorem insert_perm {α : Type} (l : List α) (q : Nat) (x : α) : (l.take q ++ [x] ++ l.drop q).Perm (x :: l) := by
  have h1 : (l.take q ++ [x] ++ l.drop q).Perm ([x] ++ l.take q ++ l.drop q) := List.Perm.append_right _ List.perm_append_comm
  have h2 : [x] ++ l.take q ++ l.drop q = x :: l := by rw [List.append_assoc, List.take_append_drop]; rfl
  rw [h2] at h1
  exact h1
def rangeI (m : Nat) : List Int := (List.range m).map fun (k : Nat) => (k : Int)
theorem rangeI_succ (m : Nat) : (rangeI (m + 1)) = rangeI m ++ [(m : Int)] := by
  unfold rangeI
  rw [List.range_succ, List.map_append]; rfl
theorem rangeL_I (m : Nat) : rangeL m = (rangeI m).map .int := by rw [rangeL_nat, rangeI, List.map_map]; rfl
theorem drop_range {m i : Nat} (h : i < m) : (rangeL m).drop i = .int i :: (rangeL m).drop (i + 1) := by
  rw [rangeL_nat]
  have hl : i < ((List.range m).map fun (k : Nat) => D.int k).length := by simpa using h
  rw [List.drop_eq_getElem_cons hl]
  simp
theorem ok_order {n m t : Nat} {s : Slot} {Q : D → List Slot → Prop} (ht : Tw t s) (hm : m ≤ 1000) (hb : t + m < 1000000) (h : ∀ (p : List Int) s', p.Perm (rangeI m) → Tw (t + m) s' → Q (.tup (p.map .int)) [s']) : okC (run (n + 2) i_l_order [s, .val 0 (.int m)]) Q := by
  refine ok_def rfl rfl ?_
  show okR (s_l_order (run (n + 1)) [s, .val 0 (.int m), .no, .no]) _
  unfold s_l_order
  refine ok_seq (ok_asg (okR_of rfl ?_))
  refine ok_seq (ok_for (fun xs r => ∃ i l s s3, i ≤ m ∧ xs = (rangeL m).drop i ∧ r = [s, .val 0 (.int m), .val 1 (.lst (l.map .int)), s3] ∧ Tw (t + i) s ∧ l.Perm (rangeI i)) (okR_of (it_range rfl (by omega)) ⟨0, [], s, .no, Nat.zero_le _, rfl, rfl, ht, .refl _⟩) ?_ ?_)
  · rintro x xs r ⟨i, l, s, s3, hi, hx, rfl, tw, hp⟩
    have hi : i < m := by
      by_cases h : i < m
      · exact h
      · have : i = m := by omega
        subst this
        rw [rangeL_nat, List.drop_eq_nil_of_le (by simp)] at hx
        cases hx
    rw [drop_range hi] at hx
    cases hx
    have ll : l.length = i := by rw [hp.length_eq]; simp [rangeI]
    have tw0 := tw
    obtain ⟨nums, c, rfl, _⟩ := tw0
    refine ⟨_, rfl, ok_ins rfl (ok_callC rfl ?_)⟩
    refine ok_draw (m := t + i) tw (k := ((l.map D.int).length : Int) + 1) ⟨by omega, by rw [List.length_map, ll]; omega⟩ (by omega) fun q s' hq tw' => ?_
    rw [List.length_map, ll] at hq
    refine ⟨_, rfl, okR_of rfl ⟨q, l.map .int, rfl, rfl, by omega, by rw [List.length_map, ll]; omega, ?_⟩⟩
    refine ⟨i + 1, l.take q ++ [(i : Int)] ++ l.drop q, s', .val 0 (.int i), by omega, rfl, ?_, tw', ?_⟩
    · simp [List.map_take, List.map_drop]
    · rw [rangeI_succ]
      exact (insert_perm l q _).trans ((hp.cons _).trans (List.perm_append_comm (l₁ := [(i : Int)])))
  · rintro r ⟨i, l, s, s3, hi, hx, rfl, tw, hp⟩
    have hi : i = m := by
      by_cases h : i < m
      · rw [drop_range h] at hx; cases hx
      · omega
    subst hi
    exact ok_ret (okR_of rfl (h l s hp tw))
end O
end
section
set_option linter.all false
set_option maxRecDepth 10000
/-! W1: weakest wishes for the combinators; refusals told apart. -/
namespace O
structure wR {α : Type} (x : Res α) (P : α → Env → Prop) (X : Nat → Env → Prop) : Prop where
  h : match x with
    | .ok a r => P a r
    | .raise c r => X c r
    | .stuck => False
structure wS (x : Res Flow) (N : Env → Prop) (R : D → Env → Prop) (B : Env → Prop) (X : Nat → Env → Prop) : Prop where
  h : match x with
    | .ok .nx r => N r
    | .ok (.rt d) r => R d r
    | .ok .bk r => B r
    | .ok .ct _ => False
    | .raise c r => X c r
    | .stuck => False
structure wC (x : CRes) (Q : D → List Slot → Prop) (X : Nat → List Slot → Prop) : Prop where
  h : match x with
    | .ok d o => Q d o
    | .raise c o => X c o
    | .stuck => False
theorem wC_of {x : CRes} {Q : D → List Slot → Prop} {X : Nat → List Slot → Prop} (h : okC x Q) : wC x Q X := by
  obtain ⟨d, o, rfl, h⟩ := h
  exact ⟨h⟩
theorem wR_of {α : Type} {x : Res α} {Q : α → Env → Prop} {X : Nat → Env → Prop} (h : okR x Q) : wR x Q X := by
  obtain ⟨d, o, rfl, h⟩ := h
  exact ⟨h⟩
theorem okC_w {x : CRes} {Q : D → List Slot → Prop} (h : wC x Q fun _ _ => False) : okC x Q := by
  cases x with
  | ok d o => exact ⟨d, o, rfl, h.h⟩
  | raise c o => exact h.h.elim
  | stuck => exact h.h.elim
theorem okR_w {α : Type} {x : Res α} {Q : α → Env → Prop} (h : wR x Q fun _ _ => False) : okR x Q := by
  cases x with
  | ok d o => exact ⟨d, o, rfl, h.h⟩
  | raise c o => exact h.h.elim
  | stuck => exact h.h.elim
theorem run_of {x : CRes} (h : wC x (fun d o => d = .bl true ∧ o = []) fun _ _ => False) : x = .ok (.bl true) [] := by
  obtain ⟨d, o, e, rfl, rfl⟩ := okC_w h
  exact e
theorem wC_mono {x : CRes} {Q Q' : D → List Slot → Prop} {X X' : Nat → List Slot → Prop} (h : wC x Q X) (hq : ∀ d o, Q d o → Q' d o) (hx : ∀ c o, X c o → X' c o) : wC x Q' X' := by
  cases x with
  | ok d o => exact ⟨hq d o h.h⟩
  | raise c o => exact ⟨hx c o h.h⟩
  | stuck => exact h.h.elim
theorem wR_mono {α : Type} {x : Res α} {Q Q' : α → Env → Prop} {X X' : Nat → Env → Prop} (h : wR x Q X) (hq : ∀ d o, Q d o → Q' d o) (hx : ∀ c o, X c o → X' c o) : wR x Q' X' := by
  cases x with
  | ok d o => exact ⟨hq d o h.h⟩
  | raise c o => exact ⟨hx c o h.h⟩
  | stuck => exact h.h.elim
theorem wS_mono {x : Res Flow} {N N' B B' : Env → Prop} {R R' : D → Env → Prop} {X X' : Nat → Env → Prop} (h : wS x N R B X) (hn : ∀ r, N r → N' r) (hr : ∀ d r, R d r → R' d r) (hb : ∀ r, B r → B' r) (hx : ∀ c r, X c r → X' c r) : wS x N' R' B' X' := by
  cases x with
  | ok f r =>
    cases f with
    | nx => exact ⟨hn r h.h⟩
    | rt d => exact ⟨hr d r h.h⟩
    | bk => exact ⟨hb r h.h⟩
    | ct => exact h.h.elim
  | raise c o => exact ⟨hx c o h.h⟩
  | stuck => exact h.h.elim
theorem wR_ok {α : Type} {a : α} {r : Env} {P : α → Env → Prop} {X : Nat → Env → Prop} (h : P a r) : wR (.ok a r) P X := ⟨h⟩
theorem wR_eq {α : Type} {x : Res α} {a : α} {r : Env} {P : α → Env → Prop} {X : Nat → Env → Prop} (e : x = .ok a r) (h : P a r) : wR x P X := by rw [e]; exact ⟨h⟩
theorem wC_eq {x : CRes} {d : D} {o : List Slot} {P : D → List Slot → Prop} {X : Nat → List Slot → Prop} (e : x = .ok d o) (h : P d o) : wC x P X := by rw [e]; exact ⟨h⟩
theorem wR_bind {α β : Type} {x : Res α} {f : α → Env → Res β} {P : β → Env → Prop} {X : Nat → Env → Prop} (h : wR x (fun a r => wR (f a r) P X) X) : wR (x.bind f) P X := by
  cases x with
  | ok a r => exact h.h
  | raise c r => exact ⟨h.h⟩
  | stuck => exact h.h.elim
theorem wR_bindK {α β : Type} {x : Res α} {f : α → β} {P : β → Env → Prop} {X : Nat → Env → Prop} (h : wR x (fun a r => P (f a) r) X) : wR (x.bind fun a r => .ok (f a) r) P X := wR_bind (wR_mono h (fun _ _ h => ⟨h⟩) fun _ _ h => h)
theorem wS_bind {α : Type} {x : Res α} {f : α → Env → Res Flow} {N B : Env → Prop} {R : D → Env → Prop} {X : Nat → Env → Prop} (h : wR x (fun a r => wS (f a r) N R B X) X) : wS (x.bind f) N R B X := by
  cases x with
  | ok a r => exact h.h
  | raise c r => exact ⟨h.h⟩
  | stuck => exact h.h.elim
theorem wR_bindN {α β : Type} {x : Res α} {f : α → Env → Res β} {P : β → Env → Prop} {X : Nat → Env → Prop} (h : wR x (fun a r => wR (f a r) P X) fun _ _ => False) : wR (x.bindN f) P X := by
  cases x with
  | ok a r => exact h.h
  | raise c r => exact h.h.elim
  | stuck => exact h.h.elim
theorem w_lift {o : Option D} {r : Env} {P : D → Env → Prop} {X : Nat → Env → Prop} (h : ∃ z, o = some z ∧ P z r) : wR (lift o r) P X := by
  obtain ⟨z, rfl, h⟩ := h
  exact ⟨h⟩
section
variable {r : Env} {a b c e : E} {P : D → Env → Prop} {X : Nat → Env → Prop}
theorem w_var {i : Nat} {d : D} (hg : getS r i = .val 0 d) (h : P d r) : wR (E.var i r) P X := by
  unfold E.var; rw [hg]; exact ⟨h⟩
theorem w_varB {i : Nat} {d : D} (hg : getS r i = .bor 0 d) (h : P d r) : wR (E.var i r) P X := by
  unfold E.var; rw [hg]; exact ⟨h⟩
theorem w_int {n : Int} (h : P (.int n) r) : wR (E.int n r) P X := ⟨h⟩
theorem w_bl {n : Bool} (h : P (.bl n) r) : wR (E.bl n r) P X := ⟨h⟩
theorem w_non (h : P .non r) : wR (E.non r) P X := ⟨h⟩
theorem w_str {s : List Nat} (h : P (.str s) r) : wR (E.str s r) P X := ⟨h⟩
theorem w_con {d : D} (h : P d r) : wR (E.con d r) P X := ⟨h⟩
theorem w_yes (h : P (.bl true) r) : wR (E.yes r) P X := ⟨h⟩
theorem w_un {f : D → Option D} (h : wR (a r) (fun x r => ∃ y, f x = some y ∧ P y r) X) : wR (E.un f a r) P X := wR_bind (wR_mono h (fun _ _ h => w_lift h) fun _ _ h => h)
theorem w_bin {f : D → D → Option D} (h : wR (a r) (fun x r => wR (b r) (fun y r => ∃ z, f x y = some z ∧ P z r) X) X) : wR (E.bin f a b r) P X := wR_bind (wR_mono h (fun _ _ h => wR_bind (wR_mono h (fun _ _ h => w_lift h) fun _ _ h => h)) fun _ _ h => h)
theorem w_binM {ok : D → Bool} {f : D → D → Option D} (h : wR (a r) (fun x r => ok x = true ∧ wR (b r) (fun y r => ∃ z, f x y = some z ∧ P z r) X) X) : wR (E.binM ok f a b r) P X := wR_bind (wR_mono h (fun _ _ h => by
  obtain ⟨h1, h⟩ := h
  rw [if_pos h1]
  exact wR_bind (wR_mono h (fun _ _ h => w_lift h) fun _ _ h => h)) fun _ _ h => h)
theorem w_eq (h : wR (a r) (fun x r => wR (b r) (fun y r => ∃ z, eqO x y = some z ∧ P z r) X) X) : wR (E.eq a b r) P X := w_bin h
theorem w_ne (h : wR (a r) (fun x r => wR (b r) (fun y r => ∃ z, neO x y = some z ∧ P z r) X) X) : wR (E.ne a b r) P X := w_bin h
theorem w_inn (h : wR (a r) (fun x r => wR (b r) (fun y r => ∃ z, inD x y = some z ∧ P z r) X) X) : wR (E.inn a b r) P X := w_bin h
theorem w_notin (h : wR (a r) (fun x r => wR (b r) (fun y r => ∃ z, notinO x y = some z ∧ P z r) X) X) : wR (E.notin a b r) P X := w_bin h
theorem w_idx (h : wR (a r) (fun x r => wR (b r) (fun y r => ∃ z, idxD x y = some z ∧ P z r) X) X) : wR (E.idx a b r) P X := w_bin h
theorem w_isn (h : wR (a r) (fun x r => P (.bl (isNone x)) r) X) : wR (E.isn a r) P X := w_un (wR_mono h (fun _ _ h => ⟨_, rfl, h⟩) fun _ _ h => h)
theorem w_notn (h : wR (a r) (fun x r => P (.bl (!isNone x)) r) X) : wR (E.notn a r) P X := w_un (wR_mono h (fun _ _ h => ⟨_, rfl, h⟩) fun _ _ h => h)
theorem w_isb {t : Bool} (h : wR (a r) (fun x r => ∃ y, isbO t x = some y ∧ P y r) X) : wR (E.isb t a r) P X := w_un h
theorem w_notb {t : Bool} (h : wR (a r) (fun x r => ∃ y, notbO t x = some y ∧ P y r) X) : wR (E.notb t a r) P X := w_un h
theorem w_not (h : wR (a r) (fun x r => ∃ y, notD x = some y ∧ P y r) X) : wR (E.not a r) P X := w_un h
theorem w_isty {t : Ty} (h : wR (a r) (fun x r => P (.bl (isTy t x)) r) X) : wR (E.isty t a r) P X := w_un (wR_mono h (fun _ _ h => ⟨_, rfl, h⟩) fun _ _ h => h)
/-- a test and what follows it -/
def fork (x : D) (A B : Prop) : Prop := ∃ t, x = .bl t ∧ (t = true → A) ∧ (t = false → B)
theorem w_and (h : wR (a r) (fun x r => fork x (wR (b r) P X) (P (.bl false) r)) X) : wR (E.and a b r) P X := wR_bind (wR_mono h (fun x r h => by
  obtain ⟨t, rfl, h1, h2⟩ := h
  cases t with
  | true => exact h1 rfl
  | false => exact ⟨h2 rfl⟩) fun _ _ h => h)
theorem w_or (h : wR (a r) (fun x r => fork x (P (.bl true) r) (wR (b r) P X)) X) : wR (E.or a b r) P X := wR_bind (wR_mono h (fun x r h => by
  obtain ⟨t, rfl, h1, h2⟩ := h
  cases t with
  | true => exact ⟨h1 rfl⟩
  | false => exact h2 rfl) fun _ _ h => h)
theorem w_if (h : wR (c r) (fun x r => fork x (wR (a r) P X) (wR (b r) P X)) X) : wR (E.ite c a b r) P X := wR_bind (wR_mono h (fun x r h => by
  obtain ⟨t, rfl, h1, h2⟩ := h
  cases t with
  | true => exact h1 rfl
  | false => exact h2 rfl) fun _ _ h => h)
theorem w_chain {f g : D → D → Option D} (h : wR (a r) (fun x r => wR (b r) (fun y r => ∃ t, f x y = some (.bl t) ∧ (t = true → wR (c r) (fun z r => ∃ w, g y z = some w ∧ P w r) X) ∧ (t = false → P (.bl false) r)) X) X) : wR (E.chain f g a b c r) P X := wR_bind (wR_mono h (fun x r h => wR_bind (wR_mono h (fun y r h => by
  obtain ⟨t, e, h1, h2⟩ := h
  rw [e]
  cases t with
  | true => exact wR_bind (wR_mono (h1 rfl) (fun _ _ h => w_lift h) fun _ _ h => h)
  | false => exact ⟨h2 rfl⟩) fun _ _ h => h)) fun _ _ h => h)
theorem w_seqs_nil {P : List D → Env → Prop} (h : P [] r) : wR (E.seqs [] r) P X := ⟨h⟩
theorem w_seqs_cons {es : List E} {P : List D → Env → Prop} (h : wR (e r) (fun x r => wR (E.seqs es r) (fun xs r => P (x :: xs) r) X) X) : wR (E.seqs (e :: es) r) P X := wR_bind (wR_mono h (fun _ _ h => wR_bindK h) fun _ _ h => h)
theorem w_lst {es : List E} (h : wR (E.seqs es r) (fun xs r => P (.lst xs) r) X) : wR (E.lst es r) P X := wR_bindK h
theorem w_tup {es : List E} (h : wR (E.seqs es r) (fun xs r => P (.tup xs) r) X) : wR (E.tup es r) P X := wR_bindK h
theorem w_optN {P : Option Int → Env → Prop} (h : P none r) : wR (E.optI none r) P X := ⟨h⟩
theorem w_optS {P : Option Int → Env → Prop} (h : wR (e r) (fun x r => ∃ i, x = .int i ∧ P (some i) r) X) : wR (E.optI (some e) r) P X := wR_bind (wR_mono h (fun _ _ ⟨i, e, h⟩ => by subst e; exact ⟨h⟩) fun _ _ h => h)
theorem w_slice {lo hi : Option E} (h : wR (a r) (fun x r => wR (E.optI lo r) (fun i r => wR (E.optI hi r) (fun j r => ∃ z, sliceD x i j = some z ∧ P z r) X) X) X) : wR (E.slice a lo hi r) P X := wR_bind (wR_mono h (fun _ _ h => wR_bind (wR_mono h (fun _ _ h => wR_bind (wR_mono h (fun _ _ h => w_lift h) fun _ _ h => h)) fun _ _ h => h)) fun _ _ h => h)
theorem w_path_nil {d : D} (h : P d r) : wR (E.path [] d r) P X := ⟨h⟩
theorem w_path_cons {es : List E} {d : D} (h : wR (e r) (fun x r => ∃ y, idxD d x = some y ∧ wR (E.path es y r) P X) X) : wR (E.path (e :: es) d r) P X := wR_bind (wR_mono h (fun _ _ ⟨y, e, h⟩ => by rw [e]; exact h) fun _ _ h => h)
theorem w_pth {i k : Nat} {es : List E} {d : D} (hg : getS r i = .val k d) (hk : k ≤ es.length) (h : wR (E.path es d r) P X) : wR (E.pth i es r) P X := by
  unfold E.pth; rw [hg]; simp only [hk, if_true]; exact h
theorem w_pthB {i k : Nat} {es : List E} {d : D} (hg : getS r i = .bor k d) (hk : k ≤ es.length) (h : wR (E.path es d r) P X) : wR (E.pth i es r) P X := by
  unfold E.pth; rw [hg]; simp only [hk, if_true]; exact h
theorem w_pk {i k : Nat} {es : List E} {d : D} (hg : getS r i = .val k d) (h : wR (E.path es d r) P X) : wR (E.pk i es r) P X := by
  unfold E.pk; rw [hg]; exact h
theorem w_pkB {i k : Nat} {es : List E} {d : D} (hg : getS r i = .bor k d) (h : wR (E.path es d r) P X) : wR (E.pk i es r) P X := by
  unfold E.pk; rw [hg]; exact h
theorem w_pki {i k : Nat} {es : List E} {d : D} (hg : getS r i = .val k d) (hk : k ≤ es.length + 1) (h : wR (E.path es d r) P X) : wR (E.pki i es r) P X := by
  unfold E.pki; rw [hg]; simp only [hk, if_true]; exact h
/-! calls -/
theorem w_args_nil {P : List Slot → Env → Prop} (h : P [] r) : wR (E.evalArgs [] r) P X := ⟨h⟩
theorem w_args_v {as : List E.Arg} {P : List Slot → Env → Prop} (h : wR (e r) (fun d r => wR (E.evalArgs as r) (fun ss r => P (.val 0 d :: ss) r) X) X) : wR (E.evalArgs (.v e :: as) r) P X := wR_bind (wR_mono h (fun _ _ h => wR_bindK h) fun _ _ h => h)
theorem w_args_fs {e : ES} {as : List E.Arg} {P : List Slot → Env → Prop} (h : wR (e r) (fun s r => wR (E.evalArgs as r) (fun ss r => P (s :: ss) r) X) X) : wR (E.evalArgs (.fs e :: as) r) P X := wR_bind (wR_mono h (fun _ _ h => wR_bindK h) fun _ _ h => h)
theorem w_args_io {i : Nat} {as : List E.Arg} {P : List Slot → Env → Prop} (hb : E.bound (getS r i) = true) (h : wR (E.evalArgs as r) (fun ss r => P (.no :: ss) r) X) : wR (E.evalArgs (.io i :: as) r) P X := by
  unfold E.evalArgs; rw [if_pos hb]; exact wR_bindK h
theorem w_args_x {i : Nat} {as : List E.Arg} {P : List Slot → Env → Prop} (hb : E.bound (getS r i) = true) (h : wR (E.evalArgs as r) (fun ss r => P (.no :: ss) r) X) : wR (E.evalArgs (.x i :: as) r) P X := by
  unfold E.evalArgs; rw [if_pos hb]; exact wR_bindK h
theorem w_args_bw {i : Nat} {as : List E.Arg} {P : List Slot → Env → Prop} (hb : E.bound (getS r i) = true) (h : wR (E.evalArgs as r) (fun ss r => P (.no :: ss) r) X) : wR (E.evalArgs (.bw i :: as) r) P X := by
  unfold E.evalArgs; rw [if_pos hb]; exact wR_bindK h
/-- a call is due: what is handed over told apart -/
def wCall (cf : Calls) (f : Nat) (ss : List Slot) (as : List E.Arg) (r : Env) (P : D → Env → Prop) (X : Nat → Env → Prop) : Prop := wC (cf f ss) (fun d outs => ∃ r2, E.putOuts as outs r = some r2 ∧ P d r2) fun c outs => ∃ r2, E.putOuts as outs r = some r2 ∧ X c r2
theorem w_call {cf : Calls} {f : Nat} {as : List E.Arg} (h : wR (E.evalArgs as r) (fun ss r => wCall cf f (E.resolve as ss r) as r P X) X) : wR (E.call cf f as r) P X := wR_bind (wR_mono h (fun ss r h => by
  unfold wCall at h
  cases e : cf f (E.resolve as ss r) with
  | ok d o =>
    rw [e] at h
    obtain ⟨r2, e2, h⟩ := h.h
    simp only [e2]
    exact ⟨h⟩
  | raise c o =>
    rw [e] at h
    obtain ⟨r2, e2, h⟩ := h.h
    simp only [e2]
    exact ⟨h⟩
  | stuck => rw [e] at h; exact h.h.elim) fun _ _ h => h)
theorem w_callB {cf : Calls} {f : Nat} {as : List E.Arg} (h : wR (E.call cf f as r) (fun d r => E.scalar d = true ∧ P d r) X) : wR (E.callB cf f as r) P X := wR_bind (wR_mono h (fun d r ⟨h1, h2⟩ => by
  rw [if_pos h1]; exact ⟨h2⟩) fun _ _ h => h)
end
/-! ### what is walked -/
def fl {α : Type} (n : Nat) (f : Nat → α) : List α := (List.range n).map f
section
variable {r : Env} {a b c e : E} {P : List D → Env → Prop} {X : Nat → Env → Prop}
theorem w_iSeq (h : wR (a r) (fun x r => ∃ xs, (x = .lst xs ∨ x = .tup xs) ∧ P xs r) X) : wR (E.iSeq a r) P X := wR_bind (wR_mono h (fun x r ⟨xs, e, h⟩ => by
  rcases e with rfl | rfl
  · exact ⟨h⟩
  · exact ⟨h⟩) fun _ _ h => h)
theorem w_iRange (h : wR (a r) (fun x r => ∃ n : Nat, x = .int n ∧ n ≤ 100000 ∧ P (fl n fun k => .int k) r) X) : wR (E.iRange a r) P X := wR_bind (wR_mono h (fun x r ⟨n, e, hn, h⟩ => by
  subst e
  show wR (if -100000 ≤ (n : Int) ∧ (n : Int) ≤ 100000 then Res.ok (rangeL (n : Int)) _ else .stuck) _ _
  rw [if_pos (by omega), rangeL_nat]
  exact ⟨h⟩) fun _ _ h => h)
end
/-! ### statements -/
section
variable {r : Env} {a b : S} {e c : E} {N B : Env → Prop} {R : D → Env → Prop} {X : Nat → Env → Prop}
theorem w_seq (h : wS (a r) (fun r => wS (b r) N R B X) R B X) : wS (S.seq a b r) N R B X := by
  unfold S.seq
  cases e : a r with
  | ok f r' =>
    rw [e] at h
    cases f with
    | nx => exact h.h
    | rt d => exact ⟨h.h⟩
    | bk => exact ⟨h.h⟩
    | ct => exact h.h.elim
  | raise c r' => rw [e] at h; exact ⟨h.h⟩
  | stuck => rw [e] at h; exact h.h.elim
theorem w_pass (h : N r) : wS (S.pass r) N R B X := ⟨h⟩
theorem w_brk (h : B r) : wS (S.brk r) N R B X := ⟨h⟩
theorem w_asg {i k : Nat} (h : wR (e r) (fun d r => N (r.set i (.val k d))) X) : wS (S.asg i k e r) N R B X := wS_bind (wR_mono h (fun _ _ h => ⟨h⟩) fun _ _ h => h)
theorem w_frz {i k : Nat} {d : D} (hg : getS r i = .val k d) (h : N (r.set i (.val 0 d))) : wS (S.frz i r) N R B X := by
  unfold S.frz; rw [hg]; exact ⟨h⟩
theorem w_unpack {is : List Nat} (h : wR (e r) (fun d r => ∃ r2, (E.Tg.many is).put d r = some r2 ∧ N r2) X) : wS (S.unpack is e r) N R B X := wS_bind (wR_mono h (fun d r ⟨r2, e, h⟩ => by simp only [e]; exact ⟨h⟩) fun _ _ h => h)
theorem w_expr (h : wR (e r) (fun _ r => N r) X) : wS (S.expr e r) N R B X := wS_bind (wR_mono h (fun _ _ h => ⟨h⟩) fun _ _ h => h)
theorem w_ret (h : wR (e r) R X) : wS (S.ret e r) N R B X := wS_bind (wR_mono h (fun _ _ h => ⟨h⟩) fun _ _ h => h)
theorem w_retO {i k : Nat} {d : D} (hg : getS r i = .val k d) (h : R d r) : wS (S.retO i k r) N R B X := by
  unfold S.retO; rw [hg]; simp only [if_true]; exact ⟨h⟩
theorem w_retS {i : Nat} {d : D} (hg : getS r i = .val 0 d) (h : R d r) : wS (S.retS i r) N R B X := by
  unfold S.retS; rw [hg]; exact ⟨h⟩
theorem w_raise {c : Nat} (h : X c r) : wS (S.raise c r) N R B X := ⟨h⟩
theorem w_ite (h : wR (c r) (fun x r => fork x (wS (a r) N R B X) (wS (b r) N R B X)) X) : wS (S.ite c a b r) N R B X := wS_bind (wR_mono h (fun x r h => by
  obtain ⟨t, rfl, h1, h2⟩ := h
  cases t with
  | true => exact h1 rfl
  | false => exact h2 rfl) fun _ _ h => h)
theorem w_for {tg : E.Tg} {it : E.It} (h : wR (it r) (fun xs r => wS (S.forGo tg b xs r) N R B X) X) : wS (S.for_ tg it b r) N R B X := wS_bind h
theorem w_forGo {tg : E.Tg} (I : List D → Env → Prop) (hstep : ∀ x xs r, I (x :: xs) r → ∃ r', tg.put x r = some r' ∧ wS (b r') (fun r => I xs r) R N X) (hend : ∀ r, I [] r → N r) : ∀ xs r, I xs r → wS (S.forGo tg b xs r) N R B X
  | [], r, h => ⟨hend r h⟩
  | x :: xs, r, h => by
    obtain ⟨r', e1, h2⟩ := hstep x xs r h
    unfold S.forGo
    simp only [e1]
    cases e : b r' with
    | ok f r2 =>
      rw [e] at h2
      cases f with
      | nx => exact w_forGo I hstep hend xs r2 h2.h
      | rt d => exact ⟨h2.h⟩
      | bk => exact ⟨h2.h⟩
      | ct => exact h2.h.elim
    | raise c r2 => rw [e] at h2; exact ⟨h2.h⟩
    | stuck => rw [e] at h2; exact h2.h.elim
theorem fl_succ {α : Type} (n : Nat) (f : Nat → α) : fl (n + 1) f = f 0 :: fl n fun k => f (k + 1) := by
  unfold fl
  rw [List.range_succ_eq_map, List.map_cons, List.map_map]
  rfl
theorem w_forFl {tg : E.Tg} (I : Nat → Env → Prop) : ∀ (n k : Nat) (f : Nat → D) (r : Env), I k r → (∀ i, k ≤ i → i < k + n → ∀ r, I i r → ∃ r', tg.put (f (i - k)) r = some r' ∧ wS (b r') (fun r => I (i + 1) r) R N X) → (∀ r, I (k + n) r → N r) → wS (S.forGo tg b (fl n f) r) N R B X
  | 0, k, f, r, h, _, he => ⟨he r h⟩
  | n + 1, k, f, r, h, hs, he => by
    rw [fl_succ]
    obtain ⟨r', e1, h2⟩ := hs k (Nat.le_refl _) (by omega) r h
    rw [Nat.sub_self] at e1
    unfold S.forGo
    simp only [e1]
    cases e : b r' with
    | ok g r2 =>
      rw [e] at h2
      cases g with
      | nx =>
        refine w_forFl I n (k + 1) (fun j => f (j + 1)) r2 h2.h (fun i h1 h3 r hi => ?_) (fun r hi => he r (by rw [show k + (n + 1) = k + 1 + n by omega]; exact hi))
        obtain ⟨r'', e5, h5⟩ := hs i (by omega) (by omega) r hi
        refine ⟨r'', ?_, h5⟩
        rw [← e5]
        congr 2
        omega
      | rt d => exact ⟨h2.h⟩
      | bk => exact ⟨h2.h⟩
      | ct => exact h2.h.elim
    | raise c r2 => rw [e] at h2; exact ⟨h2.h⟩
    | stuck => rw [e] at h2; exact h2.h.elim
/-- a loop over a list told by a function -/
theorem w_loop {tg : E.Tg} {n : Nat} {f : Nat → D} (I : Nat → Env → Prop) (h0 : I 0 r) (hs : ∀ i r, i < n → I i r → ∃ r', tg.put (f i) r = some r' ∧ wS (b r') (fun r => I (i + 1) r) R N X) (he : ∀ r, I n r → N r) : wS (S.forGo tg b (fl n f) r) N R B X :=
  w_forFl I n 0 f r h0 (fun i _ h r hi => hs i r (by omega) hi) (fun r h => he r (by rw [Nat.zero_add] at h; exact h))
/-- a while, by a measure -/
theorem w_whl (I : Nat → Env → Prop) (hs : ∀ m r, I m r → wR (c r) (fun x r => fork x (wS (b r) (fun r => ∃ m', m' < m ∧ I m' r) R N X) (N r)) X) : ∀ (n m : Nat) (r : Env), m < n → I m r → wS (S.whl c b n r) N R B X
  | 0, m, r, h, _ => absurd h (Nat.not_lt_zero _)
  | n + 1, m, r, hm, hI => by
    unfold S.whl
    refine wS_bind (wR_mono (hs m r hI) (fun x r1 h => ?_) fun _ _ h => h)
    obtain ⟨t, rfl, h1, h2⟩ := h
    cases t with
    | false => exact ⟨h2 rfl⟩
    | true =>
      have h3 := h1 rfl
      simp only
      cases e : b r1 with
      | ok f r2 =>
        rw [e] at h3
        cases f with
        | nx =>
          obtain ⟨m', hm', hI'⟩ := h3.h
          exact w_whl I hs n m' r2 (by omega) hI'
        | rt d => exact ⟨h3.h⟩
        | bk => exact ⟨h3.h⟩
        | ct => exact h3.h.elim
      | raise c r2 => rw [e] at h3; exact ⟨h3.h⟩
      | stuck => rw [e] at h3; exact h3.h.elim
theorem w_app {i k : Nat} (hL : S.isL (getS r i) = true) (h : wR (e r) (fun d r => ∃ xs, getS r i = .val k (.lst xs) ∧ xs.length < 16777216 ∧ N (r.set i (.val k (.lst (xs ++ [d]))))) X) : wS (S.app i k e r) N R B X := by
  unfold S.app
  rw [if_pos hL]
  refine wS_bind (wR_mono h (fun d r ⟨xs, e, hl, h⟩ => ?_) fun _ _ h => h)
  simp only [e]
  have : LIM = 16777216 := rfl
  rw [if_pos ⟨by simp, by omega⟩]
  exact ⟨h⟩
theorem w_ins {i : Nat} {a e : E} (hL : S.isL (getS r i) = true) (h : wR (a r) (fun p r => wR (e r) (fun d r => ∃ (q : Nat) (xs : List D), p = .int q ∧ getS r i = .val 1 (.lst xs) ∧ q ≤ 16777216 ∧ xs.length < 16777216 ∧ N (r.set i (.val 1 (.lst (xs.take q ++ [d] ++ xs.drop q))))) X) X) : wS (S.ins i a e r) N R B X := by
  unfold S.ins
  rw [if_pos hL]
  refine wS_bind (wR_mono h (fun p r1 h => wS_bind (wR_mono h (fun d r2 ⟨q, xs, e1, e2, h1, h2, h3⟩ => ?_) fun _ _ h => h)) fun _ _ h => h)
  subst e1
  simp only [e2]
  have : LIM = 16777216 := rfl
  rw [if_pos ⟨by omega, by omega, by omega⟩, Int.toNat_natCast]
  exact ⟨h3⟩
theorem w_ext {i : Nat} (hL : S.isL (getS r i) = true) (h : wR (e r) (fun d r => ∃ ys xs, d = .lst ys ∧ getS r i = .val 1 (.lst xs) ∧ xs.length + ys.length ≤ 16777216 ∧ N (r.set i (.val 1 (.lst (xs ++ ys))))) X) : wS (S.ext i e r) N R B X := by
  unfold S.ext
  rw [if_pos hL]
  refine wS_bind (wR_mono h (fun d r ⟨ys, xs, e1, e, hl, h⟩ => ?_) fun _ _ h => h)
  subst e1
  simp only [e]
  have : LIM = 16777216 := rfl
  rw [if_pos (by omega)]
  exact ⟨h⟩
theorem w_augI {i : Nat} {n : Int} (hg : getS r i = .val 0 (.int n)) (h : wR (e r) (fun d r => ∃ m, d = .int m ∧ N (r.set i (.val 0 (.int (n + m))))) X) : wS (S.augI i e r) N R B X := by
  unfold S.augI
  rw [hg]
  exact wS_bind (wR_mono h (fun d r ⟨m, e, h⟩ => by subst e; exact ⟨h⟩) fun _ _ h => h)
section
variable {P : D → Env → Prop}
theorem w_setGo1 {v d : D} (h : wR (e r) (fun x r => ∃ z, setD d x v = some z ∧ P z r) X) : wR (S.setGo [e] v d r) P X := wR_bind (wR_mono h (fun _ _ h => w_lift h) fun _ _ h => h)
theorem w_setGo2 {v : D} {xs : List D} {e' : E} {es : List E} (h : wR (e r) (fun x r => ∃ y, idxD (.lst xs) x = some y ∧ wR (S.setGo (e' :: es) v y r) (fun y' r => ∃ z, setD (.lst xs) x y' = some z ∧ P z r) X) X) : wR (S.setGo (e :: e' :: es) v (.lst xs) r) P X := wR_bind (wR_mono h (fun x r ⟨y, e, h⟩ => by
  simp only [e]
  exact wR_bind (wR_mono h (fun _ _ h => w_lift h) fun _ _ h => h)) fun _ _ h => h)
end
theorem w_putp {i k : Nat} {es : List E} {v d : D} (hg : getS r i = .val k d) (hk : k = es.length) (h : wR (S.setGo es v d r) (fun d' r => N (r.set i (.val k d'))) X) : wS (S.putp i es v r) N R B X := by
  unfold S.putp
  rw [hg]
  simp only [hk, if_true]
  rw [hk] at h
  exact wS_bind (wR_mono h (fun _ _ h => ⟨h⟩) fun _ _ h => h)
theorem w_setp {i : Nat} {es : List E} (h : wR (e r) (fun v r => wS (S.putp i es v r) N R B X) X) : wS (S.setp i es e r) N R B X := wS_bind h
theorem w_puts_nil (h : N r) : wS (S.puts [] [] r) N R B X := ⟨h⟩
theorem w_puts_cons {i : Nat} {es : List E} {ts : List (Nat × List E)} {v : D} {vs : List D} (h : wS (S.putp i es v r) (fun r => wS (S.puts ts vs r) N R B X) R B X) : wS (S.puts ((i, es) :: ts) (v :: vs) r) N R B X := by
  unfold S.puts
  cases e : S.putp i es v r with
  | ok f r' =>
    rw [e] at h
    cases f with
    | nx => exact h.h
    | rt d => exact ⟨h.h⟩
    | bk => exact ⟨h.h⟩
    | ct => exact h.h.elim
  | raise c r' => rw [e] at h; exact ⟨h.h⟩
  | stuck => rw [e] at h; exact h.h.elim
theorem w_setps {ts : List (Nat × List E)} {es : List E} (h : wR (E.seqs es r) (fun vs r => wS (S.puts ts vs r) N R B X) X) : wS (S.setps ts es r) N R B X := wS_bind h
theorem w_pathI_nil {d : D} {P : List Int × D → Env → Prop} (h : P ([], d) r) : wR (pathI [] d r) P X := ⟨h⟩
theorem w_pathI_cons {es : List E} {xs : List D} {P : List Int × D → Env → Prop} (h : wR (e r) (fun x r => ∃ j y, x = .int j ∧ idxD (.lst xs) (.int j) = some y ∧ wR (pathI es y r) (fun z r => P (j :: z.1, z.2) r) X) X) : wR (pathI (e :: es) (.lst xs) r) P X := wR_bind (wR_mono h (fun x r ⟨j, y, e1, e2, h⟩ => by
  subst e1
  simp only [e2]
  exact wR_bindK h) fun _ _ h => h)
theorem w_augp {i k : Nat} {es : List E} {q : E} {f : D → D → Option D} {d : D} (hg : getS r i = .val k d) (hk : k = es.length + 1) (h : wR (pathI es d r) (fun z r => wR (q r) (fun x r => ∃ xs j y, z.2 = .lst xs ∧ x = .int j ∧ idxD (.lst xs) (.int j) = some y ∧ wR (e r) (fun w r => ∃ v, f y w = some v ∧ ∃ d', setAt d z.1 x v = some d' ∧ N (r.set i (.val k d'))) X) X) X) : wS (S.augp i es q f e r) N R B X := by
  unfold S.augp
  rw [hg]
  simp only [hk, if_true]
  rw [hk] at h
  refine wS_bind (wR_mono h (fun z r h => wS_bind (wR_mono h (fun x r ⟨xs, j, y, e0, e00, e1, h⟩ => ?_) fun _ _ h => h)) fun _ _ h => h)
  subst e00
  rw [e0]
  simp only [e1]
  refine wS_bind (wR_mono h (fun w r ⟨v, e2, d', e3, h⟩ => ?_) fun _ _ h => h)
  simp only [e2, e3]
  exact ⟨h⟩
theorem w_bump {i k jo ja : Nat} {es : List E} {d : D} (hg : getS r i = .val k d) (hk : k = es.length + 1) (h : wR (pathI es d r) (fun z r => wR (e (r.set jo .no)) (fun a r => ∃ xs j y, z.2 = .lst xs ∧ a = .int j ∧ idxD (.lst xs) (.int j) = some y ∧ ∃ v, addI y (.int 1) = some v ∧ ∃ d', setAt d z.1 a v = some d' ∧ N ((r.set i (.val k d')).set ja (.val 0 a))) X) X) : wS (S.bump i es jo ja e r) N R B X := by
  unfold S.bump
  rw [hg]
  simp only [hk, if_true]
  rw [hk] at h
  refine wS_bind (wR_mono h (fun z r h => wS_bind (wR_mono h (fun x r ⟨xs, j, y, e0, e00, e1, v, e2, d', e3, h⟩ => ?_) fun _ _ h => h)) fun _ _ h => h)
  subst e00
  rw [e0]
  simp only [e1, e2, e3]
  exact ⟨h⟩
theorem w_tryc {i j : Nat} (h : wS (a r) N R B fun c r => N ((r.set j (.exc c)).set i .no)) : wS (S.tryc a i j r) N R B X := by
  unfold S.tryc
  cases e : a r with
  | ok f r' =>
    rw [e] at h
    cases f with
    | nx => exact ⟨h.h⟩
    | rt d => exact ⟨h.h⟩
    | bk => exact ⟨h.h⟩
    | ct => exact h.h.elim
  | raise c r' => rw [e] at h; exact ⟨h.h⟩
  | stuck => rw [e] at h; exact h.h.elim
end
/-! ### comprehensions -/
theorem fl_len {α : Type} (n : Nat) (f : Nat → α) : (fl n f).length = n := by simp [fl]
theorem fl_get {α : Type} {n k : Nat} {f : Nat → α} (h : k < n) : (fl n f)[k]? = some (f k) := by simp [fl, h]
theorem mem_fl {α : Type} {n : Nat} {f : Nat → α} {x : α} : x ∈ fl n f ↔ ∃ k, k < n ∧ f k = x := by simp [fl]
theorem fl_map {α β : Type} (n : Nat) (f : Nat → α) (g : α → β) : (fl n f).map g = fl n fun k => g (f k) := by
  unfold fl; rw [List.map_map]; rfl
theorem fl_congr {α : Type} {n : Nat} {f g : Nat → α} (h : ∀ k, k < n → f k = g k) : fl n f = fl n g := List.map_congr_left fun k hk => h k (List.mem_range.mp hk)
theorem fl_snoc {α : Type} (n : Nat) (f : Nat → α) : fl (n + 1) f = fl n f ++ [f n] := by
  unfold fl; rw [List.range_succ, List.map_append]; rfl
section
variable {r : Env} {cond elt : E} {P : D → Env → Prop} {X : Nat → Env → Prop} {it : E.It} {j : Nat}
theorem turns_fl {r : Env} (g : Nat → D) : ∀ (n : Nat) (f : Nat → D) (g : Nat → D) (s : Slot),
    (∀ k, k < n → wR (elt (r.set j (.val 0 (f k)))) (fun y r' => y = g k ∧ r' = r.set j (.val 0 (f k))) fun _ _ => False) →
    ∃ s', E.turns (.one j) E.yes (E.one elt) (fl n f) (r.set j s) = .ok (fl n g) (r.set j s')
  | 0, f, g, s, _ => ⟨s, rfl⟩
  | n + 1, f, g, s, h => by
    rw [fl_succ, fl_succ]
    obtain ⟨s', h2⟩ := turns_fl (fun k => g (k + 1)) n (fun k => f (k + 1)) (fun k => g (k + 1)) (.val 0 (f 0)) fun k hk => h (k + 1) (by omega)
    refine ⟨s', ?_⟩
    obtain ⟨y, r', e1, rfl, rfl⟩ := okR_w (h 0 (by omega))
    have he : E.one elt (r.set j (.val 0 (f 0))) = .ok [g 0] (r.set j (.val 0 (f 0))) := by simp only [E.one, e1, Res.bindN]
    unfold E.turns
    show (match some ((r.set j s).set j (.val 0 (f 0))) with
      | none => Res.stuck
      | some r => (E.yes r).bindN fun c r => match c with
        | .bl true => (E.one elt r).bindN fun ys r => (E.turns (.one j) E.yes (E.one elt) (fl n fun k => f (k + 1)) r).bindN fun zs r => .ok (ys ++ zs) r
        | .bl false => E.turns (.one j) E.yes (E.one elt) (fl n fun k => f (k + 1)) r
        | _ => .stuck) = _
    rw [List.set_set]
    have hy : ∀ r, E.yes r = .ok (.bl true) r := fun _ => rfl
    simp only [hy, Res.bindN, he, h2]
    rfl
/-- [elt for j in ..], pure: g the items -/
def mapW (j : Nat) (elt : E) (P : D → Env → Prop) (xs : List D) (r1 : Env) : Prop := ∃ n f, xs = fl n f ∧ j < r1.length ∧ ∃ g, (∀ k, k < n → wR (elt (r1.set j (.val 0 (f k)))) (fun y r' => y = g k ∧ r' = r1.set j (.val 0 (f k))) fun _ _ => False) ∧ P (.lst (fl n g)) r1
theorem w_map (h : wR (it r) (fun xs r1 => mapW j elt P xs r1) X) : wR (E.comp (.one j) it E.yes elt r) P X := by
  unfold E.comp E.items
  refine wR_bind (wR_bind (wR_mono h (fun xs r1 h => ?_) fun _ _ h => h))
  obtain ⟨n, f, rfl, hj, g, hg, hP⟩ := h
  obtain ⟨s', h⟩ := turns_fl (r := r1) g n f g .no hg
  have hw : E.wipe (E.Tg.one j).own r1 = r1.set j .no := rfl
  have hb : E.back r1 (E.Tg.one j).own (r1.set j s') = r1 := by
    show (r1.set j s').set j (getS r1 j) = r1
    rw [List.set_set, set_self' hj]
  simp only [hw, h, Res.bindN, hb]
  exact ⟨⟨hP⟩⟩
/-- [elt for j in .. if cond], pure -/
def filW (j : Nat) (cond elt : E) (P : D → Env → Prop) (xs : List D) (r1 : Env) : Prop := j < r1.length ∧ ∃ (cf : D → Bool) (g : D → D), (∀ x ∈ xs, wR (cond (r1.set j (.val 0 x))) (fun y r' => y = .bl (cf x) ∧ r' = r1.set j (.val 0 x)) fun _ _ => False) ∧ (∀ x ∈ xs, cf x = true → wR (elt (r1.set j (.val 0 x))) (fun y r' => y = g x ∧ r' = r1.set j (.val 0 x)) fun _ _ => False) ∧ P (.lst ((xs.filter cf).map g)) r1
theorem w_filter (h : wR (it r) (fun xs r1 => filW j cond elt P xs r1) X) : wR (E.comp (.one j) it cond elt r) P X := by
  unfold E.comp E.items
  refine wR_bind (wR_bind (wR_mono h (fun xs r1 h => ?_) fun _ _ h => h))
  obtain ⟨hj, cf, g, hc, he, hP⟩ := h
  obtain ⟨s', h⟩ := turns_pure (r := r1) cf g xs .no (fun x hx => by
    obtain ⟨y, r', e, rfl, rfl⟩ := okR_w (hc x hx)
    exact e) fun x hx hcx => by
    obtain ⟨y, r', e, rfl, rfl⟩ := okR_w (he x hx hcx)
    exact e
  have hw : E.wipe (E.Tg.one j).own r1 = r1.set j .no := rfl
  have hb : E.back r1 (E.Tg.one j).own (r1.set j s') = r1 := by
    show (r1.set j s').set j (getS r1 j) = r1
    rw [List.set_set, set_self' hj]
  simp only [hw, h, Res.bindN, hb]
  exact ⟨⟨hP⟩⟩
theorem turns_inv (I : Nat → List D → Env → Prop) {m : Nat} {f : Nat → D} (hs : ∀ i ys r, i < m → I i ys r → wR (elt (r.set j (.val 0 (f i)))) (fun y r' => I (i + 1) (ys ++ [y]) r') fun _ _ => False) : ∀ (n k : Nat) (ys : List D) (r : Env), k + n = m → I k ys r →
    ∃ zs r', E.turns (.one j) E.yes (E.one elt) (fl n fun i => f (k + i)) r = .ok zs r' ∧ I m (ys ++ zs) r'
  | 0, k, ys, r, hk, h => ⟨[], r, rfl, by rw [List.append_nil]; have : k = m := by omega
                                          rw [← this]; exact h⟩
  | n + 1, k, ys, r, hk, h => by
    rw [fl_succ]
    obtain ⟨y, r1, e1, h1⟩ := okR_w (hs k ys r (by omega) h)
    obtain ⟨zs, r2, e2, h2⟩ := turns_inv I hs n (k + 1) (ys ++ [y]) r1 (by omega) h1
    have e2' : E.turns (.one j) E.yes (E.one elt) (fl n fun i => f (k + (i + 1))) r1 = .ok zs r2 := by
      rw [← e2]
      congr 1
      exact fl_congr fun i _ => by congr 1; omega
    refine ⟨y :: zs, r2, ?_, by simpa using h2⟩
    have he : E.one elt (r.set j (.val 0 (f k))) = .ok [y] r1 := by simp only [E.one, e1, Res.bindN]
    unfold E.turns
    show (match some (r.set j (.val 0 (f (k + 0)))) with
      | none => Res.stuck
      | some r => (E.yes r).bindN fun c r => match c with
        | .bl true => (E.one elt r).bindN fun ys r => (E.turns (.one j) E.yes (E.one elt) (fl n fun i => f (k + (i + 1))) r).bindN fun zs r => .ok (ys ++ zs) r
        | .bl false => E.turns (.one j) E.yes (E.one elt) (fl n fun i => f (k + (i + 1))) r
        | _ => .stuck) = _
    have hy : ∀ r, E.yes r = .ok (.bl true) r := fun _ => rfl
    simp only [Nat.add_zero, hy, Res.bindN, he, e2']
    rfl
/-- .. that changes something: by what holds -/
def comW (j : Nat) (elt : E) (P : D → Env → Prop) (xs : List D) (r1 : Env) : Prop := ∃ n f, xs = fl n f ∧ ∃ I : Nat → List D → Env → Prop, I 0 [] (r1.set j .no) ∧ (∀ i ys r, i < n → I i ys r → wR (elt (r.set j (.val 0 (f i)))) (fun y r' => I (i + 1) (ys ++ [y]) r') fun _ _ => False) ∧ ∀ ys r, I n ys r → P (.lst ys) (r.set j (getS r1 j))
theorem w_compI (h : wR (it r) (fun xs r1 => comW j elt P xs r1) X) : wR (E.comp (.one j) it E.yes elt r) P X := by
  unfold E.comp E.items
  refine wR_bind (wR_bind (wR_mono h (fun xs r1 h => ?_) fun _ _ h => h))
  obtain ⟨n, f, rfl, I, h0, hs, hP⟩ := h
  obtain ⟨zs, r', e, hI⟩ := turns_inv I hs n 0 [] _ (by omega) h0
  have hw : E.wipe (E.Tg.one j).own r1 = r1.set j .no := rfl
  have e' : E.turns (.one j) E.yes (E.one elt) (fl n f) (r1.set j .no) = .ok zs r' := by
    rw [← e]
    congr 1
    exact fl_congr fun i _ => by rw [Nat.zero_add]
  simp only [hw, e', Res.bindN]
  exact ⟨⟨hP zs r' hI⟩⟩
end
/-! ### defs -/
theorem w_def {n f : Nat} {d : Def} {as : List Slot} {Q : D → List Slot → Prop} {X : Nat → List Slot → Prop} (ht : tbl[f]? = some d) (hl : as.length = d.np) (h : wS (d.body (run n) (as ++ List.replicate (d.ns - d.np) .no)) (fun r => Q .non (d.io.map (getS r))) (fun x r => Q x (d.io.map (getS r))) (fun _ => False) fun c r => X c (d.io.map (getS r))) : wC (run (n + 1) f as) Q X := by
  have e1 : run (n + 1) f as = d.run (run n) as := by
    show (match tbl[f]? with
      | some d => d.run (run n) as
      | none => .stuck) = _
    rw [ht]
  rw [e1]
  unfold Def.run
  rw [if_pos hl]
  cases e : d.body (run n) (as ++ List.replicate (d.ns - d.np) .no) with
  | ok fl r =>
    rw [e] at h
    cases fl with
    | rt x => exact ⟨h.h⟩
    | nx => exact ⟨h.h⟩
    | bk => exact h.h.elim
    | ct => exact h.h.elim
  | raise c r => rw [e] at h; exact ⟨h.h⟩
  | stuck => rw [e] at h; exact h.h.elim
end O
end
section
set_option linter.all false
set_option maxRecDepth 10000
namespace O
theorem t_is_whole : tbl[i_is_whole]? = some d_is_whole := rfl
theorem e_is_whole {n : Nat} {a0 a1 a2 : Slot} {Q : D → List Slot → Prop} {X : Nat → List Slot → Prop} (h : wS (s_is_whole (run n) [a0, a1, a2]) (fun r => Q .non []) (fun x r => Q x []) (fun _ => False) fun c r => X c []) : wC (run (n + 1) i_is_whole [a0, a1, a2]) Q X := w_def t_is_whole rfl h
theorem t_look_size : tbl[i_look_size]? = some d_look_size := rfl
theorem e_look_size {n : Nat} {a0 : Slot} {Q : D → List Slot → Prop} {X : Nat → List Slot → Prop} (h : wS (s_look_size (run n) [a0]) (fun r => Q .non []) (fun x r => Q x []) (fun _ => False) fun c r => X c []) : wC (run (n + 1) i_look_size [a0]) Q X := w_def t_look_size rfl h
theorem t_is_table : tbl[i_is_table]? = some d_is_table := rfl
theorem e_is_table {n : Nat} {a0 a1 a2 a3 : Slot} {Q : D → List Slot → Prop} {X : Nat → List Slot → Prop} (h : wS (s_is_table (run n) [a0, a1, a2, a3, .no, .no]) (fun r => Q .non []) (fun x r => Q x []) (fun _ => False) fun c r => X c []) : wC (run (n + 1) i_is_table [a0, a1, a2, a3]) Q X := w_def t_is_table rfl h
theorem t_columns_of : tbl[i_columns_of]? = some d_columns_of := rfl
theorem e_columns_of {n : Nat} {a0 : Slot} {Q : D → List Slot → Prop} {X : Nat → List Slot → Prop} (h : wS (s_columns_of (run n) [a0, .no, .no]) (fun r => Q .non []) (fun x r => Q x []) (fun _ => False) fun c r => X c []) : wC (run (n + 1) i_columns_of [a0]) Q X := w_def t_columns_of rfl h
theorem t_is_square : tbl[i_is_square]? = some d_is_square := rfl
theorem e_is_square {n : Nat} {a0 : Slot} {Q : D → List Slot → Prop} {X : Nat → List Slot → Prop} (h : wS (s_is_square (run n) [a0, .no, .no]) (fun r => Q .non []) (fun x r => Q x []) (fun _ => False) fun c r => X c []) : wC (run (n + 1) i_is_square [a0]) Q X := w_def t_is_square rfl h
theorem t_look_square : tbl[i_look_square]? = some d_look_square := rfl
theorem e_look_square {n : Nat} {a0 : Slot} {Q : D → List Slot → Prop} {X : Nat → List Slot → Prop} (h : wS (s_look_square (run n) [a0]) (fun r => Q .non []) (fun x r => Q x []) (fun _ => False) fun c r => X c []) : wC (run (n + 1) i_look_square [a0]) Q X := w_def t_look_square rfl h
theorem t_even_square : tbl[i_even_square]? = some d_even_square := rfl
theorem e_even_square {n : Nat} {a0 : Slot} {Q : D → List Slot → Prop} {X : Nat → List Slot → Prop} (h : wS (s_even_square (run n) [a0, .no, .no]) (fun r => Q .non []) (fun x r => Q x []) (fun _ => False) fun c r => X c []) : wC (run (n + 1) i_even_square [a0]) Q X := w_def t_even_square rfl h
theorem t_where : tbl[i_where]? = some d_where := rfl
theorem e_where {n : Nat} {a0 a1 : Slot} {Q : D → List Slot → Prop} {X : Nat → List Slot → Prop} (h : wS (s_where (run n) [a0, a1, .no]) (fun r => Q .non []) (fun x r => Q x []) (fun _ => False) fun c r => X c []) : wC (run (n + 1) i_where [a0, a1]) Q X := w_def t_where rfl h
theorem t_l_town : tbl[i_l_town]? = some d_l_town := rfl
theorem e_l_town {n : Nat} {a0 : Slot} {Q : D → List Slot → Prop} {X : Nat → List Slot → Prop} (h : wS (s_l_town (run n) [a0]) (fun r => Q .non []) (fun x r => Q x []) (fun _ => False) fun c r => X c []) : wC (run (n + 1) i_l_town [a0]) Q X := w_def t_l_town rfl h
theorem t_l_is : tbl[i_l_is]? = some d_l_is := rfl
theorem e_l_is {n : Nat} {a0 a1 : Slot} {Q : D → List Slot → Prop} {X : Nat → List Slot → Prop} (h : wS (s_l_is (run n) [a0, a1]) (fun r => Q .non []) (fun x r => Q x []) (fun _ => False) fun c r => X c []) : wC (run (n + 1) i_l_is [a0, a1]) Q X := w_def t_l_is rfl h
theorem t_l_order : tbl[i_l_order]? = some d_l_order := rfl
theorem e_l_order {n : Nat} {a0 a1 : Slot} {Q : D → List Slot → Prop} {X : Nat → List Slot → Prop} (h : wS (s_l_order (run n) [a0, a1, .no, .no]) (fun r => Q .non [getS r 0]) (fun x r => Q x [getS r 0]) (fun _ => False) fun c r => X c [getS r 0]) : wC (run (n + 1) i_l_order [a0, a1]) Q X := w_def t_l_order rfl h
theorem t_l_square : tbl[i_l_square]? = some d_l_square := rfl
theorem e_l_square {n : Nat} {a0 a1 : Slot} {Q : D → List Slot → Prop} {X : Nat → List Slot → Prop} (h : wS (s_l_square (run n) [a0, a1, .no, .no, .no, .no, .no, .no, .no, .no, .no, .no, .no]) (fun r => Q .non [getS r 0]) (fun x r => Q x [getS r 0]) (fun _ => False) fun c r => X c [getS r 0]) : wC (run (n + 1) i_l_square [a0, a1]) Q X := w_def t_l_square rfl h
theorem t_l_is_square : tbl[i_l_is_square]? = some d_l_is_square := rfl
theorem e_l_is_square {n : Nat} {a0 a1 : Slot} {Q : D → List Slot → Prop} {X : Nat → List Slot → Prop} (h : wS (s_l_is_square (run n) [a0, a1, .no, .no]) (fun r => Q .non []) (fun x r => Q x []) (fun _ => False) fun c r => X c []) : wC (run (n + 1) i_l_is_square [a0, a1]) Q X := w_def t_l_is_square rfl h
theorem t_law_k01 : tbl[i_law_k01]? = some d_law_k01 := rfl
theorem e_law_k01 {n : Nat} {a0 : Slot} {Q : D → List Slot → Prop} {X : Nat → List Slot → Prop} (h : wS (s_law_k01 (run n) [a0, .no, .no, .no, .no, .no, .no, .no, .no, .no, .no, .no, .no]) (fun r => Q .non []) (fun x r => Q x []) (fun _ => False) fun c r => X c []) : wC (run (n + 1) i_law_k01 [a0]) Q X := w_def t_law_k01 rfl h
theorem t_are_widths : tbl[i_are_widths]? = some d_are_widths := rfl
theorem e_are_widths {n : Nat} {a0 a1 : Slot} {Q : D → List Slot → Prop} {X : Nat → List Slot → Prop} (h : wS (s_are_widths (run n) [a0, a1, .no]) (fun r => Q .non []) (fun x r => Q x []) (fun _ => False) fun c r => X c []) : wC (run (n + 1) i_are_widths [a0, a1]) Q X := w_def t_are_widths rfl h
theorem t_look_widths : tbl[i_look_widths]? = some d_look_widths := rfl
theorem e_look_widths {n : Nat} {a0 a1 : Slot} {Q : D → List Slot → Prop} {X : Nat → List Slot → Prop} (h : wS (s_look_widths (run n) [a0, a1, .no]) (fun r => Q .non []) (fun x r => Q x []) (fun _ => False) fun c r => X c []) : wC (run (n + 1) i_look_widths [a0, a1]) Q X := w_def t_look_widths rfl h
theorem t_lot_of : tbl[i_lot_of]? = some d_lot_of := rfl
theorem e_lot_of {n : Nat} {a0 : Slot} {Q : D → List Slot → Prop} {X : Nat → List Slot → Prop} (h : wS (s_lot_of (run n) [a0, .no, .no, .no]) (fun r => Q .non []) (fun x r => Q x []) (fun _ => False) fun c r => X c []) : wC (run (n + 1) i_lot_of [a0]) Q X := w_def t_lot_of rfl h
theorem t_counts_of : tbl[i_counts_of]? = some d_counts_of := rfl
theorem e_counts_of {n : Nat} {a0 a1 : Slot} {Q : D → List Slot → Prop} {X : Nat → List Slot → Prop} (h : wS (s_counts_of (run n) [a0, a1, .no, .no, .no, .no, .no, .no, .no, .no, .no, .no, .no, .no]) (fun r => Q .non []) (fun x r => Q x []) (fun _ => False) fun c r => X c []) : wC (run (n + 1) i_counts_of [a0, a1]) Q X := w_def t_counts_of rfl h
theorem t_outline_of : tbl[i_outline_of]? = some d_outline_of := rfl
theorem e_outline_of {n : Nat} {a0 a1 : Slot} {Q : D → List Slot → Prop} {X : Nat → List Slot → Prop} (h : wS (s_outline_of (run n) [a0, a1]) (fun r => Q .non []) (fun x r => Q x []) (fun _ => False) fun c r => X c []) : wC (run (n + 1) i_outline_of [a0, a1]) Q X := w_def t_outline_of rfl h
theorem t_is_sketch : tbl[i_is_sketch]? = some d_is_sketch := rfl
theorem e_is_sketch {n : Nat} {a0 : Slot} {Q : D → List Slot → Prop} {X : Nat → List Slot → Prop} (h : wS (s_is_sketch (run n) [a0, .no, .no, .no, .no, .no, .no]) (fun r => Q .non []) (fun x r => Q x []) (fun _ => False) fun c r => X c []) : wC (run (n + 1) i_is_sketch [a0]) Q X := w_def t_is_sketch rfl h
theorem t_look_sketch : tbl[i_look_sketch]? = some d_look_sketch := rfl
theorem e_look_sketch {n : Nat} {a0 : Slot} {Q : D → List Slot → Prop} {X : Nat → List Slot → Prop} (h : wS (s_look_sketch (run n) [a0]) (fun r => Q .non []) (fun x r => Q x []) (fun _ => False) fun c r => X c []) : wC (run (n + 1) i_look_sketch [a0]) Q X := w_def t_look_sketch rfl h
theorem t_wrong_sums : tbl[i_wrong_sums]? = some d_wrong_sums := rfl
theorem e_wrong_sums {n : Nat} {a0 : Slot} {Q : D → List Slot → Prop} {X : Nat → List Slot → Prop} (h : wS (s_wrong_sums (run n) [a0, .no, .no, .no, .no, .no, .no, .no, .no, .no]) (fun r => Q .non []) (fun x r => Q x []) (fun _ => False) fun c r => X c []) : wC (run (n + 1) i_wrong_sums [a0]) Q X := w_def t_wrong_sums rfl h
theorem t_bars : tbl[i_bars]? = some d_bars := rfl
theorem e_bars {n : Nat} {a0 : Slot} {Q : D → List Slot → Prop} {X : Nat → List Slot → Prop} (h : wS (s_bars (run n) [a0]) (fun r => Q .non []) (fun x r => Q x []) (fun _ => False) fun c r => X c []) : wC (run (n + 1) i_bars [a0]) Q X := w_def t_bars rfl h
theorem t_is_outline : tbl[i_is_outline]? = some d_is_outline := rfl
theorem e_is_outline {n : Nat} {a0 : Slot} {Q : D → List Slot → Prop} {X : Nat → List Slot → Prop} (h : wS (s_is_outline (run n) [a0]) (fun r => Q .non []) (fun x r => Q x []) (fun _ => False) fun c r => X c []) : wC (run (n + 1) i_is_outline [a0]) Q X := w_def t_is_outline rfl h
theorem t_size_of : tbl[i_size_of]? = some d_size_of := rfl
theorem e_size_of {n : Nat} {a0 : Slot} {Q : D → List Slot → Prop} {X : Nat → List Slot → Prop} (h : wS (s_size_of (run n) [a0]) (fun r => Q .non []) (fun x r => Q x []) (fun _ => False) fun c r => X c []) : wC (run (n + 1) i_size_of [a0]) Q X := w_def t_size_of rfl h
theorem t_l_pick : tbl[i_l_pick]? = some d_l_pick := rfl
theorem e_l_pick {n : Nat} {a0 a1 : Slot} {Q : D → List Slot → Prop} {X : Nat → List Slot → Prop} (h : wS (s_l_pick (run n) [a0, a1]) (fun r => Q .non [getS r 0]) (fun x r => Q x [getS r 0]) (fun _ => False) fun c r => X c [getS r 0]) : wC (run (n + 1) i_l_pick [a0, a1]) Q X := w_def t_l_pick rfl h
theorem t_l_side : tbl[i_l_side]? = some d_l_side := rfl
theorem e_l_side {n : Nat} {a0 a1 : Slot} {Q : D → List Slot → Prop} {X : Nat → List Slot → Prop} (h : wS (s_l_side (run n) [a0, a1, .no]) (fun r => Q .non [getS r 0]) (fun x r => Q x [getS r 0]) (fun _ => False) fun c r => X c [getS r 0]) : wC (run (n + 1) i_l_side [a0, a1]) Q X := w_def t_l_side rfl h
theorem t_l_widths : tbl[i_l_widths]? = some d_l_widths := rfl
theorem e_l_widths {n : Nat} {a0 a1 : Slot} {Q : D → List Slot → Prop} {X : Nat → List Slot → Prop} (h : wS (s_l_widths (run n) [a0, a1, .no]) (fun r => Q .non [getS r 0]) (fun x r => Q x [getS r 0]) (fun _ => False) fun c r => X c [getS r 0]) : wC (run (n + 1) i_l_widths [a0, a1]) Q X := w_def t_l_widths rfl h
theorem t_l_lots : tbl[i_l_lots]? = some d_l_lots := rfl
theorem e_l_lots {n : Nat} {a0 : Slot} {Q : D → List Slot → Prop} {X : Nat → List Slot → Prop} (h : wS (s_l_lots (run n) [a0, .no, .no]) (fun r => Q .non []) (fun x r => Q x []) (fun _ => False) fun c r => X c []) : wC (run (n + 1) i_l_lots [a0]) Q X := w_def t_l_lots rfl h
theorem t_l_counts : tbl[i_l_counts]? = some d_l_counts := rfl
theorem e_l_counts {n : Nat} {a0 a1 : Slot} {Q : D → List Slot → Prop} {X : Nat → List Slot → Prop} (h : wS (s_l_counts (run n) [a0, a1, .no, .no, .no, .no, .no, .no, .no, .no, .no]) (fun r => Q .non []) (fun x r => Q x []) (fun _ => False) fun c r => X c []) : wC (run (n + 1) i_l_counts [a0, a1]) Q X := w_def t_l_counts rfl h
theorem t_l_bars : tbl[i_l_bars]? = some d_l_bars := rfl
theorem e_l_bars {n : Nat} {a0 a1 : Slot} {Q : D → List Slot → Prop} {X : Nat → List Slot → Prop} (h : wS (s_l_bars (run n) [a0, a1, .no, .no, .no, .no, .no, .no, .no]) (fun r => Q .non []) (fun x r => Q x []) (fun _ => False) fun c r => X c []) : wC (run (n + 1) i_l_bars [a0, a1]) Q X := w_def t_l_bars rfl h
theorem t_l_sketch : tbl[i_l_sketch]? = some d_l_sketch := rfl
theorem e_l_sketch {n : Nat} {a0 a1 : Slot} {Q : D → List Slot → Prop} {X : Nat → List Slot → Prop} (h : wS (s_l_sketch (run n) [a0, a1, .no, .no, .no, .no, .no, .no, .no]) (fun r => Q .non [getS r 0]) (fun x r => Q x [getS r 0]) (fun _ => False) fun c r => X c [getS r 0]) : wC (run (n + 1) i_l_sketch [a0, a1]) Q X := w_def t_l_sketch rfl h
theorem t_law_k02 : tbl[i_law_k02]? = some d_law_k02 := rfl
theorem e_law_k02 {n : Nat} {a0 : Slot} {Q : D → List Slot → Prop} {X : Nat → List Slot → Prop} (h : wS (s_law_k02 (run n) [a0, .no, .no, .no, .no, .no, .no, .no, .no, .no, .no, .no]) (fun r => Q .non []) (fun x r => Q x []) (fun _ => False) fun c r => X c []) : wC (run (n + 1) i_law_k02 [a0]) Q X := w_def t_law_k02 rfl h
theorem t_look_outline : tbl[i_look_outline]? = some d_look_outline := rfl
theorem e_look_outline {n : Nat} {a0 : Slot} {Q : D → List Slot → Prop} {X : Nat → List Slot → Prop} (h : wS (s_look_outline (run n) [a0]) (fun r => Q .non []) (fun x r => Q x []) (fun _ => False) fun c r => X c []) : wC (run (n + 1) i_look_outline [a0]) Q X := w_def t_look_outline rfl h
theorem t_Rounding__init : tbl[i_Rounding__init]? = some d_Rounding__init := rfl
theorem e_Rounding__init {n : Nat} {a0 a1 a2 : Slot} {Q : D → List Slot → Prop} {X : Nat → List Slot → Prop} (h : wS (s_Rounding__init (run n) [a0, a1, a2, .no, .no, .no]) (fun r => Q .non [getS r 0]) (fun x r => Q x [getS r 0]) (fun _ => False) fun c r => X c [getS r 0]) : wC (run (n + 1) i_Rounding__init [a0, a1, a2]) Q X := w_def t_Rounding__init rfl h
theorem t_Rounding_is_broken : tbl[i_Rounding_is_broken]? = some d_Rounding_is_broken := rfl
theorem e_Rounding_is_broken {n : Nat} {a0 a1 a2 : Slot} {Q : D → List Slot → Prop} {X : Nat → List Slot → Prop} (h : wS (s_Rounding_is_broken (run n) [a0, a1, a2]) (fun r => Q .non [getS r 0]) (fun x r => Q x [getS r 0]) (fun _ => False) fun c r => X c [getS r 0]) : wC (run (n + 1) i_Rounding_is_broken [a0, a1, a2]) Q X := w_def t_Rounding_is_broken rfl h
theorem t_Rounding_lead : tbl[i_Rounding_lead]? = some d_Rounding_lead := rfl
theorem e_Rounding_lead {n : Nat} {a0 a1 a2 : Slot} {Q : D → List Slot → Prop} {X : Nat → List Slot → Prop} (h : wS (s_Rounding_lead (run n) [a0, a1, a2, .no, .no]) (fun r => Q .non [getS r 0, getS r 2]) (fun x r => Q x [getS r 0, getS r 2]) (fun _ => False) fun c r => X c [getS r 0, getS r 2]) : wC (run (n + 1) i_Rounding_lead [a0, a1, a2]) Q X := w_def t_Rounding_lead rfl h
theorem t_Rounding_shared : tbl[i_Rounding_shared]? = some d_Rounding_shared := rfl
theorem e_Rounding_shared {n : Nat} {a0 : Slot} {Q : D → List Slot → Prop} {X : Nat → List Slot → Prop} (h : wS (s_Rounding_shared (run n) [a0, .no, .no, .no, .no, .no, .no, .no]) (fun r => Q .non [getS r 0]) (fun x r => Q x [getS r 0]) (fun _ => False) fun c r => X c [getS r 0]) : wC (run (n + 1) i_Rounding_shared [a0]) Q X := w_def t_Rounding_shared rfl h
theorem t_shared : tbl[i_shared]? = some d_shared := rfl
theorem e_shared {n : Nat} {a0 a1 : Slot} {Q : D → List Slot → Prop} {X : Nat → List Slot → Prop} (h : wS (s_shared (run n) [a0, a1]) (fun r => Q .non []) (fun x r => Q x []) (fun _ => False) fun c r => X c []) : wC (run (n + 1) i_shared [a0, a1]) Q X := w_def t_shared rfl h
theorem t_turn_sides : tbl[i_turn_sides]? = some d_turn_sides := rfl
theorem e_turn_sides {n : Nat} {a0 a1 : Slot} {Q : D → List Slot → Prop} {X : Nat → List Slot → Prop} (h : wS (s_turn_sides (run n) [a0, a1, .no, .no, .no, .no, .no, .no, .no, .no, .no, .no, .no]) (fun r => Q .non []) (fun x r => Q x []) (fun _ => False) fun c r => X c []) : wC (run (n + 1) i_turn_sides [a0, a1]) Q X := w_def t_turn_sides rfl h
theorem t_with_split : tbl[i_with_split]? = some d_with_split := rfl
theorem e_with_split {n : Nat} {a0 a1 a2 a3 : Slot} {Q : D → List Slot → Prop} {X : Nat → List Slot → Prop} (h : wS (s_with_split (run n) [a0, a1, a2, a3, .no, .no, .no, .no, .no, .no, .no, .no, .no]) (fun r => Q .non []) (fun x r => Q x []) (fun _ => False) fun c r => X c []) : wC (run (n + 1) i_with_split [a0, a1, a2, a3]) Q X := w_def t_with_split rfl h
theorem t_split : tbl[i_split]? = some d_split := rfl
theorem e_split {n : Nat} {a0 a1 a2 : Slot} {Q : D → List Slot → Prop} {X : Nat → List Slot → Prop} (h : wS (s_split (run n) [a0, a1, a2, .no]) (fun r => Q .non []) (fun x r => Q x []) (fun _ => False) fun c r => X c []) : wC (run (n + 1) i_split [a0, a1, a2]) Q X := w_def t_split rfl h
theorem t_all_apart : tbl[i_all_apart]? = some d_all_apart := rfl
theorem e_all_apart {n : Nat} {a0 : Slot} {Q : D → List Slot → Prop} {X : Nat → List Slot → Prop} (h : wS (s_all_apart (run n) [a0, .no, .no]) (fun r => Q .non []) (fun x r => Q x []) (fun _ => False) fun c r => X c []) : wC (run (n + 1) i_all_apart [a0]) Q X := w_def t_all_apart rfl h
theorem t_square_of : tbl[i_square_of]? = some d_square_of := rfl
theorem e_square_of {n : Nat} {a0 : Slot} {Q : D → List Slot → Prop} {X : Nat → List Slot → Prop} (h : wS (s_square_of (run n) [a0, .no, .no, .no]) (fun r => Q .non []) (fun x r => Q x []) (fun _ => False) fun c r => X c []) : wC (run (n + 1) i_square_of [a0]) Q X := w_def t_square_of rfl h
theorem t_l_refusal : tbl[i_l_refusal]? = some d_l_refusal := rfl
theorem e_l_refusal {n : Nat} {a0 : Slot} {Q : D → List Slot → Prop} {X : Nat → List Slot → Prop} (h : wS (s_l_refusal (run n) [a0, .no]) (fun r => Q .non []) (fun x r => Q x []) (fun _ => False) fun c r => X c []) : wC (run (n + 1) i_l_refusal [a0]) Q X := w_def t_l_refusal rfl h
theorem t_l_told_k03 : tbl[i_l_told_k03]? = some d_l_told_k03 := rfl
theorem e_l_told_k03 {n : Nat} {a0 : Slot} {Q : D → List Slot → Prop} {X : Nat → List Slot → Prop} (h : wS (s_l_told_k03 (run n) [a0, .no, .no, .no]) (fun r => Q .non []) (fun x r => Q x []) (fun _ => False) fun c r => X c []) : wC (run (n + 1) i_l_told_k03 [a0]) Q X := w_def t_l_told_k03 rfl h
theorem t_law_k03 : tbl[i_law_k03]? = some d_law_k03 := rfl
theorem e_law_k03 {n : Nat} {a0 : Slot} {Q : D → List Slot → Prop} {X : Nat → List Slot → Prop} (h : wS (s_law_k03 (run n) [a0, .no, .no, .no, .no, .no, .no, .no]) (fun r => Q .non []) (fun x r => Q x []) (fun _ => False) fun c r => X c []) : wC (run (n + 1) i_law_k03 [a0]) Q X := w_def t_law_k03 rfl h
theorem t_look_lot : tbl[i_look_lot]? = some d_look_lot := rfl
theorem e_look_lot {n : Nat} {a0 a1 a2 : Slot} {Q : D → List Slot → Prop} {X : Nat → List Slot → Prop} (h : wS (s_look_lot (run n) [a0, a1, a2]) (fun r => Q .non []) (fun x r => Q x []) (fun _ => False) fun c r => X c []) : wC (run (n + 1) i_look_lot [a0, a1, a2]) Q X := w_def t_look_lot rfl h
theorem t_taken_apart : tbl[i_taken_apart]? = some d_taken_apart := rfl
theorem e_taken_apart {n : Nat} {a0 a1 a2 : Slot} {Q : D → List Slot → Prop} {X : Nat → List Slot → Prop} (h : wS (s_taken_apart (run n) [a0, a1, a2]) (fun r => Q .non []) (fun x r => Q x []) (fun _ => False) fun c r => X c []) : wC (run (n + 1) i_taken_apart [a0, a1, a2]) Q X := w_def t_taken_apart rfl h
theorem t_put_together : tbl[i_put_together]? = some d_put_together := rfl
theorem e_put_together {n : Nat} {a0 a1 a2 : Slot} {Q : D → List Slot → Prop} {X : Nat → List Slot → Prop} (h : wS (s_put_together (run n) [a0, a1, a2, .no, .no, .no, .no, .no, .no, .no, .no, .no]) (fun r => Q .non []) (fun x r => Q x []) (fun _ => False) fun c r => X c []) : wC (run (n + 1) i_put_together [a0, a1, a2]) Q X := w_def t_put_together rfl h
theorem t_l_told_k04 : tbl[i_l_told_k04]? = some d_l_told_k04 := rfl
theorem e_l_told_k04 {n : Nat} {a0 a1 a2 : Slot} {Q : D → List Slot → Prop} {X : Nat → List Slot → Prop} (h : wS (s_l_told_k04 (run n) [a0, a1, a2, .no, .no, .no]) (fun r => Q .non []) (fun x r => Q x []) (fun _ => False) fun c r => X c []) : wC (run (n + 1) i_l_told_k04 [a0, a1, a2]) Q X := w_def t_l_told_k04 rfl h
theorem t_law_k04 : tbl[i_law_k04]? = some d_law_k04 := rfl
theorem e_law_k04 {n : Nat} {a0 : Slot} {Q : D → List Slot → Prop} {X : Nat → List Slot → Prop} (h : wS (s_law_k04 (run n) [a0, .no, .no, .no, .no, .no, .no, .no, .no, .no, .no, .no]) (fun r => Q .non []) (fun x r => Q x []) (fun _ => False) fun c r => X c []) : wC (run (n + 1) i_law_k04 [a0]) Q X := w_def t_law_k04 rfl h
theorem t_coarsened : tbl[i_coarsened]? = some d_coarsened := rfl
theorem e_coarsened {n : Nat} {a0 a1 : Slot} {Q : D → List Slot → Prop} {X : Nat → List Slot → Prop} (h : wS (s_coarsened (run n) [a0, a1, .no, .no, .no, .no]) (fun r => Q .non []) (fun x r => Q x []) (fun _ => False) fun c r => X c []) : wC (run (n + 1) i_coarsened [a0, a1]) Q X := w_def t_coarsened rfl h
theorem t_l_told_k05 : tbl[i_l_told_k05]? = some d_l_told_k05 := rfl
theorem e_l_told_k05 {n : Nat} {a0 a1 : Slot} {Q : D → List Slot → Prop} {X : Nat → List Slot → Prop} (h : wS (s_l_told_k05 (run n) [a0, a1, .no, .no, .no]) (fun r => Q .non []) (fun x r => Q x []) (fun _ => False) fun c r => X c []) : wC (run (n + 1) i_l_told_k05 [a0, a1]) Q X := w_def t_l_told_k05 rfl h
theorem t_l_joined : tbl[i_l_joined]? = some d_l_joined := rfl
theorem e_l_joined {n : Nat} {a0 a1 : Slot} {Q : D → List Slot → Prop} {X : Nat → List Slot → Prop} (h : wS (s_l_joined (run n) [a0, a1, .no, .no]) (fun r => Q .non [getS r 0]) (fun x r => Q x [getS r 0]) (fun _ => False) fun c r => X c [getS r 0]) : wC (run (n + 1) i_l_joined [a0, a1]) Q X := w_def t_l_joined rfl h
theorem t_l_ends : tbl[i_l_ends]? = some d_l_ends := rfl
theorem e_l_ends {n : Nat} {a0 : Slot} {Q : D → List Slot → Prop} {X : Nat → List Slot → Prop} (h : wS (s_l_ends (run n) [a0, .no]) (fun r => Q .non []) (fun x r => Q x []) (fun _ => False) fun c r => X c []) : wC (run (n + 1) i_l_ends [a0]) Q X := w_def t_l_ends rfl h
theorem t_law_k05 : tbl[i_law_k05]? = some d_law_k05 := rfl
theorem e_law_k05 {n : Nat} {a0 : Slot} {Q : D → List Slot → Prop} {X : Nat → List Slot → Prop} (h : wS (s_law_k05 (run n) [a0, .no, .no, .no, .no, .no, .no, .no, .no, .no, .no, .no, .no, .no, .no, .no, .no]) (fun r => Q .non []) (fun x r => Q x []) (fun _ => False) fun c r => X c []) : wC (run (n + 1) i_law_k05 [a0]) Q X := w_def t_law_k05 rfl h
theorem t_grown : tbl[i_grown]? = some d_grown := rfl
theorem e_grown {n : Nat} {a0 a1 : Slot} {Q : D → List Slot → Prop} {X : Nat → List Slot → Prop} (h : wS (s_grown (run n) [a0, a1, .no, .no, .no, .no, .no, .no, .no]) (fun r => Q .non []) (fun x r => Q x []) (fun _ => False) fun c r => X c []) : wC (run (n + 1) i_grown [a0, a1]) Q X := w_def t_grown rfl h
theorem t_all_squares : tbl[i_all_squares]? = some d_all_squares := rfl
theorem e_all_squares {n : Nat} {a0 : Slot} {Q : D → List Slot → Prop} {X : Nat → List Slot → Prop} (h : wS (s_all_squares (run n) [a0, .no, .no, .no, .no]) (fun r => Q .non []) (fun x r => Q x []) (fun _ => False) fun c r => X c []) : wC (run (n + 1) i_all_squares [a0]) Q X := w_def t_all_squares rfl h
theorem t_look_small : tbl[i_look_small]? = some d_look_small := rfl
theorem e_look_small {n : Nat} {a0 : Slot} {Q : D → List Slot → Prop} {X : Nat → List Slot → Prop} (h : wS (s_look_small (run n) [a0]) (fun r => Q .non []) (fun x r => Q x []) (fun _ => False) fun c r => X c []) : wC (run (n + 1) i_look_small [a0]) Q X := w_def t_look_small rfl h
theorem t_squares_of : tbl[i_squares_of]? = some d_squares_of := rfl
theorem e_squares_of {n : Nat} {a0 : Slot} {Q : D → List Slot → Prop} {X : Nat → List Slot → Prop} (h : wS (s_squares_of (run n) [a0, .no, .no]) (fun r => Q .non []) (fun x r => Q x []) (fun _ => False) fun c r => X c []) : wC (run (n + 1) i_squares_of [a0]) Q X := w_def t_squares_of rfl h
theorem t_how_many : tbl[i_how_many]? = some d_how_many := rfl
theorem e_how_many {n : Nat} {a0 : Slot} {Q : D → List Slot → Prop} {X : Nat → List Slot → Prop} (h : wS (s_how_many (run n) [a0]) (fun r => Q .non []) (fun x r => Q x []) (fun _ => False) fun c r => X c []) : wC (run (n + 1) i_how_many [a0]) Q X := w_def t_how_many rfl h
theorem t_l_rows : tbl[i_l_rows]? = some d_l_rows := rfl
theorem e_l_rows {n : Nat} {a0 a1 a2 a3 : Slot} {Q : D → List Slot → Prop} {X : Nat → List Slot → Prop} (h : wS (s_l_rows (run n) [a0, a1, a2, a3, .no, .no, .no, .no, .no]) (fun r => Q .non []) (fun x r => Q x []) (fun _ => False) fun c r => X c []) : wC (run (n + 1) i_l_rows [a0, a1, a2, a3]) Q X := w_def t_l_rows rfl h
theorem t_l_all : tbl[i_l_all]? = some d_l_all := rfl
theorem e_l_all {n : Nat} {a0 : Slot} {Q : D → List Slot → Prop} {X : Nat → List Slot → Prop} (h : wS (s_l_all (run n) [a0, .no, .no, .no, .no, .no]) (fun r => Q .non []) (fun x r => Q x []) (fun _ => False) fun c r => X c []) : wC (run (n + 1) i_l_all [a0]) Q X := w_def t_l_all rfl h
theorem t_law_k06 : tbl[i_law_k06]? = some d_law_k06 := rfl
theorem e_law_k06 {n : Nat} {a0 : Slot} {Q : D → List Slot → Prop} {X : Nat → List Slot → Prop} (h : wS (s_law_k06 (run n) [a0, .no, .no, .no, .no, .no, .no, .no, .no, .no, .no, .no, .no, .no, .no, .no]) (fun r => Q .non []) (fun x r => Q x []) (fun _ => False) fun c r => X c []) : wC (run (n + 1) i_law_k06 [a0]) Q X := w_def t_law_k06 rfl h
theorem t_is_corner : tbl[i_is_corner]? = some d_is_corner := rfl
theorem e_is_corner {n : Nat} {a0 a1 : Slot} {Q : D → List Slot → Prop} {X : Nat → List Slot → Prop} (h : wS (s_is_corner (run n) [a0, a1]) (fun r => Q .non []) (fun x r => Q x []) (fun _ => False) fun c r => X c []) : wC (run (n + 1) i_is_corner [a0, a1]) Q X := w_def t_is_corner rfl h
theorem t_corner_fits : tbl[i_corner_fits]? = some d_corner_fits := rfl
theorem e_corner_fits {n : Nat} {a0 a1 : Slot} {Q : D → List Slot → Prop} {X : Nat → List Slot → Prop} (h : wS (s_corner_fits (run n) [a0, a1, .no, .no]) (fun r => Q .non []) (fun x r => Q x []) (fun _ => False) fun c r => X c []) : wC (run (n + 1) i_corner_fits [a0, a1]) Q X := w_def t_corner_fits rfl h
theorem t_look_corner : tbl[i_look_corner]? = some d_look_corner := rfl
theorem e_look_corner {n : Nat} {a0 a1 : Slot} {Q : D → List Slot → Prop} {X : Nat → List Slot → Prop} (h : wS (s_look_corner (run n) [a0, a1]) (fun r => Q .non []) (fun x r => Q x []) (fun _ => False) fun c r => X c []) : wC (run (n + 1) i_look_corner [a0, a1]) Q X := w_def t_look_corner rfl h
theorem t_often_in : tbl[i_often_in]? = some d_often_in := rfl
theorem e_often_in {n : Nat} {a0 a1 : Slot} {Q : D → List Slot → Prop} {X : Nat → List Slot → Prop} (h : wS (s_often_in (run n) [a0, a1, .no, .no]) (fun r => Q .non []) (fun x r => Q x []) (fun _ => False) fun c r => X c []) : wC (run (n + 1) i_often_in [a0, a1]) Q X := w_def t_often_in rfl h
theorem t_least_often : tbl[i_least_often]? = some d_least_often := rfl
theorem e_least_often {n : Nat} {a0 a1 : Slot} {Q : D → List Slot → Prop} {X : Nat → List Slot → Prop} (h : wS (s_least_often (run n) [a0, a1]) (fun r => Q .non []) (fun x r => Q x []) (fun _ => False) fun c r => X c []) : wC (run (n + 1) i_least_often [a0, a1]) Q X := w_def t_least_often rfl h
theorem t_too_seldom : tbl[i_too_seldom]? = some d_too_seldom := rfl
theorem e_too_seldom {n : Nat} {a0 a1 : Slot} {Q : D → List Slot → Prop} {X : Nat → List Slot → Prop} (h : wS (s_too_seldom (run n) [a0, a1, .no, .no, .no, .no]) (fun r => Q .non []) (fun x r => Q x []) (fun _ => False) fun c r => X c []) : wC (run (n + 1) i_too_seldom [a0, a1]) Q X := w_def t_too_seldom rfl h
theorem t_lacking : tbl[i_lacking]? = some d_lacking := rfl
theorem e_lacking {n : Nat} {a0 a1 : Slot} {Q : D → List Slot → Prop} {X : Nat → List Slot → Prop} (h : wS (s_lacking (run n) [a0, a1]) (fun r => Q .non []) (fun x r => Q x []) (fun _ => False) fun c r => X c []) : wC (run (n + 1) i_lacking [a0, a1]) Q X := w_def t_lacking rfl h
theorem t_goes_on : tbl[i_goes_on]? = some d_goes_on := rfl
theorem e_goes_on {n : Nat} {a0 a1 : Slot} {Q : D → List Slot → Prop} {X : Nat → List Slot → Prop} (h : wS (s_goes_on (run n) [a0, a1]) (fun r => Q .non []) (fun x r => Q x []) (fun _ => False) fun c r => X c []) : wC (run (n + 1) i_goes_on [a0, a1]) Q X := w_def t_goes_on rfl h
theorem t_sketch_of : tbl[i_sketch_of]? = some d_sketch_of := rfl
theorem e_sketch_of {n : Nat} {a0 a1 : Slot} {Q : D → List Slot → Prop} {X : Nat → List Slot → Prop} (h : wS (s_sketch_of (run n) [a0, a1, .no, .no, .no, .no, .no, .no, .no, .no, .no, .no, .no, .no]) (fun r => Q .non []) (fun x r => Q x []) (fun _ => False) fun c r => X c []) : wC (run (n + 1) i_sketch_of [a0, a1]) Q X := w_def t_sketch_of rfl h
theorem t_outline_of_corner : tbl[i_outline_of_corner]? = some d_outline_of_corner := rfl
theorem e_outline_of_corner {n : Nat} {a0 a1 : Slot} {Q : D → List Slot → Prop} {X : Nat → List Slot → Prop} (h : wS (s_outline_of_corner (run n) [a0, a1]) (fun r => Q .non []) (fun x r => Q x []) (fun _ => False) fun c r => X c []) : wC (run (n + 1) i_outline_of_corner [a0, a1]) Q X := w_def t_outline_of_corner rfl h
theorem t_finished : tbl[i_finished]? = some d_finished := rfl
theorem e_finished {n : Nat} {a0 a1 : Slot} {Q : D → List Slot → Prop} {X : Nat → List Slot → Prop} (h : wS (s_finished (run n) [a0, a1, .no, .no, .no]) (fun r => Q .non []) (fun x r => Q x []) (fun _ => False) fun c r => X c []) : wC (run (n + 1) i_finished [a0, a1]) Q X := w_def t_finished rfl h
theorem t_highest : tbl[i_highest]? = some d_highest := rfl
theorem e_highest {n : Nat} {a0 a1 : Slot} {Q : D → List Slot → Prop} {X : Nat → List Slot → Prop} (h : wS (s_highest (run n) [a0, a1, .no, .no]) (fun r => Q .non []) (fun x r => Q x []) (fun _ => False) fun c r => X c []) : wC (run (n + 1) i_highest [a0, a1]) Q X := w_def t_highest rfl h
theorem t_turned_corner : tbl[i_turned_corner]? = some d_turned_corner := rfl
theorem e_turned_corner {n : Nat} {a0 a1 : Slot} {Q : D → List Slot → Prop} {X : Nat → List Slot → Prop} (h : wS (s_turned_corner (run n) [a0, a1]) (fun r => Q .non []) (fun x r => Q x []) (fun _ => False) fun c r => X c []) : wC (run (n + 1) i_turned_corner [a0, a1]) Q X := w_def t_turned_corner rfl h
theorem t_l_corner : tbl[i_l_corner]? = some d_l_corner := rfl
theorem e_l_corner {n : Nat} {a0 a1 : Slot} {Q : D → List Slot → Prop} {X : Nat → List Slot → Prop} (h : wS (s_l_corner (run n) [a0, a1, .no, .no, .no, .no, .no, .no, .no, .no]) (fun r => Q .non [getS r 0]) (fun x r => Q x [getS r 0]) (fun _ => False) fun c r => X c [getS r 0]) : wC (run (n + 1) i_l_corner [a0, a1]) Q X := w_def t_l_corner rfl h
theorem t_l_often : tbl[i_l_often]? = some d_l_often := rfl
theorem e_l_often {n : Nat} {a0 a1 : Slot} {Q : D → List Slot → Prop} {X : Nat → List Slot → Prop} (h : wS (s_l_often (run n) [a0, a1, .no]) (fun r => Q .non []) (fun x r => Q x []) (fun _ => False) fun c r => X c []) : wC (run (n + 1) i_l_often [a0, a1]) Q X := w_def t_l_often rfl h
theorem t_l_lacks : tbl[i_l_lacks]? = some d_l_lacks := rfl
theorem e_l_lacks {n : Nat} {a0 a1 : Slot} {Q : D → List Slot → Prop} {X : Nat → List Slot → Prop} (h : wS (s_l_lacks (run n) [a0, a1, .no, .no]) (fun r => Q .non []) (fun x r => Q x []) (fun _ => False) fun c r => X c []) : wC (run (n + 1) i_l_lacks [a0, a1]) Q X := w_def t_l_lacks rfl h
theorem t_l_filled : tbl[i_l_filled]? = some d_l_filled := rfl
theorem e_l_filled {n : Nat} {a0 a1 : Slot} {Q : D → List Slot → Prop} {X : Nat → List Slot → Prop} (h : wS (s_l_filled (run n) [a0, a1, .no, .no, .no, .no, .no, .no, .no, .no, .no]) (fun r => Q .non [getS r 0]) (fun x r => Q x [getS r 0]) (fun _ => False) fun c r => X c [getS r 0]) : wC (run (n + 1) i_l_filled [a0, a1]) Q X := w_def t_l_filled rfl h
theorem t_l_told_k07 : tbl[i_l_told_k07]? = some d_l_told_k07 := rfl
theorem e_l_told_k07 {n : Nat} {a0 a1 a2 : Slot} {Q : D → List Slot → Prop} {X : Nat → List Slot → Prop} (h : wS (s_l_told_k07 (run n) [a0, a1, a2, .no, .no, .no]) (fun r => Q .non []) (fun x r => Q x []) (fun _ => False) fun c r => X c []) : wC (run (n + 1) i_l_told_k07 [a0, a1, a2]) Q X := w_def t_l_told_k07 rfl h
theorem t_law_k07 : tbl[i_law_k07]? = some d_law_k07 := rfl
theorem e_law_k07 {n : Nat} {a0 : Slot} {Q : D → List Slot → Prop} {X : Nat → List Slot → Prop} (h : wS (s_law_k07 (run n) [a0, .no, .no, .no, .no, .no, .no, .no, .no, .no, .no, .no, .no, .no, .no, .no, .no]) (fun r => Q .non []) (fun x r => Q x []) (fun _ => False) fun c r => X c []) : wC (run (n + 1) i_law_k07 [a0]) Q X := w_def t_law_k07 rfl h
theorem t_l_fills : tbl[i_l_fills]? = some d_l_fills := rfl
theorem e_l_fills {n : Nat} {a0 a1 a2 : Slot} {Q : D → List Slot → Prop} {X : Nat → List Slot → Prop} (h : wS (s_l_fills (run n) [a0, a1, a2, .no, .no, .no, .no, .no, .no]) (fun r => Q .non [getS r 1]) (fun x r => Q x [getS r 1]) (fun _ => False) fun c r => X c [getS r 1]) : wC (run (n + 1) i_l_fills [a0, a1, a2]) Q X := w_def t_l_fills rfl h
theorem t_law_k08 : tbl[i_law_k08]? = some d_law_k08 := rfl
theorem e_law_k08 {n : Nat} {a0 : Slot} {Q : D → List Slot → Prop} {X : Nat → List Slot → Prop} (h : wS (s_law_k08 (run n) [a0, .no, .no, .no, .no, .no, .no, .no, .no, .no, .no, .no, .no, .no]) (fun r => Q .non []) (fun x r => Q x []) (fun _ => False) fun c r => X c []) : wC (run (n + 1) i_law_k08 [a0]) Q X := w_def t_law_k08 rfl h
theorem t_look_open : tbl[i_look_open]? = some d_look_open := rfl
theorem e_look_open {n : Nat} {a0 a1 : Slot} {Q : D → List Slot → Prop} {X : Nat → List Slot → Prop} (h : wS (s_look_open (run n) [a0, a1]) (fun r => Q .non []) (fun x r => Q x []) (fun _ => False) fun c r => X c []) : wC (run (n + 1) i_look_open [a0, a1]) Q X := w_def t_look_open rfl h
theorem t_pressed : tbl[i_pressed]? = some d_pressed := rfl
theorem e_pressed {n : Nat} {a0 a1 : Slot} {Q : D → List Slot → Prop} {X : Nat → List Slot → Prop} (h : wS (s_pressed (run n) [a0, a1, .no, .no]) (fun r => Q .non []) (fun x r => Q x []) (fun _ => False) fun c r => X c []) : wC (run (n + 1) i_pressed [a0, a1]) Q X := w_def t_pressed rfl h
theorem t_Matching__init : tbl[i_Matching__init]? = some d_Matching__init := rfl
theorem e_Matching__init {n : Nat} {a0 a1 a2 a3 : Slot} {Q : D → List Slot → Prop} {X : Nat → List Slot → Prop} (h : wS (s_Matching__init (run n) [a0, a1, a2, a3, .no, .no, .no, .no]) (fun r => Q .non [getS r 0]) (fun x r => Q x [getS r 0]) (fun _ => False) fun c r => X c [getS r 0]) : wC (run (n + 1) i_Matching__init [a0, a1, a2, a3]) Q X := w_def t_Matching__init rfl h
theorem t_Matching_seat : tbl[i_Matching_seat]? = some d_Matching_seat := rfl
theorem e_Matching_seat {n : Nat} {a0 a1 a2 : Slot} {Q : D → List Slot → Prop} {X : Nat → List Slot → Prop} (h : wS (s_Matching_seat (run n) [a0, a1, a2, .no]) (fun r => Q .non [getS r 0, getS r 2]) (fun x r => Q x [getS r 0, getS r 2]) (fun _ => False) fun c r => X c [getS r 0, getS r 2]) : wC (run (n + 1) i_Matching_seat [a0, a1, a2]) Q X := w_def t_Matching_seat rfl h
theorem t_Matching_fill : tbl[i_Matching_fill]? = some d_Matching_fill := rfl
theorem e_Matching_fill {n : Nat} {a0 a1 a2 : Slot} {Q : D → List Slot → Prop} {X : Nat → List Slot → Prop} (h : wS (s_Matching_fill (run n) [a0, a1, a2, .no, .no]) (fun r => Q .non [getS r 0, getS r 2]) (fun x r => Q x [getS r 0, getS r 2]) (fun _ => False) fun c r => X c [getS r 0, getS r 2]) : wC (run (n + 1) i_Matching_fill [a0, a1, a2]) Q X := w_def t_Matching_fill rfl h
theorem t_Matching_found : tbl[i_Matching_found]? = some d_Matching_found := rfl
theorem e_Matching_found {n : Nat} {a0 : Slot} {Q : D → List Slot → Prop} {X : Nat → List Slot → Prop} (h : wS (s_Matching_found (run n) [a0, .no, .no]) (fun r => Q .non [getS r 0]) (fun x r => Q x [getS r 0]) (fun _ => False) fun c r => X c [getS r 0]) : wC (run (n + 1) i_Matching_found [a0]) Q X := w_def t_Matching_found rfl h
theorem t_must_stand : tbl[i_must_stand]? = some d_must_stand := rfl
theorem e_must_stand {n : Nat} {a0 a1 : Slot} {Q : D → List Slot → Prop} {X : Nat → List Slot → Prop} (h : wS (s_must_stand (run n) [a0, a1]) (fun r => Q .non []) (fun x r => Q x []) (fun _ => False) fun c r => X c []) : wC (run (n + 1) i_must_stand [a0, a1]) Q X := w_def t_must_stand rfl h
theorem t_next_row : tbl[i_next_row]? = some d_next_row := rfl
theorem e_next_row {n : Nat} {a0 a1 : Slot} {Q : D → List Slot → Prop} {X : Nat → List Slot → Prop} (h : wS (s_next_row (run n) [a0, a1]) (fun r => Q .non []) (fun x r => Q x []) (fun _ => False) fun c r => X c []) : wC (run (n + 1) i_next_row [a0, a1]) Q X := w_def t_next_row rfl h
theorem t_may_stand : tbl[i_may_stand]? = some d_may_stand := rfl
theorem e_may_stand {n : Nat} {a0 a1 a2 a3 : Slot} {Q : D → List Slot → Prop} {X : Nat → List Slot → Prop} (h : wS (s_may_stand (run n) [a0, a1, a2, a3]) (fun r => Q .non []) (fun x r => Q x []) (fun _ => False) fun c r => X c []) : wC (run (n + 1) i_may_stand [a0, a1, a2, a3]) Q X := w_def t_may_stand rfl h
theorem t_choices : tbl[i_choices]? = some d_choices := rfl
theorem e_choices {n : Nat} {a0 a1 : Slot} {Q : D → List Slot → Prop} {X : Nat → List Slot → Prop} (h : wS (s_choices (run n) [a0, a1, .no, .no, .no]) (fun r => Q .non []) (fun x r => Q x []) (fun _ => False) fun c r => X c []) : wC (run (n + 1) i_choices [a0, a1]) Q X := w_def t_choices rfl h
theorem t_law_k09 : tbl[i_law_k09]? = some d_law_k09 := rfl
theorem e_law_k09 {n : Nat} {a0 : Slot} {Q : D → List Slot → Prop} {X : Nat → List Slot → Prop} (h : wS (s_law_k09 (run n) [a0, .no, .no, .no, .no, .no, .no, .no, .no, .no, .no, .no, .no, .no, .no]) (fun r => Q .non []) (fun x r => Q x []) (fun _ => False) fun c r => X c []) : wC (run (n + 1) i_law_k09 [a0]) Q X := w_def t_law_k09 rfl h
theorem t_least_square : tbl[i_least_square]? = some d_least_square := rfl
theorem e_least_square {n : Nat} {a0 : Slot} {Q : D → List Slot → Prop} {X : Nat → List Slot → Prop} (h : wS (s_least_square (run n) [a0]) (fun r => Q .non []) (fun x r => Q x []) (fun _ => False) fun c r => X c []) : wC (run (n + 1) i_least_square [a0]) Q X := w_def t_least_square rfl h
theorem t_sure_lots : tbl[i_sure_lots]? = some d_sure_lots := rfl
theorem e_sure_lots {n : Nat} {a0 : Slot} {Q : D → List Slot → Prop} {X : Nat → List Slot → Prop} (h : wS (s_sure_lots (run n) [a0, .no, .no, .no, .no, .no, .no, .no, .no]) (fun r => Q .non []) (fun x r => Q x []) (fun _ => False) fun c r => X c []) : wC (run (n + 1) i_sure_lots [a0]) Q X := w_def t_sure_lots rfl h
theorem t_square_at : tbl[i_square_at]? = some d_square_at := rfl
theorem e_square_at {n : Nat} {a0 a1 : Slot} {Q : D → List Slot → Prop} {X : Nat → List Slot → Prop} (h : wS (s_square_at (run n) [a0, a1, .no]) (fun r => Q .non []) (fun x r => Q x []) (fun _ => False) fun c r => X c []) : wC (run (n + 1) i_square_at [a0, a1]) Q X := w_def t_square_at rfl h
theorem t_l_told_k10 : tbl[i_l_told_k10]? = some d_l_told_k10 := rfl
theorem e_l_told_k10 {n : Nat} {a0 a1 : Slot} {Q : D → List Slot → Prop} {X : Nat → List Slot → Prop} (h : wS (s_l_told_k10 (run n) [a0, a1, .no, .no, .no]) (fun r => Q .non []) (fun x r => Q x []) (fun _ => False) fun c r => X c []) : wC (run (n + 1) i_l_told_k10 [a0, a1]) Q X := w_def t_l_told_k10 rfl h
theorem t_law_k10 : tbl[i_law_k10]? = some d_law_k10 := rfl
theorem e_law_k10 {n : Nat} {a0 : Slot} {Q : D → List Slot → Prop} {X : Nat → List Slot → Prop} (h : wS (s_law_k10 (run n) [a0, .no, .no, .no, .no, .no, .no, .no, .no, .no, .no, .no, .no, .no, .no, .no]) (fun r => Q .non []) (fun x r => Q x []) (fun _ => False) fun c r => X c []) : wC (run (n + 1) i_law_k10 [a0]) Q X := w_def t_law_k10 rfl h
theorem t_is_order : tbl[i_is_order]? = some d_is_order := rfl
theorem e_is_order {n : Nat} {a0 a1 : Slot} {Q : D → List Slot → Prop} {X : Nat → List Slot → Prop} (h : wS (s_is_order (run n) [a0, a1, .no]) (fun r => Q .non []) (fun x r => Q x []) (fun _ => False) fun c r => X c []) : wC (run (n + 1) i_is_order [a0, a1]) Q X := w_def t_is_order rfl h
theorem t_look_sides : tbl[i_look_sides]? = some d_look_sides := rfl
theorem e_look_sides {n : Nat} {a0 : Slot} {Q : D → List Slot → Prop} {X : Nat → List Slot → Prop} (h : wS (s_look_sides (run n) [a0]) (fun r => Q .non []) (fun x r => Q x []) (fun _ => False) fun c r => X c []) : wC (run (n + 1) i_look_sides [a0]) Q X := w_def t_look_sides rfl h
theorem t_exchanged : tbl[i_exchanged]? = some d_exchanged := rfl
theorem e_exchanged {n : Nat} {a0 a1 : Slot} {Q : D → List Slot → Prop} {X : Nat → List Slot → Prop} (h : wS (s_exchanged (run n) [a0, a1, .no, .no, .no, .no, .no]) (fun r => Q .non []) (fun x r => Q x []) (fun _ => False) fun c r => X c []) : wC (run (n + 1) i_exchanged [a0, a1]) Q X := w_def t_exchanged rfl h
theorem t_outline_exchanged : tbl[i_outline_exchanged]? = some d_outline_exchanged := rfl
theorem e_outline_exchanged {n : Nat} {a0 a1 : Slot} {Q : D → List Slot → Prop} {X : Nat → List Slot → Prop} (h : wS (s_outline_exchanged (run n) [a0, a1]) (fun r => Q .non []) (fun x r => Q x []) (fun _ => False) fun c r => X c []) : wC (run (n + 1) i_outline_exchanged [a0, a1]) Q X := w_def t_outline_exchanged rfl h
theorem t_l_exchanged : tbl[i_l_exchanged]? = some d_l_exchanged := rfl
theorem e_l_exchanged {n : Nat} {a0 a1 : Slot} {Q : D → List Slot → Prop} {X : Nat → List Slot → Prop} (h : wS (s_l_exchanged (run n) [a0, a1, .no, .no, .no, .no, .no, .no]) (fun r => Q .non []) (fun x r => Q x []) (fun _ => False) fun c r => X c []) : wC (run (n + 1) i_l_exchanged [a0, a1]) Q X := w_def t_l_exchanged rfl h
theorem t_law_k11 : tbl[i_law_k11]? = some d_law_k11 := rfl
theorem e_law_k11 {n : Nat} {a0 : Slot} {Q : D → List Slot → Prop} {X : Nat → List Slot → Prop} (h : wS (s_law_k11 (run n) [a0, .no, .no, .no, .no, .no, .no, .no, .no, .no, .no, .no, .no, .no, .no, .no, .no]) (fun r => Q .non []) (fun x r => Q x []) (fun _ => False) fun c r => X c []) : wC (run (n + 1) i_law_k11 [a0]) Q X := w_def t_law_k11 rfl h
theorem t_renamed : tbl[i_renamed]? = some d_renamed := rfl
theorem e_renamed {n : Nat} {a0 a1 a2 a3 : Slot} {Q : D → List Slot → Prop} {X : Nat → List Slot → Prop} (h : wS (s_renamed (run n) [a0, a1, a2, a3, .no, .no, .no, .no, .no]) (fun r => Q .non []) (fun x r => Q x []) (fun _ => False) fun c r => X c []) : wC (run (n + 1) i_renamed [a0, a1, a2, a3]) Q X := w_def t_renamed rfl h
theorem t_plain : tbl[i_plain]? = some d_plain := rfl
theorem e_plain {n : Nat} {a0 : Slot} {Q : D → List Slot → Prop} {X : Nat → List Slot → Prop} (h : wS (s_plain (run n) [a0, .no, .no, .no, .no, .no, .no]) (fun r => Q .non []) (fun x r => Q x []) (fun _ => False) fun c r => X c []) : wC (run (n + 1) i_plain [a0]) Q X := w_def t_plain rfl h
theorem t_first_unlike : tbl[i_first_unlike]? = some d_first_unlike := rfl
theorem e_first_unlike {n : Nat} {a0 a1 : Slot} {Q : D → List Slot → Prop} {X : Nat → List Slot → Prop} (h : wS (s_first_unlike (run n) [a0, a1, .no, .no]) (fun r => Q .non []) (fun x r => Q x []) (fun _ => False) fun c r => X c []) : wC (run (n + 1) i_first_unlike [a0, a1]) Q X := w_def t_first_unlike rfl h
theorem t_l_plain : tbl[i_l_plain]? = some d_l_plain := rfl
theorem e_l_plain {n : Nat} {a0 : Slot} {Q : D → List Slot → Prop} {X : Nat → List Slot → Prop} (h : wS (s_l_plain (run n) [a0, .no, .no, .no, .no, .no, .no, .no]) (fun r => Q .non []) (fun x r => Q x []) (fun _ => False) fun c r => X c []) : wC (run (n + 1) i_l_plain [a0]) Q X := w_def t_l_plain rfl h
theorem t_law_k12 : tbl[i_law_k12]? = some d_law_k12 := rfl
theorem e_law_k12 {n : Nat} {a0 : Slot} {Q : D → List Slot → Prop} {X : Nat → List Slot → Prop} (h : wS (s_law_k12 (run n) [a0, .no, .no, .no, .no, .no, .no, .no, .no, .no, .no, .no, .no, .no, .no, .no, .no, .no, .no, .no]) (fun r => Q .non []) (fun x r => Q x []) (fun _ => False) fun c r => X c []) : wC (run (n + 1) i_law_k12 [a0]) Q X := w_def t_law_k12 rfl h
theorem t_Corner__init : tbl[i_Corner__init]? = some d_Corner__init := rfl
theorem e_Corner__init {n : Nat} {a0 a1 a2 : Slot} {Q : D → List Slot → Prop} {X : Nat → List Slot → Prop} (h : wS (s_Corner__init (run n) [a0, a1, a2]) (fun r => Q .non [getS r 0]) (fun x r => Q x [getS r 0]) (fun _ => False) fun c r => X c [getS r 0]) : wC (run (n + 1) i_Corner__init [a0, a1, a2]) Q X := w_def t_Corner__init rfl h
theorem t_Corner_with_row : tbl[i_Corner_with_row]? = some d_Corner_with_row := rfl
theorem e_Corner_with_row {n : Nat} {a0 a1 : Slot} {Q : D → List Slot → Prop} {X : Nat → List Slot → Prop} (h : wS (s_Corner_with_row (run n) [a0, a1]) (fun r => Q .non [getS r 0]) (fun x r => Q x [getS r 0]) (fun _ => False) fun c r => X c [getS r 0]) : wC (run (n + 1) i_Corner_with_row [a0, a1]) Q X := w_def t_Corner_with_row rfl h
theorem t_Corner_with_column : tbl[i_Corner_with_column]? = some d_Corner_with_column := rfl
theorem e_Corner_with_column {n : Nat} {a0 a1 : Slot} {Q : D → List Slot → Prop} {X : Nat → List Slot → Prop} (h : wS (s_Corner_with_column (run n) [a0, a1, .no, .no]) (fun r => Q .non [getS r 0]) (fun x r => Q x [getS r 0]) (fun _ => False) fun c r => X c [getS r 0]) : wC (run (n + 1) i_Corner_with_column [a0, a1]) Q X := w_def t_Corner_with_column rfl h
theorem t_Corner_look : tbl[i_Corner_look]? = some d_Corner_look := rfl
theorem e_Corner_look {n : Nat} {a0 a1 : Slot} {Q : D → List Slot → Prop} {X : Nat → List Slot → Prop} (h : wS (s_Corner_look (run n) [a0, a1]) (fun r => Q .non [getS r 0]) (fun x r => Q x [getS r 0]) (fun _ => False) fun c r => X c [getS r 0]) : wC (run (n + 1) i_Corner_look [a0, a1]) Q X := w_def t_Corner_look rfl h
theorem t_Corner_lacks_with_row : tbl[i_Corner_lacks_with_row]? = some d_Corner_lacks_with_row := rfl
theorem e_Corner_lacks_with_row {n : Nat} {a0 a1 : Slot} {Q : D → List Slot → Prop} {X : Nat → List Slot → Prop} (h : wS (s_Corner_lacks_with_row (run n) [a0, a1, .no]) (fun r => Q .non [getS r 0]) (fun x r => Q x [getS r 0]) (fun _ => False) fun c r => X c [getS r 0]) : wC (run (n + 1) i_Corner_lacks_with_row [a0, a1]) Q X := w_def t_Corner_lacks_with_row rfl h
theorem t_Corner_lacks_with_column : tbl[i_Corner_lacks_with_column]? = some d_Corner_lacks_with_column := rfl
theorem e_Corner_lacks_with_column {n : Nat} {a0 a1 : Slot} {Q : D → List Slot → Prop} {X : Nat → List Slot → Prop} (h : wS (s_Corner_lacks_with_column (run n) [a0, a1, .no]) (fun r => Q .non [getS r 0]) (fun x r => Q x [getS r 0]) (fun _ => False) fun c r => X c [getS r 0]) : wC (run (n + 1) i_Corner_lacks_with_column [a0, a1]) Q X := w_def t_Corner_lacks_with_column rfl h
theorem t_Corner_put : tbl[i_Corner_put]? = some d_Corner_put := rfl
theorem e_Corner_put {n : Nat} {a0 a1 : Slot} {Q : D → List Slot → Prop} {X : Nat → List Slot → Prop} (h : wS (s_Corner_put (run n) [a0, a1, .no]) (fun r => Q .non [getS r 0]) (fun x r => Q x [getS r 0]) (fun _ => False) fun c r => X c [getS r 0]) : wC (run (n + 1) i_Corner_put [a0, a1]) Q X := w_def t_Corner_put rfl h
theorem t_Corner_add_row : tbl[i_Corner_add_row]? = some d_Corner_add_row := rfl
theorem e_Corner_add_row {n : Nat} {a0 a1 : Slot} {Q : D → List Slot → Prop} {X : Nat → List Slot → Prop} (h : wS (s_Corner_add_row (run n) [a0, a1]) (fun r => Q .non [getS r 0]) (fun x r => Q x [getS r 0]) (fun _ => False) fun c r => X c [getS r 0]) : wC (run (n + 1) i_Corner_add_row [a0, a1]) Q X := w_def t_Corner_add_row rfl h
theorem t_Corner_add_column : tbl[i_Corner_add_column]? = some d_Corner_add_column := rfl
theorem e_Corner_add_column {n : Nat} {a0 a1 : Slot} {Q : D → List Slot → Prop} {X : Nat → List Slot → Prop} (h : wS (s_Corner_add_column (run n) [a0, a1]) (fun r => Q .non [getS r 0]) (fun x r => Q x [getS r 0]) (fun _ => False) fun c r => X c [getS r 0]) : wC (run (n + 1) i_Corner_add_column [a0, a1]) Q X := w_def t_Corner_add_column rfl h
theorem t_Corner_undo_k13 : tbl[i_Corner_undo_k13]? = some d_Corner_undo_k13 := rfl
theorem e_Corner_undo_k13 {n : Nat} {a0 : Slot} {Q : D → List Slot → Prop} {X : Nat → List Slot → Prop} (h : wS (s_Corner_undo_k13 (run n) [a0]) (fun r => Q .non [getS r 0]) (fun x r => Q x [getS r 0]) (fun _ => False) fun c r => X c [getS r 0]) : wC (run (n + 1) i_Corner_undo_k13 [a0]) Q X := w_def t_Corner_undo_k13 rfl h
theorem t_Corner_stands : tbl[i_Corner_stands]? = some d_Corner_stands := rfl
theorem e_Corner_stands {n : Nat} {a0 : Slot} {Q : D → List Slot → Prop} {X : Nat → List Slot → Prop} (h : wS (s_Corner_stands (run n) [a0, .no]) (fun r => Q .non [getS r 0]) (fun x r => Q x [getS r 0]) (fun _ => False) fun c r => X c [getS r 0]) : wC (run (n + 1) i_Corner_stands [a0]) Q X := w_def t_Corner_stands rfl h
theorem t_Corner_finish : tbl[i_Corner_finish]? = some d_Corner_finish := rfl
theorem e_Corner_finish {n : Nat} {a0 : Slot} {Q : D → List Slot → Prop} {X : Nat → List Slot → Prop} (h : wS (s_Corner_finish (run n) [a0]) (fun r => Q .non [getS r 0]) (fun x r => Q x [getS r 0]) (fun _ => False) fun c r => X c [getS r 0]) : wC (run (n + 1) i_Corner_finish [a0]) Q X := w_def t_Corner_finish rfl h
theorem t_Corner__len : tbl[i_Corner__len]? = some d_Corner__len := rfl
theorem e_Corner__len {n : Nat} {a0 : Slot} {Q : D → List Slot → Prop} {X : Nat → List Slot → Prop} (h : wS (s_Corner__len (run n) [a0]) (fun r => Q .non [getS r 0]) (fun x r => Q x [getS r 0]) (fun _ => False) fun c r => X c [getS r 0]) : wC (run (n + 1) i_Corner__len [a0]) Q X := w_def t_Corner__len rfl h
theorem t_l_step_k13 : tbl[i_l_step_k13]? = some d_l_step_k13 := rfl
theorem e_l_step_k13 {n : Nat} {a0 a1 a2 : Slot} {Q : D → List Slot → Prop} {X : Nat → List Slot → Prop} (h : wS (s_l_step_k13 (run n) [a0, a1, a2, .no, .no, .no]) (fun r => Q .non [getS r 0]) (fun x r => Q x [getS r 0]) (fun _ => False) fun c r => X c [getS r 0]) : wC (run (n + 1) i_l_step_k13 [a0, a1, a2]) Q X := w_def t_l_step_k13 rfl h
theorem t_l_asked_k13 : tbl[i_l_asked_k13]? = some d_l_asked_k13 := rfl
theorem e_l_asked_k13 {n : Nat} {a0 a1 a2 : Slot} {Q : D → List Slot → Prop} {X : Nat → List Slot → Prop} (h : wS (s_l_asked_k13 (run n) [a0, a1, a2, .no, .no, .no]) (fun r => Q .non [getS r 0]) (fun x r => Q x [getS r 0]) (fun _ => False) fun c r => X c [getS r 0]) : wC (run (n + 1) i_l_asked_k13 [a0, a1, a2]) Q X := w_def t_l_asked_k13 rfl h
theorem t_l_fine : tbl[i_l_fine]? = some d_l_fine := rfl
theorem e_l_fine {n : Nat} {a0 a1 : Slot} {Q : D → List Slot → Prop} {X : Nat → List Slot → Prop} (h : wS (s_l_fine (run n) [a0, a1, .no, .no]) (fun r => Q .non []) (fun x r => Q x []) (fun _ => False) fun c r => X c []) : wC (run (n + 1) i_l_fine [a0, a1]) Q X := w_def t_l_fine rfl h
theorem t_law_k13 : tbl[i_law_k13]? = some d_law_k13 := rfl
theorem e_law_k13 {n : Nat} {a0 : Slot} {Q : D → List Slot → Prop} {X : Nat → List Slot → Prop} (h : wS (s_law_k13 (run n) [a0, .no, .no, .no, .no, .no, .no, .no, .no, .no, .no, .no, .no, .no, .no, .no, .no, .no, .no]) (fun r => Q .non []) (fun x r => Q x []) (fun _ => False) fun c r => X c []) : wC (run (n + 1) i_law_k13 [a0]) Q X := w_def t_law_k13 rfl h
theorem t_Corner_undo_k14 : tbl[i_Corner_undo_k14]? = some d_Corner_undo_k14 := rfl
theorem e_Corner_undo_k14 {n : Nat} {a0 : Slot} {Q : D → List Slot → Prop} {X : Nat → List Slot → Prop} (h : wS (s_Corner_undo_k14 (run n) [a0]) (fun r => Q .non [getS r 0]) (fun x r => Q x [getS r 0]) (fun _ => False) fun c r => X c [getS r 0]) : wC (run (n + 1) i_Corner_undo_k14 [a0]) Q X := w_def t_Corner_undo_k14 rfl h
theorem t_law_k14 : tbl[i_law_k14]? = some d_law_k14 := rfl
theorem e_law_k14 {n : Nat} {a0 : Slot} {Q : D → List Slot → Prop} {X : Nat → List Slot → Prop} (h : wS (s_law_k14 (run n) [a0, .no, .no, .no, .no, .no, .no, .no, .no, .no, .no, .no, .no, .no, .no, .no]) (fun r => Q .non []) (fun x r => Q x []) (fun _ => False) fun c r => X c []) : wC (run (n + 1) i_law_k14 [a0]) Q X := w_def t_law_k14 rfl h
theorem t_Taking__init : tbl[i_Taking__init]? = some d_Taking__init := rfl
theorem e_Taking__init {n : Nat} {a0 a1 : Slot} {Q : D → List Slot → Prop} {X : Nat → List Slot → Prop} (h : wS (s_Taking__init (run n) [a0, a1]) (fun r => Q .non [getS r 0]) (fun x r => Q x [getS r 0]) (fun _ => False) fun c r => X c [getS r 0]) : wC (run (n + 1) i_Taking__init [a0, a1]) Q X := w_def t_Taking__init rfl h
theorem t_Taking_look_open : tbl[i_Taking_look_open]? = some d_Taking_look_open := rfl
theorem e_Taking_look_open {n : Nat} {a0 a1 a2 : Slot} {Q : D → List Slot → Prop} {X : Nat → List Slot → Prop} (h : wS (s_Taking_look_open (run n) [a0, a1, a2]) (fun r => Q .non [getS r 0]) (fun x r => Q x [getS r 0]) (fun _ => False) fun c r => X c [getS r 0]) : wC (run (n + 1) i_Taking_look_open [a0, a1, a2]) Q X := w_def t_Taking_look_open rfl h
theorem t_Taking_is_choice : tbl[i_Taking_is_choice]? = some d_Taking_is_choice := rfl
theorem e_Taking_is_choice {n : Nat} {a0 a1 a2 a3 : Slot} {Q : D → List Slot → Prop} {X : Nat → List Slot → Prop} (h : wS (s_Taking_is_choice (run n) [a0, a1, a2, a3, .no, .no, .no, .no, .no, .no, .no]) (fun r => Q .non [getS r 0]) (fun x r => Q x [getS r 0]) (fun _ => False) fun c r => X c [getS r 0]) : wC (run (n + 1) i_Taking_is_choice [a0, a1, a2, a3]) Q X := w_def t_Taking_is_choice rfl h
theorem t_Taking_may_take : tbl[i_Taking_may_take]? = some d_Taking_may_take := rfl
theorem e_Taking_may_take {n : Nat} {a0 a1 a2 a3 : Slot} {Q : D → List Slot → Prop} {X : Nat → List Slot → Prop} (h : wS (s_Taking_may_take (run n) [a0, a1, a2, a3]) (fun r => Q .non [getS r 0]) (fun x r => Q x [getS r 0]) (fun _ => False) fun c r => X c [getS r 0]) : wC (run (n + 1) i_Taking_may_take [a0, a1, a2, a3]) Q X := w_def t_Taking_may_take rfl h
theorem t_Taking_take : tbl[i_Taking_take]? = some d_Taking_take := rfl
theorem e_Taking_take {n : Nat} {a0 a1 a2 a3 : Slot} {Q : D → List Slot → Prop} {X : Nat → List Slot → Prop} (h : wS (s_Taking_take (run n) [a0, a1, a2, a3]) (fun r => Q .non [getS r 0]) (fun x r => Q x [getS r 0]) (fun _ => False) fun c r => X c [getS r 0]) : wC (run (n + 1) i_Taking_take [a0, a1, a2, a3]) Q X := w_def t_Taking_take rfl h
theorem t_Taking_take_any_k15 : tbl[i_Taking_take_any_k15]? = some d_Taking_take_any_k15 := rfl
theorem e_Taking_take_any_k15 {n : Nat} {a0 a1 a2 : Slot} {Q : D → List Slot → Prop} {X : Nat → List Slot → Prop} (h : wS (s_Taking_take_any_k15 (run n) [a0, a1, a2]) (fun r => Q .non [getS r 0]) (fun x r => Q x [getS r 0]) (fun _ => False) fun c r => X c [getS r 0]) : wC (run (n + 1) i_Taking_take_any_k15 [a0, a1, a2]) Q X := w_def t_Taking_take_any_k15 rfl h
theorem t_Taking_undo_k15 : tbl[i_Taking_undo_k15]? = some d_Taking_undo_k15 := rfl
theorem e_Taking_undo_k15 {n : Nat} {a0 : Slot} {Q : D → List Slot → Prop} {X : Nat → List Slot → Prop} (h : wS (s_Taking_undo_k15 (run n) [a0]) (fun r => Q .non [getS r 0]) (fun x r => Q x [getS r 0]) (fun _ => False) fun c r => X c [getS r 0]) : wC (run (n + 1) i_Taking_undo_k15 [a0]) Q X := w_def t_Taking_undo_k15 rfl h
theorem t_Taking_stands : tbl[i_Taking_stands]? = some d_Taking_stands := rfl
theorem e_Taking_stands {n : Nat} {a0 : Slot} {Q : D → List Slot → Prop} {X : Nat → List Slot → Prop} (h : wS (s_Taking_stands (run n) [a0]) (fun r => Q .non [getS r 0]) (fun x r => Q x [getS r 0]) (fun _ => False) fun c r => X c [getS r 0]) : wC (run (n + 1) i_Taking_stands [a0]) Q X := w_def t_Taking_stands rfl h
theorem t_Taking__len : tbl[i_Taking__len]? = some d_Taking__len := rfl
theorem e_Taking__len {n : Nat} {a0 : Slot} {Q : D → List Slot → Prop} {X : Nat → List Slot → Prop} (h : wS (s_Taking__len (run n) [a0]) (fun r => Q .non [getS r 0]) (fun x r => Q x [getS r 0]) (fun _ => False) fun c r => X c [getS r 0]) : wC (run (n + 1) i_Taking__len [a0]) Q X := w_def t_Taking__len rfl h
theorem t_l_step_k15 : tbl[i_l_step_k15]? = some d_l_step_k15 := rfl
theorem e_l_step_k15 {n : Nat} {a0 a1 a2 a3 : Slot} {Q : D → List Slot → Prop} {X : Nat → List Slot → Prop} (h : wS (s_l_step_k15 (run n) [a0, a1, a2, a3, .no, .no, .no]) (fun r => Q .non [getS r 0]) (fun x r => Q x [getS r 0]) (fun _ => False) fun c r => X c [getS r 0]) : wC (run (n + 1) i_l_step_k15 [a0, a1, a2, a3]) Q X := w_def t_l_step_k15 rfl h
theorem t_l_front : tbl[i_l_front]? = some d_l_front := rfl
theorem e_l_front {n : Nat} {a0 a1 a2 : Slot} {Q : D → List Slot → Prop} {X : Nat → List Slot → Prop} (h : wS (s_l_front (run n) [a0, a1, a2, .no, .no, .no, .no, .no]) (fun r => Q .non []) (fun x r => Q x []) (fun _ => False) fun c r => X c []) : wC (run (n + 1) i_l_front [a0, a1, a2]) Q X := w_def t_l_front rfl h
theorem t_l_good : tbl[i_l_good]? = some d_l_good := rfl
theorem e_l_good {n : Nat} {a0 a1 a2 a3 : Slot} {Q : D → List Slot → Prop} {X : Nat → List Slot → Prop} (h : wS (s_l_good (run n) [a0, a1, a2, a3, .no, .no, .no, .no, .no, .no]) (fun r => Q .non []) (fun x r => Q x []) (fun _ => False) fun c r => X c []) : wC (run (n + 1) i_l_good [a0, a1, a2, a3]) Q X := w_def t_l_good rfl h
theorem t_l_mix : tbl[i_l_mix]? = some d_l_mix := rfl
theorem e_l_mix {n : Nat} {a0 a1 : Slot} {Q : D → List Slot → Prop} {X : Nat → List Slot → Prop} (h : wS (s_l_mix (run n) [a0, a1, .no, .no, .no, .no, .no, .no, .no, .no, .no]) (fun r => Q .non [getS r 0, getS r 1]) (fun x r => Q x [getS r 0, getS r 1]) (fun _ => False) fun c r => X c [getS r 0, getS r 1]) : wC (run (n + 1) i_l_mix [a0, a1]) Q X := w_def t_l_mix rfl h
theorem t_l_left : tbl[i_l_left]? = some d_l_left := rfl
theorem e_l_left {n : Nat} {a0 a1 a2 a3 a4 : Slot} {Q : D → List Slot → Prop} {X : Nat → List Slot → Prop} (h : wS (s_l_left (run n) [a0, a1, a2, a3, a4]) (fun r => Q .non []) (fun x r => Q x []) (fun _ => False) fun c r => X c []) : wC (run (n + 1) i_l_left [a0, a1, a2, a3, a4]) Q X := w_def t_l_left rfl h
theorem t_law_k15 : tbl[i_law_k15]? = some d_law_k15 := rfl
theorem e_law_k15 {n : Nat} {a0 : Slot} {Q : D → List Slot → Prop} {X : Nat → List Slot → Prop} (h : wS (s_law_k15 (run n) [a0, .no, .no, .no, .no, .no, .no, .no, .no, .no, .no, .no, .no, .no]) (fun r => Q .non []) (fun x r => Q x []) (fun _ => False) fun c r => X c []) : wC (run (n + 1) i_law_k15 [a0]) Q X := w_def t_law_k15 rfl h
theorem t_Taking_take_any_k16 : tbl[i_Taking_take_any_k16]? = some d_Taking_take_any_k16 := rfl
theorem e_Taking_take_any_k16 {n : Nat} {a0 a1 a2 : Slot} {Q : D → List Slot → Prop} {X : Nat → List Slot → Prop} (h : wS (s_Taking_take_any_k16 (run n) [a0, a1, a2]) (fun r => Q .non [getS r 0]) (fun x r => Q x [getS r 0]) (fun _ => False) fun c r => X c [getS r 0]) : wC (run (n + 1) i_Taking_take_any_k16 [a0, a1, a2]) Q X := w_def t_Taking_take_any_k16 rfl h
theorem t_l_choice : tbl[i_l_choice]? = some d_l_choice := rfl
theorem e_l_choice {n : Nat} {a0 a1 a2 a3 : Slot} {Q : D → List Slot → Prop} {X : Nat → List Slot → Prop} (h : wS (s_l_choice (run n) [a0, a1, a2, a3, .no, .no, .no, .no, .no, .no, .no, .no, .no, .no, .no]) (fun r => Q .non []) (fun x r => Q x []) (fun _ => False) fun c r => X c []) : wC (run (n + 1) i_l_choice [a0, a1, a2, a3]) Q X := w_def t_l_choice rfl h
theorem t_law_k16 : tbl[i_law_k16]? = some d_law_k16 := rfl
theorem e_law_k16 {n : Nat} {a0 : Slot} {Q : D → List Slot → Prop} {X : Nat → List Slot → Prop} (h : wS (s_law_k16 (run n) [a0, .no, .no, .no, .no, .no, .no, .no, .no, .no, .no, .no, .no, .no, .no]) (fun r => Q .non []) (fun x r => Q x []) (fun _ => False) fun c r => X c []) : wC (run (n + 1) i_law_k16 [a0]) Q X := w_def t_law_k16 rfl h
theorem t_corner_text : tbl[i_corner_text]? = some d_corner_text := rfl
theorem e_corner_text {n : Nat} {a0 a1 : Slot} {Q : D → List Slot → Prop} {X : Nat → List Slot → Prop} (h : wS (s_corner_text (run n) [a0, a1, .no, .no]) (fun r => Q .non []) (fun x r => Q x []) (fun _ => False) fun c r => X c []) : wC (run (n + 1) i_corner_text [a0, a1]) Q X := w_def t_corner_text rfl h
theorem t_corner_read : tbl[i_corner_read]? = some d_corner_read := rfl
theorem e_corner_read {n : Nat} {a0 a1 : Slot} {Q : D → List Slot → Prop} {X : Nat → List Slot → Prop} (h : wS (s_corner_read (run n) [a0, a1, .no, .no, .no]) (fun r => Q .non []) (fun x r => Q x []) (fun _ => False) fun c r => X c []) : wC (run (n + 1) i_corner_read [a0, a1]) Q X := w_def t_corner_read rfl h
theorem t_outline_text : tbl[i_outline_text]? = some d_outline_text := rfl
theorem e_outline_text {n : Nat} {a0 : Slot} {Q : D → List Slot → Prop} {X : Nat → List Slot → Prop} (h : wS (s_outline_text (run n) [a0, .no, .no, .no, .no, .no]) (fun r => Q .non []) (fun x r => Q x []) (fun _ => False) fun c r => X c []) : wC (run (n + 1) i_outline_text [a0]) Q X := w_def t_outline_text rfl h
theorem t_number_in : tbl[i_number_in]? = some d_number_in := rfl
theorem e_number_in {n : Nat} {a0 : Slot} {Q : D → List Slot → Prop} {X : Nat → List Slot → Prop} (h : wS (s_number_in (run n) [a0, .no]) (fun r => Q .non []) (fun x r => Q x []) (fun _ => False) fun c r => X c []) : wC (run (n + 1) i_number_in [a0]) Q X := w_def t_number_in rfl h
theorem t_outline_read : tbl[i_outline_read]? = some d_outline_read := rfl
theorem e_outline_read {n : Nat} {a0 : Slot} {Q : D → List Slot → Prop} {X : Nat → List Slot → Prop} (h : wS (s_outline_read (run n) [a0, .no, .no, .no, .no, .no, .no, .no]) (fun r => Q .non []) (fun x r => Q x []) (fun _ => False) fun c r => X c []) : wC (run (n + 1) i_outline_read [a0]) Q X := w_def t_outline_read rfl h
theorem t_l_lines : tbl[i_l_lines]? = some d_l_lines := rfl
theorem e_l_lines {n : Nat} {a0 : Slot} {Q : D → List Slot → Prop} {X : Nat → List Slot → Prop} (h : wS (s_l_lines (run n) [a0, .no, .no, .no, .no, .no]) (fun r => Q .non []) (fun x r => Q x []) (fun _ => False) fun c r => X c []) : wC (run (n + 1) i_l_lines [a0]) Q X := w_def t_l_lines rfl h
theorem t_l_words : tbl[i_l_words]? = some d_l_words := rfl
theorem e_l_words {n : Nat} {a0 : Slot} {Q : D → List Slot → Prop} {X : Nat → List Slot → Prop} (h : wS (s_l_words (run n) [a0, .no, .no]) (fun r => Q .non []) (fun x r => Q x []) (fun _ => False) fun c r => X c []) : wC (run (n + 1) i_l_words [a0]) Q X := w_def t_l_words rfl h
theorem t_l_read : tbl[i_l_read]? = some d_l_read := rfl
theorem e_l_read {n : Nat} {a0 a1 a2 : Slot} {Q : D → List Slot → Prop} {X : Nat → List Slot → Prop} (h : wS (s_l_read (run n) [a0, a1, a2, .no, .no, .no]) (fun r => Q .non []) (fun x r => Q x []) (fun _ => False) fun c r => X c []) : wC (run (n + 1) i_l_read [a0, a1, a2]) Q X := w_def t_l_read rfl h
theorem t_l_none : tbl[i_l_none]? = some d_l_none := rfl
theorem e_l_none {n : Nat} {Q : D → List Slot → Prop} {X : Nat → List Slot → Prop} (h : wS (s_l_none (run n) [.no, .no, .no]) (fun r => Q .non []) (fun x r => Q x []) (fun _ => False) fun c r => X c []) : wC (run (n + 1) i_l_none []) Q X := w_def t_l_none rfl h
theorem t_law_k17 : tbl[i_law_k17]? = some d_law_k17 := rfl
theorem e_law_k17 {n : Nat} {a0 : Slot} {Q : D → List Slot → Prop} {X : Nat → List Slot → Prop} (h : wS (s_law_k17 (run n) [a0, .no, .no, .no, .no, .no, .no, .no, .no, .no, .no, .no, .no, .no, .no]) (fun r => Q .non []) (fun x r => Q x []) (fun _ => False) fun c r => X c []) : wC (run (n + 1) i_law_k17 [a0]) Q X := w_def t_law_k17 rfl h
theorem t_Taking_undo_k18 : tbl[i_Taking_undo_k18]? = some d_Taking_undo_k18 := rfl
theorem e_Taking_undo_k18 {n : Nat} {a0 : Slot} {Q : D → List Slot → Prop} {X : Nat → List Slot → Prop} (h : wS (s_Taking_undo_k18 (run n) [a0]) (fun r => Q .non [getS r 0]) (fun x r => Q x [getS r 0]) (fun _ => False) fun c r => X c [getS r 0]) : wC (run (n + 1) i_Taking_undo_k18 [a0]) Q X := w_def t_Taking_undo_k18 rfl h
theorem t_l_does_k18 : tbl[i_l_does_k18]? = some d_l_does_k18 := rfl
theorem e_l_does_k18 {n : Nat} {a0 a1 a2 a3 : Slot} {Q : D → List Slot → Prop} {X : Nat → List Slot → Prop} (h : wS (s_l_does_k18 (run n) [a0, a1, a2, a3]) (fun r => Q .non []) (fun x r => Q x []) (fun _ => False) fun c r => X c []) : wC (run (n + 1) i_l_does_k18 [a0, a1, a2, a3]) Q X := w_def t_l_does_k18 rfl h
theorem t_l_asked_k18 : tbl[i_l_asked_k18]? = some d_l_asked_k18 := rfl
theorem e_l_asked_k18 {n : Nat} {a0 a1 a2 a3 : Slot} {Q : D → List Slot → Prop} {X : Nat → List Slot → Prop} (h : wS (s_l_asked_k18 (run n) [a0, a1, a2, a3, .no, .no]) (fun r => Q .non []) (fun x r => Q x []) (fun _ => False) fun c r => X c []) : wC (run (n + 1) i_l_asked_k18 [a0, a1, a2, a3]) Q X := w_def t_l_asked_k18 rfl h
theorem t_l_squared : tbl[i_l_squared]? = some d_l_squared := rfl
theorem e_l_squared {n : Nat} {a0 a1 a2 : Slot} {Q : D → List Slot → Prop} {X : Nat → List Slot → Prop} (h : wS (s_l_squared (run n) [a0, a1, a2, .no, .no]) (fun r => Q .non []) (fun x r => Q x []) (fun _ => False) fun c r => X c []) : wC (run (n + 1) i_l_squared [a0, a1, a2]) Q X := w_def t_l_squared rfl h
theorem t_l_squares : tbl[i_l_squares]? = some d_l_squares := rfl
theorem e_l_squares {n : Nat} {a0 : Slot} {Q : D → List Slot → Prop} {X : Nat → List Slot → Prop} (h : wS (s_l_squares (run n) [a0, .no, .no, .no]) (fun r => Q .non []) (fun x r => Q x []) (fun _ => False) fun c r => X c []) : wC (run (n + 1) i_l_squares [a0]) Q X := w_def t_l_squares rfl h
theorem t_l_steps_refused : tbl[i_l_steps_refused]? = some d_l_steps_refused := rfl
theorem e_l_steps_refused {n : Nat} {a0 a1 a2 a3 : Slot} {Q : D → List Slot → Prop} {X : Nat → List Slot → Prop} (h : wS (s_l_steps_refused (run n) [a0, a1, a2, a3, .no, .no, .no, .no, .no, .no, .no]) (fun r => Q .non [getS r 0]) (fun x r => Q x [getS r 0]) (fun _ => False) fun c r => X c [getS r 0]) : wC (run (n + 1) i_l_steps_refused [a0, a1, a2, a3]) Q X := w_def t_l_steps_refused rfl h
theorem t_l_take : tbl[i_l_take]? = some d_l_take := rfl
theorem e_l_take {n : Nat} {a0 a1 : Slot} {Q : D → List Slot → Prop} {X : Nat → List Slot → Prop} (h : wS (s_l_take (run n) [a0, a1, .no, .no]) (fun r => Q .non [getS r 0]) (fun x r => Q x [getS r 0]) (fun _ => False) fun c r => X c [getS r 0]) : wC (run (n + 1) i_l_take [a0, a1]) Q X := w_def t_l_take rfl h
theorem t_l_choices_refused : tbl[i_l_choices_refused]? = some d_l_choices_refused := rfl
theorem e_l_choices_refused {n : Nat} {a0 : Slot} {Q : D → List Slot → Prop} {X : Nat → List Slot → Prop} (h : wS (s_l_choices_refused (run n) [a0, .no, .no, .no, .no]) (fun r => Q .non []) (fun x r => Q x []) (fun _ => False) fun c r => X c []) : wC (run (n + 1) i_l_choices_refused [a0]) Q X := w_def t_l_choices_refused rfl h
theorem t_law_k18 : tbl[i_law_k18]? = some d_law_k18 := rfl
theorem e_law_k18 {n : Nat} {a0 : Slot} {Q : D → List Slot → Prop} {X : Nat → List Slot → Prop} (h : wS (s_law_k18 (run n) [a0, .no, .no, .no, .no, .no, .no, .no]) (fun r => Q .non []) (fun x r => Q x []) (fun _ => False) fun c r => X c []) : wC (run (n + 1) i_law_k18 [a0]) Q X := w_def t_law_k18 rfl h
theorem t_l_does_k19 : tbl[i_l_does_k19]? = some d_l_does_k19 := rfl
theorem e_l_does_k19 {n : Nat} {a0 a1 a2 a3 a4 : Slot} {Q : D → List Slot → Prop} {X : Nat → List Slot → Prop} (h : wS (s_l_does_k19 (run n) [a0, a1, a2, a3, a4]) (fun r => Q .non []) (fun x r => Q x []) (fun _ => False) fun c r => X c []) : wC (run (n + 1) i_l_does_k19 [a0, a1, a2, a3, a4]) Q X := w_def t_l_does_k19 rfl h
theorem t_l_asked_k19 : tbl[i_l_asked_k19]? = some d_l_asked_k19 := rfl
theorem e_l_asked_k19 {n : Nat} {a0 a1 a2 a3 a4 : Slot} {Q : D → List Slot → Prop} {X : Nat → List Slot → Prop} (h : wS (s_l_asked_k19 (run n) [a0, a1, a2, a3, a4, .no, .no]) (fun r => Q .non []) (fun x r => Q x []) (fun _ => False) fun c r => X c []) : wC (run (n + 1) i_l_asked_k19 [a0, a1, a2, a3, a4]) Q X := w_def t_l_asked_k19 rfl h
theorem t_l_step_k19 : tbl[i_l_step_k19]? = some d_l_step_k19 := rfl
theorem e_l_step_k19 {n : Nat} {a0 a1 a2 : Slot} {Q : D → List Slot → Prop} {X : Nat → List Slot → Prop} (h : wS (s_l_step_k19 (run n) [a0, a1, a2, .no, .no]) (fun r => Q .non [getS r 0]) (fun x r => Q x [getS r 0]) (fun _ => False) fun c r => X c [getS r 0]) : wC (run (n + 1) i_l_step_k19 [a0, a1, a2]) Q X := w_def t_l_step_k19 rfl h
theorem t_l_growing : tbl[i_l_growing]? = some d_l_growing := rfl
theorem e_l_growing {n : Nat} {Q : D → List Slot → Prop} {X : Nat → List Slot → Prop} (h : wS (s_l_growing (run n) [.no, .no, .no, .no]) (fun r => Q .non []) (fun x r => Q x []) (fun _ => False) fun c r => X c []) : wC (run (n + 1) i_l_growing []) Q X := w_def t_l_growing rfl h
theorem t_law_k19 : tbl[i_law_k19]? = some d_law_k19 := rfl
theorem e_law_k19 {n : Nat} {a0 : Slot} {Q : D → List Slot → Prop} {X : Nat → List Slot → Prop} (h : wS (s_law_k19 (run n) [a0, .no, .no, .no, .no, .no, .no, .no]) (fun r => Q .non []) (fun x r => Q x []) (fun _ => False) fun c r => X c []) : wC (run (n + 1) i_law_k19 [a0]) Q X := w_def t_law_k19 rfl h
theorem t_l_step_k19n : tbl[i_l_step_k19n]? = some d_l_step_k19n := rfl
theorem e_l_step_k19n {n : Nat} {a0 a1 a2 : Slot} {Q : D → List Slot → Prop} {X : Nat → List Slot → Prop} (h : wS (s_l_step_k19n (run n) [a0, a1, a2, .no, .no]) (fun r => Q .non []) (fun x r => Q x []) (fun _ => False) fun c r => X c []) : wC (run (n + 1) i_l_step_k19n [a0, a1, a2]) Q X := w_def t_l_step_k19n rfl h
end O
end
section
set_option linter.all false
set_option maxRecDepth 10000
/-! W2: lists told by functions; what the data's functions give. -/
namespace O
theorem fork_i {t : Bool} {A B : Prop} (h1 : t = true → A) (h2 : t = false → B) : fork (.bl t) A B := ⟨t, rfl, h1, h2⟩
theorem fork_t {A B : Prop} (h : A) : fork (.bl true) A B := ⟨true, rfl, (fun _ => h), (fun z => nomatch z)⟩
theorem fork_f {A B : Prop} (h : B) : fork (.bl false) A B := ⟨false, rfl, (fun z => nomatch z), fun _ => h⟩
def upd {α : Type} (f : Nat → α) (k : Nat) (v : α) : Nat → α := fun i => if i = k then v else f i
theorem upd_self {α : Type} (f : Nat → α) (k : Nat) (v : α) : upd f k v k = v := by simp [upd]
theorem upd_ne {α : Type} {f : Nat → α} {k i : Nat} {v : α} (h : i ≠ k) : upd f k v i = f i := by simp [upd, h]
theorem fl_set {α : Type} {n k : Nat} {f : Nat → α} {v : α} : (fl n f).set k v = fl n (upd f k v) := by
  apply List.ext_getElem?
  intro i
  by_cases hi : i < n
  · rw [fl_get hi]
    by_cases e : k = i
    · subst e
      rw [List.getElem?_set_self (by rw [fl_len]; exact hi), upd_self]
    · rw [List.getElem?_set_ne e, fl_get hi, upd_ne (Ne.symm e)]
  · rw [List.getElem?_eq_none (by rw [List.length_set, fl_len]; omega), List.getElem?_eq_none (by rw [fl_len]; omega)]
theorem fl_inj {α : Type} {n : Nat} {f g : Nat → α} : fl n f = fl n g ↔ ∀ k, k < n → f k = g k := by
  constructor
  · intro h k hk
    have h2 := congrArg (fun l => l[k]?) h
    simp only [fl_get hk] at h2
    exact Option.some.inj h2
  · exact fl_congr
theorem fl_of {α : Type} (l : List α) (d : α) : l = fl l.length fun k => l.getD k d := by
  apply List.ext_getElem?
  intro i
  by_cases hi : i < l.length
  · rw [fl_get hi, List.getD_eq_getElem?_getD, List.getElem?_eq_getElem hi]; rfl
  · rw [List.getElem?_eq_none (by omega), List.getElem?_eq_none (by rw [fl_len]; omega)]
section
variable {P : D → Prop}
theorem ex_add {a b : Int} (h : P (.int (a + b))) : ∃ z, addD (.int a) (.int b) = some z ∧ P z := ⟨_, rfl, h⟩
theorem ex_sub {a b : Int} (h : P (.int (a - b))) : ∃ z, subD (.int a) (.int b) = some z ∧ P z := ⟨_, rfl, h⟩
theorem ex_addN {a b : Nat} (h : P (.int ((a + b : Nat) : Int))) : ∃ z, addD (.int a) (.int b) = some z ∧ P z := ⟨_, rfl, by rw [Int.natCast_add] at h; exact h⟩
theorem ex_add1L {b : Nat} (h : P (.int ((1 + b : Nat) : Int))) : ∃ z, addD (.int 1) (.int b) = some z ∧ P z := ⟨_, rfl, by rw [Int.natCast_add] at h; exact h⟩
theorem ex_add1R {a : Nat} (h : P (.int ((a + 1 : Nat) : Int))) : ∃ z, addD (.int a) (.int 1) = some z ∧ P z := ⟨_, rfl, by rw [Int.natCast_add] at h; exact h⟩
theorem ex_subN {a b : Nat} (hb : b ≤ a) (h : P (.int ((a - b : Nat) : Int))) : ∃ z, subD (.int a) (.int b) = some z ∧ P z := ⟨_, rfl, by rw [Int.natCast_sub hb] at h; exact h⟩
theorem ex_sub1 {a : Nat} (hb : 1 ≤ a) (h : P (.int ((a - 1 : Nat) : Int))) : ∃ z, subD (.int a) (.int 1) = some z ∧ P z := ⟨_, rfl, by rw [Int.natCast_sub hb] at h; exact h⟩
theorem ex_modN {a b : Nat} (hb : 0 < b) (h : P (.int ((a % b : Nat) : Int))) : ∃ z, modD (.int a) (.int b) = some z ∧ P z := ⟨.int ((a % b : Nat) : Int), by rw [modD_pos (by omega), Int.natCast_emod], h⟩
theorem ex_mod {a b : Int} (hb : 0 < b) (h : P (.int (a % b))) : ∃ z, modD (.int a) (.int b) = some z ∧ P z := ⟨_, modD_pos hb, h⟩
theorem ex_fdiv {a b : Int} (hb : 0 < b ∧ b < 1073741824) (h : P (.int (a / b))) : ∃ z, fdivD (.int a) (.int b) = some z ∧ P z := ⟨.int (a / b), by simp only [fdivD]; rw [if_pos hb], h⟩
theorem ex_fdivN {a b : Nat} (hb : 0 < b ∧ b < 1073741824) (h : P (.int ((a / b : Nat) : Int))) : ∃ z, fdivD (.int a) (.int b) = some z ∧ P z := ex_fdiv (by omega) (by rw [Int.natCast_ediv] at h; exact h)
theorem ex_mul {a b : Int} (hb : -18446744073709551616 < a ∧ a < 18446744073709551616) (h : P (.int (a * b))) : ∃ z, mulD (.int a) (.int b) = some z ∧ P z := ⟨.int (a * b), by simp only [mulD]; rw [if_pos hb], h⟩
theorem ex_not {t : Bool} (h : P (.bl (!t))) : ∃ z, notD (.bl t) = some z ∧ P z := ⟨_, rfl, h⟩
theorem ex_isb {t u : Bool} (h : P (.bl (decide (u = t)))) : ∃ z, isbO t (.bl u) = some z ∧ P z := ⟨_, rfl, h⟩
theorem ex_notb {t u : Bool} (h : P (.bl (!decide (u = t)))) : ∃ z, notbO t (.bl u) = some z ∧ P z := ⟨_, rfl, h⟩
theorem ex_lt {a b : Int} (h : P (.bl (decide (a < b)))) : ∃ z, ltD (.int a) (.int b) = some z ∧ P z := ⟨_, rfl, h⟩
theorem ex_le {a b : Int} (h : P (.bl (decide (a ≤ b)))) : ∃ z, leD (.int a) (.int b) = some z ∧ P z := ⟨_, rfl, h⟩
theorem ex_gt {a b : Int} (h : P (.bl (decide (b < a)))) : ∃ z, gtD (.int a) (.int b) = some z ∧ P z := ⟨_, rfl, h⟩
theorem ex_ge {a b : Int} (h : P (.bl (decide (b ≤ a)))) : ∃ z, geD (.int a) (.int b) = some z ∧ P z := ⟨_, rfl, h⟩
theorem ex_eqI {a b : Int} (h : P (.bl (decide (a = b)))) : ∃ z, eqO (.int a) (.int b) = some z ∧ P z := ⟨_, eqO_int a b, h⟩
theorem ex_neI {a b : Int} (h : P (.bl (!decide (a = b)))) : ∃ z, neO (.int a) (.int b) = some z ∧ P z := ⟨_, neO_int a b, h⟩
theorem ex_lenF {n : Nat} {f : Nat → D} (h : P (.int n)) : ∃ z, lenD (.lst (fl n f)) = some z ∧ P z := ⟨.int n, by show some (D.int ((fl n f).length : Nat)) = _; rw [fl_len], h⟩
theorem ex_lenT {n : Nat} {f : Nat → D} (h : P (.int n)) : ∃ z, lenD (.tup (fl n f)) = some z ∧ P z := ⟨.int n, by show some (D.int ((fl n f).length : Nat)) = _; rw [fl_len], h⟩
theorem ex_lenL {xs : List D} (h : P (.int xs.length)) : ∃ z, lenD (.lst xs) = some z ∧ P z := ⟨_, rfl, h⟩
theorem atI_fl {α : Type} {n k : Nat} {f : Nat → α} (hk : k < n) : atI (fl n f) (k : Int) = some (f k) := by
  unfold atI
  rw [if_pos (by omega), Int.toNat_natCast, fl_get hk]
theorem ex_idxF {n k : Nat} {f : Nat → D} (hk : k < n) (h : P (f k)) : ∃ z, idxD (.lst (fl n f)) (.int k) = some z ∧ P z := ⟨f k, atI_fl hk, h⟩
theorem ex_idxT {n k : Nat} {f : Nat → D} (hk : k < n) (h : P (f k)) : ∃ z, idxD (.tup (fl n f)) (.int k) = some z ∧ P z := ⟨f k, atI_fl hk, h⟩
theorem ex_idxFk {n : Nat} {i : Int} {f : Nat → D} (k : Nat) (e : i = k) (hk : k < n) (h : P (f k)) : ∃ z, idxD (.lst (fl n f)) (.int i) = some z ∧ P z := by subst e; exact ex_idxF hk h
theorem ex_idxTk {n : Nat} {i : Int} {f : Nat → D} (k : Nat) (e : i = k) (hk : k < n) (h : P (f k)) : ∃ z, idxD (.tup (fl n f)) (.int i) = some z ∧ P z := by subst e; exact ex_idxT hk h
theorem ex_idxR {d i y : D} (e : idxD d i = some y) (h : P y) : ∃ z, idxD d i = some z ∧ P z := ⟨y, e, h⟩
theorem ex_setF {n k : Nat} {f : Nat → D} {v : D} (hk : k < n) (h : P (.lst (fl n (upd f k v)))) : ∃ z, setD (.lst (fl n f)) (.int k) v = some z ∧ P z := by
  refine ⟨_, ?_, h⟩
  show (posI (fl n f).length (k : Int)).map _ = _
  unfold posI
  rw [fl_len, if_pos (by omega), Int.toNat_natCast, if_pos hk]
  show some (D.lst ((fl n f).set k v)) = _
  rw [fl_set]
end
theorem map_i {n : Nat} {f : Nat → D} {j : Nat} {r1 : Env} {elt : E} {P : D → Env → Prop} {g : Nat → D} (hj : j < r1.length) (hg : ∀ k, k < n → wR (elt (r1.set j (.val 0 (f k)))) (fun y r' => y = g k ∧ r' = r1.set j (.val 0 (f k))) fun _ _ => False) (hP : P (.lst (fl n g)) r1) : mapW j elt P (fl n f) r1 := ⟨n, f, rfl, hj, g, hg, hP⟩
theorem com_i {n : Nat} {f : Nat → D} {j : Nat} {r1 : Env} {elt : E} {P : D → Env → Prop} (I : Nat → List D → Env → Prop) (h0 : I 0 [] (r1.set j .no)) (hs : ∀ i ys r, i < n → I i ys r → wR (elt (r.set j (.val 0 (f i)))) (fun y r' => I (i + 1) (ys ++ [y]) r') fun _ _ => False) (he : ∀ ys r, I n ys r → P (.lst ys) (r.set j (getS r1 j))) : comW j elt P (fl n f) r1 := ⟨n, f, rfl, I, h0, hs, he⟩
theorem fil_i {xs : List D} {j : Nat} {r1 : Env} {cond elt : E} {P : D → Env → Prop} {cf : D → Bool} {g : D → D} (hj : j < r1.length) (hc : ∀ x ∈ xs, wR (cond (r1.set j (.val 0 x))) (fun y r' => y = .bl (cf x) ∧ r' = r1.set j (.val 0 x)) fun _ _ => False) (hg : ∀ x ∈ xs, cf x = true → wR (elt (r1.set j (.val 0 x))) (fun y r' => y = g x ∧ r' = r1.set j (.val 0 x)) fun _ _ => False) (hP : P (.lst ((xs.filter cf).map g)) r1) : filW j cond elt P xs r1 := ⟨hj, cf, g, hc, hg, hP⟩
theorem rng_i {m : Nat} {P : Nat → Prop} (h : m ≤ 100000) (hP : P m) : ∃ n : Nat, D.int m = .int n ∧ n ≤ 100000 ∧ P n := ⟨m, rfl, h, hP⟩
theorem seq_l {xs : List D} {P : List D → Prop} (h : P xs) : ∃ ys, (D.lst xs = .lst ys ∨ D.lst xs = .tup ys) ∧ P ys := ⟨xs, .inl rfl, h⟩
theorem seq_t {xs : List D} {P : List D → Prop} (h : P xs) : ∃ ys, (D.tup xs = .lst ys ∨ D.tup xs = .tup ys) ∧ P ys := ⟨xs, .inr rfl, h⟩
/-! ### towns -/
structure Tn where
  nums : List Int
  c : Nat
  ne : nums ≠ []
def sT (T : Tn) : Slot := .val 2 (townD T.nums T.c)
theorem sT_fold {T : Tn} : Slot.val 2 (townD T.nums T.c) = sT T := rfl
theorem w_draw {n : Nat} {T : Tn} {k : Int} {Q : D → List Slot → Prop} {X : Nat → List Slot → Prop} (hk : 0 < k ∧ k < 1000000) (hm : T.c < 1000000) (h : ∀ (x : Nat) (T' : Tn), (x : Int) < k → T'.c = T.c + 1 → Q (.int x) [sT T']) : wC (run (n + 1) i_l_draw [sT T, .val 0 (.int k)]) Q X := by
  have hb : drawBody [.val 2 (townD T.nums T.c), .val 0 (.int k), .no, .no, .no, .no] = .ok (.rt (.int (drawF T.nums T.c k).1)) [.val 2 (townD (drawF T.nums T.c k).2.1 (drawF T.nums T.c k).2.2), .val 0 (.int k), .no, .no, .no, .no] := by
    show (match intsOf (T.nums.map .int) with
      | some nums => if 0 < k ∧ k < 1000000 ∧ nums ≠ [] ∧ 0 ≤ (T.c : Int) ∧ (T.c : Int) < 1000000 then (let q := drawF nums T.c k; (Res.ok (.rt (.int q.1)) _ : Res Flow)) else .stuck
      | none => .stuck) = _
    rw [intsOf_int]
    simp only
    rw [if_pos ⟨hk.1, hk.2, T.ne, by omega, by omega⟩]
    rfl
  obtain ⟨r1, r2⟩ := draw_range (nums := T.nums) (c := T.c) hk.1
  obtain ⟨t1, t2⟩ := draw_town (c := T.c) (n := k) T.ne
  have h1 := h (drawF T.nums T.c k).1.toNat ⟨(drawF T.nums T.c k).2.1, T.c + 1, t1⟩ (by omega) rfl
  refine wC_of (ok_def rfl rfl (okR_of hb ?_))
  rw [Int.toNat_of_nonneg r1] at h1
  show Q _ [.val 2 (townD (drawF T.nums T.c k).2.1 (drawF T.nums T.c k).2.2)]
  rw [t2]
  exact h1
theorem w_town {n : Nat} {ns : List Int} {Q : D → List Slot → Prop} {X : Nat → List Slot → Prop} (h : ∀ T : Tn, T.c = 0 → Q (townD T.nums T.c) []) : wC (run (n + 1) i_l_town [.scr ns]) Q X := wC_of (ok_town fun nums hn => h ⟨nums, 0, hn⟩ rfl)
theorem w_order {n m : Nat} {T : Tn} {Q : D → List Slot → Prop} {X : Nat → List Slot → Prop} (hm : m ≤ 1000) (hb : T.c + m < 1000000) (h : ∀ (p : List Int) (T' : Tn), p.Perm (rangeI m) → T'.c ≤ T.c + m → Q (.tup (p.map .int)) [sT T']) : wC (run (n + 2) i_l_order [sT T, .val 0 (.int m)]) Q X := by
  refine wC_of (ok_order (t := T.c) (s := sT T) ⟨T.nums, T.c, rfl, T.ne, by omega, by omega⟩ hm (by omega) fun p s' hp ht => ?_)
  obtain ⟨nums, c, rfl, hn, h0, hc⟩ := ht
  have h1 := h p ⟨nums, c.toNat, hn⟩ hp (by show c.toNat ≤ _; omega)
  have e : sT ⟨nums, c.toNat, hn⟩ = .val 2 (townD nums c) := by
    show Slot.val 2 (townD nums ((c.toNat : Nat) : Int)) = _
    rw [Int.toNat_of_nonneg h0]
  rw [e] at h1
  exact h1
theorem w_is_whole {n : Nat} {t : D} {lo hi : Int} {Q : D → List Slot → Prop} {X : Nat → List Slot → Prop} (h : Q (.bl (isWholeD t lo hi)) []) : wC (run (n + 1) i_is_whole [.val 0 t, .val 0 (.int lo), .val 0 (.int hi)]) Q X := wC_of (ok_is_whole h)
end O
end
section
set_option linter.all false
set_option maxRecDepth 10000
/-! W3: squares drawn. -/
namespace O
local macro_rules
  | `(tactic| infer_instance) => `(tactic| first
    | with_reducible refine w_seq ?_
    | with_reducible refine w_asg ?_
    | with_reducible refine w_ret ?_
    | with_reducible refine w_expr ?_
    | with_reducible refine w_ite ?_
    | with_reducible refine w_pass ?_
    | with_reducible refine w_brk ?_
    | with_reducible refine w_raise ?_
    | with_reducible refine w_unpack ?_
    | with_reducible refine w_for ?_
    | with_reducible refine w_setps ?_
    | with_reducible refine w_setp ?_
    | with_reducible refine w_puts_cons ?_
    | with_reducible refine w_puts_nil ?_
    | ((with_reducible apply w_var); exact rfl)
    | with_reducible refine w_int ?_
    | with_reducible refine w_bl ?_
    | with_reducible refine w_non ?_
    | with_reducible refine w_str ?_
    | with_reducible refine w_con ?_
    | with_reducible refine w_yes ?_
    | with_reducible refine w_idx ?_
    | with_reducible refine w_eq ?_
    | with_reducible refine w_ne ?_
    | with_reducible refine w_inn ?_
    | with_reducible refine w_notin ?_
    | with_reducible refine w_isn ?_
    | with_reducible refine w_notn ?_
    | with_reducible refine w_isb ?_
    | with_reducible refine w_notb ?_
    | with_reducible refine w_not ?_
    | with_reducible refine w_isty ?_
    | with_reducible refine w_un ?_
    | with_reducible refine w_bin ?_
    | with_reducible refine w_binM ?_
    | with_reducible refine w_and ?_
    | with_reducible refine w_or ?_
    | with_reducible refine w_if ?_
    | with_reducible refine w_chain ?_
    | with_reducible refine w_seqs_cons ?_
    | with_reducible refine w_seqs_nil ?_
    | with_reducible refine w_lst ?_
    | with_reducible refine w_tup ?_
    | with_reducible refine w_slice ?_
    | with_reducible refine w_optS ?_
    | with_reducible refine w_optN ?_
    | with_reducible refine w_path_cons ?_
    | with_reducible refine w_path_nil ?_
    | ((with_reducible apply w_pk); exact rfl)
    | ((with_reducible apply w_pth); exact rfl; exact Nat.le_of_ble_eq_true rfl)
    | ((with_reducible apply w_pki); exact rfl; exact Nat.le_of_ble_eq_true rfl)
    | ((with_reducible apply w_putT); exact rfl)
    | ((with_reducible apply w_putT3); exact rfl)
    | ((with_reducible apply w_aug3); exact rfl)
    | ((with_reducible apply w_bump3); exact rfl)
    | ((with_reducible apply w_putp); exact rfl; exact rfl)
    | ((with_reducible apply w_augp); exact rfl; exact rfl)
    | ((with_reducible apply w_bump); exact rfl; exact rfl)
    | ((with_reducible apply w_frz); exact rfl)
    | ((with_reducible apply w_retO); exact rfl)
    | ((with_reducible apply w_augI); exact rfl)
    | ((with_reducible apply w_app); exact rfl)
    | ((with_reducible apply w_ins); exact rfl)
    | ((with_reducible apply w_ext); exact rfl)
    | with_reducible refine w_call ?_
    | with_reducible refine w_callB ?_
    | with_reducible refine w_args_nil ?_
    | with_reducible refine w_args_v ?_
    | with_reducible refine w_args_fs ?_
    | ((with_reducible apply w_args_io); exact rfl)
    | ((with_reducible apply w_args_x); exact rfl)
    | ((with_reducible apply w_args_bw); exact rfl)
    | with_reducible refine w_setGo1 ?_
    | with_reducible refine w_setGo2 ?_
    | with_reducible refine w_iSeq ?_
    | with_reducible refine w_iRange ?_
    | with_reducible refine ex_addN ?_
    | with_reducible refine ex_add1L ?_
    | with_reducible refine ex_add1R ?_
    | ((with_reducible refine ex_subN ?_ ?_); omega)
    | ((with_reducible refine ex_sub1 ?_ ?_); omega)
    | ((with_reducible refine ex_modN ?_ ?_); omega)
    | ((with_reducible refine ex_fdivN ?_ ?_); omega)
    | with_reducible refine ex_add ?_
    | with_reducible refine ex_sub ?_
    | with_reducible refine ex_not ?_
    | with_reducible refine ex_isb ?_
    | with_reducible refine ex_notb ?_
    | with_reducible refine ex_lt ?_
    | with_reducible refine ex_le ?_
    | with_reducible refine ex_gt ?_
    | with_reducible refine ex_ge ?_
    | with_reducible refine ex_eqI ?_
    | with_reducible refine ex_neI ?_
    | with_reducible refine ex_lenF ?_
    | with_reducible refine ex_lenT ?_
    | ((with_reducible refine ex_idxF ?_ ?_); omega)
    | ((with_reducible refine ex_idxT ?_ ?_); omega)
    | ((with_reducible refine ex_setF ?_ ?_); omega)
    | ((with_reducible apply ex_idxR); exact rfl)
    | ((with_reducible refine rng_i ?_ ?_); omega)
    | with_reducible refine seq_l ?_
    | with_reducible refine seq_t ?_
    | ((with_reducible refine ixn_i ?_ ?_); omega)
    | with_reducible refine w_iEnum ?_
    | with_reducible refine w_iEnumT ?_
    | with_reducible refine w_iRange2 ?_
    | ((with_reducible refine enu_i ?_ ?_); omega)
    | ((with_reducible refine enu_t ?_ ?_); omega)
    | with_reducible refine ex_sum ?_
    | with_reducible refine ex_sumT ?_
    | with_reducible refine ex_tupleF ?_
    | with_reducible refine ex_tupleL ?_
    | with_reducible refine ex_listL ?_
    | with_reducible refine ex_listT ?_
    | ((with_reducible refine ex_mulN ?_ ?_); omega)
    | with_reducible refine w_map ?_
    | with_reducible refine fork_t ?_
    | with_reducible refine fork_f ?_)
local macro_rules
  | `(tactic| subst_eqs) => `(tactic| dsimp only [List.set_cons_zero, List.set_cons_succ])
local macro_rules
  | `(tactic| and_intros) => `(tactic| repeat (first
    | exact trivial
    | refine good_l fun _ _ => ?_
    | refine good_t fun _ _ => ?_
    | exact good_l0
    | exact good_t0
    | refine good_lc ?_ ?_
    | refine good_tc ?_ ?_))
/-- one for each -/
def Inj (m : Nat) (q : Nat → Nat) : Prop := (∀ k, k < m → q k < m) ∧ ∀ i j, i < m → j < m → q i = q j → i = j
def Sq (m : Nat) (f : Nat → Nat → Nat) : Prop := (∀ i, i < m → Inj m (f i)) ∧ ∀ j, j < m → Inj m fun i => f i j
abbrev rowD (m : Nat) (q : Nat → Nat) : D := .lst (fl m fun k => .int (q k))
abbrev tabD (n m : Nat) (f : Nat → Nat → Nat) : D := .lst (fl n fun i => rowD m (f i))
theorem perm_fn {m : Nat} {p : List Int} (h : p.Perm (rangeI m)) : ∃ q, p = fl m (fun k => (q k : Int)) ∧ Inj m q := by
  have hl : p.length = m := by rw [h.length_eq]; simp [rangeI]
  have hm : ∀ x ∈ p, 0 ≤ x ∧ x < (m : Int) := by
    intro x hx
    have := h.mem_iff.mp hx
    simp [rangeI] at this
    omega
  have hn : p.Nodup := h.nodup_iff.mpr (by
    unfold rangeI
    refine List.Pairwise.map _ ?_ (List.nodup_range (n := m))
    intro a b hab h2
    exact hab (by omega))
  have hg : ∀ k, k < m → p.getD k 0 ∈ p := fun k hk => by
    rw [List.getD_eq_getElem?_getD, List.getElem?_eq_getElem (by omega)]
    exact List.getElem_mem _
  refine ⟨fun k => (p.getD k 0).toNat, ?_, fun k hk => ?_, fun i j hi hj e => ?_⟩
  · have e := fl_of p 0
    rw [hl] at e
    rw [e]
    apply fl_congr
    intro k hk
    have := hm _ (hg k hk)
    rw [← e]
    simp only
    omega
  · have := hm _ (hg k hk)
    show (p.getD k 0).toNat < m
    omega
  · have h1 := hm _ (hg i hi)
    have h2 := hm _ (hg j hj)
    have e2 : p.getD i 0 = p.getD j 0 := by simp only at e; omega
    rw [List.getD_eq_getElem?_getD, List.getD_eq_getElem?_getD, List.getElem?_eq_getElem (by omega), List.getElem?_eq_getElem (by omega)] at e2
    have hp := List.pairwise_iff_getElem.mp hn
    simp only [Option.getD_some] at e2
    rcases Nat.lt_trichotomy i j with hij | hij | hij
    · exact absurd e2 (hp i j (by omega) (by omega) hij)
    · exact hij
    · exact absurd e2.symm (hp j i (by omega) (by omega) hij)
theorem Inj.comp {m : Nat} {p q : Nat → Nat} (hp : Inj m p) (hq : Inj m q) : Inj m fun k => p (q k) :=
  ⟨fun k hk => hp.1 _ (hq.1 k hk), fun i j hi hj e => hq.2 i j hi hj (hp.2 _ _ (hq.1 i hi) (hq.1 j hj) e)⟩
theorem inj_shift {m a : Nat} (hm : 0 < m) : Inj m fun k => (a + k) % m := by
  refine ⟨fun k _ => Nat.mod_lt _ hm, fun i j hi hj e => ?_⟩
  simp only at e
  have h1 := Nat.div_add_mod (a + i) m
  have h2 := Nat.div_add_mod (a + j) m
  rw [e] at h1
  have h3 : m * ((a + i) / m) + j = m * ((a + j) / m) + i := by omega
  rcases Nat.lt_trichotomy ((a + i) / m) ((a + j) / m) with h | h | h
  · have := Nat.mul_le_mul_left m (show (a + i) / m + 1 ≤ (a + j) / m from h)
    rw [Nat.mul_add] at this
    omega
  · rw [h] at h3; omega
  · have := Nat.mul_le_mul_left m (show (a + j) / m + 1 ≤ (a + i) / m from h)
    rw [Nat.mul_add] at this
    omega
theorem sq_of {m : Nat} {p q s : Nat → Nat} (hm : 0 < m) (hp : Inj m p) (hq : Inj m q) (hs : Inj m s) : Sq m fun i j => s ((p i + q j) % m) := by
  refine ⟨fun i hi => ?_, fun j hj => ?_⟩
  · exact hs.comp ((inj_shift (a := p i) hm).comp hq)
  · have := hs.comp ((inj_shift (a := q j) hm).comp hp)
    refine ⟨fun k hk => ?_, fun a b ha hb e => this.2 a b ha hb ?_⟩
    · have := this.1 k hk
      simp only at this
      rw [Nat.add_comm] at this
      exact this
    · simp only at e ⊢
      rw [Nat.add_comm (q j), Nat.add_comm (q j)]
      exact e
/-- two places exchanged -/
def swp (a b k : Nat) : Nat := if k = a then b else if k = b then a else k
theorem swp_swp (a b k : Nat) : swp a b (swp a b k) = k := by unfold swp; split <;> split <;> simp_all
theorem inj_swp {m a b : Nat} (ha : a < m) (hb : b < m) : Inj m (swp a b) := by
  refine ⟨fun k hk => ?_, fun i j hi hj e => ?_⟩
  · unfold swp; split
    · exact hb
    · split
      · exact ha
      · exact hk
  · have := congrArg (swp a b) e
    rwa [swp_swp, swp_swp] at this
/-- four cells changed -/
def exch (f : Nat → Nat → Nat) (a b c d : Nat) : Nat → Nat → Nat := fun i j => if i = a ∧ (j = c ∨ j = d) then f b j else if i = b ∧ (j = c ∨ j = d) then f a j else f i j
theorem sq_exch {m : Nat} {f : Nat → Nat → Nat} {a b c d : Nat} (h : Sq m f) (ha : a < m) (hb : b < m) (hc : c < m) (hd : d < m) (hab : a ≠ b) (h1 : f b d = f a c) (h2 : f b c = f a d) : Sq m (exch f a b c d) := by
  refine ⟨fun i hi => ?_, fun j hj => ?_⟩
  · by_cases e1 : i = a
    · subst e1
      have : exch f i b c d i = fun j => f i (swp c d j) := by
        funext j
        unfold exch swp
        by_cases hj : j = c
        · subst hj; simp [h2]
        · by_cases hj2 : j = d
          · subst hj2; simp [hj, h1]
          · simp [hj, hj2, hab]
      rw [this]
      exact (h.1 i hi).comp (inj_swp hc hd)
    · by_cases e2 : i = b
      · subst e2
        have : exch f a i c d i = fun j => f i (swp c d j) := by
          funext j
          unfold exch swp
          by_cases hj : j = c
          · subst hj; simp [h1, e1]
          · by_cases hj2 : j = d
            · subst hj2; simp [hj, h2, e1]
            · simp [hj, hj2]
        rw [this]
        exact (h.1 i hi).comp (inj_swp hc hd)
      · have : exch f a b c d i = f i := by
          funext j
          simp [exch, e1, e2]
        rw [this]
        exact h.1 i hi
  · by_cases e1 : j = c ∨ j = d
    · have : (fun i => exch f a b c d i j) = fun i => f (swp a b i) j := by
        funext i
        unfold exch swp
        by_cases hi : i = a
        · subst hi; simp [e1]
        · by_cases hi2 : i = b
          · subst hi2; simp [hi, e1]
          · simp [hi, hi2]
      rw [this]
      have h3 := h.2 j hj
      exact Inj.comp h3 (inj_swp ha hb)
    · have : (fun i => exch f a b c d i j) = fun i => f i j := by
        funext i
        simp [exch, e1]
      rw [this]
      exact h.2 j hj
/-- one of a one-for-each is found -/
theorem inj_onto : ∀ {m : Nat} {q : Nat → Nat}, Inj m q → ∀ {v : Nat}, v < m → ∃ k, k < m ∧ q k = v
  | 0, _, _, _, hv => absurd hv (Nat.not_lt_zero _)
  | m + 1, q, h, v, hv => by
    have h2 : Inj (m + 1) fun k => swp (q m) m (q k) := (inj_swp (h.1 m (by omega)) (by omega)).comp h
    have hm : swp (q m) m (q m) = m := by simp [swp]
    have h3 : Inj m fun k => swp (q m) m (q k) := by
      refine ⟨fun k hk => ?_, fun i j hi hj e => h2.2 i j (by omega) (by omega) e⟩
      have h4 := h2.1 k (by omega)
      simp only at h4 ⊢
      have h5 : swp (q m) m (q k) ≠ m := fun e => by
        have := h2.2 k m (by omega) (by omega) (by simp only [hm]; exact e)
        omega
      omega
    by_cases hv2 : swp (q m) m v = m
    · refine ⟨m, by omega, ?_⟩
      have := congrArg (swp (q m) m) hv2
      rw [swp_swp] at this
      rw [this]
      unfold swp
      split
      · omega
      · simp
    · have h6 := (inj_swp (m := m + 1) (h.1 m (by omega)) (Nat.lt_succ_self m)).1 v hv
      obtain ⟨k, hk, e⟩ := inj_onto h3 (v := swp (q m) m v) (by omega)
      refine ⟨k, by omega, ?_⟩
      have := congrArg (swp (q m) m) e
      simp only [swp_swp] at this
      exact this
def upd2 (f : Nat → Nat → Nat) (a b v : Nat) : Nat → Nat → Nat := fun i j => if i = a ∧ j = b then v else f i j
theorem set_tab {m : Nat} {f : Nat → Nat → Nat} {a b v : Nat} : upd (fun i => rowD m (f i)) a (.lst (fl m (upd (fun j => D.int (f a j)) b (.int v)))) = fun i => rowD m (upd2 f a b v i) := by
  funext i
  unfold upd upd2
  split
  · rename_i h
    subst h
    show D.lst _ = D.lst _
    congr 1
    apply fl_congr
    intro k _
    by_cases e : k = b <;> simp [e]
  · rename_i h
    simp [h]
theorem ixn_i {a n : Nat} {K : Nat → Prop} (ha : a < n) (h : K a) : ∃ a' : Nat, D.int a = .int a' ∧ a' < n ∧ K a' := ⟨a, rfl, ha, h⟩
theorem w_putT {r : Env} {N B : Env → Prop} {R : D → Env → Prop} {X : Nat → Env → Prop} {i n m : Nat} {f : Nat → Nat → Nat} {e1 e2 : E} {v : Nat} (hg : getS r i = .val 2 (tabD n m f)) (h : wR (e1 r) (fun x r1 => ∃ a : Nat, x = .int a ∧ a < n ∧ wR (e2 r1) (fun y r2 => ∃ b : Nat, y = .int b ∧ b < m ∧ N (r2.set i (.val 2 (tabD n m (upd2 f a b v))))) X) X) : wS (S.putp i [e1, e2] (.int v) r) N R B X := by
  refine w_putp hg rfl (w_setGo2 (wR_mono h (fun x r1 ⟨a, hx, ha, h⟩ => ?_) fun _ _ h => h))
  subst hx
  refine ex_idxF ha (w_setGo1 (wR_mono h (fun x r1 ⟨b, hx, hb, h⟩ => ?_) fun _ _ h => h))
  subst hx
  refine ex_setF hb (ex_setF ha ?_)
  rw [set_tab]
  exact h
end O
end
section
set_option linter.all false
set_option maxRecDepth 10000
/-! W4: the law's drawn square. -/
namespace O
local macro_rules
  | `(tactic| infer_instance) => `(tactic| first
    | with_reducible refine w_seq ?_
    | with_reducible refine w_asg ?_
    | with_reducible refine w_ret ?_
    | with_reducible refine w_expr ?_
    | with_reducible refine w_ite ?_
    | with_reducible refine w_pass ?_
    | with_reducible refine w_brk ?_
    | with_reducible refine w_raise ?_
    | with_reducible refine w_unpack ?_
    | with_reducible refine w_for ?_
    | with_reducible refine w_setps ?_
    | with_reducible refine w_setp ?_
    | with_reducible refine w_puts_cons ?_
    | with_reducible refine w_puts_nil ?_
    | ((with_reducible apply w_var); exact rfl)
    | with_reducible refine w_int ?_
    | with_reducible refine w_bl ?_
    | with_reducible refine w_non ?_
    | with_reducible refine w_str ?_
    | with_reducible refine w_con ?_
    | with_reducible refine w_yes ?_
    | with_reducible refine w_idx ?_
    | with_reducible refine w_eq ?_
    | with_reducible refine w_ne ?_
    | with_reducible refine w_inn ?_
    | with_reducible refine w_notin ?_
    | with_reducible refine w_isn ?_
    | with_reducible refine w_notn ?_
    | with_reducible refine w_isb ?_
    | with_reducible refine w_notb ?_
    | with_reducible refine w_not ?_
    | with_reducible refine w_isty ?_
    | with_reducible refine w_un ?_
    | with_reducible refine w_bin ?_
    | with_reducible refine w_binM ?_
    | with_reducible refine w_and ?_
    | with_reducible refine w_or ?_
    | with_reducible refine w_if ?_
    | with_reducible refine w_chain ?_
    | with_reducible refine w_seqs_cons ?_
    | with_reducible refine w_seqs_nil ?_
    | with_reducible refine w_lst ?_
    | with_reducible refine w_tup ?_
    | with_reducible refine w_slice ?_
    | with_reducible refine w_optS ?_
    | with_reducible refine w_optN ?_
    | with_reducible refine w_path_cons ?_
    | with_reducible refine w_path_nil ?_
    | ((with_reducible apply w_pk); exact rfl)
    | ((with_reducible apply w_pth); exact rfl; exact Nat.le_of_ble_eq_true rfl)
    | ((with_reducible apply w_pki); exact rfl; exact Nat.le_of_ble_eq_true rfl)
    | ((with_reducible apply w_putT); exact rfl)
    | ((with_reducible apply w_putT3); exact rfl)
    | ((with_reducible apply w_aug3); exact rfl)
    | ((with_reducible apply w_bump3); exact rfl)
    | ((with_reducible apply w_putp); exact rfl; exact rfl)
    | ((with_reducible apply w_augp); exact rfl; exact rfl)
    | ((with_reducible apply w_bump); exact rfl; exact rfl)
    | ((with_reducible apply w_frz); exact rfl)
    | ((with_reducible apply w_retO); exact rfl)
    | ((with_reducible apply w_augI); exact rfl)
    | ((with_reducible apply w_app); exact rfl)
    | ((with_reducible apply w_ins); exact rfl)
    | ((with_reducible apply w_ext); exact rfl)
    | with_reducible refine w_call ?_
    | with_reducible refine w_callB ?_
    | with_reducible refine w_args_nil ?_
    | with_reducible refine w_args_v ?_
    | with_reducible refine w_args_fs ?_
    | ((with_reducible apply w_args_io); exact rfl)
    | ((with_reducible apply w_args_x); exact rfl)
    | ((with_reducible apply w_args_bw); exact rfl)
    | with_reducible refine w_setGo1 ?_
    | with_reducible refine w_setGo2 ?_
    | with_reducible refine w_iSeq ?_
    | with_reducible refine w_iRange ?_
    | with_reducible refine ex_addN ?_
    | with_reducible refine ex_add1L ?_
    | with_reducible refine ex_add1R ?_
    | ((with_reducible refine ex_subN ?_ ?_); omega)
    | ((with_reducible refine ex_sub1 ?_ ?_); omega)
    | ((with_reducible refine ex_modN ?_ ?_); omega)
    | ((with_reducible refine ex_fdivN ?_ ?_); omega)
    | with_reducible refine ex_add ?_
    | with_reducible refine ex_sub ?_
    | with_reducible refine ex_not ?_
    | with_reducible refine ex_isb ?_
    | with_reducible refine ex_notb ?_
    | with_reducible refine ex_lt ?_
    | with_reducible refine ex_le ?_
    | with_reducible refine ex_gt ?_
    | with_reducible refine ex_ge ?_
    | with_reducible refine ex_eqI ?_
    | with_reducible refine ex_neI ?_
    | with_reducible refine ex_lenF ?_
    | with_reducible refine ex_lenT ?_
    | ((with_reducible refine ex_idxF ?_ ?_); omega)
    | ((with_reducible refine ex_idxT ?_ ?_); omega)
    | ((with_reducible refine ex_setF ?_ ?_); omega)
    | ((with_reducible apply ex_idxR); exact rfl)
    | ((with_reducible refine rng_i ?_ ?_); omega)
    | with_reducible refine seq_l ?_
    | with_reducible refine seq_t ?_
    | ((with_reducible refine ixn_i ?_ ?_); omega)
    | with_reducible refine w_iEnum ?_
    | with_reducible refine w_iEnumT ?_
    | with_reducible refine w_iRange2 ?_
    | ((with_reducible refine enu_i ?_ ?_); omega)
    | ((with_reducible refine enu_t ?_ ?_); omega)
    | with_reducible refine ex_sum ?_
    | with_reducible refine ex_sumT ?_
    | with_reducible refine ex_tupleF ?_
    | with_reducible refine ex_tupleL ?_
    | with_reducible refine ex_listL ?_
    | with_reducible refine ex_listT ?_
    | ((with_reducible refine ex_mulN ?_ ?_); omega)
    | with_reducible refine w_map ?_
    | with_reducible refine fork_t ?_
    | with_reducible refine fork_f ?_)
local macro_rules
  | `(tactic| subst_eqs) => `(tactic| dsimp only [List.set_cons_zero, List.set_cons_succ])
local macro_rules
  | `(tactic| and_intros) => `(tactic| repeat (first
    | exact trivial
    | refine good_l fun _ _ => ?_
    | refine good_t fun _ _ => ?_
    | exact good_l0
    | exact good_t0
    | refine good_lc ?_ ?_
    | refine good_tc ?_ ?_))
theorem index_fl : ∀ {m k v : Nat} {q : Nat → Nat}, k < m → q k = v → (∀ j, j < k → q j ≠ v) → indexL (.int v) (fl m fun j => .int (q j)) = some k
  | 0, k, _, _, hk, _, _ => absurd hk (Nat.not_lt_zero _)
  | m + 1, k, v, q, hk, e, hn => by
    rw [fl_succ]
    unfold indexL
    cases k with
    | zero =>
      have : eqD (.int (q 0)) (.int v) = true := by simp [eqD, e]
      rw [if_pos this]
    | succ k =>
      have : ¬ eqD (.int (q 0)) (.int v) = true := by
        have := hn 0 (by omega)
        simp [eqD]; omega
      rw [if_neg this, index_fl (m := m) (k := k) (v := v) (q := fun j => q (j + 1)) (by omega) e (fun j hj => hn (j + 1) (by omega))]
      rfl
theorem indexD_fl {m k v : Nat} {q : Nat → Nat} (hk : k < m) (e : q k = v) (hn : ∀ j, j < k → q j ≠ v) : indexD (rowD m q) (.int v) = some (.int k) := by
  show (if flatD (.int v) && (fl m fun j => D.int (q j)).all flatD then _ else none) = _
  have h1 : (fl m fun j => D.int (q j)).all flatD = true := List.all_eq_true.mpr fun x hx => by
    obtain ⟨k, _, rfl⟩ := mem_fl.mp hx
    rfl
  rw [h1, index_fl hk e hn]
  rfl
theorem ex_index {P : D → Prop} {m v : Nat} {q : Nat → Nat} (hq : Inj m q) (hv : v < m) (h : ∀ k, k < m → q k = v → P (.int k)) : ∃ z, indexD (rowD m q) (.int v) = some z ∧ P z := by
  obtain ⟨k, hk, e⟩ := inj_onto hq hv
  exact ⟨.int k, indexD_fl hk e (fun j hj e2 => by have := hq.2 j k (by omega) hk (e2.trans e.symm); omega), h k hk e⟩
theorem exch_eq {f : Nat → Nat → Nat} {a b j k : Nat} (hjk : j ≠ k) (hab : a ≠ b) (ek : f b k = f a j) (he : f b j = f a k) : upd2 (upd2 (upd2 (upd2 f a j (f b j)) b j (f a j)) a k (f a j)) b k (f b j) = exch f a b j k := by
  funext x y
  unfold upd2 exch
  by_cases h1 : x = a <;> by_cases h2 : x = b <;> by_cases h3 : y = j <;> by_cases h4 : y = k <;> simp_all
theorem w_l_square {n m : Nat} {T : Tn} {Q : D → List Slot → Prop} {X : Nat → List Slot → Prop} (h1 : 1 ≤ m) (h7 : m ≤ 7) (hb : T.c + 100 < 1000000) (h : ∀ f (T' : Tn), Sq m f → T'.c ≤ T.c + 3 * m + 7 → Q (tabD m m f) [sT T']) : wC (run (n + 3) i_l_square [sT T, .val 0 (.int m)]) Q X := by
  refine e_l_square ?_
  unfold s_l_square
  iterate 2 infer_instance
  refine w_compI ?_
  repeat infer_instance
  refine ⟨3, rfl, by omega, com_i (fun i ys r => ∃ T' s7, r = [sT T', .val 0 (.int m), .no, .no, .no, .no, .no, s7, .no, .no, .no, .no, .no] ∧ T'.c ≤ T.c + i * m ∧ ys.length = i ∧ ∀ y ∈ ys, ∃ q, Inj m q ∧ y = .tup (fl m fun k => .int (q k))) ⟨T, .no, rfl, by omega, rfl, by simp⟩ ?_ ?_⟩
  · rintro i ys r hi ⟨T', s7, rfl, hc, hl, hy⟩
    have hmi : i * m ≤ 2 * m := Nat.mul_le_mul_right m (by omega)
    repeat infer_instance
    refine w_order (by omega) (by omega) fun p T2 hp h2 => ⟨_, rfl, ?_⟩
    obtain ⟨q, rfl, hq⟩ := perm_fn hp
    refine ⟨T2, _, rfl, by rw [Nat.add_mul]; omega, by simp [hl], fun y hy' => ?_⟩
    rcases List.mem_append.mp hy' with h | h
    · exact hy y h
    · rw [List.mem_singleton.mp h, fl_map]
      exact ⟨q, hq, rfl⟩
  rintro ys r ⟨T1, s7, rfl, hc1, hl, hy⟩
  match ys, hl with
  | [y0, y1, y2], _ =>
  obtain ⟨p, hp, rfl⟩ := hy y0 (by simp)
  obtain ⟨q, hq, rfl⟩ := hy y1 (by simp)
  obtain ⟨s, hs, rfl⟩ := hy y2 (by simp)
  repeat infer_instance
  subst_eqs
  refine w_loop (fun i r => ∃ s4, r = [sT T1, .val 0 (.int m), .val 0 (.lst [.tup (fl m fun k => .int (p k)), .tup (fl m fun k => .int (q k)), .tup (fl m fun k => .int (s k))]), .val 2 (tabD i m fun i j => s ((p i + q j) % m)), s4, .no, .no, .no, .no, .no, .no, .no, .no]) ⟨_, rfl⟩ ?_ ?_
  · rintro i r hi ⟨s4, rfl⟩
    refine ⟨_, rfl, ?_⟩
    subst_eqs
    repeat infer_instance
    apply map_i (Nat.le_of_ble_eq_true rfl)
    · intro k hk
      subst_eqs
      repeat infer_instance
      exact ex_idxT (Nat.mod_lt _ (by omega)) ⟨rfl, rfl⟩
    · refine ⟨_, rfl, by rw [fl_len]; omega, .val 0 (.int i), ?_⟩
      subst_eqs
      rw [← fl_snoc (f := fun i => rowD m fun j => s ((p i + q j) % m))]
  rintro r ⟨s4, rfl⟩
  have hsq : Sq m fun i j => s ((p i + q j) % m) := sq_of (by omega) hp hq hs
  generalize (fun i j => s ((p i + q j) % m)) = f0 at hsq
  repeat infer_instance
  refine w_draw (by omega) (by omega) fun x T2 hx h2 => ⟨_, rfl, ?_⟩
  refine rng_i (by omega) ?_
  subst_eqs
  refine w_loop (fun i r => ∃ f T2 s5 s6 s8 s9 s10 s11, r = [sT T2, .val 0 (.int m), .val 0 (.lst [.tup (fl m fun k => .int (p k)), .tup (fl m fun k => .int (q k)), .tup (fl m fun k => .int (s k))]), .val 2 (tabD m m f), s4, s5, s6, .no, s8, s9, s10, s11, .no] ∧ T2.c ≤ T.c + 3 * m + 1 + 2 * i ∧ Sq m f) ⟨f0, T2, _, _, _, _, _, _, rfl, by omega, hsq⟩ ?_ ?_
  · rintro i r hi ⟨f, T3, s5, s6, s8, s9, s10, s11, rfl, hc3, hf⟩
    refine ⟨_, rfl, ?_⟩
    repeat infer_instance
    refine w_draw (by omega) (by omega) fun a T4 ha h4 => ⟨_, rfl, ?_⟩
    repeat infer_instance
    refine w_draw (by omega) (by omega) fun b T5 hb' h5 => ⟨_, rfl, ?_⟩
    have ha : a < m := by omega
    have hb' : b < m := by omega
    repeat infer_instance
    refine ⟨_, rfl, ?_⟩
    repeat infer_instance
    subst_eqs
    refine w_loop (fun j r => ∃ s6 s10 s11, r = [sT T5, .val 0 (.int m), .val 0 (.lst [.tup (fl m fun k => .int (p k)), .tup (fl m fun k => .int (q k)), .tup (fl m fun k => .int (s k))]), .val 2 (tabD m m f), s4, .val 0 (.int i), s6, .no, .val 0 (.int a), .val 0 (.int b), s10, s11, .no]) ⟨_, _, _, rfl⟩ ?_ ?_
    · rintro j r hj ⟨s6, s10, s11, rfl⟩
      refine ⟨_, rfl, ?_⟩
      subst_eqs
      repeat infer_instance
      refine ⟨rfl, ?_⟩
      repeat infer_instance
      refine ex_index (hf.1 b hb') ((hf.1 a ha).1 j hj) fun k hk ek => ?_
      repeat infer_instance
      refine fork_i (fun hab => ?_) (fun _ => fork_f (w_pass ⟨_, _, _, rfl⟩))
      repeat infer_instance
      refine fork_i (fun he => ?_) (fun _ => w_pass ⟨_, _, _, rfl⟩)
      have hab : a ≠ b := by simp at hab; omega
      have he : f b j = f a k := by simp at he; omega
      repeat infer_instance
      refine ⟨_, T5, _, _, _, _, _, _, rfl, by omega, ?_⟩
      have hjk : j ≠ k := fun z => by
        subst z
        exact hab ((hf.2 j hj).2 a b ha hb' ek.symm)
      rw [exch_eq hjk hab ek he]
      exact sq_exch hf ha hb' hj hk hab ek he
    · rintro r ⟨s6, s10, s11, rfl⟩
      exact ⟨f, T5, _, _, _, _, _, _, rfl, by omega, hf⟩
  · rintro r ⟨f, T3, s5, s6, s8, s9, s10, s11, rfl, hc3, hf⟩
    repeat infer_instance
    exact h f T3 hf (by omega)
end O
end
section
set_option linter.all false
set_option maxRecDepth 10000
/-! W5: data without truth values; squares looked at. -/
namespace O
/-- no truth value in it, not too deep -/
def good : Nat → D → Prop
  | _, .int _ => True
  | _, .non => True
  | _, .str _ => True
  | n + 1, .lst xs => ∀ x ∈ xs, good n x
  | n + 1, .tup xs => ∀ x ∈ xs, good n x
  | _, _ => False
theorem good_l {n m : Nat} {f : Nat → D} (h : ∀ k, k < m → good n (f k)) : good (n + 1) (.lst (fl m f)) := fun x hx => by
  obtain ⟨k, hk, rfl⟩ := mem_fl.mp hx
  exact h k hk
theorem good_t {n m : Nat} {f : Nat → D} (h : ∀ k, k < m → good n (f k)) : good (n + 1) (.tup (fl m f)) := fun x hx => by
  obtain ⟨k, hk, rfl⟩ := mem_fl.mp hx
  exact h k hk
theorem good_l0 {n : Nat} : good (n + 1) (.lst []) := fun x hx => nomatch hx
theorem good_t0 {n : Nat} : good (n + 1) (.tup []) := fun x hx => nomatch hx
theorem good_lc {n : Nat} {x : D} {xs : List D} (h1 : good n x) (h2 : good (n + 1) (.lst xs)) : good (n + 1) (.lst (x :: xs)) := fun y hy => by
  rcases List.mem_cons.mp hy with rfl | h
  · exact h1
  · exact h2 y h
theorem good_tc {n : Nat} {x : D} {xs : List D} (h1 : good n x) (h2 : good (n + 1) (.tup xs)) : good (n + 1) (.tup (x :: xs)) := fun y hy => by
  rcases List.mem_cons.mp hy with rfl | h
  · exact h1
  · exact h2 y h
theorem good_shp : ∀ (n : Nat) (d : D), good n d → shp n d = true
  | n, .int _, _ => by cases n <;> rfl
  | n, .non, _ => by cases n <;> rfl
  | n, .str _, _ => by cases n <;> rfl
  | n, .bl _, h => by cases n <;> exact h.elim
  | 0, .lst _, h => h.elim
  | 0, .tup _, h => h.elim
  | n + 1, .lst xs, h => by
    show xs.all (shp n) = true
    exact List.all_eq_true.mpr fun x hx => good_shp n x (h x hx)
  | n + 1, .tup xs, h => by
    show xs.all (shp n) = true
    exact List.all_eq_true.mpr fun x hx => good_shp n x (h x hx)
theorem good_eqs {n : Nat} (ih : ∀ a b, good n a → good n b → (eqD a b = true ↔ a = b)) : ∀ xs ys : List D, (∀ x ∈ xs, good n x) → (∀ x ∈ ys, good n x) → (eqDs xs ys = true ↔ xs = ys)
  | [], [], _, _ => by simp [eqDs]
  | [], _ :: _, _, _ => by simp [eqDs]
  | _ :: _, [], _, _ => by simp [eqDs]
  | x :: xs, y :: ys, h1, h2 => by
    simp only [eqDs, Bool.and_eq_true, List.cons.injEq]
    rw [ih x y (h1 x (by simp)) (h2 y (by simp)), good_eqs ih xs ys (fun z hz => h1 z (by simp [hz])) fun z hz => h2 z (by simp [hz])]
theorem good_eq : ∀ (n : Nat) (a b : D), good n a → good n b → (eqD a b = true ↔ a = b) := by
  intro n
  induction n with
  | zero =>
    intro a b ha hb
    cases a <;> cases b <;> simp_all [good, eqD]
  | succ n ih =>
    intro a b ha hb
    cases a <;> cases b <;> simp_all [good, eqD]
    · exact good_eqs ih _ _ ha hb
    · exact good_eqs ih _ _ ha hb
section
variable {P : D → Prop} {a b : D}
theorem ex_eq (ha : good 9 a) (hb : good 9 b) (h : ∀ t, (t = true ↔ a = b) → P (.bl t)) : ∃ z, eqO a b = some z ∧ P z := by
  refine ⟨.bl (eqD a b), ?_, h _ (good_eq 9 a b ha hb)⟩
  unfold eqO
  rw [good_shp 9 a ha, good_shp 9 b hb]
  rfl
theorem ex_ne (ha : good 9 a) (hb : good 9 b) (h : ∀ t, (t = true ↔ a = b) → P (.bl (!t))) : ∃ z, neO a b = some z ∧ P z := by
  refine ⟨.bl (!eqD a b), ?_, h _ (good_eq 9 a b ha hb)⟩
  unfold neO
  rw [good_shp 9 a ha, good_shp 9 b hb]
  rfl
theorem ex_eqS (ha : good 9 a) (e : a = b) (h : P (.bl true)) : ∃ z, eqO a b = some z ∧ P z := by
  subst e
  exact ex_eq ha ha fun t ht => by rw [ht.mpr rfl]; exact h
theorem ex_neS (ha : good 9 a) (e : a = b) (h : P (.bl false)) : ∃ z, neO a b = some z ∧ P z := by
  subst e
  exact ex_ne ha ha fun t ht => by rw [ht.mpr rfl]; exact h
end
local macro_rules
  | `(tactic| infer_instance) => `(tactic| first
    | with_reducible refine w_seq ?_
    | with_reducible refine w_asg ?_
    | with_reducible refine w_ret ?_
    | with_reducible refine w_expr ?_
    | with_reducible refine w_ite ?_
    | with_reducible refine w_pass ?_
    | with_reducible refine w_brk ?_
    | with_reducible refine w_raise ?_
    | with_reducible refine w_unpack ?_
    | with_reducible refine w_for ?_
    | with_reducible refine w_setps ?_
    | with_reducible refine w_setp ?_
    | with_reducible refine w_puts_cons ?_
    | with_reducible refine w_puts_nil ?_
    | ((with_reducible apply w_var); exact rfl)
    | with_reducible refine w_int ?_
    | with_reducible refine w_bl ?_
    | with_reducible refine w_non ?_
    | with_reducible refine w_str ?_
    | with_reducible refine w_con ?_
    | with_reducible refine w_yes ?_
    | with_reducible refine w_idx ?_
    | with_reducible refine w_eq ?_
    | with_reducible refine w_ne ?_
    | with_reducible refine w_inn ?_
    | with_reducible refine w_notin ?_
    | with_reducible refine w_isn ?_
    | with_reducible refine w_notn ?_
    | with_reducible refine w_isb ?_
    | with_reducible refine w_notb ?_
    | with_reducible refine w_not ?_
    | with_reducible refine w_isty ?_
    | with_reducible refine w_un ?_
    | with_reducible refine w_bin ?_
    | with_reducible refine w_binM ?_
    | with_reducible refine w_and ?_
    | with_reducible refine w_or ?_
    | with_reducible refine w_if ?_
    | with_reducible refine w_chain ?_
    | with_reducible refine w_seqs_cons ?_
    | with_reducible refine w_seqs_nil ?_
    | with_reducible refine w_lst ?_
    | with_reducible refine w_tup ?_
    | with_reducible refine w_slice ?_
    | with_reducible refine w_optS ?_
    | with_reducible refine w_optN ?_
    | with_reducible refine w_path_cons ?_
    | with_reducible refine w_path_nil ?_
    | ((with_reducible apply w_pk); exact rfl)
    | ((with_reducible apply w_pth); exact rfl; exact Nat.le_of_ble_eq_true rfl)
    | ((with_reducible apply w_pki); exact rfl; exact Nat.le_of_ble_eq_true rfl)
    | ((with_reducible apply w_putT); exact rfl)
    | ((with_reducible apply w_putT3); exact rfl)
    | ((with_reducible apply w_aug3); exact rfl)
    | ((with_reducible apply w_bump3); exact rfl)
    | ((with_reducible apply w_putp); exact rfl; exact rfl)
    | ((with_reducible apply w_augp); exact rfl; exact rfl)
    | ((with_reducible apply w_bump); exact rfl; exact rfl)
    | ((with_reducible apply w_frz); exact rfl)
    | ((with_reducible apply w_retO); exact rfl)
    | ((with_reducible apply w_augI); exact rfl)
    | ((with_reducible apply w_app); exact rfl)
    | ((with_reducible apply w_ins); exact rfl)
    | ((with_reducible apply w_ext); exact rfl)
    | with_reducible refine w_call ?_
    | with_reducible refine w_callB ?_
    | with_reducible refine w_args_nil ?_
    | with_reducible refine w_args_v ?_
    | with_reducible refine w_args_fs ?_
    | ((with_reducible apply w_args_io); exact rfl)
    | ((with_reducible apply w_args_x); exact rfl)
    | ((with_reducible apply w_args_bw); exact rfl)
    | with_reducible refine w_setGo1 ?_
    | with_reducible refine w_setGo2 ?_
    | with_reducible refine w_iSeq ?_
    | with_reducible refine w_iRange ?_
    | with_reducible refine ex_addN ?_
    | with_reducible refine ex_add1L ?_
    | with_reducible refine ex_add1R ?_
    | ((with_reducible refine ex_subN ?_ ?_); omega)
    | ((with_reducible refine ex_sub1 ?_ ?_); omega)
    | ((with_reducible refine ex_modN ?_ ?_); omega)
    | ((with_reducible refine ex_fdivN ?_ ?_); omega)
    | with_reducible refine ex_add ?_
    | with_reducible refine ex_sub ?_
    | with_reducible refine ex_not ?_
    | with_reducible refine ex_isb ?_
    | with_reducible refine ex_notb ?_
    | with_reducible refine ex_lt ?_
    | with_reducible refine ex_le ?_
    | with_reducible refine ex_gt ?_
    | with_reducible refine ex_ge ?_
    | with_reducible refine ex_eqI ?_
    | with_reducible refine ex_neI ?_
    | with_reducible refine ex_lenF ?_
    | with_reducible refine ex_lenT ?_
    | ((with_reducible refine ex_idxF ?_ ?_); omega)
    | ((with_reducible refine ex_idxT ?_ ?_); omega)
    | ((with_reducible refine ex_setF ?_ ?_); omega)
    | ((with_reducible apply ex_idxR); exact rfl)
    | ((with_reducible refine rng_i ?_ ?_); omega)
    | with_reducible refine seq_l ?_
    | with_reducible refine seq_t ?_
    | ((with_reducible refine ixn_i ?_ ?_); omega)
    | with_reducible refine w_iEnum ?_
    | with_reducible refine w_iEnumT ?_
    | with_reducible refine w_iRange2 ?_
    | ((with_reducible refine enu_i ?_ ?_); omega)
    | ((with_reducible refine enu_t ?_ ?_); omega)
    | with_reducible refine ex_sum ?_
    | with_reducible refine ex_sumT ?_
    | with_reducible refine ex_tupleF ?_
    | with_reducible refine ex_tupleL ?_
    | with_reducible refine ex_listL ?_
    | with_reducible refine ex_listT ?_
    | ((with_reducible refine ex_mulN ?_ ?_); omega)
    | with_reducible refine w_map ?_
    | with_reducible refine fork_t ?_
    | with_reducible refine fork_f ?_)
local macro_rules
  | `(tactic| subst_eqs) => `(tactic| dsimp only [List.set_cons_zero, List.set_cons_succ])
local macro_rules
  | `(tactic| and_intros) => `(tactic| repeat (first
    | exact trivial
    | refine good_l fun _ _ => ?_
    | refine good_t fun _ _ => ?_
    | exact good_l0
    | exact good_t0
    | refine good_lc ?_ ?_
    | refine good_tc ?_ ?_))
/-! where one stands -/
def inv (m : Nat) (q : Nat → Nat) (v : Nat) : Nat := ((List.range m).find? fun k => q k == v).getD 0
theorem inv_spec {m v : Nat} {q : Nat → Nat} (h : Inj m q) (hv : v < m) : inv m q v < m ∧ q (inv m q v) = v := by
  obtain ⟨k, hk, e⟩ := inj_onto h hv
  unfold inv
  cases hf : (List.range m).find? fun k => q k == v with
  | none =>
    have := List.find?_eq_none.mp hf k (List.mem_range.mpr hk)
    simp [e] at this
  | some j =>
    have h1 := List.find?_some hf
    have h2 := List.mem_of_find?_eq_some hf
    exact ⟨List.mem_range.mp h2, by simpa using h1⟩
theorem ex_indexI {P : D → Prop} {m v : Nat} {q : Nat → Nat} (hq : Inj m q) (hv : v < m) (h : P (.int (inv m q v))) : ∃ z, indexD (rowD m q) (.int v) = some z ∧ P z :=
  ex_index hq hv fun k hk e => by
    have e2 := inv_spec hq hv
    rw [hq.2 k _ hk e2.1 (e.trans e2.2.symm)]
    exact h
theorem inv_inj {m : Nat} {q : Nat → Nat} (h : Inj m q) : Inj m (inv m q) := ⟨fun k hk => (inv_spec h hk).1, fun i j hi hj e => by
  rw [← (inv_spec h hi).2, ← (inv_spec h hj).2, e]⟩
/-! squares -/
def tbl2 (n m : Nat) (f : Nat → Nat → Nat) : List (List Int) := fl n fun i => fl m fun j => (f i j : Int)
theorem tabD_eq (n m : Nat) (f : Nat → Nat → Nat) : tabD n m f = dTab (tbl2 n m f) := by
  unfold tabD dTab tbl2
  rw [fl_map]
  congr 1
  apply fl_congr
  intro i _
  show D.lst _ = D.lst _
  rw [fl_map]
theorem rangeI_fl (m : Nat) : rangeI m = fl m fun k => (k : Int) := rfl
theorem isRange_iff {m : Nat} {q : Nat → Nat} : isRange (fl m fun k => (q k : Int)) m = true ↔ Inj m q := by
  unfold isRange
  rw [decide_eq_true_iff]
  constructor
  · intro h
    have hp : (fl m fun k => (q k : Int)).Perm (rangeI m) := by
      have := sortI_perm (fl m fun k => (q k : Int))
      rw [h] at this
      exact this.symm
    obtain ⟨q', e, hq⟩ := perm_fn hp
    have e2 := fl_inj.mp e
    refine ⟨fun k hk => ?_, fun i j hi hj e3 => hq.2 i j hi hj ?_⟩
    · have := e2 k hk; have := hq.1 k hk; omega
    · have := e2 i hi; have := e2 j hj; omega
  · intro h
    have hp : (fl m q).Perm (fl m fun k => k) := by
      refine (List.perm_ext_iff_of_nodup ?_ ?_).mpr fun x => ?_
      · unfold fl
        rw [List.Nodup, List.pairwise_map]
        refine List.Pairwise.imp_of_mem ?_ (List.nodup_range (n := m))
        intro a b ha hb hab e
        exact hab (h.2 a b (List.mem_range.mp ha) (List.mem_range.mp hb) e)
      · unfold fl
        rw [List.map_id']
        exact List.nodup_range
      · constructor
        · intro hx
          obtain ⟨k, hk, rfl⟩ := mem_fl.mp hx
          exact mem_fl.mpr ⟨_, h.1 k hk, rfl⟩
        · intro hx
          obtain ⟨k, hk, rfl⟩ := mem_fl.mp hx
          obtain ⟨j, hj, e⟩ := inj_onto h hk
          exact mem_fl.mpr ⟨j, hj, e⟩
    have hp2 := hp.map fun (k : Nat) => (k : Int)
    rw [fl_map, fl_map] at hp2
    refine sorted_one ((sortI_perm _).trans hp2) (sortI_sorted _) ?_
    rw [List.pairwise_map]
    refine List.Pairwise.imp ?_ (List.pairwise_lt_range (n := m))
    intro a b hab
    omega
theorem colsOf_tbl {n m : Nat} {f : Nat → Nat → Nat} : colsOf (tbl2 n m f) m = tbl2 m n fun j i => f i j := by
  unfold colsOf tbl2
  show fl m _ = fl m _
  apply fl_congr
  intro j hj
  rw [fl_map]
  apply fl_congr
  intro i _
  rw [List.getD_eq_getElem?_getD, fl_get hj]
  rfl
theorem sqB_iff {m : Nat} {f : Nat → Nat → Nat} : sqB (tbl2 m m f) m = true ↔ Sq m f := by
  unfold sqB
  rw [colsOf_tbl, List.all_append, Bool.and_eq_true]
  unfold tbl2
  constructor
  · rintro ⟨h1, h2⟩
    exact ⟨fun i hi => isRange_iff.mp (List.all_eq_true.mp h1 _ (mem_fl.mpr ⟨i, hi, rfl⟩)), fun i hi => isRange_iff.mp (List.all_eq_true.mp h2 _ (mem_fl.mpr ⟨i, hi, rfl⟩))⟩
  · rintro ⟨h1, h2⟩
    constructor
    · refine List.all_eq_true.mpr fun x hx => ?_
      obtain ⟨i, hi, rfl⟩ := mem_fl.mp hx
      exact isRange_iff.mpr (h1 i hi)
    · refine List.all_eq_true.mpr fun x hx => ?_
      obtain ⟨i, hi, rfl⟩ := mem_fl.mp hx
      exact isRange_iff.mpr (h2 i hi)
section
variable {n m : Nat} {f : Nat → Nat → Nat} {Q : D → List Slot → Prop} {X : Nat → List Slot → Prop}
theorem w_is_square (h1 : 1 ≤ m) (h7 : m ≤ 7) (hi : ∀ i j, i < m → j < m → f i j < m) (h : ∀ t, (t = true ↔ Sq m f) → Q (.bl t) []) : wC (run (n + 3) i_is_square [.val 0 (tabD m m f)]) Q X := by
  rw [tabD_eq]
  refine wC_of (ok_is_square h1 h7 (fl_len _ _) (fun row hr => ?_) (fun row hr x hx => ?_) (h _ sqB_iff))
  · obtain ⟨i, _, rfl⟩ := mem_fl.mp hr
    exact fl_len _ _
  · obtain ⟨i, hi', rfl⟩ := mem_fl.mp hr
    obtain ⟨j, hj, rfl⟩ := mem_fl.mp hx
    have := hi i j hi' hj
    omega
theorem w_l_is_square (h7 : m ≤ 7) (h : ∀ t, (t = true ↔ Sq m f) → Q (.bl t) []) : wC (run (n + 1) i_l_is_square [.val 0 (tabD m m f), .val 0 (.int m)]) Q X := by
  rw [tabD_eq]
  refine wC_of (ok_l_is_square h7 (fl_len _ _) (fun row hr => ?_) (h _ sqB_iff))
  obtain ⟨i, _, rfl⟩ := mem_fl.mp hr
  exact fl_len _ _
theorem Sq.lt (h : Sq m f) {i j : Nat} (hi : i < m) (hj : j < m) : f i j < m := (h.1 i hi).1 j hj
theorem w_look_square (hf : Sq m f) (h1 : 1 ≤ m) (h7 : m ≤ 7) (h : Q .non []) : wC (run (n + 4) i_look_square [.val 0 (tabD m m f)]) Q X := by
  refine e_look_square ?_
  unfold s_look_square
  repeat infer_instance
  refine w_is_square h1 h7 (fun i j hi hj => hf.lt hi hj) fun t ht => ⟨_, rfl, ?_⟩
  rw [ht.mpr hf]
  exact ⟨_, rfl, fork_f (w_pass h)⟩
theorem w_where {v : Nat} (hf : Sq m f) (h1 : 1 ≤ m) (h7 : m ≤ 7) (hv : v < m) (h : Q (rowD m fun i => inv m (f i) v) []) : wC (run (n + 5) i_where [.val 0 (tabD m m f), .val 0 (.int v)]) Q X := by
  refine e_where ?_
  unfold s_where
  repeat infer_instance
  refine w_look_square hf h1 h7 ⟨_, rfl, ?_⟩
  repeat infer_instance
  refine w_is_whole ⟨_, rfl, ?_⟩
  repeat infer_instance
  rw [isWhole_true ⟨by omega, by omega⟩]
  refine fork_f ?_
  repeat infer_instance
  apply map_i (Nat.le_of_ble_eq_true rfl)
  · intro k hk
    subst_eqs
    repeat infer_instance
    refine ⟨rfl, ?_⟩
    repeat infer_instance
    exact ex_indexI (hf.1 k hk) hv ⟨rfl, rfl⟩
  · exact h
theorem w_l_is {a b : Bool} (h : Q (.bl (decide (a = b))) []) : wC (run (n + 1) i_l_is [.val 0 (.bl a), .val 0 (.bl b)]) Q X := by
  refine e_l_is ?_
  unfold s_l_is
  repeat infer_instance
  refine fork_i (fun _ => ?_) (fun z => nomatch z)
  repeat infer_instance
  refine ⟨_, rfl, ?_⟩
  cases a <;> cases b <;> exact h
theorem w_even_square (h1 : 1 ≤ m) (h7 : m ≤ 7) (h : Q (tabD m m fun i j => (i + j) % m) []) : wC (run (n + 3) i_even_square [.val 0 (.int m)]) Q X := by
  refine wC_of (ok_even_square h1 h7 ?_)
  rw [tabD_eq] at h
  exact h
theorem sq_even (h1 : 1 ≤ m) : Sq m fun i j => (i + j) % m := by
  have : Inj m fun k => k := ⟨fun k h => h, fun i j _ _ e => e⟩
  exact sq_of h1 this this this
end
end O
end
section
set_option linter.all false
set_option maxRecDepth 10000
/-! P1: sums; lots; counts of a square. No program here. -/
namespace O
def sumN : Nat → (Nat → Nat) → Nat
  | 0, _ => 0
  | n + 1, f => sumN n f + f n
theorem sumN_congr {n : Nat} {f g : Nat → Nat} (h : ∀ k, k < n → f k = g k) : sumN n f = sumN n g := by
  induction n with
  | zero => rfl
  | succ n ih => unfold sumN; rw [ih fun k hk => h k (by omega), h n (by omega)]
theorem sumN_add {n : Nat} {f g : Nat → Nat} : sumN n (fun k => f k + g k) = sumN n f + sumN n g := by
  induction n with
  | zero => rfl
  | succ n ih => unfold sumN; rw [ih]; simp only; omega
theorem sumN_zero (n : Nat) : sumN n (fun _ => 0) = 0 := by
  induction n with
  | zero => rfl
  | succ n ih => unfold sumN; simp only [ih]
theorem sumN_const (n c : Nat) : sumN n (fun _ => c) = n * c := by
  induction n with
  | zero => simp [sumN]
  | succ n ih => unfold sumN; rw [ih, Nat.succ_mul]
theorem sumN_mul {n c : Nat} {f : Nat → Nat} : sumN n (fun k => f k * c) = sumN n f * c := by
  induction n with
  | zero => simp [sumN]
  | succ n ih => unfold sumN; rw [ih, Nat.add_mul]
theorem sumN_comm {n m : Nat} {f : Nat → Nat → Nat} : sumN n (fun i => sumN m (f i)) = sumN m fun j => sumN n fun i => f i j := by
  induction n with
  | zero => simp [sumN, sumN_zero]
  | succ n ih =>
    show sumN n (fun i => sumN m (f i)) + sumN m (f n) = sumN m fun j => sumN n (fun i => f i j) + f n j
    rw [sumN_add, ih]
theorem sumN_le {n : Nat} {f g : Nat → Nat} (h : ∀ k, k < n → f k ≤ g k) : sumN n f ≤ sumN n g := by
  induction n with
  | zero => exact Nat.le_refl _
  | succ n ih => unfold sumN; exact Nat.add_le_add (ih fun k hk => h k (by omega)) (h n (by omega))
/-- one of a sum -/
theorem sumN_one {n x y : Nat} : sumN n (fun a => if x = a then y else 0) = if x < n then y else 0 := by
  induction n with
  | zero => simp [sumN]
  | succ n ih =>
    unfold sumN
    rw [ih]
    by_cases h1 : x < n
    · simp [h1, show x ≠ n by omega, show x < n + 1 by omega]
    · by_cases h2 : x = n
      · simp [h2]
      · simp [h1, h2, show ¬ x < n + 1 by omega]
theorem sumN_mono {m n : Nat} {w : Nat → Nat} (h : m ≤ n) : sumN m w ≤ sumN n w := by
  induction n with
  | zero => rw [Nat.le_zero.mp h]; exact Nat.le_refl _
  | succ n ih =>
    by_cases e : m = n + 1
    · rw [e]; exact Nat.le_refl _
    · exact Nat.le_trans (ih (by omega)) (Nat.le_add_right _ _)
theorem le_sumN {n k : Nat} {f : Nat → Nat} (h : k < n) : f k ≤ sumN n f := by
  induction n with
  | zero => omega
  | succ n ih =>
    unfold sumN
    by_cases e : k = n
    · subst e; omega
    · have := ih (by omega); omega
/-- a sum in another order -/
theorem sumN_inj {m : Nat} {q g : Nat → Nat} (h : Inj m q) : sumN m (fun k => g (q k)) = sumN m g := by
  have e : ∀ k, k < m → g (q k) = sumN m fun v => if q k = v then g v else 0 := fun k hk => by
    have e2 : (fun v => if q k = v then g v else 0) = fun v => if q k = v then g (q k) else 0 := by
      funext v
      by_cases e3 : q k = v
      · rw [if_pos e3, if_pos e3, e3]
      · rw [if_neg e3, if_neg e3]
    rw [e2, sumN_one, if_pos (h.1 k hk)]
  rw [sumN_congr e, sumN_comm]
  apply sumN_congr
  intro v hv
  obtain ⟨k, hk, rfl⟩ := inj_onto h hv
  have e2 : ∀ i, i < m → (if q i = q k then g (q k) else 0) = if k = i then g (q k) else 0 := fun i hi => by
    by_cases e3 : k = i
    · subst e3; simp
    · rw [if_neg e3, if_neg fun z => e3 (h.2 i k hi hk z).symm]
  rw [sumN_congr e2, sumN_one, if_pos hk]
/-! ### lots -/
structure Side (N : Nat) where
  n : Nat
  w : Nat → Nat
  pos : ∀ k, k < n → 1 ≤ w k
  sum : sumN n w = N
/-- for each number its lot -/
def lotL (n : Nat) (w : Nat → Nat) : List Nat := (fl n fun k => List.replicate (w k) k).flatten
theorem lotL_succ (n : Nat) (w : Nat → Nat) : lotL (n + 1) w = lotL n w ++ List.replicate (w n) n := by
  unfold lotL
  rw [fl_snoc, List.flatten_append]
  simp
theorem lotL_len (n : Nat) (w : Nat → Nat) : (lotL n w).length = sumN n w := by
  induction n with
  | zero => rfl
  | succ n ih => rw [lotL_succ, List.length_append, ih, List.length_replicate]; rfl
theorem lotL_lt {n : Nat} {w : Nat → Nat} : ∀ k ∈ lotL n w, k < n := by
  intro k hk
  unfold lotL at hk
  obtain ⟨l, hl, hk⟩ := List.mem_flatten.mp hk
  obtain ⟨j, hj, rfl⟩ := mem_fl.mp hl
  have := (List.mem_replicate.mp hk).2
  omega
def lot (n : Nat) (w : Nat → Nat) (i : Nat) : Nat := (lotL n w).getD i 0
theorem lotL_fl (n : Nat) (w : Nat → Nat) : lotL n w = fl (sumN n w) (lot n w) := by
  have := fl_of (lotL n w) 0
  rw [lotL_len] at this
  exact this
theorem lot_lt {n i : Nat} {w : Nat → Nat} (h : i < sumN n w) : lot n w i < n := by
  apply lotL_lt (w := w)
  unfold lot
  rw [List.getD_eq_getElem?_getD, List.getElem?_eq_getElem (by rw [lotL_len]; exact h)]
  exact List.getElem_mem _
def ind (p : Prop) [Decidable p] : Nat := if p then 1 else 0
/-- a list's sum of a function -/
theorem fl_sum (n : Nat) (h : Nat → Nat) : (fl n h).sum = sumN n h := by
  induction n with
  | zero => rfl
  | succ n ih => rw [fl_snoc, List.sum_append, ih]; simp [sumN]
theorem sumN_list (l : List Nat) (g : Nat → Nat) : sumN l.length (fun i => g (l.getD i 0)) = (l.map g).sum := by
  rw [← fl_sum, ← fl_map l.length (fun i => l.getD i 0) g, ← fl_of]
theorem lot_count {n c : Nat} {w : Nat → Nat} (hc : c < n) : sumN (sumN n w) (fun i => ind (lot n w i = c)) = w c := by
  have h := sumN_list (lotL n w) fun k => ind (k = c)
  rw [lotL_len] at h
  have h2 : sumN (sumN n w) (fun i => ind (lot n w i = c)) = ((lotL n w).map fun k => ind (k = c)).sum := h
  rw [h2]
  have key : ∀ m, ((lotL m w).map fun k => ind (k = c)).sum = if c < m then w c else 0 := by
    intro m
    induction m with
    | zero => rfl
    | succ m ih =>
      rw [lotL_succ, List.map_append, List.sum_append, ih, List.map_replicate, List.sum_replicate_nat]
      unfold ind
      by_cases h1 : c < m
      · simp [h1, show ¬ m = c by omega, show c < m + 1 by omega]
      · by_cases h3 : m = c
        · subst h3; simp
        · simp [h1, h3, show ¬ c < m + 1 by omega]
  rw [key, if_pos hc]
/-! ### counts of a square -/
def cnt (N : Nat) (l0 l1 l2 : Nat → Nat) (f : Nat → Nat → Nat) (a b c : Nat) : Nat := sumN N fun i => sumN N fun j => ind (l0 i = a ∧ l1 j = b ∧ l2 (f i j) = c)
theorem ind_and {p q : Prop} [Decidable p] [Decidable q] : ind (p ∧ q) = ind p * ind q := by
  unfold ind
  by_cases h1 : p <;> by_cases h2 : q <;> simp [h1, h2]
theorem ind_sum {n x : Nat} (h : x < n) : sumN n (fun a => ind (x = a)) = 1 := by
  have := sumN_one (n := n) (x := x) (y := 1)
  rw [if_pos h] at this
  exact this
section
variable {N : Nat} {s0 s1 s2 : Side N} {f : Nat → Nat → Nat}
def Side.lot (s : Side N) : Nat → Nat := O.lot s.n s.w
theorem Side.lt (s : Side N) {i : Nat} (h : i < N) : s.lot i < s.n := lot_lt (by rw [s.sum]; exact h)
theorem Side.cnt (s : Side N) {c : Nat} (h : c < s.n) : sumN N (fun i => ind (s.lot i = c)) = s.w c := by
  have := lot_count (w := s.w) h
  rw [s.sum] at this
  exact this
def Side.cnts (s0 s1 s2 : Side N) (f : Nat → Nat → Nat) : Nat → Nat → Nat → Nat := O.cnt N s0.lot s1.lot s2.lot f
/-- the sums are right -/
structure Right (s0 s1 s2 : Side N) (F : Nat → Nat → Nat → Nat) : Prop where
  r0 : ∀ b c, b < s1.n → c < s2.n → sumN s0.n (fun a => F a b c) = s1.w b * s2.w c
  r1 : ∀ a c, a < s0.n → c < s2.n → sumN s1.n (fun b => F a b c) = s0.w a * s2.w c
  r2 : ∀ a b, a < s0.n → b < s1.n → sumN s2.n (fun c => F a b c) = s0.w a * s1.w b
theorem cnt_right (h : Sq N f) : Right s0 s1 s2 (Side.cnts s0 s1 s2 f) := by
  refine ⟨fun b c hb hc => ?_, fun a c ha hc => ?_, fun a b ha hb => ?_⟩
  · show sumN s0.n (fun a => sumN N fun i => sumN N fun j => ind (s0.lot i = a ∧ s1.lot j = b ∧ s2.lot (f i j) = c)) = _
    rw [sumN_comm]
    have e1 : ∀ i, i < N → sumN s0.n (fun a => sumN N fun j => ind (s0.lot i = a ∧ s1.lot j = b ∧ s2.lot (f i j) = c)) = sumN N fun j => ind (s1.lot j = b) * ind (s2.lot (f i j) = c) := fun i hi => by
      rw [sumN_comm]
      apply sumN_congr
      intro j hj
      have e2 : ∀ a, a < s0.n → ind (s0.lot i = a ∧ s1.lot j = b ∧ s2.lot (f i j) = c) = ind (s0.lot i = a) * (ind (s1.lot j = b) * ind (s2.lot (f i j) = c)) := fun a _ => by rw [ind_and, ind_and]
      rw [sumN_congr e2, sumN_mul, ind_sum (s0.lt hi), Nat.one_mul]
    rw [sumN_congr e1, sumN_comm]
    have e3 : ∀ j, j < N → sumN N (fun i => ind (s1.lot j = b) * ind (s2.lot (f i j) = c)) = ind (s1.lot j = b) * s2.w c := fun j hj => by
      have e4 : ∀ i, i < N → ind (s1.lot j = b) * ind (s2.lot (f i j) = c) = ind (s2.lot (f i j) = c) * ind (s1.lot j = b) := fun i _ => Nat.mul_comm _ _
      rw [sumN_congr e4, sumN_mul, sumN_inj (g := fun v => ind (s2.lot v = c)) (h.2 j hj), s2.cnt hc, Nat.mul_comm]
    rw [sumN_congr e3, sumN_mul, s1.cnt hb]
  · show sumN s1.n (fun b => sumN N fun i => sumN N fun j => ind (s0.lot i = a ∧ s1.lot j = b ∧ s2.lot (f i j) = c)) = _
    rw [sumN_comm]
    have e1 : ∀ i, i < N → sumN s1.n (fun b => sumN N fun j => ind (s0.lot i = a ∧ s1.lot j = b ∧ s2.lot (f i j) = c)) = ind (s0.lot i = a) * s2.w c := fun i hi => by
      rw [sumN_comm]
      have e2 : ∀ j, j < N → sumN s1.n (fun b => ind (s0.lot i = a ∧ s1.lot j = b ∧ s2.lot (f i j) = c)) = ind (s2.lot (f i j) = c) * ind (s0.lot i = a) := fun j hj => by
        have e3 : ∀ b, b < s1.n → ind (s0.lot i = a ∧ s1.lot j = b ∧ s2.lot (f i j) = c) = ind (s1.lot j = b) * (ind (s2.lot (f i j) = c) * ind (s0.lot i = a)) := fun b _ => by
          rw [ind_and, ind_and, Nat.mul_left_comm, Nat.mul_comm (ind (s0.lot i = a))]
        rw [sumN_congr e3, sumN_mul, ind_sum (s1.lt hj), Nat.one_mul]
      rw [sumN_congr e2, sumN_mul, sumN_inj (g := fun v => ind (s2.lot v = c)) (h.1 i hi), s2.cnt hc, Nat.mul_comm]
    rw [sumN_congr e1, sumN_mul, s0.cnt ha]
  · show sumN s2.n (fun c => sumN N fun i => sumN N fun j => ind (s0.lot i = a ∧ s1.lot j = b ∧ s2.lot (f i j) = c)) = _
    rw [sumN_comm]
    have e1 : ∀ i, i < N → sumN s2.n (fun c => sumN N fun j => ind (s0.lot i = a ∧ s1.lot j = b ∧ s2.lot (f i j) = c)) = ind (s0.lot i = a) * s1.w b := fun i hi => by
      rw [sumN_comm]
      have e2 : ∀ j, j < N → sumN s2.n (fun c => ind (s0.lot i = a ∧ s1.lot j = b ∧ s2.lot (f i j) = c)) = ind (s1.lot j = b) * ind (s0.lot i = a) := fun j hj => by
        have e3 : ∀ c, c < s2.n → ind (s0.lot i = a ∧ s1.lot j = b ∧ s2.lot (f i j) = c) = ind (s2.lot (f i j) = c) * (ind (s1.lot j = b) * ind (s0.lot i = a)) := fun c _ => by
          rw [ind_and, ind_and, Nat.mul_comm (ind (s0.lot i = a)), Nat.mul_comm (ind (s1.lot j = b)), Nat.mul_assoc]
        rw [sumN_congr e3, sumN_mul, ind_sum (s2.lt (h.lt hi hj)), Nat.one_mul]
      rw [sumN_congr e2, sumN_mul, s1.cnt hb, Nat.mul_comm]
    rw [sumN_congr e1, sumN_mul, s0.cnt ha]
theorem Side.wle (s : Side N) {k : Nat} (h : k < s.n) : s.w k ≤ N := Nat.le_trans (le_sumN h) (Nat.le_of_eq s.sum)
theorem Side.nle (s : Side N) : s.n ≤ N := by
  have h2 := s.sum
  have := sumN_le (n := s.n) (f := fun _ => 1) (g := s.w) s.pos
  rw [sumN_const] at this
  omega
theorem Right.le {F : Nat → Nat → Nat → Nat} (h : Right s0 s1 s2 F) {a b c : Nat} (ha : a < s0.n) (hb : b < s1.n) (hc : c < s2.n) : F a b c ≤ N * N := by
  have h1 := le_sumN (f := fun c => F a b c) hc
  rw [h.r2 a b ha hb] at h1
  exact Nat.le_trans h1 (Nat.mul_le_mul (s0.wle ha) (s1.wle hb))
end
end O
end
section
set_option linter.all false
set_option maxRecDepth 10000
/-! W6: more rules: enumerate, two clauses, tables of three sides, sums. -/
namespace O
theorem enumL_fl : ∀ (n m : Nat) (f : Nat → D), E.enumL m (fl n f) = fl n fun k => .tup [.int ((m + k : Nat) : Int), f k]
  | 0, _, _ => rfl
  | n + 1, m, f => by
    rw [fl_succ, fl_succ]
    show D.tup [.int m, f 0] :: E.enumL (m + 1) _ = _
    rw [enumL_fl n (m + 1)]
    congr 1
    apply fl_congr
    intro k _
    show D.tup [.int ((m + 1 + k : Nat) : Int), f (k + 1)] = D.tup [.int ((m + (k + 1) : Nat) : Int), f (k + 1)]
    rw [show m + 1 + k = m + (k + 1) by omega]
theorem enum0 (n : Nat) (f : Nat → D) : E.enumL 0 (fl n f) = fl n fun k => .tup [.int k, f k] := by
  rw [enumL_fl]
  apply fl_congr
  intro k _
  rw [Nat.zero_add]
section
variable {r : Env} {a b c e : E} {P : List D → Env → Prop} {X : Nat → Env → Prop}
def enuW (x : D) (K : List D → Prop) : Prop := ∃ n f, (x = .lst (fl n f) ∨ x = .tup (fl n f)) ∧ n ≤ 16777216 ∧ K (fl n fun k => .tup [.int k, f k])
theorem w_iEnum (h : wR (a r) (fun x r => isLst x = true ∧ enuW x fun xs => P xs r) X) : wR (E.iEnum a r) P X := wR_bind (wR_mono h (fun x r ⟨hx, n, f, e, hn, h⟩ => by
  rcases e with rfl | rfl
  · show wR (if (fl n f).length ≤ LIM then Res.ok (E.enumL 0 (fl n f)) r else .stuck) _ _
    rw [fl_len, if_pos (show n ≤ LIM from hn), enum0]
    exact ⟨h⟩
  · cases hx) fun _ _ h => h)
theorem w_iEnumT (h : wR (a r) (fun x r => isTup x = true ∧ enuW x fun xs => P xs r) X) : wR (E.iEnumT a r) P X := wR_bind (wR_mono h (fun x r ⟨hx, n, f, e, hn, h⟩ => by
  rcases e with rfl | rfl
  · cases hx
  · show wR (if (fl n f).length ≤ LIM then Res.ok (E.enumL 0 (fl n f)) r else .stuck) _ _
    rw [fl_len, if_pos (show n ≤ LIM from hn), enum0]
    exact ⟨h⟩) fun _ _ h => h)
theorem enu_i {n : Nat} {f : Nat → D} {K : List D → Prop} (hn : n ≤ 16777216) (h : K (fl n fun k => .tup [.int k, f k])) : isLst (.lst (fl n f)) = true ∧ enuW (.lst (fl n f)) K := ⟨rfl, n, f, .inl rfl, hn, h⟩
theorem enu_t {n : Nat} {f : Nat → D} {K : List D → Prop} (hn : n ≤ 16777216) (h : K (fl n fun k => .tup [.int k, f k])) : isTup (.tup (fl n f)) = true ∧ enuW (.tup (fl n f)) K := ⟨rfl, n, f, .inr rfl, hn, h⟩
theorem w_iRange2 (h : wR (a r) (fun x r => wR (b r) (fun y r => ∃ m n : Nat, x = .int m ∧ y = .int n ∧ m ≤ 100000 ∧ n ≤ 100000 ∧ P (fl (n - m) fun k => .int ((m + k : Nat) : Int)) r) X) X) : wR (E.iRange2 a b r) P X := wR_bind (wR_mono h (fun x r h => wR_bind (wR_mono h (fun y r ⟨m, n, e1, e2, hm, hn, h3⟩ => by
  subst e1 e2
  show wR (if (-100000 ≤ (m : Int) ∧ (m : Int) ≤ 100000) ∧ -100000 ≤ (n : Int) ∧ (n : Int) ≤ 100000 then Res.ok _ r else .stuck) _ _
  rw [if_pos ⟨⟨by omega, by omega⟩, by omega, by omega⟩, show ((n : Int) - m).toNat = n - m by omega]
  have e : ((List.range (n - m)).map fun (i : Nat) => D.int ((m : Int) + (i : Nat))) = fl (n - m) fun k => .int ((m + k : Nat) : Int) := fl_congr fun k _ => by rw [Int.natCast_add]
  rw [e]
  exact ⟨h3⟩) fun _ _ h => h)) fun _ _ h => h)
end
/-! two clauses -/
section
variable {r : Env} {cond cond2 elt : E} {P : D → Env → Prop} {X : Nat → Env → Prop} {it it2 : E.It} {tg tg2 : E.Tg}
theorem turns_inv2 (J : Nat → List D → Env → Prop) {m : Nat} {f : Nat → D} (hs : ∀ l ys r, l < m → J l ys r → ∃ r', tg2.put (f l) r = some r' ∧ wR (cond2 r') (fun c r => fork c (wR (elt r) (fun y r => J (l + 1) (ys ++ [y]) r) fun _ _ => False) (J (l + 1) ys r)) fun _ _ => False) : ∀ (n k : Nat) (ys : List D) (r : Env), k + n = m → J k ys r →
    ∃ zs r', E.turns tg2 cond2 (E.one elt) (fl n fun i => f (k + i)) r = .ok zs r' ∧ J m (ys ++ zs) r'
  | 0, k, ys, r, hk, h => ⟨[], r, rfl, by
    rw [List.append_nil]
    have : k = m := by omega
    rw [← this]; exact h⟩
  | n + 1, k, ys, r, hk, h => by
    rw [fl_succ]
    obtain ⟨r1, e1, h1⟩ := hs k ys r (by omega) h
    obtain ⟨c, r2, e2, t, rfl, ht, hf⟩ := okR_w h1
    have eq : (fl n fun i => f (k + (i + 1))) = fl n fun i => f (k + 1 + i) := fl_congr fun i _ => by congr 1; omega
    have step : E.turns tg2 cond2 (E.one elt) (f (k + 0) :: fl n fun i => f (k + (i + 1))) r = match t with
      | true => (E.one elt r2).bindN fun ys r => (E.turns tg2 cond2 (E.one elt) (fl n fun i => f (k + 1 + i)) r).bindN fun zs r => .ok (ys ++ zs) r
      | false => E.turns tg2 cond2 (E.one elt) (fl n fun i => f (k + 1 + i)) r2 := by
      rw [← eq]
      show (match tg2.put (f k) r with
        | none => Res.stuck
        | some r => (cond2 r).bindN fun c r => match c with
          | .bl true => (E.one elt r).bindN fun ys r => (E.turns tg2 cond2 (E.one elt) (fl n fun i => f (k + (i + 1))) r).bindN fun zs r => .ok (ys ++ zs) r
          | .bl false => E.turns tg2 cond2 (E.one elt) (fl n fun i => f (k + (i + 1))) r
          | _ => .stuck) = _
      simp only [e1, e2, Res.bindN]
      cases t <;> rfl
    rw [step]
    cases t with
    | true =>
      obtain ⟨y, r3, e3, h3⟩ := okR_w (ht rfl)
      obtain ⟨zs, r4, e4, h4⟩ := turns_inv2 J hs n (k + 1) (ys ++ [y]) r3 (by omega) h3
      refine ⟨y :: zs, r4, ?_, by simpa using h4⟩
      simp only [E.one, e3, Res.bindN, e4]
      rfl
    | false => exact turns_inv2 J hs n (k + 1) ys r2 (by omega) (hf rfl)
def com2W (tg2 : E.Tg) (it2 : E.It) (cond cond2 elt : E) (tg : E.Tg) (P : D → Env → Prop) (xs : List D) (r1 : Env) : Prop := ∃ n f, xs = fl n f ∧ ∃ I : Nat → List D → Env → Prop, I 0 [] (E.wipe (tg.own ++ tg2.own) r1) ∧
  (∀ k ys r, k < n → I k ys r → ∃ r', tg.put (f k) (E.wipe tg2.own r) = some r' ∧ wR (cond r') (fun c r => fork c (wR (it2 r) (fun xs2 r3 => ∃ m h, xs2 = fl m h ∧ ∃ J : Nat → List D → Env → Prop, J 0 ys r3 ∧
    (∀ l ys r, l < m → J l ys r → ∃ r', tg2.put (h l) r = some r' ∧ wR (cond2 r') (fun c r => fork c (wR (elt r) (fun y r => J (l + 1) (ys ++ [y]) r) fun _ _ => False) (J (l + 1) ys r)) fun _ _ => False) ∧ ∀ ys r, J m ys r → I (k + 1) ys r) fun _ _ => False) (I (k + 1) ys r)) fun _ _ => False) ∧
  ∀ ys r, I n ys r → ys.length ≤ 16777216 ∧ P (.lst ys) (E.back r1 (tg.own ++ tg2.own) r)
theorem turnsW_inv (I : Nat → List D → Env → Prop) {m : Nat} {f : Nat → D} (hs : ∀ k ys r, k < m → I k ys r → ∃ r', tg.put (f k) (E.wipe tg2.own r) = some r' ∧ wR (cond r') (fun c r => fork c (wR (it2 r) (fun xs2 r3 => ∃ m h, xs2 = fl m h ∧ ∃ J : Nat → List D → Env → Prop, J 0 ys r3 ∧
    (∀ l ys r, l < m → J l ys r → ∃ r', tg2.put (h l) r = some r' ∧ wR (cond2 r') (fun c r => fork c (wR (elt r) (fun y r => J (l + 1) (ys ++ [y]) r) fun _ _ => False) (J (l + 1) ys r)) fun _ _ => False) ∧ ∀ ys r, J m ys r → I (k + 1) ys r) fun _ _ => False) (I (k + 1) ys r)) fun _ _ => False) : ∀ (n k : Nat) (ys : List D) (r : Env), k + n = m → I k ys r →
    ∃ zs r', E.turnsW tg2.own tg cond (fun r => (it2 r).bindN fun ys r => E.turns tg2 cond2 (E.one elt) ys r) (fl n fun i => f (k + i)) r = .ok zs r' ∧ I m (ys ++ zs) r'
  | 0, k, ys, r, hk, h => ⟨[], r, rfl, by
    rw [List.append_nil]
    have : k = m := by omega
    rw [← this]; exact h⟩
  | n + 1, k, ys, r, hk, h => by
    rw [fl_succ]
    obtain ⟨r1, e1, h1⟩ := hs k ys r (by omega) h
    obtain ⟨c, r2, e2, t, rfl, ht, hf⟩ := okR_w h1
    have eq : (fl n fun i => f (k + (i + 1))) = fl n fun i => f (k + 1 + i) := fl_congr fun i _ => by congr 1; omega
    have step : E.turnsW tg2.own tg cond (fun r => (it2 r).bindN fun ys r => E.turns tg2 cond2 (E.one elt) ys r) (f (k + 0) :: fl n fun i => f (k + (i + 1))) r = match t with
      | true => ((it2 r2).bindN fun ys r => E.turns tg2 cond2 (E.one elt) ys r).bindN fun ys r => (E.turnsW tg2.own tg cond (fun r => (it2 r).bindN fun ys r => E.turns tg2 cond2 (E.one elt) ys r) (fl n fun i => f (k + 1 + i)) r).bindN fun zs r => .ok (ys ++ zs) r
      | false => E.turnsW tg2.own tg cond (fun r => (it2 r).bindN fun ys r => E.turns tg2 cond2 (E.one elt) ys r) (fl n fun i => f (k + 1 + i)) r2 := by
      rw [← eq]
      show (match tg.put (f k) (E.wipe tg2.own r) with
        | none => Res.stuck
        | some r => (cond r).bindN fun c r => match c with
          | .bl true => ((it2 r).bindN fun ys r => E.turns tg2 cond2 (E.one elt) ys r).bindN fun ys r => (E.turnsW tg2.own tg cond (fun r => (it2 r).bindN fun ys r => E.turns tg2 cond2 (E.one elt) ys r) (fl n fun i => f (k + (i + 1))) r).bindN fun zs r => .ok (ys ++ zs) r
          | .bl false => E.turnsW tg2.own tg cond (fun r => (it2 r).bindN fun ys r => E.turns tg2 cond2 (E.one elt) ys r) (fl n fun i => f (k + (i + 1))) r
          | _ => .stuck) = _
      simp only [e1, e2, Res.bindN]
      cases t <;> rfl
    rw [step]
    cases t with
    | true =>
      obtain ⟨xs2, r3, e3, m2, h2, rfl, J, j0, js, je⟩ := okR_w (ht rfl)
      obtain ⟨zs, r4, e4, h4⟩ := turns_inv2 J js m2 0 ys r3 (by omega) j0
      have e4' : E.turns tg2 cond2 (E.one elt) (fl m2 h2) r3 = .ok zs r4 := by
        rw [← e4]
        congr 1
        exact fl_congr fun i _ => by rw [Nat.zero_add]
      obtain ⟨zs2, r5, e5, h5⟩ := turnsW_inv I hs n (k + 1) (ys ++ zs) r4 (by omega) (je _ _ h4)
      refine ⟨zs ++ zs2, r5, ?_, by rw [← List.append_assoc]; exact h5⟩
      show (((it2 r2).bindN fun ys r => E.turns tg2 cond2 (E.one elt) ys r).bindN fun ys r => (E.turnsW tg2.own tg cond (fun r => (it2 r).bindN fun ys r => E.turns tg2 cond2 (E.one elt) ys r) (fl n fun i => f (k + 1 + i)) r).bindN fun zs r => .ok (ys ++ zs) r) = _
      have e6 : ((it2 r2).bindN fun ys r => E.turns tg2 cond2 (E.one elt) ys r) = .ok zs r4 := by rw [e3]; exact e4'
      rw [e6]
      show (E.turnsW tg2.own tg cond (fun r => (it2 r).bindN fun ys r => E.turns tg2 cond2 (E.one elt) ys r) (fl n fun i => f (k + 1 + i)) r4).bindN _ = _
      rw [e5]
      rfl
    | false => exact turnsW_inv I hs n (k + 1) ys r2 (by omega) (hf rfl)
theorem w_comp2 (h : wR (it r) (fun xs r1 => com2W tg2 it2 cond cond2 elt tg P xs r1) X) : wR (E.comp2 tg it cond tg2 it2 cond2 elt r) P X := by
  unfold E.comp2 E.items2
  refine wR_bind (wR_bind (wR_mono h (fun xs r1 h => ?_) fun _ _ h => h))
  obtain ⟨n, f, rfl, I, h0, hs, hP⟩ := h
  obtain ⟨zs, r', e, hI⟩ := turnsW_inv I hs n 0 [] _ (by omega) h0
  have e' : E.turnsW tg2.own tg cond (fun r => (it2 r).bindN fun ys r => E.turns tg2 cond2 (E.one elt) ys r) (fl n f) (E.wipe (tg.own ++ tg2.own) r1) = .ok zs r' := by
    rw [← e]
    congr 1
    exact fl_congr fun i _ => by rw [Nat.zero_add]
  obtain ⟨hl, hP⟩ := hP _ _ hI
  rw [e']
  refine ⟨?_⟩
  show wR (if zs.length ≤ LIM then Res.ok (D.lst zs) _ else .stuck) _ _
  rw [if_pos (show zs.length ≤ LIM from hl)]
  exact ⟨hP⟩
theorem com2_i {n : Nat} {f : Nat → D} {r1 : Env} (I : Nat → List D → Env → Prop) (h0 : I 0 [] (E.wipe (tg.own ++ tg2.own) r1))
  (hs : ∀ k ys r, k < n → I k ys r → ∃ r', tg.put (f k) (E.wipe tg2.own r) = some r' ∧ wR (cond r') (fun c r => fork c (wR (it2 r) (fun xs2 r3 => ∃ m h, xs2 = fl m h ∧ ∃ J : Nat → List D → Env → Prop, J 0 ys r3 ∧
    (∀ l ys r, l < m → J l ys r → ∃ r', tg2.put (h l) r = some r' ∧ wR (cond2 r') (fun c r => fork c (wR (elt r) (fun y r => J (l + 1) (ys ++ [y]) r) fun _ _ => False) (J (l + 1) ys r)) fun _ _ => False) ∧ ∀ ys r, J m ys r → I (k + 1) ys r) fun _ _ => False) (I (k + 1) ys r)) fun _ _ => False)
  (he : ∀ ys r, I n ys r → ys.length ≤ 16777216 ∧ P (.lst ys) (E.back r1 (tg.own ++ tg2.own) r)) : com2W tg2 it2 cond cond2 elt tg P (fl n f) r1 := ⟨n, f, rfl, I, h0, hs, he⟩
end
/-! sums -/
section
variable {P : D → Prop}
theorem intsOf_fl (n : Nat) (f : Nat → Nat) : intsOf (fl n fun k => .int (f k)) = some (fl n fun k => (f k : Int)) := by
  have := intsOf_int (fl n fun k => (f k : Int))
  rw [fl_map] at this
  exact this
theorem sumI_fl (n : Nat) (f : Nat → Nat) : (fl n fun k => (f k : Int)).sum = (sumN n f : Int) := by
  induction n with
  | zero => rfl
  | succ n ih =>
    rw [fl_snoc, List.sum_append, ih]
    simp [sumN]
theorem ex_sum {n : Nat} {f : Nat → Nat} (h : P (.int (sumN n f))) : ∃ z, sumD (.lst (fl n fun k => .int (f k))) = some z ∧ P z := ⟨.int (sumN n f), by
  show (intsOf _).map _ = _
  rw [intsOf_fl, Option.map_some, sumI_fl], h⟩
theorem ex_sumT {n : Nat} {f : Nat → Nat} (h : P (.int (sumN n f))) : ∃ z, sumD (.tup (fl n fun k => .int (f k))) = some z ∧ P z := ⟨.int (sumN n f), by
  show (intsOf _).map _ = _
  rw [intsOf_fl, Option.map_some, sumI_fl], h⟩
theorem ex_mulN {a b : Nat} (ha : a < 1000000) (h : P (.int ((a * b : Nat) : Int))) : ∃ z, mulD (.int a) (.int b) = some z ∧ P z := ex_mul (by omega) (by rw [← Int.natCast_mul]; exact h)
theorem repL_one {α : Type} (x : α) (m : Nat) : repL [x] m = fl m fun _ => x := by
  induction m with
  | zero => rfl
  | succ m ih =>
    show x :: repL [x] m = _
    rw [ih, fl_succ]
theorem ex_mulL {x : D} {m : Nat} (hm : m ≤ 1000) (h : P (.lst (fl m fun _ => x))) : ∃ z, mulD (.lst [x]) (.int m) = some z ∧ P z := ⟨.lst (fl m fun _ => x), by
  simp only [mulD]
  rw [if_pos ⟨by omega, by omega, by simp; omega⟩, Int.toNat_natCast, repL_one], h⟩
theorem ex_mulT {x : D} {m : Nat} (h1 : 1 ≤ m) (hm : m ≤ 1000) (h : P (.tup (fl m fun _ => x))) : ∃ z, mulD (.tup [x]) (.int m) = some z ∧ P z := ⟨.tup (fl m fun _ => x), by
  simp only [mulD]
  rw [if_pos ⟨by omega, by omega, by simp, by simp⟩, Int.toNat_natCast, repL_one], h⟩
theorem ex_tupleF {n : Nat} {f : Nat → D} (h : P (.tup (fl n f))) : ∃ z, tupleD (.lst (fl n f)) = some z ∧ P z := ⟨_, rfl, h⟩
theorem ex_tupleL {xs : List D} (h : P (.tup xs)) : ∃ z, tupleD (.lst xs) = some z ∧ P z := ⟨_, rfl, h⟩
theorem ex_listL {xs : List D} (h : P (.lst xs)) : ∃ z, listD (.lst xs) = some z ∧ P z := ⟨_, rfl, h⟩
theorem ex_listT {xs : List D} (h : P (.lst xs)) : ∃ z, listD (.tup xs) = some z ∧ P z := ⟨_, rfl, h⟩
theorem ex_catF {n m : Nat} {f g : Nat → D} (hl : n + m ≤ 16777216) (h : P (.lst (fl n f ++ fl m g))) : ∃ z, addD (.lst (fl n f)) (.lst (fl m g)) = some z ∧ P z := ⟨.lst (fl n f ++ fl m g), by
  show (if (fl n f).length + (fl m g).length ≤ LIM then some (D.lst (fl n f ++ fl m g)) else none) = _
  rw [if_pos (by rw [fl_len, fl_len]; exact hl)], h⟩
theorem fl_app {α : Type} (n m : Nat) (f g : Nat → α) : fl n f ++ fl m g = fl (n + m) fun k => if k < n then f k else g (k - n) := by
  induction m with
  | zero =>
    rw [show fl 0 g = [] from rfl, List.append_nil]
    exact fl_congr fun k hk => by rw [if_pos hk]
  | succ m ih =>
    rw [fl_snoc, ← List.append_assoc, ih, ← Nat.add_assoc, fl_snoc]
    congr 1
    rw [if_neg (by omega), show n + m - n = m by omega]
theorem ex_all {n : Nat} {p : Nat → Bool} (h : P (.bl ((List.range n).all p))) : ∃ z, allD (.lst (fl n fun k => .bl (p k))) = some z ∧ P z := ⟨_, allD_map p (List.range n), h⟩
theorem ex_allT {n : Nat} {p : Nat → Bool} (ht : ∀ k, k < n → p k = true) (h : P (.bl true)) : ∃ z, allD (.lst (fl n fun k => .bl (p k))) = some z ∧ P z := by
  refine ex_all ?_
  rw [List.all_eq_true.mpr fun k hk => ht k (List.mem_range.mp hk)]
  exact h
end
/-! tables of three sides -/
abbrev tab3 (n m l : Nat) (F : Nat → Nat → Nat → Nat) : D := .lst (fl n fun i => tabD m l (F i))
def upd3 (F : Nat → Nat → Nat → Nat) (a b c v : Nat) : Nat → Nat → Nat → Nat := fun i j k => if i = a ∧ j = b ∧ k = c then v else F i j k
theorem set_tab3 {m l : Nat} {F : Nat → Nat → Nat → Nat} {a b c v : Nat} : upd (fun i => tabD m l (F i)) a (tabD m l (upd2 (F a) b c v)) = fun i => tabD m l (upd3 F a b c v i) := by
  funext i
  unfold upd
  by_cases h : i = a
  · subst h
    rw [if_pos rfl]
    congr 2
    funext j
    congr 2
    funext k
    simp [upd2, upd3]
  · rw [if_neg h]
    show tabD m l (F i) = _
    congr 2
    funext j
    congr 2
    funext k
    simp [upd3, h]
theorem idxF_eq {n k : Nat} {f : Nat → D} (hk : k < n) : idxD (.lst (fl n f)) (.int k) = some (f k) := atI_fl hk
theorem setF_eq {n k : Nat} {f : Nat → D} {v : D} (hk : k < n) : setD (.lst (fl n f)) (.int k) v = some (.lst (fl n (upd f k v))) := by
  obtain ⟨z, e, rfl⟩ := ex_setF (P := fun z => z = .lst (fl n (upd f k v))) hk rfl
  exact e
theorem setAt3 {n m l : Nat} {F : Nat → Nat → Nat → Nat} {a b c v : Nat} (ha : a < n) (hb : b < m) (hc : c < l) : setAt (tab3 n m l F) [(a : Int), (b : Int)] (.int c) (.int v) = some (tab3 n m l (upd3 F a b c v)) := by
  show (idxD (tab3 n m l F) (.int a)).bind (fun y => ((idxD y (.int b)).bind fun y => (setD y (.int c) (.int v)).bind fun y' => setD _ (.int b) y').bind fun y' => setD _ (.int a) y') = _
  rw [idxF_eq ha]
  show ((idxD (tabD m l (F a)) (.int b)).bind fun y => (setD y (.int c) (.int v)).bind fun y' => setD (tabD m l (F a)) (.int b) y').bind (fun y' => setD (tab3 n m l F) (.int a) y') = _
  rw [idxF_eq hb]
  show ((setD (rowD l (F a b)) (.int c) (.int v)).bind fun y' => setD (tabD m l (F a)) (.int b) y').bind (fun y' => setD (tab3 n m l F) (.int a) y') = _
  rw [setF_eq hc]
  show (setD (tabD m l (F a)) (.int b) _).bind (fun y' => setD (tab3 n m l F) (.int a) y') = _
  rw [setF_eq hb, set_tab]
  show setD (tab3 n m l F) (.int a) (tabD m l (upd2 (F a) b c v)) = _
  rw [setF_eq ha, set_tab3]
section
variable {r : Env} {N B : Env → Prop} {R : D → Env → Prop} {X : Nat → Env → Prop}
theorem w_aug3 {i n m l : Nat} {F : Nat → Nat → Nat → Nat} {e1 e2 e3 : E} (hg : getS r i = .val 3 (tab3 n m l F)) (h : wR (e1 r) (fun x r => ∃ a : Nat, x = .int a ∧ a < n ∧ wR (e2 r) (fun y r => ∃ b : Nat, y = .int b ∧ b < m ∧ wR (e3 r) (fun z r => ∃ c : Nat, z = .int c ∧ c < l ∧ N (r.set i (.val 3 (tab3 n m l (upd3 F a b c (F a b c + 1)))))) X) X) X) : wS (S.augp i [e1, e2] e3 addI (E.int 1) r) N R B X := by
  refine w_augp hg rfl (w_pathI_cons (wR_mono h (fun x r ⟨a, ex, ha, h⟩ => ⟨a, tabD m l (F a), ex, idxF_eq ha, w_pathI_cons (wR_mono h (fun y r ⟨b, ey, hb, h⟩ => ⟨b, rowD l (F a b), ey, idxF_eq hb, w_pathI_nil (wR_mono h (fun z r ⟨c, ez, hc, h⟩ => ⟨_, c, .int (F a b c), rfl, ez, idxF_eq hc, w_int ⟨.int ((F a b c + 1 : Nat) : Int), rfl, _, ?_, h⟩⟩) fun _ _ h => h)⟩) fun _ _ h => h)⟩) fun _ _ h => h))
  subst ez
  exact setAt3 ha hb hc
theorem w_bump3 {i jo ja n m l : Nat} {F : Nat → Nat → Nat → Nat} {e1 e2 e3 : E} (hg : getS r i = .val 3 (tab3 n m l F)) (h : wR (e1 r) (fun x r => ∃ a : Nat, x = .int a ∧ a < n ∧ wR (e2 r) (fun y r => ∃ b : Nat, y = .int b ∧ b < m ∧ wR (e3 (r.set jo .no)) (fun z r => ∃ c : Nat, z = .int c ∧ c < l ∧ N ((r.set i (.val 3 (tab3 n m l (upd3 F a b c (F a b c + 1))))).set ja (.val 0 (.int c)))) X) X) X) : wS (S.bump i [e1, e2] jo ja e3 r) N R B X := by
  refine w_bump hg rfl (w_pathI_cons (wR_mono h (fun x r ⟨a, ex, ha, h⟩ => ⟨a, tabD m l (F a), ex, idxF_eq ha, w_pathI_cons (wR_mono h (fun y r ⟨b, ey, hb, h⟩ => ⟨b, rowD l (F a b), ey, idxF_eq hb, w_pathI_nil (wR_mono h (fun z r ⟨c, ez, hc, h⟩ => ⟨_, c, .int (F a b c), rfl, ez, idxF_eq hc, .int ((F a b c + 1 : Nat) : Int), rfl, tab3 n m l (upd3 F a b c (F a b c + 1)), ?_, ?_⟩) fun _ _ h => h)⟩) fun _ _ h => h)⟩) fun _ _ h => h))
  · subst ez
    exact setAt3 ha hb hc
  · subst ez
    exact h
theorem w_putT3 {i n m l v : Nat} {F : Nat → Nat → Nat → Nat} {e1 e2 e3 : E} (hg : getS r i = .val 3 (tab3 n m l F)) (h : wR (e1 r) (fun x r => ∃ a : Nat, x = .int a ∧ a < n ∧ wR (e2 r) (fun y r => ∃ b : Nat, y = .int b ∧ b < m ∧ wR (e3 r) (fun z r => ∃ c : Nat, z = .int c ∧ c < l ∧ N (r.set i (.val 3 (tab3 n m l (upd3 F a b c v))))) X) X) X) : wS (S.putp i [e1, e2, e3] (.int v) r) N R B X := by
  refine w_putp hg rfl (w_setGo2 (wR_mono h (fun x r ⟨a, ex, ha, h⟩ => ⟨tabD m l (F a), by rw [ex]; exact idxF_eq ha, w_setGo2 (wR_mono h (fun y r ⟨b, ey, hb, h⟩ => ⟨rowD l (F a b), by rw [ey]; exact idxF_eq hb, w_setGo1 (wR_mono h (fun z r ⟨c, ez, hc, h⟩ => ?_) fun _ _ h => h)⟩) fun _ _ h => h)⟩) fun _ _ h => h))
  subst ex ey ez
  refine ex_setF hc (ex_setF hb ?_)
  rw [set_tab]
  refine ex_setF ha ?_
  rw [set_tab3]
  exact h
end
/-! three literal items -/
theorem map3_i {a b c ya yb yc : D} {j : Nat} {r1 : Env} {elt : E} {P : D → Env → Prop} (hj : j < r1.length) (ha : wR (elt (r1.set j (.val 0 a))) (fun y r' => y = ya ∧ r' = r1.set j (.val 0 a)) fun _ _ => False) (hb : wR (elt (r1.set j (.val 0 b))) (fun y r' => y = yb ∧ r' = r1.set j (.val 0 b)) fun _ _ => False) (hc : wR (elt (r1.set j (.val 0 c))) (fun y r' => y = yc ∧ r' = r1.set j (.val 0 c)) fun _ _ => False) (hP : P (.lst [ya, yb, yc]) r1) : mapW j elt P [a, b, c] r1 := by
  refine ⟨3, fun k => match k with | 0 => a | 1 => b | _ => c, rfl, hj, fun k => match k with | 0 => ya | 1 => yb | _ => yc, fun k hk => ?_, hP⟩
  match k, hk with
  | 0, _ => exact ha
  | 1, _ => exact hb
  | 2, _ => exact hc
end O
end
section
set_option linter.all false
set_option maxRecDepth 10000
set_option maxHeartbeats 1000000
/-! W7: widths, lots, counts. -/
namespace O
local macro_rules
  | `(tactic| infer_instance) => `(tactic| first
    | with_reducible refine w_seq ?_
    | with_reducible refine w_asg ?_
    | with_reducible refine w_ret ?_
    | with_reducible refine w_expr ?_
    | with_reducible refine w_ite ?_
    | with_reducible refine w_pass ?_
    | with_reducible refine w_brk ?_
    | with_reducible refine w_raise ?_
    | with_reducible refine w_unpack ?_
    | with_reducible refine w_for ?_
    | with_reducible refine w_setps ?_
    | with_reducible refine w_setp ?_
    | with_reducible refine w_puts_cons ?_
    | with_reducible refine w_puts_nil ?_
    | ((with_reducible apply w_var); exact rfl)
    | with_reducible refine w_int ?_
    | with_reducible refine w_bl ?_
    | with_reducible refine w_non ?_
    | with_reducible refine w_str ?_
    | with_reducible refine w_con ?_
    | with_reducible refine w_yes ?_
    | with_reducible refine w_idx ?_
    | with_reducible refine w_eq ?_
    | with_reducible refine w_ne ?_
    | with_reducible refine w_inn ?_
    | with_reducible refine w_notin ?_
    | with_reducible refine w_isn ?_
    | with_reducible refine w_notn ?_
    | with_reducible refine w_isb ?_
    | with_reducible refine w_notb ?_
    | with_reducible refine w_not ?_
    | with_reducible refine w_isty ?_
    | with_reducible refine w_un ?_
    | with_reducible refine w_bin ?_
    | with_reducible refine w_binM ?_
    | with_reducible refine w_and ?_
    | with_reducible refine w_or ?_
    | with_reducible refine w_if ?_
    | with_reducible refine w_chain ?_
    | with_reducible refine w_seqs_cons ?_
    | with_reducible refine w_seqs_nil ?_
    | with_reducible refine w_lst ?_
    | with_reducible refine w_tup ?_
    | with_reducible refine w_slice ?_
    | with_reducible refine w_optS ?_
    | with_reducible refine w_optN ?_
    | with_reducible refine w_path_cons ?_
    | with_reducible refine w_path_nil ?_
    | ((with_reducible apply w_pk); exact rfl)
    | ((with_reducible apply w_pth); exact rfl; exact Nat.le_of_ble_eq_true rfl)
    | ((with_reducible apply w_pki); exact rfl; exact Nat.le_of_ble_eq_true rfl)
    | ((with_reducible apply w_putT); exact rfl)
    | ((with_reducible apply w_putT3); exact rfl)
    | ((with_reducible apply w_aug3); exact rfl)
    | ((with_reducible apply w_bump3); exact rfl)
    | ((with_reducible apply w_putp); exact rfl; exact rfl)
    | ((with_reducible apply w_augp); exact rfl; exact rfl)
    | ((with_reducible apply w_bump); exact rfl; exact rfl)
    | ((with_reducible apply w_frz); exact rfl)
    | ((with_reducible apply w_retO); exact rfl)
    | ((with_reducible apply w_augI); exact rfl)
    | ((with_reducible apply w_app); exact rfl)
    | ((with_reducible apply w_ins); exact rfl)
    | ((with_reducible apply w_ext); exact rfl)
    | with_reducible refine w_call ?_
    | with_reducible refine w_callB ?_
    | with_reducible refine w_args_nil ?_
    | with_reducible refine w_args_v ?_
    | with_reducible refine w_args_fs ?_
    | ((with_reducible apply w_args_io); exact rfl)
    | ((with_reducible apply w_args_x); exact rfl)
    | ((with_reducible apply w_args_bw); exact rfl)
    | with_reducible refine w_setGo1 ?_
    | with_reducible refine w_setGo2 ?_
    | with_reducible refine w_iSeq ?_
    | with_reducible refine w_iRange ?_
    | with_reducible refine ex_addN ?_
    | with_reducible refine ex_add1L ?_
    | with_reducible refine ex_add1R ?_
    | ((with_reducible refine ex_subN ?_ ?_); omega)
    | ((with_reducible refine ex_sub1 ?_ ?_); omega)
    | ((with_reducible refine ex_modN ?_ ?_); omega)
    | ((with_reducible refine ex_fdivN ?_ ?_); omega)
    | with_reducible refine ex_add ?_
    | with_reducible refine ex_sub ?_
    | with_reducible refine ex_not ?_
    | with_reducible refine ex_isb ?_
    | with_reducible refine ex_notb ?_
    | with_reducible refine ex_lt ?_
    | with_reducible refine ex_le ?_
    | with_reducible refine ex_gt ?_
    | with_reducible refine ex_ge ?_
    | with_reducible refine ex_eqI ?_
    | with_reducible refine ex_neI ?_
    | with_reducible refine ex_lenF ?_
    | with_reducible refine ex_lenT ?_
    | ((with_reducible refine ex_idxF ?_ ?_); omega)
    | ((with_reducible refine ex_idxT ?_ ?_); omega)
    | ((with_reducible refine ex_setF ?_ ?_); omega)
    | ((with_reducible apply ex_idxR); exact rfl)
    | ((with_reducible refine rng_i ?_ ?_); omega)
    | with_reducible refine seq_l ?_
    | with_reducible refine seq_t ?_
    | ((with_reducible refine ixn_i ?_ ?_); omega)
    | with_reducible refine w_iEnum ?_
    | with_reducible refine w_iEnumT ?_
    | with_reducible refine w_iRange2 ?_
    | ((with_reducible refine enu_i ?_ ?_); omega)
    | ((with_reducible refine enu_t ?_ ?_); omega)
    | with_reducible refine ex_sum ?_
    | with_reducible refine ex_sumT ?_
    | with_reducible refine ex_tupleF ?_
    | with_reducible refine ex_tupleL ?_
    | with_reducible refine ex_listL ?_
    | with_reducible refine ex_listT ?_
    | ((with_reducible refine ex_mulN ?_ ?_); omega)
    | with_reducible refine w_map ?_
    | with_reducible refine fork_t ?_
    | with_reducible refine fork_f ?_)
local macro_rules
  | `(tactic| subst_eqs) => `(tactic| dsimp only [List.set_cons_zero, List.set_cons_succ])
local macro_rules
  | `(tactic| and_intros) => `(tactic| repeat (first
    | exact trivial
    | refine good_l fun _ _ => ?_
    | refine good_t fun _ _ => ?_
    | exact good_l0
    | exact good_t0
    | refine good_lc ?_ ?_
    | refine good_tc ?_ ?_))
abbrev sideD {N : Nat} (s : Side N) : D := .tup (fl s.n fun k => .int (s.w k))
abbrev wid3 {N : Nat} (s0 s1 s2 : Side N) : D := .tup [sideD s0, sideD s1, sideD s2]
abbrev skD {N : Nat} (s0 s1 s2 : Side N) (F : Nat → Nat → Nat → Nat) : D := .tup [wid3 s0 s1 s2, tab3 s0.n s1.n s2.n F]
section
variable {n N : Nat} {s s0 s1 s2 : Side N} {f : Nat → Nat → Nat} {F : Nat → Nat → Nat → Nat} {Q : D → List Slot → Prop} {X : Nat → List Slot → Prop}
theorem w_are_widths (hN : N ≤ 1000) (h : Q (.bl true) []) : wC (run (n + 2) i_are_widths [.val 0 (.int N), .val 0 (sideD s)]) Q X := by
  refine e_are_widths ?_
  unfold s_are_widths
  repeat infer_instance
  refine fork_i (fun z => nomatch z) (fun _ => ?_)
  repeat infer_instance
  apply map_i (Nat.le_of_ble_eq_true rfl)
  · intro k hk
    subst_eqs
    repeat infer_instance
    exact w_is_whole ⟨_, rfl, rfl, rfl⟩
  refine ex_allT (fun k hk => isWhole_true ⟨?_, ?_⟩) ?_
  · have := s.pos k hk; omega
  · have := s.wle hk; omega
  repeat infer_instance
  refine fork_f ?_
  repeat infer_instance
  rw [s.sum, decide_eq_true rfl]
  exact h
theorem w_look_widths (hN : N ≤ 1000) (h : Q .non []) : wC (run (n + 3) i_look_widths [.val 0 (.int N), .val 0 (wid3 s0 s1 s2)]) Q X := by
  refine e_look_widths ?_
  unfold s_look_widths
  repeat infer_instance
  refine fork_i (fun z => nomatch z) (fun _ => ?_)
  repeat infer_instance
  refine ⟨_, rfl, ?_⟩
  repeat infer_instance
  refine fork_f ?_
  repeat infer_instance
  refine map3_i (ya := .bl true) (yb := .bl true) (yc := .bl true) (Nat.le_of_ble_eq_true rfl) ?_ ?_ ?_ ?_
  · subst_eqs
    repeat infer_instance
    exact w_are_widths hN ⟨_, rfl, rfl, rfl⟩
  · subst_eqs
    repeat infer_instance
    exact w_are_widths hN ⟨_, rfl, rfl, rfl⟩
  · subst_eqs
    repeat infer_instance
    exact w_are_widths hN ⟨_, rfl, rfl, rfl⟩
  refine ⟨_, rfl, ?_⟩
  repeat infer_instance
  exact fork_f (w_pass h)
theorem w_lot_of (hN : N ≤ 1000) (h : Q (rowD N s.lot) []) : wC (run (n + 1) i_lot_of [.val 0 (sideD s)]) Q X := by
  have hn := s.nle
  refine e_lot_of ?_
  unfold s_lot_of
  repeat infer_instance
  refine w_comp2 ?_
  repeat infer_instance
  refine com2_i (fun k ys r => ys = (lotL k s.w).map (fun (i : Nat) => D.int i) ∧ ∃ a b c, r = [.val 0 (sideD s), a, b, c]) ?_ ?_ ?_
  · exact ⟨rfl, _, _, _, rfl⟩
  · rintro k ys r hk ⟨rfl, a, b, c, rfl⟩
    have hwk := s.wle hk
    refine ⟨_, rfl, ?_⟩
    repeat infer_instance
    refine ⟨s.w k, _, rfl, fun l ys r => ys = (lotL k s.w ++ List.replicate l k).map (fun (i : Nat) => D.int i) ∧ ∃ a, r = [.val 0 (sideD s), a, .val 0 (.int k), .val 0 (.int (s.w k))], ⟨by simp, _, rfl⟩, ?_, ?_⟩
    · rintro l ys r hl ⟨rfl, a, rfl⟩
      refine ⟨_, rfl, ?_⟩
      repeat infer_instance
      refine ⟨?_, _, rfl⟩
      rw [List.replicate_succ', ← List.append_assoc, List.map_append (l₂ := [k])]
      rfl
    · rintro ys r ⟨rfl, a, rfl⟩
      exact ⟨by rw [lotL_succ], _, _, _, rfl⟩
  · rintro ys r ⟨rfl, a, b, c, rfl⟩
    refine ⟨by rw [List.length_map, lotL_len, s.sum]; omega, ?_⟩
    show Q (.lst _) []
    rw [lotL_fl, fl_map, s.sum]
    exact h
/-- counted so far: all of i rows, j cells of the next one -/
def cpt (N : Nat) (l0 l1 l2 : Nat → Nat) (f : Nat → Nat → Nat) (i j a b c : Nat) : Nat := sumN i (fun i' => sumN N fun j' => ind (l0 i' = a ∧ l1 j' = b ∧ l2 (f i' j') = c)) + sumN j fun j' => ind (l0 i = a ∧ l1 j' = b ∧ l2 (f i j') = c)
theorem cpt_step {l0 l1 l2 : Nat → Nat} {i j : Nat} : upd3 (cpt N l0 l1 l2 f i j) (l0 i) (l1 j) (l2 (f i j)) (cpt N l0 l1 l2 f i j (l0 i) (l1 j) (l2 (f i j)) + 1) = cpt N l0 l1 l2 f i (j + 1) := by
  funext a b c
  unfold upd3
  by_cases h : a = l0 i ∧ b = l1 j ∧ c = l2 (f i j)
  · obtain ⟨rfl, rfl, rfl⟩ := h
    rw [if_pos ⟨rfl, rfl, rfl⟩]
    show _ = _ + (sumN j _ + ind (l0 i = l0 i ∧ l1 j = l1 j ∧ l2 (f i j) = l2 (f i j)))
    rw [show ind (l0 i = l0 i ∧ l1 j = l1 j ∧ l2 (f i j) = l2 (f i j)) = 1 by unfold ind; rw [if_pos ⟨rfl, rfl, rfl⟩]]
    rfl
  · rw [if_neg h]
    show _ = _ + (sumN j _ + ind (l0 i = a ∧ l1 j = b ∧ l2 (f i j) = c))
    rw [show ind (l0 i = a ∧ l1 j = b ∧ l2 (f i j) = c) = 0 by
      unfold ind
      rw [if_neg fun z => h ⟨z.1.symm, z.2.1.symm, z.2.2.symm⟩]]
    rfl
theorem cpt_next {l0 l1 l2 : Nat → Nat} {i : Nat} : cpt N l0 l1 l2 f i N = cpt N l0 l1 l2 f (i + 1) 0 := rfl
theorem cpt_zero {l0 l1 l2 : Nat → Nat} : cpt N l0 l1 l2 f 0 0 = fun _ _ _ => 0 := rfl
theorem cpt_end {l0 l1 l2 : Nat → Nat} : cpt N l0 l1 l2 f N 0 = cnt N l0 l1 l2 f := rfl
theorem w_counts_of (hf : Sq N f) (hN : N ≤ 1000) (h : Q (tab3 s0.n s1.n s2.n (Side.cnts s0 s1 s2 f)) []) : wC (run (n + 2) i_counts_of [.val 0 (tabD N N f), .val 0 (wid3 s0 s1 s2)]) Q X := by
  have h0 := s0.nle
  have h1 := s1.nle
  have h2 := s2.nle
  refine e_counts_of ?_
  unfold s_counts_of
  repeat infer_instance
  refine map3_i (ya := rowD N s0.lot) (yb := rowD N s1.lot) (yc := rowD N s2.lot) (Nat.le_of_ble_eq_true rfl) ?_ ?_ ?_ ?_
  · subst_eqs
    repeat infer_instance
    exact w_lot_of hN ⟨_, rfl, rfl, rfl⟩
  · subst_eqs
    repeat infer_instance
    exact w_lot_of hN ⟨_, rfl, rfl, rfl⟩
  · subst_eqs
    repeat infer_instance
    exact w_lot_of hN ⟨_, rfl, rfl, rfl⟩
  refine ⟨_, rfl, ?_⟩
  subst_eqs
  repeat infer_instance
  apply map_i (Nat.le_of_ble_eq_true rfl)
  · intro a ha
    subst_eqs
    repeat infer_instance
    apply map_i (Nat.le_of_ble_eq_true rfl)
    · intro b hb
      subst_eqs
      repeat infer_instance
      apply map_i (Nat.le_of_ble_eq_true rfl)
      · intro c hc
        subst_eqs
        repeat infer_instance
        exact ⟨rfl, rfl⟩
      · exact ⟨rfl, rfl⟩
    · exact ⟨rfl, rfl⟩
  subst_eqs
  repeat infer_instance
  refine w_loop (fun i r => ∃ a b c d, r = [.val 0 (tabD N N f), .val 0 (wid3 s0 s1 s2), .val 3 (tab3 s0.n s1.n s2.n (cpt N s0.lot s1.lot s2.lot f i 0)), .val 0 (rowD N s0.lot), .val 0 (rowD N s1.lot), .val 0 (rowD N s2.lot), a, b, .no, .no, c, d, .no, .no]) ⟨_, _, _, _, rfl⟩ ?_ ?_
  · rintro i r hi ⟨a, b, c, d, rfl⟩
    refine ⟨_, rfl, ?_⟩
    subst_eqs
    repeat infer_instance
    refine w_loop (fun j r => ∃ c d, r = [.val 0 (tabD N N f), .val 0 (wid3 s0 s1 s2), .val 3 (tab3 s0.n s1.n s2.n (cpt N s0.lot s1.lot s2.lot f i j)), .val 0 (rowD N s0.lot), .val 0 (rowD N s1.lot), .val 0 (rowD N s2.lot), .val 0 (.int i), .val 0 (rowD N (f i)), .no, .no, c, d, .no, .no]) ⟨_, _, rfl⟩ ?_ ?_
    · rintro j r hj ⟨c, d, rfl⟩
      refine ⟨_, rfl, ?_⟩
      have q0 := s0.lt hi
      have q1 := s1.lt hj
      have q2 := s2.lt (hf.lt hi hj)
      have q3 := hf.lt hi hj
      subst_eqs
      repeat infer_instance
      rw [cpt_step]
      exact ⟨_, _, rfl⟩
    · rintro r ⟨c, d, rfl⟩
      exact ⟨_, _, _, _, rfl⟩
  · rintro r ⟨a, b, c, d, rfl⟩
    repeat infer_instance
    exact h
theorem w_l_lots (hN : N ≤ 1000) (h : Q (rowD N s.lot) []) : wC (run (n + 1) i_l_lots [.val 0 (sideD s)]) Q X := by
  have hn := s.nle
  refine e_l_lots ?_
  unfold s_l_lots
  repeat infer_instance
  refine w_loop (fun k r => ∃ a, r = [.val 0 (sideD s), .val 0 (.lst ((lotL k s.w).map fun (i : Nat) => D.int i)), a]) ⟨_, rfl⟩ ?_ ?_
  · rintro k r hk ⟨a, rfl⟩
    have hwk := s.wle hk
    refine ⟨_, rfl, ?_⟩
    subst_eqs
    repeat infer_instance
    refine ex_mulL (by omega) ⟨.lst ((lotL (k + 1) s.w).map fun (i : Nat) => D.int i), ?_, _, rfl⟩
    have e : fl (s.w k) (fun _ => D.int (k : Nat)) = (List.replicate (s.w k) k).map fun (i : Nat) => D.int i := by
      rw [List.map_replicate]
      unfold fl
      rw [List.map_const', List.length_range]
    have le : (lotL (k + 1) s.w).length ≤ 1000 := by
      rw [lotL_len]
      have h2 := sumN_mono (w := s.w) (show k + 1 ≤ s.n from hk)
      rw [s.sum] at h2
      omega
    rw [lotL_succ, List.map_append, ← e]
    rw [lotL_succ, List.length_append, List.length_replicate] at le
    show (if _ then _ else none) = _
    rw [if_pos (by rw [List.length_map, fl_len]; have : LIM = 16777216 := rfl; omega)]
  · rintro r ⟨a, rfl⟩
    repeat infer_instance
    show Q (.lst ((lotL s.n s.w).map fun (i : Nat) => D.int i)) []
    rw [lotL_fl, fl_map, s.sum]
    exact h
theorem w_l_counts (hf : Sq N f) (hN : N ≤ 1000) (h : Q (tab3 s0.n s1.n s2.n (Side.cnts s0 s1 s2 f)) []) : wC (run (n + 2) i_l_counts [.val 0 (tabD N N f), .val 0 (wid3 s0 s1 s2)]) Q X := by
  have h0 := s0.nle
  have h1 := s1.nle
  have h2 := s2.nle
  refine e_l_counts ?_
  unfold s_l_counts
  repeat infer_instance
  refine map3_i (ya := rowD N s0.lot) (yb := rowD N s1.lot) (yc := rowD N s2.lot) (Nat.le_of_ble_eq_true rfl) ?_ ?_ ?_ ?_
  · subst_eqs
    repeat infer_instance
    exact w_l_lots hN ⟨_, rfl, rfl, rfl⟩
  · subst_eqs
    repeat infer_instance
    exact w_l_lots hN ⟨_, rfl, rfl, rfl⟩
  · subst_eqs
    repeat infer_instance
    exact w_l_lots hN ⟨_, rfl, rfl, rfl⟩
  refine ⟨_, rfl, ?_⟩
  subst_eqs
  repeat infer_instance
  subst_eqs
  refine w_loop (fun i r => ∃ a, r = [.val 0 (tabD N N f), .val 0 (wid3 s0 s1 s2), .val 3 (tab3 i s1.n s2.n fun _ _ _ => 0), a, .val 0 (rowD N s0.lot), .val 0 (rowD N s1.lot), .val 0 (rowD N s2.lot), .no, .no, .no, .no]) ⟨_, rfl⟩ ?_ ?_
  · rintro i r hi ⟨a, rfl⟩
    refine ⟨_, rfl, ?_⟩
    subst_eqs
    repeat infer_instance
    apply map_i (Nat.le_of_ble_eq_true rfl)
    · intro b hb
      subst_eqs
      repeat infer_instance
      exact ex_mulL (by omega) ⟨rfl, rfl⟩
    refine ⟨_, rfl, by rw [fl_len]; omega, .val 0 (.int (s0.w i)), ?_⟩
    subst_eqs
    rw [show tab3 (i + 1) s1.n s2.n (fun _ _ _ => 0) = .lst (fl i (fun _ => tabD s1.n s2.n fun _ _ => 0) ++ [tabD s1.n s2.n fun _ _ => 0]) from congrArg D.lst (fl_snoc i _)]
    rfl
  rintro r ⟨a, rfl⟩
  repeat infer_instance
  refine w_loop (fun i r => ∃ a b c, r = [.val 0 (tabD N N f), .val 0 (wid3 s0 s1 s2), .val 3 (tab3 s0.n s1.n s2.n (cpt N s0.lot s1.lot s2.lot f i 0)), a, .val 0 (rowD N s0.lot), .val 0 (rowD N s1.lot), .val 0 (rowD N s2.lot), b, .no, .no, c]) ⟨_, _, _, rfl⟩ ?_ ?_
  · rintro i r hi ⟨a, b, c, rfl⟩
    refine ⟨_, rfl, ?_⟩
    subst_eqs
    repeat infer_instance
    refine w_loop (fun j r => ∃ b c, r = [.val 0 (tabD N N f), .val 0 (wid3 s0 s1 s2), .val 3 (tab3 s0.n s1.n s2.n (cpt N s0.lot s1.lot s2.lot f i j)), .val 0 (.int i), .val 0 (rowD N s0.lot), .val 0 (rowD N s1.lot), .val 0 (rowD N s2.lot), b, .no, .no, c]) ⟨_, _, rfl⟩ ?_ ?_
    · rintro j r hj ⟨b, c, rfl⟩
      refine ⟨_, rfl, ?_⟩
      have q0 := s0.lt hi
      have q1 := s1.lt hj
      have q2 := s2.lt (hf.lt hi hj)
      have q3 := hf.lt hi hj
      subst_eqs
      repeat infer_instance
      rw [cpt_step]
      exact ⟨_, _, rfl⟩
    · rintro r ⟨b, c, rfl⟩
      exact ⟨_, _, _, rfl⟩
  · rintro r ⟨a, b, c, rfl⟩
    repeat infer_instance
    exact h
end
end O
end
section
set_option linter.all false
set_option maxRecDepth 10000
set_option maxHeartbeats 4000000
/-! W8: sketches, wrong sums, outlines. -/
namespace O
local macro_rules
  | `(tactic| infer_instance) => `(tactic| first
    | with_reducible refine w_seq ?_
    | with_reducible refine w_asg ?_
    | with_reducible refine w_ret ?_
    | with_reducible refine w_expr ?_
    | with_reducible refine w_ite ?_
    | with_reducible refine w_pass ?_
    | with_reducible refine w_brk ?_
    | with_reducible refine w_raise ?_
    | with_reducible refine w_unpack ?_
    | with_reducible refine w_for ?_
    | with_reducible refine w_setps ?_
    | with_reducible refine w_setp ?_
    | with_reducible refine w_puts_cons ?_
    | with_reducible refine w_puts_nil ?_
    | ((with_reducible apply w_var); exact rfl)
    | with_reducible refine w_int ?_
    | with_reducible refine w_bl ?_
    | with_reducible refine w_non ?_
    | with_reducible refine w_str ?_
    | with_reducible refine w_con ?_
    | with_reducible refine w_yes ?_
    | with_reducible refine w_idx ?_
    | with_reducible refine w_eq ?_
    | with_reducible refine w_ne ?_
    | with_reducible refine w_inn ?_
    | with_reducible refine w_notin ?_
    | with_reducible refine w_isn ?_
    | with_reducible refine w_notn ?_
    | with_reducible refine w_isb ?_
    | with_reducible refine w_notb ?_
    | with_reducible refine w_not ?_
    | with_reducible refine w_isty ?_
    | with_reducible refine w_un ?_
    | with_reducible refine w_bin ?_
    | with_reducible refine w_binM ?_
    | with_reducible refine w_and ?_
    | with_reducible refine w_or ?_
    | with_reducible refine w_if ?_
    | with_reducible refine w_chain ?_
    | with_reducible refine w_seqs_cons ?_
    | with_reducible refine w_seqs_nil ?_
    | with_reducible refine w_lst ?_
    | with_reducible refine w_tup ?_
    | with_reducible refine w_slice ?_
    | with_reducible refine w_optS ?_
    | with_reducible refine w_optN ?_
    | with_reducible refine w_path_cons ?_
    | with_reducible refine w_path_nil ?_
    | ((with_reducible apply w_pk); exact rfl)
    | ((with_reducible apply w_pth); exact rfl; exact Nat.le_of_ble_eq_true rfl)
    | ((with_reducible apply w_pki); exact rfl; exact Nat.le_of_ble_eq_true rfl)
    | ((with_reducible apply w_putT); exact rfl)
    | ((with_reducible apply w_putT3); exact rfl)
    | ((with_reducible apply w_aug3); exact rfl)
    | ((with_reducible apply w_bump3); exact rfl)
    | ((with_reducible apply w_putp); exact rfl; exact rfl)
    | ((with_reducible apply w_augp); exact rfl; exact rfl)
    | ((with_reducible apply w_bump); exact rfl; exact rfl)
    | ((with_reducible apply w_frz); exact rfl)
    | ((with_reducible apply w_retO); exact rfl)
    | ((with_reducible apply w_augI); exact rfl)
    | ((with_reducible apply w_app); exact rfl)
    | ((with_reducible apply w_ins); exact rfl)
    | ((with_reducible apply w_ext); exact rfl)
    | with_reducible refine w_call ?_
    | with_reducible refine w_callB ?_
    | with_reducible refine w_args_nil ?_
    | with_reducible refine w_args_v ?_
    | with_reducible refine w_args_fs ?_
    | ((with_reducible apply w_args_io); exact rfl)
    | ((with_reducible apply w_args_x); exact rfl)
    | ((with_reducible apply w_args_bw); exact rfl)
    | with_reducible refine w_setGo1 ?_
    | with_reducible refine w_setGo2 ?_
    | with_reducible refine w_iSeq ?_
    | with_reducible refine w_iRange ?_
    | with_reducible refine ex_addN ?_
    | with_reducible refine ex_add1L ?_
    | with_reducible refine ex_add1R ?_
    | ((with_reducible refine ex_subN ?_ ?_); omega)
    | ((with_reducible refine ex_sub1 ?_ ?_); omega)
    | ((with_reducible refine ex_modN ?_ ?_); omega)
    | ((with_reducible refine ex_fdivN ?_ ?_); omega)
    | with_reducible refine ex_add ?_
    | with_reducible refine ex_sub ?_
    | with_reducible refine ex_not ?_
    | with_reducible refine ex_isb ?_
    | with_reducible refine ex_notb ?_
    | with_reducible refine ex_lt ?_
    | with_reducible refine ex_le ?_
    | with_reducible refine ex_gt ?_
    | with_reducible refine ex_ge ?_
    | with_reducible refine ex_eqI ?_
    | with_reducible refine ex_neI ?_
    | with_reducible refine ex_lenF ?_
    | with_reducible refine ex_lenT ?_
    | ((with_reducible refine ex_idxF ?_ ?_); omega)
    | ((with_reducible refine ex_idxT ?_ ?_); omega)
    | ((with_reducible refine ex_setF ?_ ?_); omega)
    | ((with_reducible apply ex_idxR); exact rfl)
    | ((with_reducible refine rng_i ?_ ?_); omega)
    | with_reducible refine seq_l ?_
    | with_reducible refine seq_t ?_
    | ((with_reducible refine ixn_i ?_ ?_); omega)
    | with_reducible refine w_iEnum ?_
    | with_reducible refine w_iEnumT ?_
    | with_reducible refine w_iRange2 ?_
    | ((with_reducible refine enu_i ?_ ?_); omega)
    | ((with_reducible refine enu_t ?_ ?_); omega)
    | with_reducible refine ex_sum ?_
    | with_reducible refine ex_sumT ?_
    | with_reducible refine ex_tupleF ?_
    | with_reducible refine ex_tupleL ?_
    | with_reducible refine ex_listL ?_
    | with_reducible refine ex_listT ?_
    | ((with_reducible refine ex_mulN ?_ ?_); omega)
    | with_reducible refine w_map ?_
    | with_reducible refine fork_t ?_
    | with_reducible refine fork_f ?_)
local macro_rules
  | `(tactic| subst_eqs) => `(tactic| dsimp only [List.set_cons_zero, List.set_cons_succ])
local macro_rules
  | `(tactic| and_intros) => `(tactic| repeat (first
    | exact trivial
    | refine good_l fun _ _ => ?_
    | refine good_t fun _ _ => ?_
    | exact good_l0
    | exact good_t0
    | refine good_lc ?_ ?_
    | refine good_tc ?_ ?_))
section
variable {n N : Nat} {s s0 s1 s2 : Side N} {f : Nat → Nat → Nat} {F : Nat → Nat → Nat → Nat} {Q : D → List Slot → Prop} {X : Nat → List Slot → Prop}
abbrev barD (side a b s p : Nat) : D := .tup [.int side, .int a, .int b, .int s, .int p]
def bar0 (s0 s1 s2 : Side N) (F : Nat → Nat → Nat → Nat) (j k : Nat) : D := barD 0 j k (sumN s0.n fun a => F a j k) (s1.w j * s2.w k)
def bar1 (s0 s1 s2 : Side N) (F : Nat → Nat → Nat → Nat) (i k : Nat) : D := barD 1 i k (sumN s1.n fun b => F i b k) (s0.w i * s2.w k)
def bar2 (s0 s1 s2 : Side N) (F : Nat → Nat → Nat → Nat) (i j : Nat) : D := barD 2 i j (sumN s2.n fun c => F i j c) (s0.w i * s1.w j)
def blk (n m : Nat) (g : Nat → Nat → D) : List D := (fl n fun j => fl m (g j)).flatten
theorem blk_succ (n m : Nat) (g : Nat → Nat → D) : blk (n + 1) m g = blk n m g ++ fl m (g n) := by
  unfold blk
  rw [fl_snoc, List.flatten_append]
  simp
theorem blk_len (n m : Nat) (g : Nat → Nat → D) : (blk n m g).length = n * m := by
  induction n with
  | zero => simp [blk, fl]
  | succ n ih => rw [blk_succ, List.length_append, ih, fl_len, Nat.succ_mul]
theorem mem_blk {n m : Nat} {g : Nat → Nat → D} {x : D} : x ∈ blk n m g ↔ ∃ j k, j < n ∧ k < m ∧ g j k = x := by
  unfold blk
  rw [List.mem_flatten]
  constructor
  · rintro ⟨l, hl, hx⟩
    obtain ⟨j, hj, rfl⟩ := mem_fl.mp hl
    obtain ⟨k, hk, rfl⟩ := mem_fl.mp hx
    exact ⟨j, k, hj, hk, rfl⟩
  · rintro ⟨j, k, hj, hk, rfl⟩
    exact ⟨_, mem_fl.mpr ⟨j, hj, rfl⟩, mem_fl.mpr ⟨k, hk, rfl⟩⟩
def allBars (s0 s1 s2 : Side N) (F : Nat → Nat → Nat → Nat) : List D := blk s1.n s2.n (bar0 s0 s1 s2 F) ++ blk s0.n s2.n (bar1 s0 s1 s2 F) ++ blk s0.n s1.n (bar2 s0 s1 s2 F)
def wrongB : D → Bool
  | .tup [_, _, _, .int s, .int p] => !decide (s = p)
  | _ => false
def barsL (s0 s1 s2 : Side N) (F : Nat → Nat → Nat → Nat) : List D := (allBars s0 s1 s2 F).filter wrongB
theorem mem_bars {x : D} (h : x ∈ allBars s0 s1 s2 F) : ∃ sd a b s p : Nat, x = barD sd a b s p := by
  unfold allBars at h
  rcases List.mem_append.mp h with h | h
  · rcases List.mem_append.mp h with h | h
    · obtain ⟨j, k, _, _, rfl⟩ := mem_blk.mp h
      exact ⟨_, _, _, _, _, rfl⟩
    · obtain ⟨j, k, _, _, rfl⟩ := mem_blk.mp h
      exact ⟨_, _, _, _, _, rfl⟩
  · obtain ⟨j, k, _, _, rfl⟩ := mem_blk.mp h
    exact ⟨_, _, _, _, _, rfl⟩
theorem good_bars : good 9 (.lst (barsL s0 s1 s2 F)) := fun x hx => by
  obtain ⟨sd, a, b, s, p, rfl⟩ := mem_bars (List.mem_filter.mp hx).1
  intro y hy
  simp at hy
  rcases hy with rfl | rfl | rfl | rfl | rfl <;> trivial
theorem bars_nil : barsL s0 s1 s2 F = [] ↔ Right s0 s1 s2 F := by
  unfold barsL
  rw [List.filter_eq_nil_iff]
  have key : ∀ sd a b s p : Nat, ¬ wrongB (barD sd a b s p) = true ↔ s = p := fun sd a b s p => by
    show ¬ (!decide ((s : Int) = (p : Int))) = true ↔ _
    simp
    omega
  constructor
  · intro h
    refine ⟨fun b c hb hc => ?_, fun a c ha hc => ?_, fun a b ha hb => ?_⟩
    · exact (key 0 b c _ _).mp (h _ (List.mem_append_left _ (List.mem_append_left _ (mem_blk.mpr ⟨b, c, hb, hc, rfl⟩))))
    · exact (key 1 a c _ _).mp (h _ (List.mem_append_left _ (List.mem_append_right _ (mem_blk.mpr ⟨a, c, ha, hc, rfl⟩))))
    · exact (key 2 a b _ _).mp (h _ (List.mem_append_right _ (mem_blk.mpr ⟨a, b, ha, hb, rfl⟩)))
  · intro h x hx
    unfold allBars at hx
    rcases List.mem_append.mp hx with hx | hx
    · rcases List.mem_append.mp hx with hx | hx
      · obtain ⟨j, k, hj, hk, rfl⟩ := mem_blk.mp hx
        exact (key 0 j k _ _).mpr (h.r0 j k hj hk)
      · obtain ⟨j, k, hj, hk, rfl⟩ := mem_blk.mp hx
        exact (key 1 j k _ _).mpr (h.r1 j k hj hk)
    · obtain ⟨j, k, hj, hk, rfl⟩ := mem_blk.mp hx
      exact (key 2 j k _ _).mpr (h.r2 j k hj hk)
theorem w_wrong_sums (hN : N ≤ 1000) (h : Q (.lst (barsL s0 s1 s2 F)) []) : wC (run (n + 1) i_wrong_sums [.val 0 (skD s0 s1 s2 F)]) Q X := by
  have h0 := s0.nle
  have h1 := s1.nle
  have h2 := s2.nle
  have hmul : ∀ {a b : Nat}, a ≤ N → b ≤ N → a * b ≤ 1000000 := fun {a b} ha hb => Nat.le_trans (Nat.mul_le_mul ha hb) (Nat.mul_le_mul hN hN)
  refine e_wrong_sums ?_
  unfold s_wrong_sums
  repeat infer_instance
  refine ⟨_, rfl, ?_⟩
  subst_eqs
  repeat infer_instance
  subst_eqs
  refine w_loop (fun i r => ∃ a b, r = [.val 0 (skD s0 s1 s2 F), .val 1 (.lst (blk i s2.n (bar0 s0 s1 s2 F))), a, .no, .val 0 (wid3 s0 s1 s2), .val 0 (tab3 s0.n s1.n s2.n F), b, .no, .no, .no]) ⟨_, _, rfl⟩ ?_ ?_
  · rintro i r hi ⟨a, b, rfl⟩
    refine ⟨_, rfl, ?_⟩
    subst_eqs
    repeat infer_instance
    refine w_loop (fun j r => ∃ b, r = [.val 0 (skD s0 s1 s2 F), .val 1 (.lst (blk i s2.n (bar0 s0 s1 s2 F) ++ fl j (bar0 s0 s1 s2 F i))), .val 0 (.int i), .no, .val 0 (wid3 s0 s1 s2), .val 0 (tab3 s0.n s1.n s2.n F), b, .no, .no, .no]) ?_ ?_ ?_
    · exact ⟨_, by rw [show fl 0 (bar0 s0 s1 s2 F i) = [] from rfl, List.append_nil]⟩
    · rintro j r hj ⟨b, rfl⟩
      have q := s1.wle hi
      refine ⟨_, rfl, ?_⟩
      subst_eqs
      repeat infer_instance
      apply map_i (Nat.le_of_ble_eq_true rfl)
      · intro k hk
        subst_eqs
        repeat infer_instance
        exact ⟨rfl, rfl⟩
      repeat infer_instance
      have m1 := hmul h1 h2
      have m2 := hmul h0 h2
      have m3 := hmul h0 h1
      have m4 := hmul (show i ≤ N by omega) h2
      refine ⟨_, rfl, by simp only [List.length_append, blk_len, fl_len]; omega, .val 0 (.int j), ?_⟩
      rw [fl_snoc, ← List.append_assoc]
      rfl
    · rintro r ⟨b, rfl⟩
      exact ⟨_, _, by rw [blk_succ]⟩
  rintro r ⟨u, v, rfl⟩
  repeat infer_instance
  refine w_loop (fun i r => ∃ a b, r = [.val 0 (skD s0 s1 s2 F), .val 1 (.lst (blk s1.n s2.n (bar0 s0 s1 s2 F) ++ blk i s2.n (bar1 s0 s1 s2 F))), u, a, .val 0 (wid3 s0 s1 s2), .val 0 (tab3 s0.n s1.n s2.n F), b, .no, .no, .no]) ⟨_, _, by rw [show blk 0 s2.n (bar1 s0 s1 s2 F) = [] from rfl, List.append_nil]⟩ ?_ ?_
  · rintro i r hi ⟨a, b, rfl⟩
    refine ⟨_, rfl, ?_⟩
    subst_eqs
    repeat infer_instance
    refine w_loop (fun j r => ∃ b, r = [.val 0 (skD s0 s1 s2 F), .val 1 (.lst (blk s1.n s2.n (bar0 s0 s1 s2 F) ++ blk i s2.n (bar1 s0 s1 s2 F) ++ fl j (bar1 s0 s1 s2 F i))), u, .val 0 (.int i), .val 0 (wid3 s0 s1 s2), .val 0 (tab3 s0.n s1.n s2.n F), b, .no, .no, .no]) ?_ ?_ ?_
    · exact ⟨_, by rw [show fl 0 (bar1 s0 s1 s2 F i) = [] from rfl, List.append_nil]⟩
    · rintro j r hj ⟨b, rfl⟩
      have q := s0.wle hi
      refine ⟨_, rfl, ?_⟩
      subst_eqs
      repeat infer_instance
      apply map_i (Nat.le_of_ble_eq_true rfl)
      · intro k hk
        subst_eqs
        repeat infer_instance
        exact ⟨rfl, rfl⟩
      repeat infer_instance
      have m1 := hmul h1 h2
      have m2 := hmul h0 h2
      have m3 := hmul h0 h1
      have m4 := hmul (show i ≤ N by omega) h2
      refine ⟨_, rfl, by simp only [List.length_append, blk_len, fl_len]; omega, .val 0 (.int j), ?_⟩
      rw [fl_snoc, ← List.append_assoc]
      rfl
    · rintro r ⟨b, rfl⟩
      exact ⟨_, _, by rw [blk_succ, ← List.append_assoc]⟩
  rintro r ⟨w, x, rfl⟩
  repeat infer_instance
  refine w_loop (fun i r => ∃ a b, r = [.val 0 (skD s0 s1 s2 F), .val 1 (.lst (blk s1.n s2.n (bar0 s0 s1 s2 F) ++ blk s0.n s2.n (bar1 s0 s1 s2 F) ++ blk i s1.n (bar2 s0 s1 s2 F))), b, a, .val 0 (wid3 s0 s1 s2), .val 0 (tab3 s0.n s1.n s2.n F), x, .no, .no, .no]) ⟨_, _, by rw [show blk 0 s1.n (bar2 s0 s1 s2 F) = [] from rfl, List.append_nil]⟩ ?_ ?_
  · rintro i r hi ⟨a, b, rfl⟩
    refine ⟨_, rfl, ?_⟩
    subst_eqs
    repeat infer_instance
    refine w_loop (fun j r => ∃ b, r = [.val 0 (skD s0 s1 s2 F), .val 1 (.lst (blk s1.n s2.n (bar0 s0 s1 s2 F) ++ blk s0.n s2.n (bar1 s0 s1 s2 F) ++ blk i s1.n (bar2 s0 s1 s2 F) ++ fl j (bar2 s0 s1 s2 F i))), b, .val 0 (.int i), .val 0 (wid3 s0 s1 s2), .val 0 (tab3 s0.n s1.n s2.n F), x, .no, .no, .no]) ?_ ?_ ?_
    · exact ⟨_, by rw [show fl 0 (bar2 s0 s1 s2 F i) = [] from rfl, List.append_nil]⟩
    · rintro j r hj ⟨b, rfl⟩
      have q := s0.wle hi
      refine ⟨_, rfl, ?_⟩
      subst_eqs
      repeat infer_instance
      have m1 := hmul h1 h2
      have m2 := hmul h0 h2
      have m3 := hmul h0 h1
      have m4 := hmul (show i ≤ N by omega) h1
      refine ⟨_, rfl, by simp only [List.length_append, blk_len, fl_len]; omega, .val 0 (.int j), ?_⟩
      rw [fl_snoc, ← List.append_assoc]
      rfl
    · rintro r ⟨b, rfl⟩
      exact ⟨_, _, by rw [blk_succ, ← List.append_assoc]⟩
  rintro r ⟨y, z, rfl⟩
  repeat infer_instance
  refine w_filter ?_
  repeat infer_instance
  refine fil_i (cf := wrongB) (g := fun d => d) (Nat.le_of_ble_eq_true rfl) (fun d hd => ?_) (fun d hd _ => ?_) ?_
  · obtain ⟨sd, a, b, s, p, rfl⟩ := mem_bars (s0 := s0) (s1 := s1) (s2 := s2) (F := F) hd
    subst_eqs
    repeat infer_instance
    exact ⟨rfl, rfl⟩
  · subst_eqs
    repeat infer_instance
    exact ⟨rfl, rfl⟩
  · rw [List.map_id']
    exact h
theorem w_l_bars (hN : N ≤ 1000) (h : Q (.lst (barsL s0 s1 s2 F)) []) : wC (run (n + 1) i_l_bars [.val 0 (wid3 s0 s1 s2), .val 0 (tab3 s0.n s1.n s2.n F)]) Q X := by
  have h0 := s0.nle
  have h1 := s1.nle
  have h2 := s2.nle
  have hmul : ∀ {a b : Nat}, a ≤ N → b ≤ N → a * b ≤ 1000000 := fun {a b} ha hb => Nat.le_trans (Nat.mul_le_mul ha hb) (Nat.mul_le_mul hN hN)
  refine e_l_bars ?_
  unfold s_l_bars
  repeat infer_instance
  subst_eqs
  refine w_loop (fun i r => ∃ a b, r = [.val 0 (wid3 s0 s1 s2), .val 0 (tab3 s0.n s1.n s2.n F), .val 1 (.lst (blk i s2.n (bar0 s0 s1 s2 F))), a, .no, b, .no, .no, .no]) ⟨_, _, rfl⟩ ?_ ?_
  · rintro i r hi ⟨a, b, rfl⟩
    refine ⟨_, rfl, ?_⟩
    subst_eqs
    repeat infer_instance
    refine w_loop (fun j r => ∃ b, r = [.val 0 (wid3 s0 s1 s2), .val 0 (tab3 s0.n s1.n s2.n F), .val 1 (.lst (blk i s2.n (bar0 s0 s1 s2 F) ++ fl j (bar0 s0 s1 s2 F i))), .val 0 (.int i), .no, b, .no, .no, .no]) ?_ ?_ ?_
    · exact ⟨_, by rw [show fl 0 (bar0 s0 s1 s2 F i) = [] from rfl, List.append_nil]⟩
    · rintro j r hj ⟨b, rfl⟩
      have q := s1.wle hi
      refine ⟨_, rfl, ?_⟩
      subst_eqs
      repeat infer_instance
      apply map_i (Nat.le_of_ble_eq_true rfl)
      · intro k hk
        subst_eqs
        repeat infer_instance
        exact ⟨rfl, rfl⟩
      repeat infer_instance
      have m1 := hmul h1 h2
      have m2 := hmul h0 h2
      have m3 := hmul h0 h1
      have m4 := hmul (show i ≤ N by omega) h2
      refine ⟨_, rfl, by simp only [List.length_append, blk_len, fl_len]; omega, .val 0 (.int j), ?_⟩
      rw [fl_snoc, ← List.append_assoc]
      rfl
    · rintro r ⟨b, rfl⟩
      exact ⟨_, _, by rw [blk_succ]⟩
  rintro r ⟨u, v, rfl⟩
  repeat infer_instance
  refine w_loop (fun i r => ∃ a b, r = [.val 0 (wid3 s0 s1 s2), .val 0 (tab3 s0.n s1.n s2.n F), .val 1 (.lst (blk s1.n s2.n (bar0 s0 s1 s2 F) ++ blk i s2.n (bar1 s0 s1 s2 F))), u, a, b, .no, .no, .no]) ⟨_, _, by rw [show blk 0 s2.n (bar1 s0 s1 s2 F) = [] from rfl, List.append_nil]⟩ ?_ ?_
  · rintro i r hi ⟨a, b, rfl⟩
    refine ⟨_, rfl, ?_⟩
    subst_eqs
    repeat infer_instance
    refine w_loop (fun j r => ∃ b, r = [.val 0 (wid3 s0 s1 s2), .val 0 (tab3 s0.n s1.n s2.n F), .val 1 (.lst (blk s1.n s2.n (bar0 s0 s1 s2 F) ++ blk i s2.n (bar1 s0 s1 s2 F) ++ fl j (bar1 s0 s1 s2 F i))), u, .val 0 (.int i), b, .no, .no, .no]) ?_ ?_ ?_
    · exact ⟨_, by rw [show fl 0 (bar1 s0 s1 s2 F i) = [] from rfl, List.append_nil]⟩
    · rintro j r hj ⟨b, rfl⟩
      have q := s0.wle hi
      refine ⟨_, rfl, ?_⟩
      subst_eqs
      repeat infer_instance
      apply map_i (Nat.le_of_ble_eq_true rfl)
      · intro k hk
        subst_eqs
        repeat infer_instance
        exact ⟨rfl, rfl⟩
      repeat infer_instance
      have m1 := hmul h1 h2
      have m2 := hmul h0 h2
      have m3 := hmul h0 h1
      have m4 := hmul (show i ≤ N by omega) h2
      refine ⟨_, rfl, by simp only [List.length_append, blk_len, fl_len]; omega, .val 0 (.int j), ?_⟩
      rw [fl_snoc, ← List.append_assoc]
      rfl
    · rintro r ⟨b, rfl⟩
      exact ⟨_, _, by rw [blk_succ, ← List.append_assoc]⟩
  rintro r ⟨w, x, rfl⟩
  repeat infer_instance
  refine w_loop (fun i r => ∃ a b, r = [.val 0 (wid3 s0 s1 s2), .val 0 (tab3 s0.n s1.n s2.n F), .val 1 (.lst (blk s1.n s2.n (bar0 s0 s1 s2 F) ++ blk s0.n s2.n (bar1 s0 s1 s2 F) ++ blk i s1.n (bar2 s0 s1 s2 F))), b, a, x, .no, .no, .no]) ⟨_, _, by rw [show blk 0 s1.n (bar2 s0 s1 s2 F) = [] from rfl, List.append_nil]⟩ ?_ ?_
  · rintro i r hi ⟨a, b, rfl⟩
    refine ⟨_, rfl, ?_⟩
    subst_eqs
    repeat infer_instance
    refine w_loop (fun j r => ∃ b, r = [.val 0 (wid3 s0 s1 s2), .val 0 (tab3 s0.n s1.n s2.n F), .val 1 (.lst (blk s1.n s2.n (bar0 s0 s1 s2 F) ++ blk s0.n s2.n (bar1 s0 s1 s2 F) ++ blk i s1.n (bar2 s0 s1 s2 F) ++ fl j (bar2 s0 s1 s2 F i))), b, .val 0 (.int i), x, .no, .no, .no]) ?_ ?_ ?_
    · exact ⟨_, by rw [show fl 0 (bar2 s0 s1 s2 F i) = [] from rfl, List.append_nil]⟩
    · rintro j r hj ⟨b, rfl⟩
      have q := s0.wle hi
      refine ⟨_, rfl, ?_⟩
      subst_eqs
      repeat infer_instance
      have m1 := hmul h1 h2
      have m2 := hmul h0 h2
      have m3 := hmul h0 h1
      have m4 := hmul (show i ≤ N by omega) h1
      refine ⟨_, rfl, by simp only [List.length_append, blk_len, fl_len]; omega, .val 0 (.int j), ?_⟩
      rw [fl_snoc, ← List.append_assoc]
      rfl
    · rintro r ⟨b, rfl⟩
      exact ⟨_, _, by rw [blk_succ, ← List.append_assoc]⟩
  rintro r ⟨y, z, rfl⟩
  repeat infer_instance
  refine w_filter ?_
  repeat infer_instance
  refine fil_i (cf := wrongB) (g := fun d => d) (Nat.le_of_ble_eq_true rfl) (fun d hd => ?_) (fun d hd _ => ?_) ?_
  · obtain ⟨sd, a, b, s, p, rfl⟩ := mem_bars (s0 := s0) (s1 := s1) (s2 := s2) (F := F) hd
    subst_eqs
    repeat infer_instance
    exact ⟨rfl, rfl⟩
  · subst_eqs
    repeat infer_instance
    exact ⟨rfl, rfl⟩
  · rw [List.map_id']
    exact h

theorem w_is_sketch (h1 : 1 ≤ N) (h7 : N ≤ 7) (hF : ∀ a b c, a < s0.n → b < s1.n → c < s2.n → F a b c ≤ 49) (h : Q (.bl true) []) : wC (run (n + 3) i_is_sketch [.val 0 (skD s0 s1 s2 F)]) Q X := by
  have n0 := s0.nle
  have n1 := s1.nle
  have n2 := s2.nle
  refine e_is_sketch ?_
  unfold s_is_sketch
  repeat infer_instance
  refine fork_i (fun z => nomatch z) (fun _ => ?_)
  repeat infer_instance
  refine ⟨_, rfl, ?_⟩
  repeat infer_instance
  refine fork_f ?_
  repeat infer_instance
  refine fork_i (fun z => nomatch z) (fun _ => ?_)
  repeat infer_instance
  refine ⟨_, rfl, ?_⟩
  repeat infer_instance
  refine fork_f ?_
  repeat infer_instance
  refine ⟨_, rfl, ?_⟩
  subst_eqs
  repeat infer_instance
  refine fork_i (fun z => nomatch z) (fun _ => ?_)
  repeat infer_instance
  apply map_i (Nat.le_of_ble_eq_true rfl)
  · intro k hk
    subst_eqs
    repeat infer_instance
    exact w_is_whole ⟨_, rfl, rfl, rfl⟩
  refine ex_allT (fun k hk => isWhole_true ⟨?_, ?_⟩) ?_
  · have := s0.pos k hk; omega
  · have := s0.wle hk; omega
  repeat infer_instance
  refine fork_f ?_
  repeat infer_instance
  rw [s0.sum]
  subst_eqs
  refine ⟨_, rfl, fun _ => ?_, fun z => ?_⟩
  rotate_left
  · exact absurd z (by simp; omega)
  repeat infer_instance
  rw [decide_eq_true (show (N : Int) ≤ 7 by omega)]
  refine fork_f ?_
  repeat infer_instance
  refine map3_i (ya := .bl true) (yb := .bl true) (yc := .bl true) (Nat.le_of_ble_eq_true rfl) ?_ ?_ ?_ ?_
  · subst_eqs
    repeat infer_instance
    exact w_are_widths (by omega) ⟨_, rfl, rfl, rfl⟩
  · subst_eqs
    repeat infer_instance
    exact w_are_widths (by omega) ⟨_, rfl, rfl, rfl⟩
  · subst_eqs
    repeat infer_instance
    exact w_are_widths (by omega) ⟨_, rfl, rfl, rfl⟩
  refine ⟨_, rfl, ?_⟩
  repeat infer_instance
  refine fork_f ?_
  repeat infer_instance
  refine fork_i (fun z => nomatch z) (fun _ => ?_)
  repeat infer_instance
  rw [decide_eq_true rfl]
  refine fork_f ?_
  repeat infer_instance
  subst_eqs
  refine w_loop (fun i r => ∃ a b, r = [.val 0 (skD s0 s1 s2 F), .val 0 (.int N), a, .val 0 (wid3 s0 s1 s2), .val 0 (tab3 s0.n s1.n s2.n F), b, .no]) ⟨_, _, rfl⟩ ?_ ?_
  · rintro i r hi ⟨a, b, rfl⟩
    refine ⟨_, rfl, ?_⟩
    subst_eqs
    repeat infer_instance
    refine fork_i (fun z => nomatch z) (fun _ => ?_)
    repeat infer_instance
    rw [decide_eq_true rfl]
    refine fork_f ?_
    repeat infer_instance
    refine w_loop (fun j r => ∃ b, r = [.val 0 (skD s0 s1 s2 F), .val 0 (.int N), .val 0 (tabD s1.n s2.n (F i)), .val 0 (wid3 s0 s1 s2), .val 0 (tab3 s0.n s1.n s2.n F), b, .no]) ⟨_, rfl⟩ ?_ ?_
    · rintro j r hj ⟨b, rfl⟩
      refine ⟨_, rfl, ?_⟩
      subst_eqs
      repeat infer_instance
      refine fork_i (fun z => nomatch z) (fun _ => ?_)
      repeat infer_instance
      rw [decide_eq_true rfl]
      refine fork_f ?_
      repeat infer_instance
      apply map_i (Nat.le_of_ble_eq_true rfl)
      · intro k hk
        subst_eqs
        repeat infer_instance
        refine ex_mul (by omega) ?_
        repeat infer_instance
        exact w_is_whole ⟨_, rfl, rfl, rfl⟩
      refine ex_allT (fun k hk => isWhole_true ⟨by omega, ?_⟩) ?_
      · have := hF i j k hi hj hk; omega
      repeat infer_instance
      exact fork_f (w_pass ⟨_, rfl⟩)
    · rintro r ⟨b, rfl⟩
      exact ⟨_, _, rfl⟩
  · rintro r ⟨a, b, rfl⟩
    repeat infer_instance
    exact h
theorem w_look_sketch (h1 : 1 ≤ N) (h7 : N ≤ 7) (hF : ∀ a b c, a < s0.n → b < s1.n → c < s2.n → F a b c ≤ 49) (h : Q .non []) : wC (run (n + 4) i_look_sketch [.val 0 (skD s0 s1 s2 F)]) Q X := by
  refine e_look_sketch ?_
  unfold s_look_sketch
  repeat infer_instance
  refine w_is_sketch h1 h7 hF ⟨_, rfl, _, rfl, fork_f (w_pass h)⟩
theorem w_bars (h1 : 1 ≤ N) (h7 : N ≤ 7) (hF : ∀ a b c, a < s0.n → b < s1.n → c < s2.n → F a b c ≤ 49) (h : Q (.lst (barsL s0 s1 s2 F)) []) : wC (run (n + 5) i_bars [.val 0 (skD s0 s1 s2 F)]) Q X := by
  refine e_bars ?_
  unfold s_bars
  repeat infer_instance
  refine w_look_sketch h1 h7 hF ⟨_, rfl, ?_⟩
  repeat infer_instance
  exact w_wrong_sums (by omega) ⟨_, rfl, h⟩
theorem w_is_outline (h1 : 1 ≤ N) (h7 : N ≤ 7) (hF : ∀ a b c, a < s0.n → b < s1.n → c < s2.n → F a b c ≤ 49) (h : ∀ t, (t = true ↔ Right s0 s1 s2 F) → Q (.bl t) []) : wC (run (n + 4) i_is_outline [.val 0 (skD s0 s1 s2 F)]) Q X := by
  refine e_is_outline ?_
  unfold s_is_outline
  repeat infer_instance
  refine w_is_sketch h1 h7 hF ⟨_, rfl, fork_t ?_⟩
  repeat infer_instance
  refine w_wrong_sums (by omega) ⟨_, rfl, ?_⟩
  repeat infer_instance
  refine ex_eq good_bars good_l0 fun t ht => h t (ht.trans ?_)
  rw [D.lst.injEq]
  exact bars_nil
theorem w_size_of (h1 : 1 ≤ N) (h7 : N ≤ 7) (hF : ∀ a b c, a < s0.n → b < s1.n → c < s2.n → F a b c ≤ 49) (h : Q (.int N) []) : wC (run (n + 5) i_size_of [.val 0 (skD s0 s1 s2 F)]) Q X := by
  refine e_size_of ?_
  unfold s_size_of
  repeat infer_instance
  refine w_look_sketch h1 h7 hF ⟨_, rfl, ?_⟩
  repeat infer_instance
  rw [s0.sum]
  exact h
theorem w_outline_of (hf : Sq N f) (h1 : 1 ≤ N) (h7 : N ≤ 7) (h : Q (skD s0 s1 s2 (Side.cnts s0 s1 s2 f)) []) : wC (run (n + 5) i_outline_of [.val 0 (tabD N N f), .val 0 (wid3 s0 s1 s2)]) Q X := by
  refine e_outline_of ?_
  unfold s_outline_of
  repeat infer_instance
  refine w_look_square hf h1 h7 ⟨_, rfl, ?_⟩
  repeat infer_instance
  refine w_look_widths (by omega) ⟨_, rfl, ?_⟩
  repeat infer_instance
  refine w_counts_of hf (by omega) ⟨_, rfl, ?_⟩
  repeat infer_instance
  exact h
end
end O
end
section
set_option linter.all false
set_option maxRecDepth 10000
set_option maxHeartbeats 4000000
/-! W9: drawn widths. -/
namespace O
local macro_rules
  | `(tactic| infer_instance) => `(tactic| first
    | with_reducible refine w_seq ?_
    | with_reducible refine w_asg ?_
    | with_reducible refine w_ret ?_
    | with_reducible refine w_expr ?_
    | with_reducible refine w_ite ?_
    | with_reducible refine w_pass ?_
    | with_reducible refine w_brk ?_
    | with_reducible refine w_raise ?_
    | with_reducible refine w_unpack ?_
    | with_reducible refine w_for ?_
    | with_reducible refine w_setps ?_
    | with_reducible refine w_setp ?_
    | with_reducible refine w_puts_cons ?_
    | with_reducible refine w_puts_nil ?_
    | ((with_reducible apply w_var); exact rfl)
    | with_reducible refine w_int ?_
    | with_reducible refine w_bl ?_
    | with_reducible refine w_non ?_
    | with_reducible refine w_str ?_
    | with_reducible refine w_con ?_
    | with_reducible refine w_yes ?_
    | with_reducible refine w_idx ?_
    | with_reducible refine w_eq ?_
    | with_reducible refine w_ne ?_
    | with_reducible refine w_inn ?_
    | with_reducible refine w_notin ?_
    | with_reducible refine w_isn ?_
    | with_reducible refine w_notn ?_
    | with_reducible refine w_isb ?_
    | with_reducible refine w_notb ?_
    | with_reducible refine w_not ?_
    | with_reducible refine w_isty ?_
    | with_reducible refine w_un ?_
    | with_reducible refine w_bin ?_
    | with_reducible refine w_binM ?_
    | with_reducible refine w_and ?_
    | with_reducible refine w_or ?_
    | with_reducible refine w_if ?_
    | with_reducible refine w_chain ?_
    | with_reducible refine w_seqs_cons ?_
    | with_reducible refine w_seqs_nil ?_
    | with_reducible refine w_lst ?_
    | with_reducible refine w_tup ?_
    | with_reducible refine w_slice ?_
    | with_reducible refine w_optS ?_
    | with_reducible refine w_optN ?_
    | with_reducible refine w_path_cons ?_
    | with_reducible refine w_path_nil ?_
    | ((with_reducible apply w_pk); exact rfl)
    | ((with_reducible apply w_pth); exact rfl; exact Nat.le_of_ble_eq_true rfl)
    | ((with_reducible apply w_pki); exact rfl; exact Nat.le_of_ble_eq_true rfl)
    | ((with_reducible apply w_putT); exact rfl)
    | ((with_reducible apply w_putT3); exact rfl)
    | ((with_reducible apply w_aug3); exact rfl)
    | ((with_reducible apply w_bump3); exact rfl)
    | ((with_reducible apply w_putp); exact rfl; exact rfl)
    | ((with_reducible apply w_augp); exact rfl; exact rfl)
    | ((with_reducible apply w_bump); exact rfl; exact rfl)
    | ((with_reducible apply w_frz); exact rfl)
    | ((with_reducible apply w_retO); exact rfl)
    | ((with_reducible apply w_augI); exact rfl)
    | ((with_reducible apply w_app); exact rfl)
    | ((with_reducible apply w_ins); exact rfl)
    | ((with_reducible apply w_ext); exact rfl)
    | with_reducible refine w_call ?_
    | with_reducible refine w_callB ?_
    | with_reducible refine w_args_nil ?_
    | with_reducible refine w_args_v ?_
    | with_reducible refine w_args_fs ?_
    | ((with_reducible apply w_args_io); exact rfl)
    | ((with_reducible apply w_args_x); exact rfl)
    | ((with_reducible apply w_args_bw); exact rfl)
    | with_reducible refine w_setGo1 ?_
    | with_reducible refine w_setGo2 ?_
    | with_reducible refine w_iSeq ?_
    | with_reducible refine w_iRange ?_
    | with_reducible refine ex_addN ?_
    | with_reducible refine ex_add1L ?_
    | with_reducible refine ex_add1R ?_
    | ((with_reducible refine ex_subN ?_ ?_); omega)
    | ((with_reducible refine ex_sub1 ?_ ?_); omega)
    | ((with_reducible refine ex_modN ?_ ?_); omega)
    | ((with_reducible refine ex_fdivN ?_ ?_); omega)
    | with_reducible refine ex_add ?_
    | with_reducible refine ex_sub ?_
    | with_reducible refine ex_not ?_
    | with_reducible refine ex_isb ?_
    | with_reducible refine ex_notb ?_
    | with_reducible refine ex_lt ?_
    | with_reducible refine ex_le ?_
    | with_reducible refine ex_gt ?_
    | with_reducible refine ex_ge ?_
    | with_reducible refine ex_eqI ?_
    | with_reducible refine ex_neI ?_
    | with_reducible refine ex_lenF ?_
    | with_reducible refine ex_lenT ?_
    | ((with_reducible refine ex_idxF ?_ ?_); omega)
    | ((with_reducible refine ex_idxT ?_ ?_); omega)
    | ((with_reducible refine ex_setF ?_ ?_); omega)
    | ((with_reducible apply ex_idxR); exact rfl)
    | ((with_reducible refine rng_i ?_ ?_); omega)
    | with_reducible refine seq_l ?_
    | with_reducible refine seq_t ?_
    | ((with_reducible refine ixn_i ?_ ?_); omega)
    | with_reducible refine w_iEnum ?_
    | with_reducible refine w_iEnumT ?_
    | with_reducible refine w_iRange2 ?_
    | ((with_reducible refine enu_i ?_ ?_); omega)
    | ((with_reducible refine enu_t ?_ ?_); omega)
    | with_reducible refine ex_sum ?_
    | with_reducible refine ex_sumT ?_
    | with_reducible refine ex_tupleF ?_
    | with_reducible refine ex_tupleL ?_
    | with_reducible refine ex_listL ?_
    | with_reducible refine ex_listT ?_
    | ((with_reducible refine ex_mulN ?_ ?_); omega)
    | with_reducible refine w_map ?_
    | with_reducible refine fork_t ?_
    | with_reducible refine fork_f ?_)
local macro_rules
  | `(tactic| subst_eqs) => `(tactic| dsimp only [List.set_cons_zero, List.set_cons_succ])
local macro_rules
  | `(tactic| and_intros) => `(tactic| repeat (first
    | exact trivial
    | refine good_l fun _ _ => ?_
    | refine good_t fun _ _ => ?_
    | exact good_l0
    | exact good_t0
    | refine good_lc ?_ ?_
    | refine good_tc ?_ ?_))
theorem fl_upd {α : Type} (k : Nat) (w : Nat → α) (x : α) : fl k w ++ [x] = fl (k + 1) (upd w k x) := by
  rw [fl_snoc, upd_self]
  congr 1
  exact fl_congr fun i hi => (upd_ne (by omega)).symm
theorem sumN_upd {k : Nat} {w : Nat → Nat} {x : Nat} : sumN (k + 1) (upd w k x) = sumN k w + x := by
  show sumN k (upd w k x) + upd w k x k = _
  rw [upd_self]
  congr 1
  exact sumN_congr fun i hi => upd_ne (by omega)
section
variable {n N : Nat} {T : Tn} {Q : D → List Slot → Prop} {X : Nat → List Slot → Prop}
theorem w_l_pick {xs : List D} (h0 : xs ≠ []) (hl : xs.length < 1000000) (hT : T.c < 1000000) (h : ∀ d ∈ xs, ∀ T' : Tn, T'.c = T.c + 1 → Q d [sT T']) : wC (run (n + 2) i_l_pick [sT T, .val 0 (.lst xs)]) Q X := by
  have hp : 0 < xs.length := List.length_pos_iff.mpr h0
  refine e_l_pick ?_
  unfold s_l_pick
  repeat infer_instance
  refine ⟨_, rfl, ?_⟩
  repeat infer_instance
  refine w_draw ⟨by omega, by omega⟩ hT fun x T' hx hc => ⟨_, rfl, ?_⟩
  have hx' : x < xs.length := by omega
  refine ⟨xs[x], ?_, h _ (List.getElem_mem hx') T' hc⟩
  show atI xs (x : Int) = _
  unfold atI
  rw [if_pos (by omega), Int.toNat_natCast, List.getElem?_eq_getElem hx']
theorem w_l_side (h1 : 1 ≤ N) (h7 : N ≤ 7) (hT : T.c < 100000) (h : ∀ (s : Side N) (T' : Tn), T'.c ≤ T.c + 2 * N → Q (sideD s) [sT T']) : wC (run (n + 3) i_l_side [sT T, .val 0 (.int N)]) Q X := by
  refine e_l_side ?_
  unfold s_l_side
  repeat infer_instance
  refine w_whl (fun m r => ∃ k w T', r = [sT T', .val 0 (.int N), .val 1 (.lst (fl k fun i => .int (w i : Nat)))] ∧ m + sumN k w = N ∧ (∀ i, i < k → 1 ≤ w i) ∧ k ≤ N ∧ T'.c + 2 * m ≤ T.c + 2 * N) ?_ 1000 N _ (by omega) ⟨0, fun _ => 0, T, rfl, rfl, fun i hi => by omega, by omega, by omega⟩
  rintro m r ⟨k, w, T', rfl, hm, hw, hk, hc⟩
  repeat infer_instance
  refine fork_i (fun hlt => ?_) (fun hlt => ?_)
  · have hlt : sumN k w < N := by simp at hlt; omega
    repeat infer_instance
    refine w_l_pick (by simp) (by simp) (by omega) fun d hd T2 h2 => ⟨_, rfl, ?_⟩
    have hd' : ∃ v : Nat, d = .int v ∧ 1 ≤ v ∧ v ≤ 7 := by
      simp at hd
      rcases hd with rfl | rfl | rfl | rfl
      · exact ⟨1, rfl, by omega, by omega⟩
      · exact ⟨2, rfl, by omega, by omega⟩
      · exact ⟨3, rfl, by omega, by omega⟩
      · exact ⟨N, rfl, by omega, by omega⟩
    obtain ⟨v, rfl, hv1, hv7⟩ := hd'
    refine ⟨_, rfl, ?_⟩
    repeat infer_instance
    refine w_draw ⟨by split <;> omega, by split <;> omega⟩ (by omega) fun x T3 hx h3 => ⟨_, rfl, ?_⟩
    have hx' : x < N - sumN k w := by
      split at hx <;> omega
    repeat infer_instance
    refine ⟨_, rfl, by rw [fl_len]; omega, m - (1 + x), by omega, k + 1, upd w k (1 + x), T3, ?_, ?_, ?_, ?_, by omega⟩
    · rw [fl_upd]
      have e : (upd (fun i => D.int (w i : Nat)) k (.int ((1 + x : Nat) : Int))) = fun i => .int ((upd w k (1 + x) i : Nat) : Int) := by
        funext i
        unfold upd
        split <;> rfl
      rw [e]
      rfl
    · rw [sumN_upd]; omega
    · intro i hi
      unfold upd
      split
      · omega
      · exact hw i (by omega)
    · have := sumN_le (n := k) (f := fun _ => 1) (g := w) hw
      rw [sumN_const] at this
      omega
  · have hge : sumN k w = N := by simp at hlt; omega
    repeat infer_instance
    exact h ⟨k, w, hw, hge⟩ T' (by omega)
theorem w_l_widths (h1 : 1 ≤ N) (h7 : N ≤ 7) (hT : T.c < 10000) (h : ∀ (s0 s1 s2 : Side N) (T' : Tn), T'.c ≤ T.c + 6 * N → Q (wid3 s0 s1 s2) [sT T']) : wC (run (n + 4) i_l_widths [sT T, .val 0 (.int N)]) Q X := by
  refine e_l_widths ?_
  unfold s_l_widths
  iterate 2 infer_instance
  refine w_compI ?_
  repeat infer_instance
  refine ⟨3, rfl, by omega, com_i (fun i ys r => ∃ T' a, r = [sT T', .val 0 (.int N), a] ∧ T'.c ≤ T.c + i * (2 * N) ∧ ys.length = i ∧ ∀ y ∈ ys, ∃ s : Side N, y = sideD s) ⟨T, _, rfl, by omega, rfl, by simp⟩ ?_ ?_⟩
  · rintro i ys r hi ⟨T', a, rfl, hc, hl, hy⟩
    have hmi : i * (2 * N) ≤ 2 * (2 * N) := Nat.mul_le_mul_right _ (by omega)
    repeat infer_instance
    refine w_l_side h1 h7 (by omega) fun s T2 h2 => ⟨_, rfl, T2, _, rfl, by rw [Nat.add_mul]; omega, by simp [hl], fun y hy' => ?_⟩
    rcases List.mem_append.mp hy' with h | h
    · exact hy y h
    · rw [List.mem_singleton.mp h]
      exact ⟨s, rfl⟩
  · rintro ys r ⟨T', a, rfl, hc, hl, hy⟩
    match ys, hl with
    | [y0, y1, y2], _ =>
    obtain ⟨s0, rfl⟩ := hy y0 (by simp)
    obtain ⟨s1, rfl⟩ := hy y1 (by simp)
    obtain ⟨s2, rfl⟩ := hy y2 (by simp)
    repeat infer_instance
    exact h s0 s1 s2 T' (by omega)
end
end O
end
section
set_option linter.all false
set_option maxRecDepth 10000
set_option maxHeartbeats 0
/-! M02: the law k02. -/
namespace O
local macro_rules
  | `(tactic| infer_instance) => `(tactic| first
    | with_reducible refine w_seq ?_
    | with_reducible refine w_asg ?_
    | with_reducible refine w_ret ?_
    | with_reducible refine w_expr ?_
    | with_reducible refine w_ite ?_
    | with_reducible refine w_pass ?_
    | with_reducible refine w_brk ?_
    | with_reducible refine w_raise ?_
    | with_reducible refine w_unpack ?_
    | with_reducible refine w_for ?_
    | with_reducible refine w_setps ?_
    | with_reducible refine w_setp ?_
    | with_reducible refine w_puts_cons ?_
    | with_reducible refine w_puts_nil ?_
    | ((with_reducible apply w_var); exact rfl)
    | with_reducible refine w_int ?_
    | with_reducible refine w_bl ?_
    | with_reducible refine w_non ?_
    | with_reducible refine w_str ?_
    | with_reducible refine w_con ?_
    | with_reducible refine w_yes ?_
    | with_reducible refine w_idx ?_
    | with_reducible refine w_eq ?_
    | with_reducible refine w_ne ?_
    | with_reducible refine w_inn ?_
    | with_reducible refine w_notin ?_
    | with_reducible refine w_isn ?_
    | with_reducible refine w_notn ?_
    | with_reducible refine w_isb ?_
    | with_reducible refine w_notb ?_
    | with_reducible refine w_not ?_
    | with_reducible refine w_isty ?_
    | with_reducible refine w_un ?_
    | with_reducible refine w_bin ?_
    | with_reducible refine w_binM ?_
    | with_reducible refine w_and ?_
    | with_reducible refine w_or ?_
    | with_reducible refine w_if ?_
    | with_reducible refine w_chain ?_
    | with_reducible refine w_seqs_cons ?_
    | with_reducible refine w_seqs_nil ?_
    | with_reducible refine w_lst ?_
    | with_reducible refine w_tup ?_
    | with_reducible refine w_slice ?_
    | with_reducible refine w_optS ?_
    | with_reducible refine w_optN ?_
    | with_reducible refine w_path_cons ?_
    | with_reducible refine w_path_nil ?_
    | ((with_reducible apply w_pk); exact rfl)
    | ((with_reducible apply w_pth); exact rfl; exact Nat.le_of_ble_eq_true rfl)
    | ((with_reducible apply w_pki); exact rfl; exact Nat.le_of_ble_eq_true rfl)
    | ((with_reducible apply w_putT); exact rfl)
    | ((with_reducible apply w_putT3); exact rfl)
    | ((with_reducible apply w_aug3); exact rfl)
    | ((with_reducible apply w_bump3); exact rfl)
    | ((with_reducible apply w_putp); exact rfl; exact rfl)
    | ((with_reducible apply w_augp); exact rfl; exact rfl)
    | ((with_reducible apply w_bump); exact rfl; exact rfl)
    | ((with_reducible apply w_frz); exact rfl)
    | ((with_reducible apply w_retO); exact rfl)
    | ((with_reducible apply w_augI); exact rfl)
    | ((with_reducible apply w_app); exact rfl)
    | ((with_reducible apply w_ins); exact rfl)
    | ((with_reducible apply w_ext); exact rfl)
    | with_reducible refine w_call ?_
    | with_reducible refine w_callB ?_
    | with_reducible refine w_args_nil ?_
    | with_reducible refine w_args_v ?_
    | with_reducible refine w_args_fs ?_
    | ((with_reducible apply w_args_io); exact rfl)
    | ((with_reducible apply w_args_x); exact rfl)
    | ((with_reducible apply w_args_bw); exact rfl)
    | with_reducible refine w_setGo1 ?_
    | with_reducible refine w_setGo2 ?_
    | with_reducible refine w_iSeq ?_
    | with_reducible refine w_iRange ?_
    | with_reducible refine ex_addN ?_
    | with_reducible refine ex_add1L ?_
    | with_reducible refine ex_add1R ?_
    | ((with_reducible refine ex_subN ?_ ?_); omega)
    | ((with_reducible refine ex_sub1 ?_ ?_); omega)
    | ((with_reducible refine ex_modN ?_ ?_); omega)
    | ((with_reducible refine ex_fdivN ?_ ?_); omega)
    | with_reducible refine ex_add ?_
    | with_reducible refine ex_sub ?_
    | with_reducible refine ex_not ?_
    | with_reducible refine ex_isb ?_
    | with_reducible refine ex_notb ?_
    | with_reducible refine ex_lt ?_
    | with_reducible refine ex_le ?_
    | with_reducible refine ex_gt ?_
    | with_reducible refine ex_ge ?_
    | with_reducible refine ex_eqI ?_
    | with_reducible refine ex_neI ?_
    | with_reducible refine ex_lenF ?_
    | with_reducible refine ex_lenT ?_
    | ((with_reducible refine ex_idxF ?_ ?_); omega)
    | ((with_reducible refine ex_idxT ?_ ?_); omega)
    | ((with_reducible refine ex_setF ?_ ?_); omega)
    | ((with_reducible apply ex_idxR); exact rfl)
    | ((with_reducible refine rng_i ?_ ?_); omega)
    | with_reducible refine seq_l ?_
    | with_reducible refine seq_t ?_
    | ((with_reducible refine ixn_i ?_ ?_); omega)
    | with_reducible refine w_iEnum ?_
    | with_reducible refine w_iEnumT ?_
    | with_reducible refine w_iRange2 ?_
    | ((with_reducible refine enu_i ?_ ?_); omega)
    | ((with_reducible refine enu_t ?_ ?_); omega)
    | with_reducible refine ex_sum ?_
    | with_reducible refine ex_sumT ?_
    | with_reducible refine ex_tupleF ?_
    | with_reducible refine ex_tupleL ?_
    | with_reducible refine ex_listL ?_
    | with_reducible refine ex_listT ?_
    | ((with_reducible refine ex_mulN ?_ ?_); omega)
    | with_reducible refine w_map ?_
    | with_reducible refine fork_t ?_
    | with_reducible refine fork_f ?_)
local macro_rules
  | `(tactic| subst_eqs) => `(tactic| dsimp only [List.set_cons_zero, List.set_cons_succ])
local macro_rules
  | `(tactic| and_intros) => `(tactic| repeat (first
    | exact trivial
    | refine good_l fun _ _ => ?_
    | refine good_t fun _ _ => ?_
    | exact good_l0
    | exact good_t0
    | refine good_lc ?_ ?_
    | refine good_tc ?_ ?_))
theorem le_sumN2 {n a b : Nat} {g : Nat → Nat} (ha : a < n) (hb : b < n) (h : a ≠ b) : g a + g b ≤ sumN n g := by
  induction n with
  | zero => omega
  | succ n ih =>
    show _ ≤ sumN n g + g n
    by_cases e1 : a = n
    · subst e1
      have := le_sumN (f := g) (show b < a by omega)
      omega
    · by_cases e2 : b = n
      · subst e2
        have := le_sumN (f := g) (show a < b by omega)
        omega
      · have := ih (by omega) (by omega)
        omega
section
variable {n N : Nat} {T : Tn} {Q : D → List Slot → Prop} {X : Nat → List Slot → Prop} {s0 s1 s2 : Side N} {F : Nat → Nat → Nat → Nat}
theorem upd3_le {a b c v : Nat} (hF : ∀ a b c, a < s0.n → b < s1.n → c < s2.n → F a b c ≤ 49) (hv : v ≤ 49) : ∀ x y z, x < s0.n → y < s1.n → z < s2.n → upd3 F a b c v x y z ≤ 49 := fun x y z hx hy hz => by
  unfold upd3
  split
  · exact hv
  · exact hF x y z hx hy hz
theorem Right.le49 (h : Right s0 s1 s2 F) (h7 : N ≤ 7) : ∀ a b c, a < s0.n → b < s1.n → c < s2.n → F a b c ≤ 49 := fun a b c ha hb hc => Nat.le_trans (h.le ha hb hc) (Nat.mul_le_mul h7 h7)
theorem clamp (y : Int) : ∃ v : Nat, v ≤ 49 ∧ (if (if y > 0 then y else 0) < 49 then (if y > 0 then y else 0) else 49) = (v : Int) := by
  refine ⟨(if (if y > 0 then y else 0) < 49 then (if y > 0 then y else 0) else 49).toNat, ?_, ?_⟩
  · split <;> split <;> omega
  · split <;> split <;> omega
theorem w_l_sketch (h1 : 1 ≤ N) (h7 : N ≤ 7) (hT : T.c < 5000) (h : ∀ (s0 s1 s2 : Side N) F (T' : Tn), T'.c ≤ T.c + 100 → (∀ a b c, a < s0.n → b < s1.n → c < s2.n → F a b c ≤ 49) → Q (skD s0 s1 s2 F) [sT T']) : wC (run (n + 5) i_l_sketch [sT T, .val 0 (.int N)]) Q X := by
  refine e_l_sketch ?_
  unfold s_l_sketch
  repeat infer_instance
  refine w_l_widths h1 h7 (by omega) fun s0 s1 s2 T1 ht1 => ⟨_, rfl, ?_⟩
  have n0 := s0.nle
  have n1 := s1.nle
  have n2 := s2.nle
  have p0 : 1 ≤ s0.n := by
    cases e : s0.n with
    | zero => have := s0.sum; rw [e] at this; simp [sumN] at this; omega
    | succ k => omega
  have p1 : 1 ≤ s1.n := by
    cases e : s1.n with
    | zero => have := s1.sum; rw [e] at this; simp [sumN] at this; omega
    | succ k => omega
  have p2 : 1 ≤ s2.n := by
    cases e : s2.n with
    | zero => have := s2.sum; rw [e] at this; simp [sumN] at this; omega
    | succ k => omega
  repeat infer_instance
  refine w_l_square h1 h7 (by omega) fun f T2 hf ht2 => ⟨_, rfl, ?_⟩
  have hR := cnt_right (s0 := s0) (s1 := s1) (s2 := s2) hf
  have hF := hR.le49 h7
  repeat infer_instance
  refine w_l_counts hf (by omega) ⟨_, rfl, ?_⟩
  repeat infer_instance
  refine w_draw (by omega) (by omega) fun kind T3 hk ht3 => ⟨_, rfl, ?_⟩
  repeat infer_instance
  refine w_draw (by omega) (by omega) fun i T4 hi ht4 => ⟨_, rfl, ?_⟩
  repeat infer_instance
  refine w_draw (by omega) (by omega) fun j T5 hj ht5 => ⟨_, rfl, ?_⟩
  repeat infer_instance
  refine w_draw (by omega) (by omega) fun k T6 hk' ht6 => ⟨_, rfl, ?_⟩
  repeat infer_instance
  refine ⟨_, rfl, ?_⟩
  have hi : i < s0.n := by omega
  have hj : j < s1.n := by omega
  have hk' : k < s2.n := by omega
  subst_eqs
  repeat infer_instance
  refine fork_i (fun _ => ?_) (fun _ => ?_)
  · repeat infer_instance
    refine w_draw (by omega) (by omega) fun x T7 hx ht7 => ⟨_, rfl, ?_⟩
    repeat infer_instance
    refine ⟨_, rfl, _, rfl, ?_⟩
    obtain ⟨v, hv, ev⟩ := clamp ((Side.cnts s0 s1 s2 f i j k + x : Nat) - 1)
    rw [ev]
    repeat infer_instance
    exact h s0 s1 s2 _ T7 (by omega) (upd3_le hF hv)
  · repeat infer_instance
    refine fork_i (fun _ => ?_) (fun _ => ?_)
    · repeat infer_instance
      refine w_draw (by omega) (by omega) fun two T7 hx ht7 => ⟨_, rfl, ?_⟩
      have htwo : two < s2.n := by omega
      repeat infer_instance
      refine fork_i (fun hp => ?_) (fun _ => ?_)
      · have hp : 0 < Side.cnts s0 s1 s2 f i j k := by simp at hp; omega
        repeat infer_instance
        have hle : upd3 (Side.cnts s0 s1 s2 f) i j k (Side.cnts s0 s1 s2 f i j k - 1) i j two + 1 ≤ 49 := by
          unfold upd3
          by_cases e : two = k
          · rw [if_pos ⟨rfl, rfl, e⟩]
            have := hF i j k hi hj hk'
            omega
          · rw [if_neg fun z => e z.2.2]
            have h3 := le_sumN2 (g := fun c => Side.cnts s0 s1 s2 f i j c) htwo hk' e
            rw [hR.r2 i j hi hj] at h3
            have h4 := Nat.mul_le_mul (s0.wle hi) (s1.wle hj)
            have h5 := Nat.mul_le_mul h7 h7
            omega
        have hF2 := upd3_le (a := i) (b := j) (c := k) (v := Side.cnts s0 s1 s2 f i j k - 1) hF (by have := hF i j k hi hj hk'; omega)
        exact h s0 s1 s2 _ T7 (by omega) (upd3_le hF2 hle)
      · repeat infer_instance
        exact h s0 s1 s2 _ T7 (by omega) hF
    · repeat infer_instance
      exact h s0 s1 s2 _ T6 (by omega) hF
end
/-- one lot -/
def Side.whole {N : Nat} (h : 1 ≤ N) : Side N := ⟨1, fun _ => N, fun _ _ => h, by simp [sumN]⟩
/-- lots of one -/
def Side.ones (N : Nat) : Side N := ⟨N, fun _ => 1, fun _ _ => Nat.le_refl _, by rw [sumN_const]; omega⟩
theorem lotL_ones : ∀ N, lotL N (fun _ => 1) = List.range N
  | 0 => rfl
  | N + 1 => by rw [lotL_succ, lotL_ones N, List.range_succ]; rfl
theorem ones_lot {N i : Nat} (h : i < N) : (Side.ones N).lot i = i := by
  show (lotL N fun _ => 1).getD i 0 = i
  rw [lotL_ones, List.getD_eq_getElem?_getD, List.getElem?_eq_getElem (by simpa using h)]
  simp
theorem cnts_ones {N : Nat} {f : Nat → Nat → Nat} (hf : Sq N f) {a b c : Nat} (ha : a < N) (hb : b < N) (hc : c < N) : Side.cnts (Side.ones N) (Side.ones N) (Side.ones N) f a b c = ind (f a b = c) := by
  show sumN N (fun i => sumN N fun j => ind ((Side.ones N).lot i = a ∧ (Side.ones N).lot j = b ∧ (Side.ones N).lot (f i j) = c)) = _
  have e1 : ∀ i, i < N → sumN N (fun j => ind ((Side.ones N).lot i = a ∧ (Side.ones N).lot j = b ∧ (Side.ones N).lot (f i j) = c)) = if a = i then ind (f a b = c) else 0 := fun i hi => by
    have e2 : ∀ j, j < N → ind ((Side.ones N).lot i = a ∧ (Side.ones N).lot j = b ∧ (Side.ones N).lot (f i j) = c) = if b = j then (if a = i then ind (f a b = c) else 0) else 0 := fun j hj => by
      rw [ones_lot hi, ones_lot hj, ones_lot (hf.lt hi hj)]
      by_cases h1 : i = a
      · subst h1
        by_cases h2 : j = b
        · subst h2
          simp [ind]
        · have h2' : ¬ b = j := fun z => h2 z.symm
          simp [ind, h2, h2']
      · have h1' : ¬ a = i := fun z => h1 z.symm
        simp [ind, h1, h1']
    rw [sumN_congr e2, sumN_one, if_pos hb]
  rw [sumN_congr e1, sumN_one, if_pos ha]
theorem cnts_whole {N : Nat} {f : Nat → Nat → Nat} (h : 1 ≤ N) (hf : Sq N f) : Side.cnts (Side.whole h) (Side.whole h) (Side.whole h) f 0 0 0 = N * N := by
  show sumN N (fun i => sumN N fun j => ind ((Side.whole h).lot i = 0 ∧ (Side.whole h).lot j = 0 ∧ (Side.whole h).lot (f i j) = 0)) = _
  have l0 : ∀ i, i < N → (Side.whole h).lot i = 0 := fun i hi => by
    have := (Side.whole h).lt hi
    have e : (Side.whole h).n = 1 := rfl
    omega
  have e1 : ∀ i, i < N → sumN N (fun j => ind ((Side.whole h).lot i = 0 ∧ (Side.whole h).lot j = 0 ∧ (Side.whole h).lot (f i j) = 0)) = N := fun i hi => by
    have e2 : ∀ j, j < N → ind ((Side.whole h).lot i = 0 ∧ (Side.whole h).lot j = 0 ∧ (Side.whole h).lot (f i j) = 0) = 1 := fun j hj => by
      rw [l0 i hi, l0 j hj, l0 _ (hf.lt hi hj)]
      simp [ind]
    rw [sumN_congr e2, sumN_const]; omega
  rw [sumN_congr e1, sumN_const]
theorem index_ind {N c : Nat} (hc : c < N) : indexD (rowD N fun k => ind (c = k)) (.int 1) = some (.int c) := by
  have := indexD_fl (m := N) (k := c) (v := 1) (q := fun k => ind (c = k)) hc (by simp [ind]) (fun j hj => by
    have : ¬ c = j := by omega
    simp [ind, this])
  exact this
section
variable {ns : List Int} {T : Tn} {N : Nat} {f : Nat → Nat → Nat} {s0 s1 s2 t0 t1 t2 : Side N} {G : Nat → Nat → Nat → Nat} {Nx B : Env → Prop} {R : D → Env → Prop} {X : Nat → Env → Prop}
theorem k02_2 {a b c d e g h : Slot} (hN1 : 1 ≤ N) (hN7 : N ≤ 7) (hf : Sq N f) (hR : ∀ r, R (.bl true) r) : wS (s_law_k02_2 (run 39) [a, b, .val 0 (.int N), c, d, e, g, .val 1 (.lst []), .no, .val 0 (tabD N N f), h, .no]) Nx R B X := by
  unfold s_law_k02_2
  repeat infer_instance
  refine ex_mulT hN1 (by omega) ?_
  repeat infer_instance
  refine ex_mulT (m := 3) (by omega) (by omega) ?_
  repeat infer_instance
  obtain ⟨so, ho, hn, hc2⟩ : ∃ s : Side N, sideD s = .tup (fl N fun _ => .int 1) ∧ s.n = N ∧ ∀ a b c, a < N → b < N → c < N → Side.cnts s s s f a b c = ind (f a b = c) := ⟨Side.ones N, rfl, rfl, fun a b c ha hb hc => cnts_ones hf ha hb hc⟩
  rw [← ho]
  refine w_outline_of (s0 := so) (s1 := so) (s2 := so) hf hN1 hN7 ⟨_, rfl, ?_⟩
  have et : tab3 so.n so.n so.n (Side.cnts so so so f) = tab3 N N N fun a b c => ind (f a b = c) := by
    rw [hn]
    show D.lst _ = D.lst _
    congr 1
    refine fl_congr fun a ha => ?_
    show D.lst _ = D.lst _
    congr 1
    refine fl_congr fun b hb => ?_
    show D.lst _ = D.lst _
    congr 1
    refine fl_congr fun c hc => ?_
    rw [hc2 a b c ha hb hc]
  rw [show skD so so so (Side.cnts so so so f) = .tup [wid3 so so so, tab3 N N N fun a b c => ind (f a b = c)] by rw [← et]]
  repeat infer_instance
  subst_eqs
  refine w_loop (fun i r => ∃ k, r = [a, b, .val 0 (.int N), c, d, e, g, .val 1 (.lst (fl i fun i => rowD N (f i))), k, .val 0 (tabD N N f), h, .no]) ⟨_, rfl⟩ ?_ ?_
  · rintro i r hi ⟨k, rfl⟩
    refine ⟨_, rfl, ?_⟩
    subst_eqs
    repeat infer_instance
    apply map_i (Nat.le_of_ble_eq_true rfl)
    · intro j hj
      subst_eqs
      repeat infer_instance
      refine ⟨rfl, ?_⟩
      repeat infer_instance
      exact ⟨_, index_ind (hf.lt hi hj), rfl, rfl⟩
    refine ⟨_, rfl, by rw [fl_len]; omega, .val 0 (tabD N N fun b c => ind (f i b = c)), ?_⟩
    rw [fl_snoc]
    rfl
  · rintro r ⟨k, rfl⟩
    repeat infer_instance
    exact ex_eqS (by and_intros) rfl (hR _)
theorem k02_1 {a b : Slot} (hN1 : 1 ≤ N) (hN7 : N ≤ 7) (hf : Sq N f) (hG : ∀ a b c, a < t0.n → b < t1.n → c < t2.n → G a b c ≤ 49) (hR : ∀ r, R (.bl true) r) : wS (s_law_k02_1 (run 39) [a, b, .val 0 (.int N), .val 0 (skD s0 s1 s2 (Side.cnts s0 s1 s2 f)), .val 0 (skD t0 t1 t2 G), .no, .no, .no, .no, .val 0 (tabD N N f), .val 0 (wid3 s0 s1 s2), .no]) Nx R B X := by
  have hRt := cnt_right (s0 := s0) (s1 := s1) (s2 := s2) hf
  have hF := hRt.le49 hN7
  unfold s_law_k02_1
  repeat infer_instance
  refine w_l_bars (by omega) ⟨_, rfl, ?_⟩
  repeat infer_instance
  refine w_bars hN1 hN7 hG ⟨_, rfl, ?_⟩
  repeat infer_instance
  refine ex_neS good_bars rfl (fork_f ?_)
  repeat infer_instance
  refine w_is_outline hN1 hN7 hG fun t ht => ⟨_, rfl, ?_⟩
  repeat infer_instance
  refine ex_eq good_bars good_l0 fun u hu => ?_
  repeat infer_instance
  refine w_l_is ⟨_, rfl, ?_⟩
  have e : t = u := by
    have hu2 : u = true ↔ Right t0 t1 t2 G := hu.trans (by rw [D.lst.injEq]; exact bars_nil)
    cases t <;> cases u <;> simp_all
  rw [decide_eq_true e]
  refine ⟨_, rfl, fork_f ?_⟩
  repeat infer_instance
  refine w_size_of hN1 hN7 hG ⟨_, rfl, ?_⟩
  repeat infer_instance
  rw [decide_eq_true rfl]
  refine fork_f ?_
  repeat infer_instance
  refine w_size_of hN1 hN7 hF ⟨_, rfl, ?_⟩
  repeat infer_instance
  rw [decide_eq_true rfl]
  refine fork_f ?_
  repeat infer_instance
  obtain ⟨sw, hw, hc⟩ : ∃ s : Side N, sideD s = .tup [.int N] ∧ tab3 s.n s.n s.n (Side.cnts s s s f) = .lst [.lst [.lst [.int ((N * N : Nat) : Int)]]] := by
    refine ⟨Side.whole hN1, rfl, ?_⟩
    rw [← cnts_whole hN1 hf]
    rfl
  rw [← hw]
  refine w_outline_of (s0 := sw) (s1 := sw) (s2 := sw) hf hN1 hN7 ⟨_, rfl, ?_⟩
  repeat infer_instance
  refine ex_neS (by and_intros) (by rw [← hc]) (fork_f ?_)
  repeat infer_instance
  exact k02_2 hN1 hN7 hf hR
end
theorem math02 (ns : List Int) : wC (run 40 i_law_k02 [.scr ns]) (fun d o => d = .bl true ∧ o = []) fun _ _ => False := by
  refine e_law_k02 ?_
  unfold s_law_k02
  repeat infer_instance
  refine w_town fun T hT => ⟨_, rfl, ?_⟩
  subst_eqs
  rw [sT_fold]
  repeat infer_instance
  refine w_draw (by omega) (by omega) fun x T1 hx h1 => ⟨_, rfl, ?_⟩
  repeat infer_instance
  generalize hm : 1 + x = N
  subst_eqs
  have hN1 : 1 ≤ N := by omega
  have hN7 : N ≤ 7 := by omega
  refine w_l_square hN1 hN7 (by omega) fun f T2 hf h2 => ⟨_, rfl, ?_⟩
  repeat infer_instance
  refine w_l_widths hN1 hN7 (by omega) fun s0 s1 s2 T3 h3 => ⟨_, rfl, ?_⟩
  repeat infer_instance
  refine ⟨_, rfl, ?_⟩
  subst_eqs
  repeat infer_instance
  refine w_l_counts hf (by omega) ⟨_, rfl, ?_⟩
  repeat infer_instance
  refine w_outline_of hf hN1 hN7 ⟨_, rfl, ?_⟩
  repeat infer_instance
  have hR := cnt_right (s0 := s0) (s1 := s1) (s2 := s2) hf
  have hF := hR.le49 hN7
  refine ex_neS (by and_intros) rfl (fork_f ?_)
  repeat infer_instance
  refine w_bars hN1 hN7 hF ⟨_, rfl, ?_⟩
  repeat infer_instance
  rw [bars_nil.mpr hR]
  refine ex_neS (by and_intros) rfl (fork_f ?_)
  repeat infer_instance
  refine w_is_outline hN1 hN7 hF fun t ht => ⟨_, rfl, ?_⟩
  rw [ht.mpr hR]
  repeat infer_instance
  refine fork_f ?_
  repeat infer_instance
  refine w_l_sketch hN1 hN7 (by omega) fun t0 t1 t2 G T4 h4 hG => ⟨_, rfl, ?_⟩
  subst_eqs
  exact k02_1 hN1 hN7 hf hG fun _ => ⟨rfl, rfl⟩
end O
end
theorem PySem.Challenge.cw_outlines_k02_whole_sketches_holds : PySem.Challenge.rw_outlines_k02_whole_sketches.Holds := by
  refine O.L02.holds_of fun ns _ => ?_
  exact O.run_of (O.math02 ns)
