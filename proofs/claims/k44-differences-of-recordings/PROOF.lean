import PyProof.Rows.All
import Wide.All
import OpenK.AllK
import Wide.FinOn
import KE.KDictKeyed
import KE.SortData
import HandS.ForMost
import HandS.IsInst
import HandS.TupMul
import HandS.TupAny
import HandS.Wide
import HandS.Zip
import HandS.Conv
import HandS.Deep
import HandS.Style
import PyProof.P3In
import PyProof.ReprRoads
import HandS.TupSets
import HandS.Strs
import KE.KDictSum
import HandS.ReCall
import HandS.Star
import HandS.Flow
import HandS.Iter
import KE.GoesEnum
import HandS.Comp
import HandS.List
import HandS.Defaults
import HandS.Ends
import HandS.HeadHook2
import HandS.Codes
import HandS.Head0
import HandS.Head1
import HandS.Head2
import HandS.HeadEnd
import HandS.HeadHook1
import PySem.Challenge.RW_timekeys_k44_differences_of_recordings
set_option Elab.async false
set_option linter.all false
/-! Tk, part 1: plain data, a small language of statements upon plain data, and what its statements mean (a predicate for each). No heap of the model is in sight here. -/
namespace Tk
open PySem

/-- plain data; obj n: the n-th thing of the store (changed in place); frl: a list of others' that is read alone -/
inductive D where
  | non | bl (b : Bool) | int (i : Int) | str (x : Str) | tup (xs : List D) | lst (xs : List D) | dic (kvs : List (D × D)) | set (xs : List D) | obj (n : Nat) | fn (x : Str) | frl (xs : List D)

/-- what a name holds: nothing, a value for good, a container of its own that it alone holds -/
inductive Sl where
  | un | fz (d : D) | ow (d : D)
/-- what an expression gives: a value for good, a new container, the container that a name holds -/
inductive R where
  | fz (d : D) | ow (d : D) | rf (i : Nat) (d : D)
@[reducible] def R.d : R → D
  | .fz d => d
  | .ow d => d
  | .rf _ d => d
/-- a thing of the store -/
inductive Ob where
  | con (d : D) | ins (c : Str) (fs : List (Str × Sl))
structure En where
  sl : List Sl
  ob : List Ob
/-- an error: its class, what it keeps -/
structure Ex where
  cls : Str
  arg : Option D

inductive Ty where
  | int | bool | str | tuple | list
inductive Op where
  | add | sub | mul | mod | fdiv | pow | neg
  | eq | ne | lt | le | gt | ge | is | isn | isin | notin
  | ix | slc (lo hi : Bool) | rev
  | len | tuple | list | sorted | set | repr | int | str | bool | sum | min | max | all | any | abs
  | isi (ts : List Ty)
  | dnew | dget
inductive Src where
  | it | range | range2 | enum | zip
inductive Tg where
  | n (i : Nat) | t (is : List Nat)
inductive Mu where
  | append | extend
inductive IE where
  | c (d : D)
  | v (i : Nat)
  | g (x : Str)
  | op (o : Op) (es : List IE)
  | disp (tup : Bool) (stars : List Bool) (es : List IE)
  | and (a b : IE)
  | or (a b : IE)
  | not (a : IE)
  | ite (t a b : IE)
  | ch (o1 o2 : Op) (a b c : IE)
  | ch3 (o1 o2 o3 : Op) (a b c d : IE)
  | call (f : Str) (es : List IE)
  | dget (d k x : IE)
  | comp (own : List Nat) (t : Tg) (s : Src) (es : List IE) (cond : Option IE) (elt : IE)
  | comp2 (own own1 : List Nat) (t : Tg) (s : Src) (es : List IE) (cond : Option IE) (t1 : Tg) (s1 : Src) (es1 : List IE) (cond1 : Option IE) (elt : IE)
inductive IS where
  | set (i : Nat) (e : IE)
  | par (i j : Nat) (a b : IE)
  | setO (i : Nat) (e : IE)
  | tset (is : List Nat) (e : IE)
  | aug (i : Nat) (o : Op) (e : IE)
  | put (i : Nat) (k e : IE)
  | mut (i : Nat) (m : Mu) (e : IE)
  | expr (e : IE)
  | ret (e : IE)
  | ite (t : IE) (a b : List IS)
  | for_ (t : Tg) (s : Src) (es : List IE) (body : List IS)
  | whl (t : IE) (body : List IS)
  | brk | cont | pass
  | stuck

/-! ### plain functions -/
/-- a content looked at: a store's container is its content -/
def view (ob : List Ob) (d : D) : D := match d with
  | .obj n => (match ob[n]? with | some (.con c) => c | _ => d)
  | d => d

mutual
/-- == -/
def eqD : D → D → Bool
  | .non, .non => true
  | .bl a, .bl b => a == b
  | .bl a, .int j => (if a then 1 else 0) == j
  | .int i, .bl b => i == (if b then 1 else 0)
  | .int i, .int j => i == j
  | .str x, .str y => x == y
  | .tup xs, .tup ys => eqDs xs ys
  | .lst xs, .lst ys => eqDs xs ys
  | _, _ => false
def eqDs : List D → List D → Bool
  | [], [] => true
  | x :: xs, y :: ys => eqD x y && eqDs xs ys
  | _, _ => false
end
mutual
/-- no store's thing, no dict, no set, no function in it -/
def plain : D → Bool
  | .non => true
  | .bl _ => true
  | .int _ => true
  | .str x => PyData.strOk x
  | .tup xs => plains xs
  | .lst xs => plains xs
  | _ => false
def plains : List D → Bool
  | [] => true
  | x :: xs => plain x && plains xs
end
mutual
def depth : D → Nat
  | .tup xs => depths xs + 1
  | .lst xs => depths xs + 1
  | _ => 0
def depths : List D → Nat
  | [] => 0
  | x :: xs => max (depth x) (depths xs)
end
mutual
/-- what may stand in a key of a dict -/
def keyD : D → Bool
  | .non => true
  | .bl _ => true
  | .int _ => true
  | .tup xs => keyDs xs
  | _ => false
def keyDs : List D → Bool
  | [] => true
  | x :: xs => keyD x && keyDs xs
end
/-- a tuple that may be a key of a dict -/
def isKey : D → Bool
  | .tup xs => keyDs xs && decide (depths xs ≤ 7)
  | _ => false
/-- what stands at a key -/
def lookD (kvs : List (D × D)) (k : D) : Option D := (kvs.find? fun p => eqD p.1 k).map (·.2)
def putKD (kvs : List (D × D)) (k v : D) : List (D × D) := if (lookD kvs k).isSome = true then kvs.map fun p => if eqD p.1 k = true then (p.1, v) else p else kvs ++ [(k, v)]
/-- the most that a list, a tuple, a text may have -/
def big : Nat := 16777216
def truthD : D → Option Bool
  | .non => some false
  | .bl b => some b
  | .int i => some (i != 0)
  | .str x => if x.length ≤ big then some ((x.length : Int) != 0) else none
  | .tup xs => some (!xs.isEmpty)
  | .lst xs => some (!xs.isEmpty)
  | .frl xs => some (!xs.isEmpty)
  | _ => none
def isTy : Ty → D → Bool
  | .int, .int _ => true
  | .int, .bl _ => true
  | .bool, .bl _ => true
  | .str, .str _ => true
  | .tuple, .tup _ => true
  | .list, .lst _ => true
  | _, _ => false
/-- a place, from the left or from the right -/
def ixN (n : Nat) (i : Int) : Option Nat :=
  if 0 ≤ i then (if i < n then some i.toNat else none) else (if -(n : Int) ≤ i then some (i + n).toNat else none)
/-- a slice's end -/
def cutN (n : Nat) (i : Int) : Nat := if 0 ≤ i then min i.toNat n else (i + n).toNat
def loN (n : Nat) : Option Int → Nat
  | none => 0
  | some i => cutN n i
def hiN (n : Nat) : Option Int → Nat
  | none => n
  | some i => cutN n i
def cutL {α : Type} (xs : List α) (lo hi : Option Int) : List α := (xs.take (hiN xs.length hi)).drop (loN xs.length lo)
def intsOf : List D → Option (List Int)
  | [] => some []
  | .int i :: xs => (intsOf xs).map (i :: ·)
  | _ => none
def boolsOf : List D → Option (List Bool)
  | [] => some []
  | .bl i :: xs => (boolsOf xs).map (i :: ·)
  | _ => none
def isFlat : D → Bool
  | .non => true
  | .bl _ => true
  | .int _ => true
  | .str _ => true
  | _ => false
def smallI (i : Int) : Bool := decide (-(2 ^ 62) ≤ i) && decide (i < 2 ^ 62)

mutual
/-- as the library's data -/
def toPy : D → PyData
  | .non => .none
  | .bl b => .bool b
  | .int i => .int i
  | .str x => .str x
  | .tup xs => .tuple (toPys xs)
  | .lst xs => .list (toPys xs)
  | _ => .none
def toPys : List D → List PyData
  | [] => []
  | x :: xs => toPy x :: toPys xs
end
mutual
/-- ints that are written with fewer than some 578 digits -/
def shows : D → Bool
  | .int i => decide (i.natAbs.log2 < 1920)
  | .tup xs => showss xs
  | .lst xs => showss xs
  | _ => true
def showss : List D → Bool
  | [] => true
  | x :: xs => shows x && showss xs
end
/-- the text of repr -/
def shown (d : D) : Str := (toPy d).shown
def reprD (d : D) : Option Str := if plain d && shows d && decide (depth d ≤ 60) && decide ((shown d).length ≤ big) then some (shown d) else none

def inD (x : D) (xs : List D) : Bool := xs.any fun y => eqD y x
def minI : Int → List Int → Int
  | m, [] => m
  | m, x :: xs => minI (if x < m then x else m) xs
def maxI : Int → List Int → Int
  | m, [] => m
  | m, x :: xs => maxI (if m < x then x else m) xs
def repL {α : Type} (xs : List α) : Nat → List α
  | 0 => []
  | n + 1 => xs ++ repL xs n
def fz (d : D) : Option R := some (.fz d)
def ow (d : D) : Option R := some (.ow d)
def guardO {α : Type} (b : Bool) (o : Option α) : Option α := if b then o else none

def isStr : D → Bool
  | .str _ => true
  | _ => false
/-- two values that == is carried for -/
def okEq (x y : D) : Bool := (plain x && plain y && decide (depth x ≤ 60) && decide (depth y ≤ 60)) || (isStr x && isStr y)
def okIn (x : D) (ys : List D) : Bool := (plain x && plains ys && decide (depth x ≤ 60) && decide (depths ys ≤ 60)) || (isFlat x && ys.all isFlat)
/-! operations on plain values; none: not carried here -/
def addD : D → D → Option R
  | .int i, .int j => fz (.int (i + j))
  | .int i, .bl b => fz (.int (i + (if b then 1 else 0)))
  | .str x, .str y => guardO (decide (x.length + y.length ≤ big)) (fz (.str (x ++ y)))
  | .tup xs, .tup ys => guardO (decide (xs.length + ys.length ≤ big)) (fz (.tup (xs ++ ys)))
  | .lst xs, .lst ys => guardO (decide (xs.length + ys.length ≤ big)) (ow (.lst (xs ++ ys)))
  | _, _ => none
def subD : D → D → Option R
  | .int i, .int j => fz (.int (i - j))
  | _, _ => none
def mulD : D → D → Option R
  | .int i, .int j => guardO (decide (i.natAbs.log2 + j.natAbs.log2 < 1000000)) (fz (.int (i * j)))
  | .tup xs, .int k => guardO (!xs.isEmpty && decide (2 ≤ k) && decide (k ≤ 1000) && decide (xs.length ≤ 1000)) (fz (.tup (repL xs k.toNat)))
  | .lst xs, .int k => guardO (smallI k && decide (xs.length * k.toNat ≤ big)) (ow (.lst (repL xs k.toNat)))
  | _, _ => none
def modD : D → D → Option R
  | .int i, .int j => guardO (decide (0 < j)) (fz (.int (i % j)))
  | _, _ => none
def fdivD : D → D → Option R
  | .int i, .int j => guardO (decide (0 < j) && decide (j.natAbs.log2 < 9000)) (fz (.int (i / j)))
  | _, _ => none
def powD : D → D → Option R
  | .int i, .int j => guardO (decide (0 ≤ j) && decide (j ≤ 1000) && decide (i.natAbs.log2 < 100000)) (fz (.int (i ^ j.toNat)))
  | _, _ => none
def negD : D → Option R
  | .int i => fz (.int (-i))
  | _ => none
def cmpD (p : Int → Int → Bool) : D → D → Option R
  | .int i, .int j => fz (.bl (p i j))
  | _, _ => none
def isNon : D → Bool
  | .non => true
  | _ => false
/-- is None, is True, is False -/
def isD : D → D → Option Bool
  | x, .non => some (isNon x)
  | .bl a, .bl b => some (a == b)
  | _, _ => none
def itemsD : D → Option (List D)
  | .tup xs => some xs
  | .lst xs => some xs
  | _ => none
def dicOf : D → Option (List (D × D))
  | .dic kvs => some kvs
  | _ => none
def ixD (x : D) : D → Option R
  | .int i => (itemsD x).bind fun xs => (ixN xs.length i).bind fun k => (xs[k]?).bind fz
  | .tup ks => (dicOf x).bind fun kvs => guardO (isKey (.tup ks)) ((lookD kvs (.tup ks)).bind fz)
  | _ => none
def cutO : Bool → List D → Option (Option Int × List D)
  | false, ds => some (none, ds)
  | true, .int i :: ds => guardO (smallI i) (some (some i, ds))
  | true, _ => none
def slcD (lo hi : Bool) : List D → Option R
  | .tup xs :: es => (cutO lo es).bind fun p => (cutO hi p.2).bind fun q => guardO q.2.isEmpty (fz (.tup (cutL xs p.1 q.1)))
  | .lst xs :: es => (cutO lo es).bind fun p => (cutO hi p.2).bind fun q => guardO q.2.isEmpty (ow (.lst (cutL xs p.1 q.1)))
  | .frl xs :: es => (cutO lo es).bind fun p => (cutO hi p.2).bind fun q => guardO q.2.isEmpty (ow (.lst (cutL xs p.1 q.1)))
  | _ => none
def revD : D → Option R
  | .tup xs => fz (.tup xs.reverse)
  | .lst xs => ow (.lst xs.reverse)
  | _ => none
def lenD : D → Option R
  | .tup xs => fz (.int xs.length)
  | .lst xs => fz (.int xs.length)
  | .str x => guardO (decide (x.length ≤ big)) (fz (.int x.length))
  | .dic kvs => fz (.int kvs.length)
  | _ => none
def tupD (d : D) : Option R := (itemsD d).bind fun xs => fz (.tup xs)
def lstD (d : D) : Option R := match d with
  | .dic kvs => ow (.lst (kvs.map (·.1)))
  | d => (itemsD d).bind fun xs => ow (.lst xs)
def intD : D → Option R
  | .int i => fz (.int i)
  | .bl b => fz (.int (if b then 1 else 0))
  | _ => none
def lsts : D → Option (List D)
  | .lst xs => some xs
  | _ => none
def sumD (d : D) : Option R := (lsts d).bind fun xs => (intsOf xs).bind fun is => fz (.int is.sum)
def minL : List Int → Option R
  | [] => none
  | i :: r => fz (.int (minI i r))
def maxL : List Int → Option R
  | [] => none
  | i :: r => fz (.int (maxI i r))
def min2 : D → D → Option R
  | .int i, .int j => fz (.int (if j < i then j else i))
  | _, _ => none
def max2 : D → D → Option R
  | .int i, .int j => fz (.int (if i < j then j else i))
  | _, _ => none
def allD (d : D) : Option R := (lsts d).bind fun xs => (boolsOf xs).bind fun bs => fz (.bl (bs.all id))
def anyD (d : D) : Option R := (lsts d).bind fun xs => (boolsOf xs).bind fun bs => fz (.bl (bs.any id))
/-! sorting, and sets of tuples of ints -/
def insBy {α : Type} (le : α → α → Bool) (x : α) : List α → List α
  | [] => [x]
  | y :: ys => if le x y = true then x :: y :: ys else y :: insBy le x ys
/-- the stable sort -/
def srtBy {α : Type} (le : α → α → Bool) : List α → List α
  | [] => []
  | x :: xs => insBy le x (srtBy le xs)
/-- rows of ints, by their first difference -/
def leI : List Int → List Int → Bool
  | [], _ => true
  | _ :: _, [] => false
  | x :: xs, y :: ys => if x < y then true else if y < x then false else leI xs ys
/-- <= of data that are alike -/
def leP (x y : D) : Bool := !PySem.W.dataLt (toPy y) (toPy x)
def intsT : D → Option (List Int)
  | .tup xs => intsOf xs
  | _ => none
def keysD : List D → Option (List (List Int))
  | [] => some []
  | x :: xs => (intsT x).bind fun k => (keysD xs).map (k :: ·)
def tupK (k : List Int) : D := .tup (k.map .int)
/-- each key once -/
def dd : List (List Int) → List (List Int)
  | [] => []
  | x :: xs => if (dd xs).contains x = true then dd xs else x :: dd xs
def alikeD (xs : List D) : Bool := xs.all fun x => xs.all fun y => PySem.W.alike (toPy x) (toPy y)
def isTup1 : D → Bool
  | .tup (_ :: _) => true
  | _ => false
def noTup : D → Bool
  | .tup _ => false
  | .non => false
  | _ => true
def sortableD (xs : List D) : Bool := xs.all isTup1 || xs.all noTup
def sortL (xs : List D) : Option R := guardO (plains xs && alikeD xs && sortableD xs && decide (xs.length ≤ big) && decide (depths xs ≤ 60)) (ow (.lst (srtBy leP xs)))
/-- sorted(xs) -/
def sortD (d : D) : Option R := match d with
  | .dic kvs => sortL (kvs.map (·.1))
  | d => (itemsD d).bind sortL
/-- ints, each once -/
def ddI : List Int → List Int
  | [] => []
  | x :: xs => if (ddI xs).contains x = true then ddI xs else x :: ddI xs
def leZ (x y : Int) : Bool := decide (x ≤ y)
def setKeys (ks : List (List Int)) : Option R := guardO (ks.all (fun k => !k.isEmpty) && decide (ks.length ≤ 1000000) && decide ((dd ks).length < 1200)) (ow (.lst ((srtBy leI (dd ks)).map tupK)))
def setInts (is : List Int) : Option R := guardO (decide (is.length < 64)) (ow (.lst ((srtBy leZ (ddI is)).map .int)))
def setL (xs : List D) : Option R := match keysD xs with
  | some ks => setKeys ks
  | none => (intsOf xs).bind setInts
/-- sorted(set(xs)) -/
def setD (d : D) : Option R := (itemsD d).bind setL
def absD : D → Option R
  | .int i => fz (.int (if i < 0 then -i else i))
  | _ => none
def inO (x y : D) : Option Bool := match y with
  | .dic kvs => guardO (isKey x) (some (lookD kvs x).isSome)
  | y => (itemsD y).bind fun ys => guardO (okIn x ys) (some (inD x ys))
def dgetD (d k x : D) : Option R := (dicOf d).bind fun kvs => guardO (isKey k) (fz ((lookD kvs k).getD x))
def app1 (o : Op) (d : D) : Option R := match o with
  | .neg => negD d
  | .rev => revD d
  | .len => lenD d
  | .tuple => tupD d
  | .list => lstD d
  | .repr => (reprD d).bind fun x => fz (.str x)
  | .int => intD d
  | .sum => sumD d
  | .min => (lsts d).bind fun xs => (intsOf xs).bind minL
  | .max => (lsts d).bind fun xs => (intsOf xs).bind maxL
  | .all => allD d
  | .any => anyD d
  | .abs => absD d
  | .sorted => sortD d
  | .set => setD d
  | .isi ts => guardO (plain d) (fz (.bl (ts.any fun t => isTy t d)))
  | .slc lo hi => slcD lo hi [d]
  | _ => none
def app2 (o : Op) (x y : D) : Option R := match o with
  | .add => addD x y
  | .sub => subD x y
  | .mul => mulD x y
  | .mod => modD x y
  | .fdiv => fdivD x y
  | .pow => powD x y
  | .eq => guardO (okEq x y) (fz (.bl (eqD x y)))
  | .ne => guardO (okEq x y) (fz (.bl (!eqD x y)))
  | .lt => cmpD (fun i j => decide (i < j)) x y
  | .le => cmpD (fun i j => decide (i ≤ j)) x y
  | .gt => cmpD (fun i j => decide (j < i)) x y
  | .ge => cmpD (fun i j => decide (j ≤ i)) x y
  | .is => (isD x y).bind fun b => fz (.bl b)
  | .isn => (isD x y).bind fun b => fz (.bl (!b))
  | .isin => (inO x y).bind fun b => fz (.bl b)
  | .notin => (inO x y).bind fun b => fz (.bl (!b))
  | .ix => ixD x y
  | .min => min2 x y
  | .max => max2 x y
  | .slc lo hi => slcD lo hi [x, y]
  | _ => none
def app (o : Op) : List D → Option R
  | [x] => app1 o x
  | [x, y] => app2 o x y
  | x :: y :: z :: r => (match o with | .slc lo hi => slcD lo hi (x :: y :: z :: r) | .dget => (match r with | [] => dgetD x y z | _ => none) | _ => none)
  | [] => (match o with | .dnew => ow (.dic []) | _ => none)

/-- a value that no name holds alone -/
def R.free : R → Bool
  | .rf _ _ => false
  | _ => true
/-- what a for walks -/
def walk : Src → List D → Option (List D)
  | .it, [.tup xs] => some xs
  | .it, [.lst xs] => some xs
  | .it, [.dic kvs] => some (kvs.map (·.1))
  | .range, [.int j] => guardO (smallI j) (some ((List.range j.toNat).map fun k : Nat => D.int k))
  | .range2, [.int i, .int j] => guardO (smallI i && smallI j) (some ((List.range (j - i).toNat).map fun k : Nat => D.int (i + k)))
  | .enum, [.lst xs] => some (xs.zipIdx.map fun p => D.tup [.int p.2, p.1])
  | .enum, [.tup xs] => some (xs.zipIdx.map fun p => D.tup [.int p.2, p.1])
  | .zip, [.lst xs, .lst ys] => some ((xs.zip ys).map fun p => .tup [p.1, p.2])
  | .zip, [.tup xs, .tup ys] => some ((xs.zip ys).map fun p => .tup [p.1, p.2])
  | _, _ => none
def setAll (sl : List Sl) : List Nat → List D → Option (List Sl)
  | [], [] => some sl
  | i :: is, d :: ds => setAll (sl.set i (.fz d)) is ds
  | _, _ => none
/-- a target's store -/
def Tg.put : Tg → D → List Sl → Option (List Sl)
  | .n i, d, sl => some (sl.set i (.fz d))
  | .t is, .tup ds, sl => setAll sl is ds
  | .t _, _, _ => none
def wipeS (sl : List Sl) : List Nat → List Sl
  | [] => sl
  | v :: vs => (wipeS sl vs).set v .un
/-- the names of a block: what they held is held for good; behind the block they hold it again -/
def frzOwn : List Nat → List Sl → List Sl
  | [], sl => sl
  | v :: vs, sl => (match (frzOwn vs sl)[v]? with
    | some (.ow d) => (frzOwn vs sl).set v (.fz d)
    | _ => frzOwn vs sl)
def restS (outer inner : List Sl) : List Nat → List Sl
  | [] => inner
  | v :: vs => (restS outer inner vs).set v (outer.getD v .un)
def toSl : R → Sl
  | .fz d => .fz d
  | .ow d => .ow d
  | .rf _ d => .fz d
/-- the value leaves: the name that holds it holds it for good -/
def frzS (r : R) (sl : List Sl) : List Sl := match r with
  | .rf i d => sl.set i (.fz d)
  | _ => sl
def En.frz (r : R) (en : En) : En := { en with sl := frzS r en.sl }
def spliceD : List Bool → List D → Option (List D)
  | [], [] => some []
  | false :: bs, d :: ds => (spliceD bs ds).map (d :: ·)
  | true :: bs, .tup xs :: ds => (spliceD bs ds).map (xs ++ ·)
  | true :: bs, .lst xs :: ds => (spliceD bs ds).map (xs ++ ·)
  | _, _ => none
def boolD : D → Option Bool
  | .bl b => some b
  | _ => none

/-! ### what holds behind an expression, a statement -/
abbrev QR := R → En → Prop
abbrev XP := Ex → En → Prop
/-- a call: the def, its arguments, the store; behind it: its value, the store -/
abbrev Cal := Str → List D → List Ob → (R → List Ob → Prop) → (Ex → List Ob → Prop) → Prop
structure Cfg where
  cal : Cal
  gl : Str → Option D
structure Po where
  nx : En → Prop
  rt : R → List Ob → Prop
  bk : En → Prop := fun _ => False
  ct : En → Prop := fun _ => False
def the {α : Type} (o : Option α) (Q : α → Prop) : Prop := match o with
  | some a => Q a
  | none => False
def loopW {α : Type} (step : α → (En → Prop) → En → Prop) : List α → (En → Prop) → En → Prop
  | [], Q, en => Q en
  | a :: as, Q, en => step a (loopW step as Q) en
def loopA {α β : Type} (step : α → β → (β → En → Prop) → En → Prop) : List α → β → (β → En → Prop) → En → Prop
  | [], b, Q, en => Q b en
  | a :: as, b, Q, en => step a b (fun b' en' => loopA step as b' Q en') en
def whileW (test : (Bool → En → Prop) → En → Prop) (body : (En → Prop) → En → Prop) : Nat → (En → Prop) → En → Prop
  | 0, _, _ => False
  | n + 1, Q, en => test (fun b en' => if b = true then body (whileW test body n Q) en' else Q en') en

mutual
def wE (C : Cfg) : IE → En → QR → XP → Prop
  | .c d, en, Q, _ => Q (.fz d) en
  | .v i, en, Q, _ => (match en.sl[i]? with
    | some (.fz d) => Q (.fz d) en
    | some (.ow d) => Q (.rf i d) en
    | _ => False)
  | .g x, en, Q, _ => the (C.gl x) fun d => Q (.fz d) en
  | .op o es, en, Q, X => wA C es en (fun ds en' => the (app o (ds.map (view en'.ob))) fun r => Q r en') X
  | .disp tup stars es, en, Q, X => wD C stars es en (fun xs en' => xs.length ≤ big ∧ if tup = true then Q (.fz (.tup xs)) en' else Q (.ow (.lst xs)) en') X
  | .and a b, en, Q, X => wE C a en (fun r en' => the (truthD (view en'.ob r.d)) fun t => if t = true then wE C b en' Q X else Q r en') X
  | .or a b, en, Q, X => wE C a en (fun r en' => the (truthD (view en'.ob r.d)) fun t => if t = true then Q r en' else wE C b en' Q X) X
  | .not a, en, Q, X => wT C a en (fun t en' => Q (.fz (.bl (!t))) en') X
  | .ite t a b, en, Q, X => wT C t en (fun k en' => if k = true then wE C a en' Q X else wE C b en' Q X) X
  | .ch o1 o2 a b c, en, Q, X => wE C a en (fun r en1 => wE C b en1 (fun s en2 => the (app o1 [view en2.ob r.d, view en2.ob s.d]) fun k => the (boolD k.d) fun t =>
      if t = true then wE C c en2 (fun u en3 => the (app o2 [view en3.ob s.d, view en3.ob u.d]) fun z => Q z en3) X else Q (.fz (.bl false)) en2) X) X
  | .ch3 o1 o2 o3 a b c d, en, Q, X => wE C a en (fun r en1 => wE C b en1 (fun s en2 => the (app o1 [view en2.ob r.d, view en2.ob s.d]) fun k => the (boolD k.d) fun t =>
      if t = true then wE C c en2 (fun u en3 => the (app o2 [view en3.ob s.d, view en3.ob u.d]) fun k' => the (boolD k'.d) fun t' =>
        if t' = true then wE C d en3 (fun y en4 => the (app o3 [view en4.ob u.d, view en4.ob y.d]) fun z => Q z en4) X else Q (.fz (.bl false)) en3) X else Q (.fz (.bl false)) en2) X) X
  | .call f es, en, Q, X => wX C es en (fun ds en' => C.cal f ds en'.ob (fun r ob => Q r { en' with ob := ob }) (fun e ob => X e { en' with ob := ob })) X
  | .dget d k x, en, Q, X => wE C d en (fun r en1 => the (dicOf (view en1.ob r.d)) fun _ => wE C k en1 (fun r2 en2 => wE C x en2 (fun r3 en3 => r3.free = true ∧ the (dgetD (view en3.ob r.d) r2.d r3.d) fun z => Q z en3) X) X) X
  | .comp own t s es cond elt, en, Q, X => wX C es en (fun ds en' => the (walk s ds) fun xs =>
      loopA (fun x acc K en1 => the (t.put x (wipeS en1.sl own)) fun sl' => wC C cond { en1 with sl := sl' } (fun k en2 =>
        if k = true then wE C elt en2 (fun r en3 => acc.length < big ∧ K (acc ++ [r.d]) (en3.frz r)) X else K acc en2) X) xs ([] : List D)
        (fun acc en1 => Q (.ow (.lst acc)) { en1 with sl := restS (frzOwn own en'.sl) en1.sl own }) { en' with sl := frzOwn own en'.sl }) X
  | .comp2 own own1 t s es cond t1 s1 es1 cond1 elt, en, Q, X => wX C es en (fun ds en' => the (walk s ds) fun xs =>
      loopA (fun x acc K en1 => the (t.put x (wipeS en1.sl own)) fun sl' => wC C cond { en1 with sl := sl' } (fun k en2 =>
        if k = true then wX C es1 en2 (fun ds1 en3 => the (walk s1 ds1) fun xs1 =>
          loopA (fun x1 acc1 K1 en4 => the (t1.put x1 (wipeS en4.sl own1)) fun sl1 => wC C cond1 { en4 with sl := sl1 } (fun k1 en5 =>
            if k1 = true then wE C elt en5 (fun r en6 => acc1.length < big ∧ K1 (acc1 ++ [r.d]) (en6.frz r)) X else K1 acc1 en5) X) xs1 acc K en3) X
        else K acc en2) X) xs ([] : List D)
        (fun acc en1 => Q (.ow (.lst acc)) { en1 with sl := restS (frzOwn own en'.sl) en1.sl own }) { en' with sl := frzOwn own en'.sl }) X
/-- a test -/
def wT (C : Cfg) : IE → En → (Bool → En → Prop) → XP → Prop
  | .and a b, en, Q, X => wT C a en (fun t en' => if t = true then wT C b en' Q X else Q false en') X
  | .or a b, en, Q, X => wT C a en (fun t en' => if t = true then Q true en' else wT C b en' Q X) X
  | .not a, en, Q, X => wT C a en (fun t en' => Q (!t) en') X
  | .ite t a b, en, Q, X => wT C t en (fun k en' => if k = true then wT C a en' Q X else wT C b en' Q X) X
  | .c d, en, Q, _ => the (truthD (view en.ob d)) fun t => Q t en
  | .v i, en, Q, _ => (match en.sl[i]? with
    | some (.fz d) => the (truthD (view en.ob d)) fun t => Q t en
    | some (.ow d) => the (truthD (view en.ob d)) fun t => Q t en
    | _ => False)
  | .g x, en, Q, _ => the (C.gl x) fun d => the (truthD (view en.ob d)) fun t => Q t en
  | .op o es, en, Q, X => wA C es en (fun ds en' => the (app o (ds.map (view en'.ob))) fun r => the (truthD (view en'.ob r.d)) fun t => Q t en') X
  | .ch o1 o2 a b c, en, Q, X => wE C a en (fun r en1 => wE C b en1 (fun s en2 => the (app o1 [view en2.ob r.d, view en2.ob s.d]) fun k => the (boolD k.d) fun t =>
      if t = true then wE C c en2 (fun u en3 => the (app o2 [view en3.ob s.d, view en3.ob u.d]) fun z => the (boolD z.d) fun t' => Q t' en3) X else Q false en2) X) X
  | .ch3 o1 o2 o3 a b c d, en, Q, X => wE C a en (fun r en1 => wE C b en1 (fun s en2 => the (app o1 [view en2.ob r.d, view en2.ob s.d]) fun k => the (boolD k.d) fun t =>
      if t = true then wE C c en2 (fun u en3 => the (app o2 [view en3.ob s.d, view en3.ob u.d]) fun k' => the (boolD k'.d) fun t' =>
        if t' = true then wE C d en3 (fun y en4 => the (app o3 [view en4.ob u.d, view en4.ob y.d]) fun z => the (boolD z.d) fun t'' => Q t'' en4) X else Q false en3) X else Q false en2) X) X
  | .call f es, en, Q, X => wX C es en (fun ds en' => C.cal f ds en'.ob (fun r ob => the (truthD (view ob r.d)) fun t => Q t { en' with ob := ob }) (fun e ob => X e { en' with ob := ob })) X
  | _, _, _, _ => False
/-- the test of a comprehension -/
def wC (C : Cfg) : Option IE → En → (Bool → En → Prop) → XP → Prop
  | none, en, Q, _ => Q true en
  | some e, en, Q, X => wT C e en Q X
/-- operands, from the left -/
def wA (C : Cfg) : List IE → En → (List D → En → Prop) → XP → Prop
  | [], en, Q, _ => Q [] en
  | e :: es, en, Q, X => wE C e en (fun r en' => wA C es en' (fun ds en'' => Q (r.d :: ds) en'') X) X
/-- arguments, from the left: they are handed on -/
def wX (C : Cfg) : List IE → En → (List D → En → Prop) → XP → Prop
  | [], en, Q, _ => Q [] en
  | e :: es, en, Q, X => wE C e en (fun r en' => wX C es (en'.frz r) (fun ds en'' => Q (r.d :: ds) en'') X) X
/-- a display's items -/
def wD (C : Cfg) : List Bool → List IE → En → (List D → En → Prop) → XP → Prop
  | [], [], en, Q, _ => Q [] en
  | false :: bs, e :: es, en, Q, X => wE C e en (fun r en' => wD C bs es (en'.frz r) (fun ds en'' => Q (r.d :: ds) en'') X) X
  | true :: bs, e :: es, en, Q, X => wE C e en (fun r en' => the (spliceD [true] [view en'.ob r.d]) fun xs => wD C bs es en' (fun ds en'' => Q (xs ++ ds) en'') X) X
  | _, _, _, _, _ => False
end

/-- a[k] = e in a container -/
def putD : D → D → D → Option D
  | .lst xs, .int i, d => (ixN xs.length i).map fun k => .lst (xs.set k d)
  | .dic kvs, k, d => guardO (isKey k && decide (kvs.length < big)) (some (.dic (putKD kvs k d)))
  | _, _, _ => none
def mutD : Mu → D → D → Option D
  | .append, .lst xs, d => guardO (decide (xs.length < big)) (some (.lst (xs ++ [d])))
  | .extend, .lst xs, .lst ys => guardO (decide (xs.length + ys.length ≤ big)) (some (.lst (xs ++ ys)))
  | _, _, _ => none
/-- the container that a name holds changes -/
def En.chg (en : En) (i : Nat) (f : D → Option D) : Option En := match en.sl[i]? with
  | some (.ow d) => (f d).map fun d' => { en with sl := en.sl.set i (.ow d') }
  | some (.fz (.obj n)) => (match en.ob[n]? with
    | some (.con d) => (f d).map fun d' => { en with ob := en.ob.set n (.con d') }
    | _ => none)
  | _ => none
/-- what a return hands back -/
def R.out : R → R
  | .rf _ d => .ow d
  | r => r
/-- is it a list, and changed in place? -/
def En.isL (en : En) (i : Nat) : Bool := match en.sl[i]? with
  | some (.ow (.lst _)) => true
  | some (.fz (.obj n)) => (match en.ob[n]? with
    | some (.con (.lst _)) => true
    | _ => false)
  | _ => false
/-- is it a list or a dict, and changed in place? -/
def En.isC (en : En) (i : Nat) : Bool := match en.sl[i]? with
  | some (.ow (.lst _)) => true
  | some (.ow (.dic _)) => true
  | some (.fz (.obj n)) => (match en.ob[n]? with
    | some (.con (.lst _)) => true
    | some (.con (.dic _)) => true
    | _ => false)
  | _ => false
def augI : Op → Int → Int → Int
  | .sub, i, j => i - j
  | _, i, j => i + j
mutual
def wS (C : Cfg) : IS → En → Po → XP → Prop
  | .set i e, en, P, X => wE C e en (fun r en' => P.nx { en' with sl := (frzS r en'.sl).set i (toSl r) }) X
  | .par i j a b, en, P, X => wE C a en (fun r en1 => wE C b (en1.frz r) (fun s en2 => P.nx { en2 with sl := ((frzS s en2.sl).set i (toSl r)).set j (toSl s) }) X) X
  | .setO i e, en, P, X => wE C e en (fun r en' => match r with | .ow d => P.nx { en' with sl := en'.sl.set i (.fz (.obj en'.ob.length)), ob := en'.ob ++ [.con d] } | _ => False) X
  | .tset is e, en, P, X => wE C e en (fun r en' => the (Tg.put (.t is) r.d (frzS r en'.sl)) fun sl => P.nx { en' with sl := sl }) X
  | .aug i o e, en, P, X => (match en.sl[i]? with
    | some (.fz (.int k)) => wE C e en (fun r en' => match r.d with | .int j => P.nx { en' with sl := en'.sl.set i (.fz (.int (augI o k j))) } | _ => False) X
    | _ => False)
  | .put i k e, en, P, X => en.isC i = true ∧ wE C e en (fun r en1 => wA C [k] (en1.frz r) (fun ks en2 => the (en2.chg i fun d => putD d (ks.headD .non) r.d) P.nx) X) X
  | .mut i m e, en, P, X => en.isL i = true ∧ wE C e en (fun r en1 => the ((en1.frz r).chg i fun d => mutD m d r.d) P.nx) X
  | .expr e, en, P, X => wE C e en (fun _ en' => P.nx en') X
  | .ret e, en, P, X => wE C e en (fun r en' => P.rt r.out en'.ob) X
  | .ite t a b, en, P, X => wT C t en (fun k en' => if k = true then wSs C a en' P X else wSs C b en' P X) X
  | .for_ t s es body, en, P, X => wX C es en (fun ds en' => the (walk s ds) fun xs =>
      loopW (fun x K en1 => the (t.put x en1.sl) fun sl' => wSs C body { en1 with sl := sl' } { P with nx := K, ct := K, bk := P.nx } X) xs P.nx en') X
  | .whl t body, en, P, X => ∃ n, whileW (fun Q en1 => wT C t en1 Q X) (fun K en1 => wSs C body en1 { P with nx := K, ct := K, bk := P.nx } X) n P.nx en
  | .brk, en, P, _ => P.bk en
  | .cont, en, P, _ => P.ct en
  | .pass, en, P, _ => P.nx en
  | .stuck, _, _, _ => False
def wSs (C : Cfg) : List IS → En → Po → XP → Prop
  | [], en, P, _ => P.nx en
  | s :: ss, en, P, X => wS C s en { P with nx := fun en' => wSs C ss en' P X } X
end
/-- a def: how many parameters, how many names, its body -/
structure Fn where
  np : Nat
  ns : Nat
  body : List IS
def runF (tbl : Str → Option Fn) (gl : Str → Option D) : Nat → Cal
  | 0, _, _, _, _, _ => False
  | n + 1, f, ds, ob, Q, X => the (tbl f) fun fn => ds.length = fn.np ∧
      wSs ⟨runF tbl gl n, gl⟩ fn.body ⟨ds.map Sl.fz ++ List.replicate (fn.ns - fn.np) .un, ob⟩ { nx := fun en => Q (.fz .non) en.ob, rt := Q } (fun e en => X e en.ob)
end Tk

/-! Tk, part 3: what is wanted may be weakened. -/
namespace Tk
open PySem
def CalMono (c : Cal) : Prop := ∀ (f : Str) (ds : List D) (ob : List Ob) (Q Q' : R → List Ob → Prop) (X X' : Ex → List Ob → Prop), (∀ r o, Q r o → Q' r o) → (∀ e o, X e o → X' e o) → c f ds ob Q X → c f ds ob Q' X'
theorem the_mono {α : Type} {o : Option α} {Q Q' : α → Prop} (h : ∀ a, o = some a → Q a → Q' a) (w : the o Q) : the o Q' := by
  cases o with
  | none => exact w
  | some a => exact h a rfl w
theorem loopA_mono {α β : Type} {step step' : α → β → (β → En → Prop) → En → Prop} (hs : ∀ a b en (Q Q' : β → En → Prop), (∀ b e, Q b e → Q' b e) → step a b Q en → step' a b Q' en) :
    ∀ (as : List α) (b : β) (Q Q' : β → En → Prop) (en : En), (∀ b e, Q b e → Q' b e) → loopA step as b Q en → loopA step' as b Q' en
  | [], b, Q, Q', en, h, w => h b en w
  | a :: as, b, Q, Q', en, h, w => hs a b en _ _ (fun b' e' w' => loopA_mono hs as b' Q Q' e' h w') w
theorem loopW_mono {α : Type} {step step' : α → (En → Prop) → En → Prop} (hs : ∀ a en (Q Q' : En → Prop), (∀ e, Q e → Q' e) → step a Q en → step' a Q' en) :
    ∀ (as : List α) (Q Q' : En → Prop) (en : En), (∀ e, Q e → Q' e) → loopW step as Q en → loopW step' as Q' en
  | [], Q, Q', en, h, w => h en w
  | a :: as, Q, Q', en, h, w => hs a en _ _ (fun e' w' => loopW_mono hs as Q Q' e' h w') w
theorem whileW_mono {test test' : (Bool → En → Prop) → En → Prop} {body body' : (En → Prop) → En → Prop} (ht : ∀ Q Q' en, (∀ b e, Q b e → Q' b e) → test Q en → test' Q' en) (hb : ∀ Q Q' en, (∀ e, Q e → Q' e) → body Q en → body' Q' en) :
    ∀ (n : Nat) (Q Q' : En → Prop) (en : En), (∀ e, Q e → Q' e) → whileW test body n Q en → whileW test' body' n Q' en
  | 0, Q, Q', en, h, w => w
  | n + 1, Q, Q', en, h, w => ht _ _ en (fun b e w' => by
      cases b with
      | true => exact hb _ _ e (fun e' w'' => whileW_mono ht hb n Q Q' e' h w'') w'
      | false => exact h e w') w
section
variable {C : Cfg} (hc : CalMono C.cal) {X X' : XP} (hX : ∀ x e, X x e → X' x e)
include hc hX
mutual
theorem wE_mono : ∀ (ir : IE) (en : En) (Q Q' : QR), (∀ r e, Q r e → Q' r e) → wE C ir en Q X → wE C ir en Q' X'
  | .c d, en, Q, Q', h, w => h _ _ w
  | .v i, en, Q, Q', h, w => by
    simp only [wE] at w ⊢
    split
    · rename_i d e; rw [e] at w; exact h _ _ w
    · rename_i d e; rw [e] at w; exact h _ _ w
    · rename_i h1 h2
      split at w
      · rename_i d e; exact absurd e (h1 d)
      · rename_i d e; exact absurd e (h2 d)
      · exact w
  | .g x, en, Q, Q', h, w => by
    simp only [wE] at w ⊢
    exact the_mono (fun a _ w => h _ _ w) w
  | .op o es, en, Q, Q', h, w => by
    simp only [wE] at w ⊢
    exact wA_mono es en _ _ (fun ds e w => the_mono (fun a _ w => h _ _ w) w) w
  | .disp t st es, en, Q, Q', h, w => by
    simp only [wE] at w ⊢
    refine wD_mono st es en _ _ (fun ds e w => ⟨w.1, ?_⟩) w
    have w := w.2
    split at w
    · rename_i ht; rw [if_pos ht]; exact h _ _ w
    · rename_i ht; rw [if_neg ht]; exact h _ _ w
  | .and a b, en, Q, Q', h, w => by
    simp only [wE] at w ⊢
    refine wE_mono a en _ _ (fun r e w => the_mono (fun t _ w => ?_) w) w
    cases t with
    | true => exact wE_mono b e Q Q' h w
    | false => exact h _ _ w
  | .or a b, en, Q, Q', h, w => by
    simp only [wE] at w ⊢
    refine wE_mono a en _ _ (fun r e w => the_mono (fun t _ w => ?_) w) w
    cases t with
    | false => exact wE_mono b e Q Q' h w
    | true => exact h _ _ w
  | .not a, en, Q, Q', h, w => by
    simp only [wE] at w ⊢
    exact wT_mono a en _ _ (fun t e w => h _ _ w) w
  | .ite t a b, en, Q, Q', h, w => by
    simp only [wE] at w ⊢
    refine wT_mono t en _ _ (fun k e w => ?_) w
    cases k with
    | true => exact wE_mono a e Q Q' h w
    | false => exact wE_mono b e Q Q' h w
  | .ch o1 o2 a b c, en, Q, Q', h, w => by
    simp only [wE] at w ⊢
    refine wE_mono a en _ _ (fun r e1 w => wE_mono b e1 _ _ (fun s e2 w => the_mono (fun k _ w => the_mono (fun t _ w => ?_) w) w) w) w
    cases t with
    | true => exact wE_mono c e2 _ _ (fun u e3 w => the_mono (fun z _ w => h _ _ w) w) w
    | false => exact h _ _ w
  | .ch3 o1 o2 o3 a b c d, en, Q, Q', h, w => by
    simp only [wE] at w ⊢
    refine wE_mono a en _ _ (fun r e1 w => wE_mono b e1 _ _ (fun s e2 w => the_mono (fun k _ w => the_mono (fun t _ w => ?_) w) w) w) w
    cases t with
    | true =>
      refine wE_mono c e2 _ _ (fun u e3 w => the_mono (fun k' _ w => the_mono (fun t' _ w => ?_) w) w) w
      cases t' with
      | true => exact wE_mono d e3 _ _ (fun y e4 w => the_mono (fun z _ w => h _ _ w) w) w
      | false => exact h _ _ w
    | false => exact h _ _ w
  | .call f es, en, Q, Q', h, w => by
    simp only [wE] at w ⊢
    exact wX_mono es en _ _ (fun ds e w => hc _ _ _ _ _ _ _ (fun r o w => h _ _ w) (fun x o w => hX _ _ w) w) w
  | .dget d k x, en, Q, Q', h, w => by
    simp only [wE] at w ⊢
    exact wE_mono d en _ _ (fun r e1 w => the_mono (fun _ _ w => wE_mono k e1 _ _ (fun r2 e2 w => wE_mono x e2 _ _ (fun r3 e3 w => ⟨w.1, the_mono (fun z _ w => h _ _ w) w.2⟩) w) w) w) w
  | .comp own t s es cond elt, en, Q, Q', h, w => by
    simp only [wE] at w ⊢
    refine wX_mono es en _ _ (fun ds e w => the_mono (fun xs _ w => loopA_mono (fun x acc e1 K K' hK w => the_mono (fun sl _ w => wC_mono cond _ _ _ (fun k e2 w => ?_) w) w) xs _ _ _ _ (fun acc e1 w => h _ _ w) w) w) w
    cases k with
    | true => exact wE_mono elt e2 _ _ (fun r e3 w => ⟨w.1, hK _ _ w.2⟩) w
    | false => exact hK _ _ w
  | .comp2 own own1 t s es cond t1 s1 es1 cond1 elt, en, Q, Q', h, w => by
    simp only [wE] at w ⊢
    refine wX_mono es en _ _ (fun ds e w => the_mono (fun xs _ w => loopA_mono (fun x acc e1 K K' hK w => the_mono (fun sl _ w => wC_mono cond _ _ _ (fun k e2 w => ?_) w) w) xs _ _ _ _ (fun acc e1 w => h _ _ w) w) w) w
    cases k with
    | true =>
      refine wX_mono es1 e2 _ _ (fun ds1 e3 w => the_mono (fun xs1 _ w => loopA_mono (fun x1 acc1 e4 K1 K1' hK1 w => the_mono (fun sl1 _ w => wC_mono cond1 _ _ _ (fun k1 e5 w => ?_) w) w) xs1 _ _ _ _ hK w) w) w
      cases k1 with
      | true => exact wE_mono elt e5 _ _ (fun r e3 w => ⟨w.1, hK1 _ _ w.2⟩) w
      | false => exact hK1 _ _ w
    | false => exact hK _ _ w
theorem wT_mono : ∀ (ir : IE) (en : En) (Q Q' : Bool → En → Prop), (∀ r e, Q r e → Q' r e) → wT C ir en Q X → wT C ir en Q' X'
  | .c d, en, Q, Q', h, w => by
    simp only [wT] at w ⊢
    exact the_mono (fun a _ w => h _ _ w) w
  | .v i, en, Q, Q', h, w => by
    simp only [wT] at w ⊢
    split
    · rename_i d e; rw [e] at w; exact the_mono (fun a _ w => h _ _ w) w
    · rename_i d e; rw [e] at w; exact the_mono (fun a _ w => h _ _ w) w
    · rename_i h1 h2
      split at w
      · rename_i d e; exact absurd e (h1 d)
      · rename_i d e; exact absurd e (h2 d)
      · exact w
  | .g x, en, Q, Q', h, w => by
    simp only [wT] at w ⊢
    exact the_mono (fun a _ w => the_mono (fun a _ w => h _ _ w) w) w
  | .op o es, en, Q, Q', h, w => by
    simp only [wT] at w ⊢
    exact wA_mono es en _ _ (fun ds e w => the_mono (fun a _ w => the_mono (fun t _ w => h _ _ w) w) w) w
  | .and a b, en, Q, Q', h, w => by
    simp only [wT] at w ⊢
    refine wT_mono a en _ _ (fun t e w => ?_) w
    cases t with
    | true => exact wT_mono b e Q Q' h w
    | false => exact h _ _ w
  | .or a b, en, Q, Q', h, w => by
    simp only [wT] at w ⊢
    refine wT_mono a en _ _ (fun t e w => ?_) w
    cases t with
    | false => exact wT_mono b e Q Q' h w
    | true => exact h _ _ w
  | .not a, en, Q, Q', h, w => by
    simp only [wT] at w ⊢
    exact wT_mono a en _ _ (fun t e w => h _ _ w) w
  | .ite t a b, en, Q, Q', h, w => by
    simp only [wT] at w ⊢
    refine wT_mono t en _ _ (fun k e w => ?_) w
    cases k with
    | true => exact wT_mono a e Q Q' h w
    | false => exact wT_mono b e Q Q' h w
  | .ch o1 o2 a b c, en, Q, Q', h, w => by
    simp only [wT] at w ⊢
    refine wE_mono a en _ _ (fun r e1 w => wE_mono b e1 _ _ (fun s e2 w => the_mono (fun k _ w => the_mono (fun t _ w => ?_) w) w) w) w
    cases t with
    | true => exact wE_mono c e2 _ _ (fun u e3 w => the_mono (fun z _ w => the_mono (fun t _ w => h _ _ w) w) w) w
    | false => exact h _ _ w
  | .ch3 o1 o2 o3 a b c d, en, Q, Q', h, w => by
    simp only [wT] at w ⊢
    refine wE_mono a en _ _ (fun r e1 w => wE_mono b e1 _ _ (fun s e2 w => the_mono (fun k _ w => the_mono (fun t _ w => ?_) w) w) w) w
    cases t with
    | true =>
      refine wE_mono c e2 _ _ (fun u e3 w => the_mono (fun k' _ w => the_mono (fun t' _ w => ?_) w) w) w
      cases t' with
      | true => exact wE_mono d e3 _ _ (fun y e4 w => the_mono (fun z _ w => the_mono (fun t _ w => h _ _ w) w) w) w
      | false => exact h _ _ w
    | false => exact h _ _ w
  | .call f es, en, Q, Q', h, w => by
    simp only [wT] at w ⊢
    exact wX_mono es en _ _ (fun ds e w => hc _ _ _ _ _ _ _ (fun r o w => the_mono (fun t _ w => h _ _ w) w) (fun x o w => hX _ _ w) w) w
  | .disp t st es, en, Q, Q', h, w => by simp only [wT] at w
  | .dget d k x, en, Q, Q', h, w => by simp only [wT] at w
  | .comp own t s es cond elt, en, Q, Q', h, w => by simp only [wT] at w
  | .comp2 own own1 t s es cond t1 s1 es1 cond1 elt, en, Q, Q', h, w => by simp only [wT] at w
theorem wC_mono : ∀ (ir : Option IE) (en : En) (Q Q' : Bool → En → Prop), (∀ r e, Q r e → Q' r e) → wC C ir en Q X → wC C ir en Q' X'
  | none, en, Q, Q', h, w => by
    simp only [wC] at w ⊢
    exact h _ _ w
  | some e, en, Q, Q', h, w => by
    simp only [wC] at w ⊢
    exact wT_mono e en Q Q' h w
theorem wA_mono : ∀ (irs : List IE) (en : En) (Q Q' : List D → En → Prop), (∀ r e, Q r e → Q' r e) → wA C irs en Q X → wA C irs en Q' X'
  | [], en, Q, Q', h, w => by
    simp only [wA] at w ⊢
    exact h _ _ w
  | e :: es, en, Q, Q', h, w => by
    simp only [wA] at w ⊢
    exact wE_mono e en _ _ (fun r e' w => wA_mono es e' _ _ (fun ds e'' w => h _ _ w) w) w
theorem wX_mono : ∀ (irs : List IE) (en : En) (Q Q' : List D → En → Prop), (∀ r e, Q r e → Q' r e) → wX C irs en Q X → wX C irs en Q' X'
  | [], en, Q, Q', h, w => by
    simp only [wX] at w ⊢
    exact h _ _ w
  | e :: es, en, Q, Q', h, w => by
    simp only [wX] at w ⊢
    exact wE_mono e en _ _ (fun r e' w => wX_mono es _ _ _ (fun ds e'' w => h _ _ w) w) w
theorem wD_mono : ∀ (st : List Bool) (irs : List IE) (en : En) (Q Q' : List D → En → Prop), (∀ r e, Q r e → Q' r e) → wD C st irs en Q X → wD C st irs en Q' X'
  | [], [], en, Q, Q', h, w => by
    simp only [wD] at w ⊢
    exact h _ _ w
  | false :: bs, e :: es, en, Q, Q', h, w => by
    simp only [wD] at w ⊢
    exact wE_mono e en _ _ (fun r e' w => wD_mono bs es _ _ _ (fun ds e'' w => h _ _ w) w) w
  | true :: bs, e :: es, en, Q, Q', h, w => by
    simp only [wD] at w ⊢
    exact wE_mono e en _ _ (fun r e' w => the_mono (fun xs _ w => wD_mono bs es _ _ _ (fun ds e'' w => h _ _ w) w) w) w
  | [], e :: es, en, Q, Q', h, w => by simp only [wD] at w
  | b :: bs, [], en, Q, Q', h, w => by cases b <;> simp only [wD] at w
end
omit hX in
theorem wT_wE : ∀ (ir : IE) (en : En) (Q : Bool → En → Prop), wT C ir en Q X → wE C ir en (fun r en' => the (truthD (view en'.ob r.d)) fun t => Q t en') X
  | .c d, en, Q, w => w
  | .v i, en, Q, w => w
  | .g x, en, Q, w => w
  | .op o es, en, Q, w => w
  | .call f es, en, Q, w => w
  | .not a, en, Q, w => w
  | .disp t st es, en, Q, w => by simp only [wT] at w
  | .dget d k x, en, Q, w => by simp only [wT] at w
  | .comp own t s es cond elt, en, Q, w => by simp only [wT] at w
  | .comp2 own own1 t s es cond t1 s1 es1 cond1 elt, en, Q, w => by simp only [wT] at w
  | .and a b, en, Q, w => by
    simp only [wT] at w
    simp only [wE]
    refine wE_mono hc (fun _ _ x => x) a en _ _ (fun r e w => the_mono (fun t et w => ?_) w) (wT_wE a en _ w)
    cases t with
    | true => exact wT_wE b e Q w
    | false =>
      have w : Q false e := w
      show the _ _
      rw [et]
      exact w
  | .or a b, en, Q, w => by
    simp only [wT] at w
    simp only [wE]
    refine wE_mono hc (fun _ _ x => x) a en _ _ (fun r e w => the_mono (fun t et w => ?_) w) (wT_wE a en _ w)
    cases t with
    | false => exact wT_wE b e Q w
    | true =>
      have w : Q true e := w
      show the _ _
      rw [et]
      exact w
  | .ite t a b, en, Q, w => by
    simp only [wT] at w
    simp only [wE]
    refine wT_mono hc (fun _ _ x => x) t en _ _ (fun k e w => ?_) w
    cases k with
    | true => exact wT_wE a e Q w
    | false => exact wT_wE b e Q w
  | .ch o1 o2 a b c, en, Q, w => by
    simp only [wT] at w
    simp only [wE]
    refine wE_mono hc (fun _ _ x => x) a en _ _ (fun r e1 w => wE_mono hc (fun _ _ x => x) b e1 _ _ (fun s e2 w => the_mono (fun k _ w => the_mono (fun t _ w => ?_) w) w) w) w
    cases t with
    | true =>
      refine wE_mono hc (fun _ _ x => x) c e2 _ _ (fun u e3 w => the_mono (fun z _ w => ?_) w) w
      cases h : z.d <;> rw [h] at w <;> first | exact w | exact w.elim
    | false => exact w
  | .ch3 o1 o2 o3 a b c d, en, Q, w => by
    simp only [wT] at w
    simp only [wE]
    refine wE_mono hc (fun _ _ x => x) a en _ _ (fun r e1 w => wE_mono hc (fun _ _ x => x) b e1 _ _ (fun s e2 w => the_mono (fun k _ w => the_mono (fun t _ w => ?_) w) w) w) w
    cases t with
    | true =>
      refine wE_mono hc (fun _ _ x => x) c e2 _ _ (fun u e3 w => the_mono (fun k' _ w => the_mono (fun t' _ w => ?_) w) w) w
      cases t' with
      | true =>
        refine wE_mono hc (fun _ _ x => x) d e3 _ _ (fun y e4 w => the_mono (fun z _ w => ?_) w) w
        cases h : z.d <;> rw [h] at w <;> first | exact w | exact w.elim
      | false => exact w
    | false => exact w
structure PoLe (P P' : Po) : Prop where
  nx : ∀ e, P.nx e → P'.nx e
  rt : ∀ r o, P.rt r o → P'.rt r o
  bk : ∀ e, P.bk e → P'.bk e
  ct : ∀ e, P.ct e → P'.ct e
mutual
theorem wS_mono : ∀ (ir : IS) (en : En) (P P' : Po), PoLe P P' → wS C ir en P X → wS C ir en P' X'
  | .set i e, en, P, P', h, w => by
    simp only [wS] at w ⊢
    exact wE_mono hc hX e en _ _ (fun r e w => h.nx _ w) w
  | .par i j a b, en, P, P', h, w => by
    simp only [wS] at w ⊢
    exact wE_mono hc hX a en _ _ (fun r e w => wE_mono hc hX b _ _ _ (fun s e2 w => h.nx _ w) w) w
  | .setO i e, en, P, P', h, w => by
    simp only [wS] at w ⊢
    refine wE_mono hc hX e en _ _ (fun r e w => ?_) w
    cases r with
    | ow d => exact h.nx _ w
    | _ => exact w
  | .tset is e, en, P, P', h, w => by
    simp only [wS] at w ⊢
    exact wE_mono hc hX e en _ _ (fun r e w => the_mono (fun _ _ w => h.nx _ w) w) w
  | .aug i o e, en, P, P', h, w => by
    simp only [wS] at w ⊢
    split
    · rename_i k0 ek; rw [ek] at w
      refine wE_mono hc hX e en _ _ (fun r e w => ?_) w
      split
      · rename_i j ej; rw [ej] at w; exact h.nx _ w
      · rename_i hj
        split at w
        · rename_i j ej; exact absurd ej (hj j)
        · exact w
    · rename_i hn
      split at w
      · rename_i k0 ek; exact absurd ek (hn k0)
      · exact w
  | .put i k e, en, P, P', h, w => by
    simp only [wS] at w ⊢
    refine ⟨w.1, ?_⟩
    have w := w.2
    exact wE_mono hc hX e en _ _ (fun r e w => wA_mono hc hX [k] _ _ _ (fun ks e2 w => the_mono (fun _ _ w => h.nx _ w) w) w) w
  | .mut i m e, en, P, P', h, w => by
    simp only [wS] at w ⊢
    refine ⟨w.1, ?_⟩
    have w := w.2
    exact wE_mono hc hX e en _ _ (fun r e w => the_mono (fun _ _ w => h.nx _ w) w) w
  | .expr e, en, P, P', h, w => by
    simp only [wS] at w ⊢
    exact wE_mono hc hX e en _ _ (fun r e w => h.nx _ w) w
  | .ret e, en, P, P', h, w => by
    simp only [wS] at w ⊢
    exact wE_mono hc hX e en _ _ (fun r e w => h.rt _ _ w) w
  | .ite t a b, en, P, P', h, w => by
    simp only [wS] at w ⊢
    refine wT_mono hc hX t en _ _ (fun k e w => ?_) w
    cases k with
    | true => exact wSs_mono a e P P' h w
    | false => exact wSs_mono b e P P' h w
  | .for_ t s es body, en, P, P', h, w => by
    simp only [wS] at w ⊢
    exact wX_mono hc hX es en _ _ (fun ds e w => the_mono (fun xs _ w => loopW_mono (fun x e1 K K' hK w => the_mono (fun sl _ w => wSs_mono body _ { P with nx := K, ct := K, bk := P.nx } { P' with nx := K', ct := K', bk := P'.nx } ⟨hK, h.rt, h.nx, hK⟩ w) w) xs _ _ _ h.nx w) w) w
  | .whl t body, en, P, P', h, w => by
    simp only [wS] at w ⊢
    obtain ⟨n, w⟩ := w
    exact ⟨n, whileW_mono (fun Q Q' e1 hQ w => wT_mono hc hX t e1 _ _ hQ w) (fun K K' e1 hK w => wSs_mono body e1 { P with nx := K, ct := K, bk := P.nx } { P' with nx := K', ct := K', bk := P'.nx } ⟨hK, h.rt, h.nx, hK⟩ w) n _ _ _ h.nx w⟩
  | .brk, en, P, P', h, w => by
    simp only [wS] at w ⊢
    exact h.bk _ w
  | .cont, en, P, P', h, w => by
    simp only [wS] at w ⊢
    exact h.ct _ w
  | .pass, en, P, P', h, w => by
    simp only [wS] at w ⊢
    exact h.nx _ w
  | .stuck, en, P, P', h, w => by
    simp only [wS] at w
theorem wSs_mono : ∀ (irs : List IS) (en : En) (P P' : Po), PoLe P P' → wSs C irs en P X → wSs C irs en P' X'
  | [], en, P, P', h, w => by
    simp only [wSs] at w ⊢
    exact h.nx _ w
  | s :: ss, en, P, P', h, w => by
    simp only [wSs] at w ⊢
    exact wS_mono s en { P with nx := fun en' => wSs C ss en' P X } { P' with nx := fun en' => wSs C ss en' P' X' } ⟨fun e w => wSs_mono ss e P P' h w, h.rt, h.bk, h.ct⟩ w
end
end
theorem runF_mono (tbl : Str → Option Fn) (gl : Str → Option D) : ∀ n, CalMono (runF tbl gl n)
  | 0 => fun f ds ob Q Q' X X' h hX w => w
  | n + 1 => fun f ds ob Q Q' X X' h hX w => the_mono (fun fn _ w => ⟨w.1, wSs_mono (runF_mono tbl gl n) (fun e en w => hX _ _ w) fn.body _ { nx := fun en => Q (.fz .non) en.ob, rt := Q } { nx := fun en => Q' (.fz .non) en.ob, rt := Q' } ⟨fun e w => h _ _ w, fun r o w => h _ _ w, fun e w => w, fun e w => w⟩ w.2⟩) w
end Tk

/-! Tk, part 2: from the text's statements to the small language; none where a form is not carried. -/
namespace Tk
open PySem
structure CC where
  N : List Str
  sc : Scope
  fs : List Str := []
  sh : List Str := []
  top : Bool := false
def CC.kind (cc : CC) (x : Str) : Option NameKind := cc.sc.names.lookup x
def CC.place (cc : CC) (x : Str) : Option Nat := cc.N.findIdx? (· == x)
def isDbg (x : Str) : Bool := x == "__debug__" || x == "__classdict__"
/-- a name that is a place of the def -/
def cVar (cc : CC) (x : Str) : Option Nat := if isDbg x then none else match cc.kind x with
  | some .local => cc.place x
  | some .cell => cc.place x
  | some .free => cc.place x
  | _ => none
/-- a name that is stored here -/
def cLoc (cc : CC) (x : Str) : Option Nat := if isDbg x then none else match cc.kind x with
  | some .local => cc.place x
  | _ => none
/-- a name that is stored here, captured or not -/
def cSto (cc : CC) (x : Str) : Option Nat := if isDbg x then none else match cc.kind x with
  | some .local => cc.place x
  | some .cell => if cc.top then cc.place x else none
  | _ => none
def cGlob (cc : CC) (x : Str) : Bool := !isDbg x && !(x == "__name__") && (match cc.kind x with | some .globalImplicit => true | _ => false)
def cConst : Const → Option D
  | .none => some .non
  | .bool b => some (.bl b)
  | .int i => some (.int i)
  | .str x => some (.str x)
  | _ => none
def cBin : Operator → Option Op
  | .Add => some .add
  | .Sub => some .sub
  | .Mult => some .mul
  | .Mod => some .mod
  | .FloorDiv => some .fdiv
  | .Pow => some .pow
  | _ => none
def cCmp : CmpOp → Op
  | .Eq => .eq
  | .NotEq => .ne
  | .Lt => .lt
  | .LtE => .le
  | .Gt => .gt
  | .GtE => .ge
  | .Is => .is
  | .IsNot => .isn
  | .In => .isin
  | .NotIn => .notin
/-- a written None, True, False -/
def isAtom : Expr → Bool
  | .Constant .none _ _ => true
  | .Constant (.bool _) _ _ => true
  | _ => false
def okCmp (o : CmpOp) (b : Expr) : Bool := match o with
  | .Is => isAtom b
  | .IsNot => isAtom b
  | _ => true
/-- the built-ins that are called by their names -/
inductive BK where
  | fn | ty
def cBlt (x : Str) : Option (Op × BK × Nat × Nat) :=
  if x == "len" then some (.len, .fn, 1, 1)
  else if x == "tuple" then some (.tuple, .ty, 1, 1)
  else if x == "list" then some (.list, .ty, 1, 1)
  else if x == "repr" then some (.repr, .fn, 1, 1)
  else if x == "int" then some (.int, .ty, 1, 1)
  else if x == "sum" then some (.sum, .fn, 1, 1)
  else if x == "min" then some (.min, .fn, 1, 2)
  else if x == "max" then some (.max, .fn, 1, 2)
  else if x == "all" then some (.all, .fn, 1, 1)
  else if x == "any" then some (.any, .fn, 1, 1)
  else if x == "abs" then some (.abs, .fn, 1, 1)
  else if x == "sorted" then some (.sorted, .fn, 1, 1)
  else none
def cTy (x : Str) : Option Ty :=
  if x == "int" then some .int
  else if x == "bool" then some .bool
  else if x == "str" then some .str
  else if x == "tuple" then some .tuple
  else if x == "list" then some .list
  else none
def isStar : Expr → Bool
  | .Starred _ _ => true
  | _ => false
def unStar : Expr → Expr
  | .Starred e _ => e
  | e => e
def isSlice : Expr → Bool
  | .Slice _ _ _ _ => true
  | _ => false
def isTupE : Expr → Bool
  | .Tuple _ _ _ => true
  | _ => false
def isMinus1 : Expr → Bool
  | .UnaryOp .USub (.Constant (.int 1) _ _) _ => true
  | _ => false
/-- the names of a block: those of its own that are places of the def -/
def cOwn (cc : CC) (scope : Scope) : List (Str × Nat) :=
  scope.names.filterMap fun y => match y.2 with
    | .local => (cc.place y.1).map (y.1, ·)
    | .cell => (cc.place y.1).map (y.1, ·)
    | _ => none
def cLocs (cc : CC) : List Expr → Option (List Nat)
  | [] => some []
  | .Name x _ :: es => (cLoc cc x).bind fun i => (cLocs cc es).map (i :: ·)
  | _ => none
def cStos (cc : CC) : List Expr → Option (List Nat)
  | [] => some []
  | .Name x _ :: es => (cSto cc x).bind fun i => (cStos cc es).map (i :: ·)
  | _ => none
def cTg (cc : CC) : Expr → Option Tg
  | .Name x _ => (cSto cc x).map .n
  | .Tuple es _ _ => (cStos cc es).map .t
  | _ => none
def Tg.all : Tg → List Nat
  | .n i => [i]
  | .t is => is

/-- set(e), alone -/
def isSetCall (cc : CC) : List Expr → Bool
  | [.Call (.Name g _) [a] [] _] => g == "set" && cGlob cc g && !isStar a
  | _ => false
def setArg : List Expr → Expr
  | [.Call _ [a] _ _] => a
  | _ => .Constant .none 0 ⟨0, 0, 0, 0⟩
mutual
def cE (cc : CC) : Nat → Expr → Option IE
  | 0, _ => none
  | n + 1, e => match e with
    | .Constant c _ _ => (cConst c).map .c
    | .Name x _ => if cGlob cc x then some (.g x) else (cVar cc x).map .v
    | .BinOp a op b _ => (cBin op).bind fun o => (cE cc n a).bind fun a' => (cE cc n b).map fun b' => .op o [a', b']
    | .UnaryOp .USub a _ => (cE cc n a).map fun a' => .op .neg [a']
    | .UnaryOp .Not a _ => (cE cc n a).map .not
    | .BoolOp op es _ => cBool cc n op es
    | .IfExp t a b _ => (cE cc n t).bind fun t' => (cE cc n a).bind fun a' => (cE cc n b).map fun b' => .ite t' a' b'
    | .Compare a [o] [b] _ => if okCmp o b then (cE cc n a).bind fun a' => (cE cc n b).map fun b' => .op (cCmp o) [a', b'] else none
    | .Compare a [o1, o2] [b, c] _ => if okCmp o1 b && okCmp o2 c then (cE cc n a).bind fun a' => (cE cc n b).bind fun b' => (cE cc n c).map fun c' => .ch (cCmp o1) (cCmp o2) a' b' c' else none
    | .Compare a [o1, o2, o3] [b, c, d] _ => if okCmp o1 b && okCmp o2 c && okCmp o3 d then (cE cc n a).bind fun a' => (cE cc n b).bind fun b' => (cE cc n c).bind fun c' => (cE cc n d).map fun d' => .ch3 (cCmp o1) (cCmp o2) (cCmp o3) a' b' c' d' else none
    | .Tuple es _ _ => (cEs cc n (es.map unStar)).map fun es' => .disp true (es.map isStar) es'
    | .List es _ => (cEs cc n (es.map unStar)).map fun es' => .disp false (es.map isStar) es'
    | .Subscript a (.Slice lo hi none _) _ => (cE cc n a).bind fun a' => match lo, hi with
      | none, none => some (.op (.slc false false) [a'])
      | some l, none => (cE cc n l).map fun l' => .op (.slc true false) [a', l']
      | none, some h => (cE cc n h).map fun h' => .op (.slc false true) [a', h']
      | some l, some h => (cE cc n l).bind fun l' => (cE cc n h).map fun h' => .op (.slc true true) [a', l', h']
    | .Subscript a i _ => if isSlice i then none else (cE cc n a).bind fun a' => (cE cc n i).map fun i' => .op .ix [a', i']
    | .Call (.Name f _) es [] _ => if !cGlob cc f then none else
      if f == "isinstance" then (match es with
        | [a, .Name t _] => if cGlob cc t then (cTy t).bind fun t' => (cE cc n a).map fun a' => .op (.isi [t']) [a'] else none
        | _ => none)
      else if f == "sorted" && isSetCall cc es then (cE cc n (setArg es)).map fun a' => .op .set [a']
      else match cBlt f with
      | some (o, _, lo, hi) => if !es.isEmpty && (decide (lo ≤ es.length) && decide (es.length ≤ hi)) then (cEs cc n es).map fun es' => .op o es' else none
      | none => if !cc.fs.contains f then none else (cEs cc n es).map fun es' => .call f es'
    | .Dict [] [] _ => some (.op .dnew [])
    | .Call (.Attribute (.Name x _) m ap) [a, b] [] cp => if m == "get" && (ap.endLine == cp.line) then (cVar cc x).bind fun i => (cE cc n a).bind fun a' => (cE cc n b).map fun b' => .dget (.v i) a' b' else none
    | .ListComp elt [⟨t, it, ifs, 0⟩] scope _ => if L2.blkC cc.N cc.sc scope (cOwn cc scope) then
        (cSrc cc n (isTupE t) it).bind fun s => (cTg ⟨cc.N, L2.relS scope cc.sc, cc.fs, cc.sh, false⟩ t).bind fun t' => (cIf ⟨cc.N, L2.relS scope cc.sc, cc.fs, cc.sh, false⟩ n ifs).bind fun c' => (cE ⟨cc.N, L2.relS scope cc.sc, cc.fs, cc.sh, false⟩ n elt).bind fun elt' =>
          if t'.all.all (fun i => ((cOwn cc scope).map (·.2)).contains i) then some (.comp ((cOwn cc scope).map (·.2)) t' s.1 s.2 c' elt') else none else none
    | .ListComp elt [⟨t, it, ifs, 0⟩, ⟨t1, it1, ifs1, 0⟩] scope _ => if L2.blkC cc.N cc.sc scope (cOwn cc scope) then
        (cSrc cc n (isTupE t) it).bind fun s => (cTg ⟨cc.N, L2.relS scope cc.sc, cc.fs, cc.sh, false⟩ t).bind fun t' => (cIf ⟨cc.N, L2.relS scope cc.sc, cc.fs, cc.sh, false⟩ n ifs).bind fun c' =>
        (cSrc ⟨cc.N, L2.relS scope cc.sc, cc.fs, cc.sh, false⟩ n (isTupE t1) it1).bind fun s1 => (cTg ⟨cc.N, L2.relS scope cc.sc, cc.fs, cc.sh, false⟩ t1).bind fun t1' => (cIf ⟨cc.N, L2.relS scope cc.sc, cc.fs, cc.sh, false⟩ n ifs1).bind fun c1' => (cE ⟨cc.N, L2.relS scope cc.sc, cc.fs, cc.sh, false⟩ n elt).bind fun elt' =>
          if t'.all.all (fun i => ((cOwn cc scope).map (·.2)).contains i) && t1'.all.all (fun i => ((cOwn cc scope).map (·.2)).contains i) then some (.comp2 ((cOwn cc scope).map (·.2)) t1'.all t' s.1 s.2 c' t1' s1.1 s1.2 c1' elt') else none else none
    | _ => none
def cEs (cc : CC) : Nat → List Expr → Option (List IE)
  | 0, _ => none
  | _ + 1, [] => some []
  | n + 1, e :: es => (cE cc n e).bind fun e' => (cEs cc n es).map fun es' => e' :: es'
def cBool (cc : CC) : Nat → BoolOp → List Expr → Option IE
  | 0, _, _ => none
  | _ + 1, _, [] => none
  | n + 1, _, [e] => cE cc n e
  | n + 1, op, e :: es => (cE cc n e).bind fun e' => (cBool cc n op es).map fun r => match op with | .And => .and e' r | .Or => .or e' r
/-- a for's source -/
def cSrc (cc : CC) : Nat → Bool → Expr → Option (Src × List IE)
  | 0, _, _ => none
  | n + 1, tu, e => match e with
    | .Call (.Name f _) es [] _ => if cGlob cc f && (f == "range") then (match es with
        | [a] => (cE cc n a).map fun a' => (.range, [a'])
        | [a, b] => (cE cc n a).bind fun a' => (cE cc n b).map fun b' => (.range2, [a', b'])
        | _ => none)
      else if cGlob cc f && (f == "enumerate") then (match es with
        | [a] => if tu then (cE cc n a).map fun a' => (.enum, [a']) else none
        | _ => none)
      else (cE cc n e).map fun e' => (.it, [e'])
    | _ => (cE cc n e).map fun e' => (.it, [e'])
def cIf (cc : CC) : Nat → List Expr → Option (Option IE)
  | 0, _ => none
  | _ + 1, [] => some none
  | n + 1, [e] => (cE cc n e).map some
  | _ + 1, _ => none
end
def isComp : Expr → Bool
  | .ListComp _ _ _ _ => true
  | .SetComp _ _ _ _ => true
  | .DictComp _ _ _ _ _ => true
  | _ => false
/-- name = [..] on one line: the comprehension's own store -/
def compSet (cc : CC) (x : Str) (px : Pos) : Expr → Bool
  | .ListComp _ _ scope pos => (cLoc cc x).isSome && (px.line == pos.line) && !(scope.names.any fun y => y.1 == x && (y.2 == .local || y.2 == .cell))
  | _ => false
/-- the same where an inner block captures the name: a plain store -/
def compCell (cc : CC) (x : Str) : Expr → Bool
  | .ListComp _ _ _ _ => (match cc.kind x with | some .cell => true | _ => false)
  | _ => false
def nameOf : Expr → Option (Str × Pos)
  | .Name x p => some (x, p)
  | _ => none
/-- a, b = x, y that is stored from the right -/
def isPar (ts vs : List Expr) : Bool :=
  ts.length == 2 && vs.length == 2 && !(vs.any isStar) && (match ts with | t :: _ => ts.all fun u => u.pos.line == t.pos.line | [] => false) && !(vs.all (foldedForSure 8)) && !(vs.all (constantsAlone 8))
/-- a, b = x, y where an inner block captures a target: stored from the left -/
def isCell (cc : CC) : Expr → Bool
  | .Name x _ => (match cc.kind x with | some .cell => true | _ => false)
  | _ => false
def isParC (cc : CC) (ts vs : List Expr) : Bool := ts.length == 2 && vs.length == 2 && !(vs.any isStar) && ts.any (isCell cc)
def cPar (cc : CC) (n : Nat) : List Nat → List Expr → Option IS
  | [i, j], [a, b] => (cE cc n a).bind fun a' => (cE cc n b).map fun b' => .par i j a' b'
  | _, _ => none
def cAug : Operator → Option Op
  | .Add => some .add
  | .Sub => some .sub
  | _ => none
mutual
def cS (cc : CC) : Nat → Stmt → Option IS
  | 0, _ => none
  | n + 1, st => match st with
    | .Expr (.Call (.Attribute (.Name x _) m ap) [e] [] cp) _ => if !(ap.endLine == cp.line) then none
      else if m == "append" then (cVar cc x).bind fun i => (cE cc n e).map fun e' => .mut i .append e'
      else if m == "extend" then (cVar cc x).bind fun i => (cE cc n e).map fun e' => .mut i .extend e' else none
    | .Expr e _ => if isComp e then none else (cE cc n e).map .expr
    | .Assign [.Name x px] e _ => (cSto cc x).bind fun i => if isComp e && !(compSet cc x px e || compCell cc x e) then none else if cc.sh.contains x && !isComp e then (cE cc n e).map fun e' => .setO i e' else (cE cc n e).map fun e' => .set i e'
    | .Assign [.Tuple ts _ _] e _ =>
        match e with
        | .Tuple vs vk vp => if isParC cc ts vs then (cStos cc ts).bind fun is => if decide is.Nodup then cPar cc n is vs else none
          else if isPar ts vs then (cLocs cc ts).bind fun is => if decide is.Nodup then cPar cc n is vs else none
          else if vs.all (foldedForSure 8) then (cStos cc ts).bind fun is => (cE cc n (.Tuple vs vk vp)).map fun e' => .tset is e' else none
        | _ => if isComp e then none else (cStos cc ts).bind fun is => (cE cc n e).map fun e' => .tset is e'
    | .Assign [.Subscript (.Name x _) k _] e _ => if isSlice k || isComp e then none else (cVar cc x).bind fun i => (cE cc n k).bind fun k' => (cE cc n e).map fun e' => .put i k' e'
    | .AugAssign (.Name x _) op e _ => (cSto cc x).bind fun i => (cAug op).bind fun o => (cE cc n e).map fun e' => .aug i o e'
    | .Return (some e) _ => (cE cc n e).map .ret
    | .Return none _ => some (.ret (.c .non))
    | .If t a b _ => (cE cc n t).bind fun t' => (cSs cc n a).bind fun a' => (cSs cc n b).map fun b' => .ite t' a' b'
    | .For t it body [] _ => (cTg cc t).bind fun t' => (cSrc cc n (isTupE t) it).bind fun s => (cSs cc n body).map fun b' => .for_ t' s.1 s.2 b'
    | .While t body [] _ => (cE cc n t).bind fun t' => (cSs cc n body).map fun b' => .whl t' b'
    | .Break _ => some .brk
    | .Continue _ => some .cont
    | .Pass _ => some .pass
    | .Raise _ _ _ => some .stuck
    | _ => none
def cSs (cc : CC) : Nat → List Stmt → Option (List IS)
  | 0, _ => none
  | _ + 1, [] => some []
  | n + 1, s :: ss => (cS cc n s).bind fun s' => (cSs cc n ss).map fun ss' => s' :: ss'
end
end Tk

/-! Tk, part 3: what plain data is in the abstract heap: F what is held for good, O what names of this def hold alone, G what others hold, am the addresses of the store's things. -/
namespace Tk
open PySem PySem.Spec PyProof.Rows L2

/-! dicts -/
mutual
/-- a key as the library's keys -/
def nkey : D → NestedKey
  | .bl b => .num (if b then 1 else 0)
  | .int i => .num i
  | .tup xs => .tup (nkeys xs)
  | _ => .none
def nkeys : List D → List NestedKey
  | [] => []
  | x :: xs => nkey x :: nkeys xs
end
/-- at p stands this object, and no other -/
def AtO (p : Addr) (o : Obj) : HO := .ext fun h => h.get? p = some o
/-- an entry: its key, where the key's tuple stands, its value -/
abbrev DEnt := NestedKey × Addr × Value
/-- the object o, at p, is the dict of these entries -/
structure DicB (p : Addr) (o : Obj) (xs : List DEnt) : Prop where
  ns : (p == sysModules) = false
  sz : xs.length ≤ sizeLine
  ex : o.ExactDict
  es : ∃ es ep, o.data = .dict es ep ∧ ∀ (P : Program) (w : World), es.toList = xs.map (entryOfKey (nestedKind P w))
  nd : (xs.map (·.1)).Nodup
section
variable (K : PySem.W.Frag) (mg : Str → Option Value)
mutual
def Rep (am : List Addr) (F : Hp) : D → V → Prop
  | .non, v => v = .non
  | .bl b, v => v = .bl b
  | .int i, v => v = .int i
  | .str x, v => v = .str x
  | .tup ds, v => ∃ a vs, v = .ref a ∧ SqT K F a vs ∧ Reps am F ds vs
  | .lst ds, v => ∃ a vs, v = .ref a ∧ F a = some (.lst vs) ∧ Reps am F ds vs
  | .frl ds, v => ∃ a vs, v = .ref a ∧ SqL K F a vs ∧ Reps am F ds vs
  | .obj n, v => ∃ a, am[n]? = some a ∧ v = .ref a
  | .fn x, v => ∃ a, mg x = some (.ref a) ∧ v = .ref a
  | .dic kvs, v => ∃ p o xs, v = .ref p ∧ F p = some (AtO p o) ∧ DicB p o xs ∧ RepKs am F kvs xs
  | .set _, _ => False
def Reps (am : List Addr) (F : Hp) : List D → List V → Prop
  | [], vs => vs = []
  | d :: ds, vs => ∃ v r, vs = v :: r ∧ Rep am F d v ∧ Reps am F ds r
def RepKs (am : List Addr) (F : Hp) : List (D × D) → List DEnt → Prop
  | [], xs => xs = []
  | kv :: kvs, xs => ∃ x r, xs = x :: r ∧ RepKV am F kv x ∧ RepKs am F kvs r
def RepKV (am : List Addr) (F : Hp) : D × D → DEnt → Prop
  | (k, d), x => isKey k = true ∧ x.1 = nkey k ∧ Rep am F k (.ref x.2.1) ∧ ∃ v, RelV v x.2.2 ∧ Rep am F d v
end
/-- the content of a container, at p -/
def Con (am : List Addr) (F : Hp) (p : Addr) : D → HO → Prop
  | .lst ds, o => ∃ vs, o = .lst vs ∧ Reps K mg am F ds vs
  | .dic kvs, ho => ∃ o xs, ho = AtO p o ∧ DicB p o xs ∧ RepKs K mg am F kvs xs
  | _, _ => False
end

section
variable {K : PySem.W.Frag} {mg : Str → Option Value} {am am' : List Addr} {F F' : Hp}
theorem Same.seqT {H H' : Hp} {a : Addr} {xs : List V} (e : Same H H') (h : SqT K H a xs) : SqT K H' a xs := by
  rcases h with (h | ⟨o, h⟩) | h
  · exact .inl (.inl (e _ _ h))
  · exact .inl (.inr ⟨o, e _ _ h⟩)
  · exact .inr h
theorem pre_get {l l' : List Addr} (h : l <+: l') {n : Nat} {a : Addr} (e : l[n]? = some a) : l'[n]? = some a := by
  obtain ⟨t, rfl⟩ := h
  rw [List.getElem?_append_left (List.getElem?_eq_some_iff.mp e).1]
  exact e
mutual
theorem Rep.mono (hF : Same F F') (ha : am <+: am') : ∀ (d : D) (v : V), Rep K mg am F d v → Rep K mg am' F' d v
  | .non, v, h => by simpa [Rep] using h
  | .bl b, v, h => by simpa [Rep] using h
  | .int i, v, h => by simpa [Rep] using h
  | .str x, v, h => by simpa [Rep] using h
  | .tup ds, v, h => by
    simp only [Rep] at h ⊢
    obtain ⟨a, vs, e, s, r⟩ := h
    exact ⟨a, vs, e, Same.seqT hF s, Reps.mono hF ha ds vs r⟩
  | .lst ds, v, h => by
    simp only [Rep] at h ⊢
    obtain ⟨a, vs, e, s, r⟩ := h
    exact ⟨a, vs, e, hF _ _ s, Reps.mono hF ha ds vs r⟩
  | .frl ds, v, h => by
    simp only [Rep] at h ⊢
    obtain ⟨a, vs, e, s, r⟩ := h
    exact ⟨a, vs, e, hF.seq s, Reps.mono hF ha ds vs r⟩
  | .obj n, v, h => by
    simp only [Rep] at h ⊢
    obtain ⟨a, e, q⟩ := h
    exact ⟨a, pre_get ha e, q⟩
  | .fn x, v, h => by simpa [Rep] using h
  | .dic kvs, v, h => by
    simp only [Rep] at h ⊢
    obtain ⟨p, o, xs, e, s, b, r⟩ := h
    exact ⟨p, o, xs, e, hF _ _ s, b, RepKs.mono hF ha kvs xs r⟩
  | .set _, _, h => by simp [Rep] at h
theorem Reps.mono (hF : Same F F') (ha : am <+: am') : ∀ (ds : List D) (vs : List V), Reps K mg am F ds vs → Reps K mg am' F' ds vs
  | [], vs, h => by simpa [Reps] using h
  | d :: ds, vs, h => by
    simp only [Reps] at h ⊢
    obtain ⟨v, r, e, h1, h2⟩ := h
    exact ⟨v, r, e, Rep.mono hF ha d v h1, Reps.mono hF ha ds r h2⟩
theorem RepKs.mono (hF : Same F F') (ha : am <+: am') : ∀ (ds : List (D × D)) (xs : List DEnt), RepKs K mg am F ds xs → RepKs K mg am' F' ds xs
  | [], xs, h => by simpa [RepKs] using h
  | d :: ds, xs, h => by
    simp only [RepKs] at h ⊢
    obtain ⟨v, r, e, h1, h2⟩ := h
    exact ⟨v, r, e, RepKV.mono hF ha d v h1, RepKs.mono hF ha ds r h2⟩
theorem RepKV.mono (hF : Same F F') (ha : am <+: am') : ∀ (d : D × D) (x : DEnt), RepKV K mg am F d x → RepKV K mg am' F' d x
  | (k, d), x, h => by
    simp only [RepKV] at h ⊢
    obtain ⟨h0, h1, h2, v, h3, h4⟩ := h
    exact ⟨h0, h1, Rep.mono hF ha k _ h2, v, h3, Rep.mono hF ha d v h4⟩
end
theorem Con.mono (hF : Same F F') (ha : am <+: am') {p : Addr} {d : D} {o : HO} (h : Con K mg am F p d o) : Con K mg am' F' p d o := by
  cases d with
  | lst ds =>
    obtain ⟨vs, e, r⟩ := h
    exact ⟨vs, e, Reps.mono hF ha ds vs r⟩
  | dic kvs =>
    obtain ⟨o, xs, e, b, r⟩ := h
    exact ⟨o, xs, e, b, RepKs.mono hF ha kvs xs r⟩
  | _ => exact h.elim
theorem Con.rep {d : D} {o : HO} {p : Addr} (h : Con K mg am F p d o) (e : F p = some o) : Rep K mg am F d (.ref p) := by
  cases d with
  | lst ds =>
    obtain ⟨vs, rfl, r⟩ := h
    exact ⟨p, vs, rfl, e, r⟩
  | dic kvs =>
    obtain ⟨o, xs, rfl, b, r⟩ := h
    exact ⟨p, o, xs, rfl, e, b, r⟩
  | _ => exact h.elim
theorem Reps.length : ∀ {ds : List D} {vs : List V}, Reps K mg am F ds vs → vs.length = ds.length
  | [], vs, h => by
    have h : vs = [] := h
    rw [h]
    rfl
  | d :: ds, vs, h => by
    obtain ⟨v, r, rfl, _, h2⟩ := h
    rw [List.length_cons, List.length_cons, Reps.length h2]
theorem Reps.get : ∀ {ds : List D} {vs : List V} {i : Nat} {d : D}, Reps K mg am F ds vs → ds[i]? = some d → ∃ v, vs[i]? = some v ∧ Rep K mg am F d v
  | [], _, _, _, _, e => by simp at e
  | d :: ds, _, 0, d', h, e => by
    obtain ⟨v, r, rfl, h1, _⟩ := h
    simp only [List.getElem?_cons_zero, Option.some.injEq] at e
    subst e
    exact ⟨v, rfl, h1⟩
  | d :: ds, _, i + 1, d', h, e => by
    obtain ⟨v, r, rfl, _, h2⟩ := h
    obtain ⟨w, e2, h3⟩ := Reps.get (i := i) h2 (by simpa using e)
    exact ⟨w, by simpa using e2, h3⟩
theorem Reps.append : ∀ {ds es : List D} {vs ws : List V}, Reps K mg am F ds vs → Reps K mg am F es ws → Reps K mg am F (ds ++ es) (vs ++ ws)
  | [], _, vs, _, h, h' => by
    have h : vs = [] := h
    subst h
    exact h'
  | d :: ds, _, _, _, h, h' => by
    obtain ⟨v, r, rfl, h1, h2⟩ := h
    exact ⟨v, r ++ _, rfl, h1, Reps.append h2 h'⟩
theorem Reps.nil : Reps K mg am F [] [] := rfl
theorem Reps.cons {d : D} {v : V} {ds : List D} {vs : List V} (h : Rep K mg am F d v) (t : Reps K mg am F ds vs) : Reps K mg am F (d :: ds) (v :: vs) := ⟨v, vs, rfl, h, t⟩
theorem Reps.take : ∀ {ds : List D} {vs : List V} (n : Nat), Reps K mg am F ds vs → Reps K mg am F (ds.take n) (vs.take n)
  | _, _, 0, _ => rfl
  | [], vs, n + 1, h => by
    have h : vs = [] := h
    subst h
    exact rfl
  | d :: ds, _, n + 1, h => by
    obtain ⟨v, r, rfl, h1, h2⟩ := h
    exact ⟨v, r.take n, rfl, h1, Reps.take n h2⟩
theorem Reps.drop : ∀ {ds : List D} {vs : List V} (n : Nat), Reps K mg am F ds vs → Reps K mg am F (ds.drop n) (vs.drop n)
  | _, _, 0, h => h
  | [], vs, n + 1, h => by
    have h : vs = [] := h
    subst h
    exact rfl
  | d :: ds, _, n + 1, h => by
    obtain ⟨v, r, rfl, h1, h2⟩ := h
    exact Reps.drop n h2
theorem Reps.set : ∀ {ds : List D} {vs : List V} {d : D} {v : V} (n : Nat), Reps K mg am F ds vs → Rep K mg am F d v → Reps K mg am F (ds.set n d) (vs.set n v)
  | [], vs, _, _, _, h, _ => by
    have h : vs = [] := h
    subst h
    exact rfl
  | d :: ds, _, d', v', 0, h, h' => by
    obtain ⟨v, r, rfl, h1, h2⟩ := h
    exact ⟨v', r, rfl, h', h2⟩
  | d :: ds, _, d', v', n + 1, h, h' => by
    obtain ⟨v, r, rfl, h1, h2⟩ := h
    exact ⟨v, r.set n v', rfl, h1, Reps.set n h2 h'⟩
theorem Reps.rev {ds : List D} {vs : List V} (h : Reps K mg am F ds vs) : Reps K mg am F ds.reverse vs.reverse := by
  induction ds generalizing vs with
  | nil =>
    have h : vs = [] := h
    subst h
    exact rfl
  | cons d ds ih =>
    obtain ⟨v, r, rfl, h1, h2⟩ := h
    rw [List.reverse_cons, List.reverse_cons]
    exact (ih h2).append (.cons h1 .nil)
theorem Reps.rep {ds : List D} {vs : List V} (h : Reps K mg am F ds vs) : ∀ k, Reps K mg am F (repL ds k) (repL vs k)
  | 0 => rfl
  | k + 1 => h.append (h.rep k)
theorem Reps.of_get : ∀ {ds : List D} {vs : List V}, vs.length = ds.length → (∀ (i : Nat) (d : D) (v : V), ds[i]? = some d → vs[i]? = some v → Rep K mg am F d v) → Reps K mg am F ds vs
  | [], vs, hl, _ => by
    have : vs = [] := List.length_eq_zero_iff.mp hl
    exact this
  | d :: ds, [], hl, _ => by simp at hl
  | d :: ds, v :: vs, hl, h => .cons (h 0 d v rfl rfl) (Reps.of_get (by simpa using hl) fun i d' v' e1 e2 => h (i + 1) d' v' (by simpa using e1) (by simpa using e2))
end

/-! ### to the library's data -/
section
variable {K : PySem.W.Frag} {mg : Str → Option Value} {am : List Addr} {F : Hp}
mutual
theorem Rep.dp : ∀ (d : D) (v : V), plain d = true → Rep K mg am F d v → Dp K F v (toPy d)
  | .non, v, _, h => by
    have h : v = .non := h
    subst h
    exact .non
  | .bl b, v, _, h => by
    have h : v = .bl b := h
    subst h
    exact .bl b
  | .int i, v, _, h => by
    have h : v = .int i := h
    subst h
    exact .int i
  | .str x, v, _, h => by
    have h : v = .str x := h
    subst h
    exact .str x
  | .tup ds, v, p, h => by
    obtain ⟨a, vs, rfl, s, r⟩ := h
    exact .tup s (Reps.dp ds vs (by simpa [plain] using p) r)
  | .lst ds, v, p, h => by
    obtain ⟨a, vs, rfl, s, r⟩ := h
    exact .lst (.inl (.inl s)) (Reps.dp ds vs (by simpa [plain] using p) r)
  | .obj _, _, p, _ => by simp [plain] at p
  | .fn _, _, p, _ => by simp [plain] at p
  | .dic _, _, p, _ => by simp [plain] at p
  | .set _, _, p, _ => by simp [plain] at p
  | .frl _, _, p, _ => by simp [plain] at p
theorem Reps.dp : ∀ (ds : List D) (vs : List V), plains ds = true → Reps K mg am F ds vs → DpAll K F vs (toPys ds)
  | [], vs, _, h => by
    have h : vs = [] := h
    subst h
    exact .nil
  | d :: ds, vs, p, h => by
    obtain ⟨v, r, rfl, h1, h2⟩ := h
    have p : plain d = true ∧ plains ds = true := by simpa [plains] using p
    exact .cons (Rep.dp d v p.1 h1) (Reps.dp ds r p.2 h2)
end
mutual
theorem eqv_toPy : ∀ (x y : D), plain x = true → plain y = true → PyData.eqv (toPy x) (toPy y) = eqD x y
  | .non, y, _, q => by cases y <;> first | (simp [plain] at q; done) | simp [toPy, PyData.eqv, eqD]
  | .bl _, y, _, q => by cases y <;> first | (simp [plain] at q; done) | simp [toPy, PyData.eqv, eqD]
  | .int _, y, _, q => by cases y <;> first | (simp [plain] at q; done) | simp [toPy, PyData.eqv, eqD]
  | .str _, y, _, q => by cases y <;> first | (simp [plain] at q; done) | simp [toPy, PyData.eqv, eqD]
  | .tup xs, y, p, q => by
    cases y with
    | tup ys => simpa [toPy, PyData.eqv, eqD] using eqvs_toPy xs ys (by simpa [plain] using p) (by simpa [plain] using q)
    | _ => first | (simp [plain] at q; done) | simp [toPy, PyData.eqv, eqD]
  | .lst xs, y, p, q => by
    cases y with
    | lst ys => simpa [toPy, PyData.eqv, eqD] using eqvs_toPy xs ys (by simpa [plain] using p) (by simpa [plain] using q)
    | _ => first | (simp [plain] at q; done) | simp [toPy, PyData.eqv, eqD]
  | .obj _, _, p, _ => by simp [plain] at p
  | .fn _, _, p, _ => by simp [plain] at p
  | .dic _, _, p, _ => by simp [plain] at p
  | .set _, _, p, _ => by simp [plain] at p
  | .frl _, _, p, _ => by simp [plain] at p
theorem eqvs_toPy : ∀ (xs ys : List D), plains xs = true → plains ys = true → PyData.eqvAll (toPys xs) (toPys ys) = eqDs xs ys
  | [], [], _, _ => by simp [toPys, PyData.eqvAll, eqDs]
  | [], _ :: _, _, _ => by simp [toPys, PyData.eqvAll, eqDs]
  | _ :: _, [], _, _ => by simp [toPys, PyData.eqvAll, eqDs]
  | x :: xs, y :: ys, p, q => by
    have p : plain x = true ∧ plains xs = true := by simpa [plains] using p
    have q : plain y = true ∧ plains ys = true := by simpa [plains] using q
    simp only [toPys, PyData.eqvAll, eqDs, eqv_toPy x y p.1 q.1, eqvs_toPy xs ys p.2 q.2]
end
mutual
theorem depth_toPy : ∀ d : D, plain d = true → (toPy d).depth = depth d
  | .non, _ => by simp [toPy, PyData.depth, depth]
  | .bl _, _ => by simp [toPy, PyData.depth, depth]
  | .int _, _ => by simp [toPy, PyData.depth, depth]
  | .str _, _ => by simp [toPy, PyData.depth, depth]
  | .tup xs, p => by simp only [toPy, PyData.depth, depth, depths_toPy xs (by simpa [plain] using p)]
  | .lst xs, p => by simp only [toPy, PyData.depth, depth, depths_toPy xs (by simpa [plain] using p)]
  | .obj _, p => by simp [plain] at p
  | .fn _, p => by simp [plain] at p
  | .dic _, p => by simp [plain] at p
  | .set _, p => by simp [plain] at p
  | .frl _, p => by simp [plain] at p
theorem depths_toPy : ∀ ds : List D, plains ds = true → PyData.depthAll (toPys ds) = depths ds
  | [], _ => by simp [toPys, PyData.depthAll, depths]
  | x :: xs, p => by
    have p : plain x = true ∧ plains xs = true := by simpa [plains] using p
    simp only [toPys, PyData.depthAll, depths, depth_toPy x p.1, depths_toPy xs p.2]
end
mutual
theorem lay_toPy : ∀ d : D, plain d = true → (toPy d).canLay0 = true
  | .non, _ => by simp [toPy, PyData.canLay0]
  | .bl _, _ => by simp [toPy, PyData.canLay0]
  | .int _, _ => by simp [toPy, PyData.canLay0]
  | .str _, p => by simpa [toPy, PyData.canLay0, plain] using p
  | .tup xs, p => by simp only [toPy, PyData.canLay0]; exact lays_toPy xs (by simpa [plain] using p)
  | .lst xs, p => by simp only [toPy, PyData.canLay0]; exact lays_toPy xs (by simpa [plain] using p)
  | .obj _, p => by simp [plain] at p
  | .fn _, p => by simp [plain] at p
  | .dic _, p => by simp [plain] at p
  | .set _, p => by simp [plain] at p
  | .frl _, p => by simp [plain] at p
theorem lays_toPy : ∀ ds : List D, plains ds = true → PyData.canLayAll0 (toPys ds) = true
  | [], _ => by simp [toPys, PyData.canLayAll0]
  | x :: xs, p => by
    have p : plain x = true ∧ plains xs = true := by simpa [plains] using p
    simp only [toPys, PyData.canLayAll0, lay_toPy x p.1, lays_toPy xs p.2, Bool.and_self]
end
mutual
theorem shows_toPy : ∀ d : D, shows d = true → (toPy d).showable = true
  | .non, _ => by simp [toPy, PyData.showable]
  | .bl _, _ => by simp [toPy, PyData.showable]
  | .int _, h => by simpa [toPy, PyData.showable, shows] using h
  | .str _, _ => by simp [toPy, PyData.showable]
  | .tup xs, h => by simp only [toPy, PyData.showable]; exact showss_toPy xs (by simpa [shows] using h)
  | .lst xs, h => by simp only [toPy, PyData.showable]; exact showss_toPy xs (by simpa [shows] using h)
  | .obj _, _ => by simp [toPy, PyData.showable]
  | .fn _, _ => by simp [toPy, PyData.showable]
  | .dic _, _ => by simp [toPy, PyData.showable]
  | .set _, _ => by simp [toPy, PyData.showable]
  | .frl _, _ => by simp [toPy, PyData.showable]
theorem showss_toPy : ∀ ds : List D, showss ds = true → PyData.showableAll (toPys ds) = true
  | [], _ => by simp [toPys, PyData.showableAll]
  | x :: xs, h => by
    have h : shows x = true ∧ showss xs = true := by simpa [showss] using h
    simp only [toPys, PyData.showableAll, shows_toPy x h.1, showss_toPy xs h.2, Bool.and_self]
end
theorem shaped_toPy {d : D} (p : plain d = true) (h : depth d ≤ 60) : SeqAt.shaped (toPy d) = true := by
  unfold SeqAt.shaped
  rw [lay_toPy d p, depth_toPy d p]
  simp only [Bool.true_and, decide_eq_true_eq]
  omega
end
end Tk

/-! Tk, part 4: how a def's names and the store lie in the abstract heap; what a step may change. -/
namespace Tk
open PySem PySem.Spec PyProof.Rows L2

/-- what is held for good; what names hold alone; the store's places -/
structure Gh where
  F : Hp
  O : Hp
  am : List Addr
def del (O : Hp) (p : Addr) : Hp := fun b => if b = p then none else O b
theorem del_same {O : Hp} {p : Addr} : del O p p = none := by unfold del; rw [if_pos rfl]
theorem del_ne {O : Hp} {p b : Addr} (h : b ≠ p) : del O p b = O b := by unfold del; rw [if_neg h]
theorem del_some {O : Hp} {p b : Addr} {o : HO} (h : del O p b = some o) : b ≠ p ∧ O b = some o := by
  unfold del at h
  split at h
  · cases h
  · exact ⟨by assumption, h⟩

section
variable (K : PySem.W.Frag) (mg : Str → Option Value)
def SlOk (g : Gh) (σ : L2.St) (i : Nat) : Sl → Prop
  | .un => True
  | .fz d => ∃ v, σ[i]? = some (some v) ∧ Rep K mg g.am g.F d v
  | .ow d => ∃ p o, σ[i]? = some (some (.ref p)) ∧ g.O p = some o ∧ Con K mg g.am g.F p d o
def ObOk (g : Gh) (H : Hp) (a : Addr) : Ob → Prop
  | .con d => ∃ o, H a = some o ∧ Con K mg g.am g.F a d o
  | .ins _ _ => False
structure StOk (G : Hp) (g : Gh) (H : Hp) (ob : List Ob) : Prop where
  len : ob.length = g.am.length
  nd : g.am.Nodup
  fr : ∀ a ∈ g.am, g.F a = none ∧ g.O a = none ∧ G a = none
  at_ : ∀ (n : Nat) (a : Addr) (x : Ob), ob[n]? = some x → g.am[n]? = some a → ObOk K mg g H a x
structure REn (G : Hp) (g : Gh) (H : Hp) (σ : L2.St) (en : En) : Prop where
  fh : Same g.F H
  oh : Same g.O H
  gh : Same G H
  fo : ∀ b o, g.O b = some o → g.F b = none
  fg : ∀ b o, G b = some o → g.F b = none ∧ g.O b = none
  len : en.sl.length = σ.length
  sl : ∀ (i : Nat) (s : Sl), en.sl[i]? = some s → SlOk K mg g σ i s
  inj : ∀ (i j : Nat) (d d' : D) (v : V), en.sl[i]? = some (.ow d) → en.sl[j]? = some (.ow d') → σ[i]? = some (some v) → σ[j]? = some (some v) → i = j
  ob : StOk K mg G g H en.ob
/-- what an expression gave -/
def RRes (G : Hp) (g : Gh) (H : Hp) (σ : L2.St) (en : En) (v : V) : R → Prop
  | .fz d => Rep K mg g.am g.F d v
  | .ow d => ∃ p o, v = .ref p ∧ H p = some o ∧ Con K mg g.am g.F p d o ∧ g.F p = none ∧ g.O p = none ∧ G p = none ∧ p ∉ g.am
  | .rf i d => en.sl[i]? = some (.ow d) ∧ σ[i]? = some (some v)
/-- a value that was taken a while ago -/
def Held (g : Gh) (v : V) (d : D) : Prop := Rep K mg g.am g.F d v ∨ ∃ p o, v = .ref p ∧ g.O p = some o ∧ Con K mg g.am g.F p d o
/-- a value that is used now -/
def OpV (g : Gh) (H : Hp) (v : V) (d : D) : Prop := Rep K mg g.am g.F d v ∨ ∃ p o, v = .ref p ∧ H p = some o ∧ Con K mg g.am g.F p d o
end
structure Ext (g g' : Gh) : Prop where
  F : Same g.F g'.F
  am : g.am <+: g'.am
  O : ∀ p o, g.O p = some o → g'.O p = some o ∨ g'.F p = some o
theorem Ext.refl (g : Gh) : Ext g g := ⟨Same.refl _, List.prefix_rfl, fun _ _ e => .inl e⟩
theorem Ext.trans {a b c : Gh} (x : Ext a b) (y : Ext b c) : Ext a c :=
  ⟨x.F.trans y.F, x.am.trans y.am, fun p o e => (x.O p o e).elim (fun q => y.O p o q) fun q => .inr (y.F p o q)⟩
/-- behind a statement -/
structure Ext0 (g g' : Gh) : Prop where
  F : Same g.F g'.F
  am : g.am <+: g'.am
theorem Ext0.refl (g : Gh) : Ext0 g g := ⟨Same.refl _, List.prefix_rfl⟩
theorem Ext0.trans {a b c : Gh} (x : Ext0 a b) (y : Ext0 b c) : Ext0 a c := ⟨x.F.trans y.F, x.am.trans y.am⟩
theorem Ext.to0 {a b : Gh} (x : Ext a b) : Ext0 a b := ⟨x.F, x.am⟩

section
variable {K : PySem.W.Frag} {mg : Str → Option Value} {G : Hp} {g g' : Gh} {H H' : Hp} {σ : L2.St} {en : En}
theorem same_new {H : Hp} {p : Addr} {o : HO} (h : H p = none) : Same H (upd H p o) := fun b x e => by
  rw [upd_ne (ne_of_none e h)]
  exact e
theorem free_sub {F H : Hp} (s : Same F H) {p : Addr} (h : H p = none) : F p = none := s.free h
theorem lt_get {α : Type} {l : List α} {i : Nat} (h : i < l.length) : ∃ a, l[i]? = some a := ⟨l[i], List.getElem?_eq_getElem h⟩
theorem StOk.there {ob : List Ob} (S : StOk K mg G g H ob) {a : Addr} (h : a ∈ g.am) : ∃ o, H a = some o := by
  obtain ⟨n, hn⟩ := List.mem_iff_getElem?.mp h
  have hl : n < ob.length := by rw [S.len]; exact (List.getElem?_eq_some_iff.mp hn).1
  obtain ⟨x, hx⟩ := lt_get hl
  have q := S.at_ n a x hx hn
  cases x with
  | con d => obtain ⟨o, e, _⟩ := q; exact ⟨o, e⟩
  | ins c fs => exact q.elim
theorem REn.free (R : REn K mg G g H σ en) {p : Addr} (h : H p = none) : g.F p = none ∧ g.O p = none ∧ G p = none ∧ p ∉ g.am :=
  ⟨free_sub R.fh h, free_sub R.oh h, free_sub R.gh h, fun hm => by
    obtain ⟨o, e⟩ := R.ob.there hm
    rw [h] at e
    cases e⟩
/-- new objects: nothing is told of them -/
theorem REn.grow (R : REn K mg G g H σ en) (s : Same H H') : REn K mg G g H' σ en :=
  ⟨R.fh.trans s, R.oh.trans s, R.gh.trans s, R.fo, R.fg, R.len, R.sl, R.inj, ⟨R.ob.len, R.ob.nd, R.ob.fr, fun n a x e1 e2 => by
    have q := R.ob.at_ n a x e1 e2
    cases x with
    | con d => obtain ⟨o, e, c⟩ := q; exact ⟨o, s _ _ e, c⟩
    | ins c fs => exact q.elim⟩⟩
theorem SlOk.mono {i : Nat} {s : Sl} (hF : Same g.F g'.F) (ha : g.am <+: g'.am) (hO : ∀ d p o, s = .ow d → σ[i]? = some (some (.ref p)) → g.O p = some o → g'.O p = some o) (h : SlOk K mg g σ i s) : SlOk K mg g' σ i s := by
  cases s with
  | un => trivial
  | fz d => obtain ⟨v, e, r⟩ := h; exact ⟨v, e, Rep.mono hF ha d v r⟩
  | ow d => obtain ⟨p, o, e, q, c⟩ := h; exact ⟨p, o, e, hO d p o rfl e q, c.mono hF ha⟩
theorem ObOk.mono {a : Addr} {x : Ob} (hF : Same g.F g'.F) (ha : g.am <+: g'.am) (h : ObOk K mg g H a x) : ObOk K mg g' H a x := by
  cases x with
  | con d => obtain ⟨o, e, c⟩ := h; exact ⟨o, e, c.mono hF ha⟩
  | ins c fs => exact h.elim
/-- a new container is held for good from now on -/
theorem REn.hold (R : REn K mg G g H σ en) {p : Addr} {o : HO} (hp : H p = some o) (hF : g.F p = none) (hO : g.O p = none) (hG : G p = none) (hA : p ∉ g.am) :
    REn K mg G { g with F := upd g.F p o } H σ en ∧ Ext g { g with F := upd g.F p o } := by
  have s : Same g.F (upd g.F p o) := same_new hF
  refine ⟨⟨fun b x e => ?_, R.oh, R.gh, fun b x e => ?_, fun b x e => ?_, R.len, fun i x e => (R.sl i x e).mono s List.prefix_rfl fun _ _ _ _ _ q => q, R.inj, ⟨R.ob.len, R.ob.nd, fun a ha => ?_, fun n a x e1 e2 => (R.ob.at_ n a x e1 e2).mono s List.prefix_rfl⟩⟩, ⟨s, List.prefix_rfl, fun _ _ e => .inl e⟩⟩
  · by_cases hb : b = p
    · subst hb
      have e : some o = some x := upd_same.symm.trans e
      cases e
      exact hp
    · exact R.fh b x ((upd_ne hb).symm.trans e)
  · have hb : b ≠ p := fun z => by subst z; rw [hO] at e; cases e
    exact (upd_ne hb).trans (R.fo b x e)
  · have hb : b ≠ p := fun z => by subst z; rw [hG] at e; cases e
    exact ⟨(upd_ne hb).trans (R.fg b x e).1, (R.fg b x e).2⟩
  · have hb : a ≠ p := fun z => hA (z ▸ ha)
    exact ⟨(upd_ne hb).trans (R.ob.fr a ha).1, (R.ob.fr a ha).2⟩
theorem REn.ownAt (R : REn K mg G g H σ en) {i : Nat} {d : D} (e : en.sl[i]? = some (.ow d)) : ∃ p o, σ[i]? = some (some (.ref p)) ∧ g.O p = some o ∧ Con K mg g.am g.F p d o := R.sl i _ e
/-- the container that a name holds is held for good from now on -/
theorem REn.freeze (R : REn K mg G g H σ en) {i : Nat} {d : D} (e : en.sl[i]? = some (.ow d)) : ∃ g', REn K mg G g' H σ { en with sl := en.sl.set i (.fz d) } ∧ Ext g g' ∧ ∀ v, σ[i]? = some (some v) → Rep K mg g'.am g'.F d v := by
  obtain ⟨p, o, e1, e2, c⟩ := R.ownAt e
  have hF : g.F p = none := R.fo p o e2
  have s : Same g.F (upd g.F p o) := same_new hF
  have hi : i < en.sl.length := (List.getElem?_eq_some_iff.mp e).1
  have rp : Rep K mg g.am (upd g.F p o) d (.ref p) := (c.mono s List.prefix_rfl).rep upd_same
  refine ⟨⟨upd g.F p o, del g.O p, g.am⟩, ⟨fun b x q => ?_, fun b x q => R.oh b x (del_some q).2, R.gh, fun b x q => ?_, fun b x q => ?_, ?_, fun j x q => ?_, fun j k d1 d2 v q1 q2 => ?_, ⟨R.ob.len, R.ob.nd, fun a ha => ?_, fun n a x q1 q2 => (R.ob.at_ n a x q1 q2).mono s List.prefix_rfl⟩⟩, ⟨s, List.prefix_rfl, fun b x q => ?_⟩, fun v q => ?_⟩
  · by_cases hb : b = p
    · subst hb
      have q : some o = some x := upd_same.symm.trans q
      cases q
      exact R.oh b o e2
    · exact R.fh b x ((upd_ne hb).symm.trans q)
  · exact (upd_ne (del_some q).1).trans (R.fo b x (del_some q).2)
  · have hb : b ≠ p := fun z => by
      subst z
      have := (R.fg b x q).2
      rw [e2] at this
      cases this
    refine ⟨(upd_ne hb).trans (R.fg b x q).1, ?_⟩
    show del g.O p b = none
    rw [del_ne hb]
    exact (R.fg b x q).2
  · show (en.sl.set i _).length = _
    rw [List.length_set]
    exact R.len
  · have q : (en.sl.set i (.fz d))[j]? = some x := q
    by_cases hj : i = j
    · subst hj
      rw [List.getElem?_set_self hi] at q
      cases q
      exact ⟨_, e1, rp⟩
    · rw [List.getElem?_set_ne hj] at q
      refine (R.sl j x q).mono s List.prefix_rfl fun d' p' o' ex e3 e4 => ?_
      show del g.O p p' = some o'
      rw [del_ne fun z => hj ?_]
      · exact e4
      · subst z
        subst ex
        exact R.inj i j d d' _ e q e1 e3
  · have q1 : (en.sl.set i (.fz d))[j]? = some (.ow d1) := q1
    have q2 : (en.sl.set i (.fz d))[k]? = some (.ow d2) := q2
    have h1 : i ≠ j := fun z => by subst z; rw [List.getElem?_set_self hi] at q1; cases q1
    have h2 : i ≠ k := fun z => by subst z; rw [List.getElem?_set_self hi] at q2; cases q2
    rw [List.getElem?_set_ne h1] at q1
    rw [List.getElem?_set_ne h2] at q2
    exact R.inj j k d1 d2 v q1 q2
  · have hb : a ≠ p := fun z => by
      subst z
      have := (R.ob.fr a ha).2.1
      rw [e2] at this
      cases this
    refine ⟨(upd_ne hb).trans (R.ob.fr a ha).1, ?_, (R.ob.fr a ha).2.2⟩
    show del g.O p a = none
    rw [del_ne hb]
    exact (R.ob.fr a ha).2.1
  · by_cases hb : b = p
    · subst hb
      rw [e2] at q
      cases q
      exact .inr upd_same
    · refine .inl ?_
      show del g.O p b = some x
      rw [del_ne hb]
      exact q
  · rw [e1] at q
    cases q
    exact rp
theorem Held.mono (x : Ext g g') {v : V} {d : D} (h : Held K mg g v d) : Held K mg g' v d := by
  rcases h with h | ⟨p, o, rfl, e, c⟩
  · exact .inl (Rep.mono x.F x.am d v h)
  · rcases x.O p o e with q | q
    · exact .inr ⟨p, o, rfl, q, c.mono x.F x.am⟩
    · exact .inl ((c.mono x.F x.am).rep q)
/-- what an expression gave is kept as an operand -/
theorem RRes.hold {v : V} {r : R} (R0 : REn K mg G g H σ en) (h : RRes K mg G g H σ en v r) : ∃ g', REn K mg G g' H σ en ∧ Ext g g' ∧ Held K mg g' v r.d := by
  cases r with
  | fz d => exact ⟨g, R0, .refl g, .inl h⟩
  | ow d =>
    obtain ⟨p, o, rfl, hp, c, h1, h2, h3, h4⟩ := h
    obtain ⟨R1, x⟩ := R0.hold hp h1 h2 h3 h4
    exact ⟨_, R1, x, .inl ((c.mono x.F x.am).rep upd_same)⟩
  | rf i d =>
    obtain ⟨e1, e2⟩ := h
    obtain ⟨p, o, e3, e4, c⟩ := R0.ownAt e1
    rw [e2] at e3
    cases e3
    exact ⟨g, R0, .refl g, .inr ⟨p, o, rfl, e4, c⟩⟩
/-- .. is handed on -/
theorem RRes.esc {v : V} {r : R} (R0 : REn K mg G g H σ en) (h : RRes K mg G g H σ en v r) : ∃ g', REn K mg G g' H σ (en.frz r) ∧ Ext g g' ∧ Rep K mg g'.am g'.F r.d v := by
  cases r with
  | fz d => exact ⟨g, R0, .refl g, h⟩
  | ow d =>
    obtain ⟨p, o, rfl, hp, c, h1, h2, h3, h4⟩ := h
    obtain ⟨R1, x⟩ := R0.hold hp h1 h2 h3 h4
    exact ⟨_, R1, x, (c.mono x.F x.am).rep upd_same⟩
  | rf i d =>
    obtain ⟨e1, e2⟩ := h
    obtain ⟨g', R1, x, q⟩ := R0.freeze e1
    exact ⟨g', R1, x, q v e2⟩
theorem Held.op {v : V} {d : D} (R0 : REn K mg G g H σ en) (h : Held K mg g v d) : OpV K mg g H v (view en.ob d) := by
  rcases h with h | ⟨p, o, rfl, e, c⟩
  · cases d with
    | obj n =>
      obtain ⟨a, ha, rfl⟩ := h
      have hl : n < en.ob.length := by rw [R0.ob.len]; exact (List.getElem?_eq_some_iff.mp ha).1
      obtain ⟨x, hx⟩ := lt_get hl
      have q := R0.ob.at_ n a x hx ha
      cases x with
      | con d =>
        obtain ⟨o, e, c⟩ := q
        refine .inr ⟨a, o, rfl, e, ?_⟩
        simp only [view, hx]
        exact c
      | ins c fs => exact q.elim
    | _ => exact .inl h
  · refine .inr ⟨p, o, rfl, R0.oh _ _ e, ?_⟩
    cases d <;> first | exact c | exact c.elim
/-- a new container -/
theorem REn.new (R : REn K mg G g H σ en) {p : Addr} {o : HO} {d : D} (hp : H p = none) (c : Con K mg g.am g.F p d o) :
    REn K mg G g (upd H p o) σ en ∧ RRes K mg G g (upd H p o) σ en (.ref p) (.ow d) := by
  obtain ⟨h1, h2, h3, h4⟩ := R.free hp
  exact ⟨R.grow (same_new hp), p, o, rfl, upd_same, c, h1, h2, h3, h4⟩
/-- a new tuple -/
theorem REn.newT (R : REn K mg G g H σ en) {p : Addr} {ds : List D} {vs : List V} (hp : H p = none) (c : Reps K mg g.am g.F ds vs) :
    ∃ g', REn K mg G g' (upd H p (.tup vs)) σ en ∧ Ext g g' ∧ Rep K mg g'.am g'.F (.tup ds) (.ref p) := by
  obtain ⟨h1, h2, h3, h4⟩ := R.free hp
  obtain ⟨R2, x⟩ := (R.grow (same_new (o := .tup vs) hp)).hold upd_same h1 h2 h3 h4
  exact ⟨_, R2, x, p, vs, rfl, .inl (.inl upd_same), Reps.mono x.F x.am ds vs c⟩
theorem OpV.lst {v : V} {ds : List D} (R : REn K mg G g H σ en) (h : OpV K mg g H v (.lst ds)) : ∃ a vs, v = .ref a ∧ H a = some (.lst vs) ∧ Reps K mg g.am g.F ds vs := by
  rcases h with ⟨a, vs, rfl, s, r⟩ | ⟨p, o, rfl, e, vs, rfl, r⟩
  · exact ⟨a, vs, rfl, R.fh _ _ s, r⟩
  · exact ⟨p, vs, rfl, e, r⟩
theorem OpV.rep {v : V} {d : D} (h : OpV K mg g H v d) (hn : ∀ xs, d ≠ .lst xs) (hm : ∀ kvs, d ≠ .dic kvs := by intro _ z; cases z) : Rep K mg g.am g.F d v := by
  rcases h with h | ⟨p, o, _, _, c⟩
  · exact h
  · cases d <;> first | exact c.elim | exact absurd rfl (hn _) | exact absurd rfl (hm _)
theorem OpV.dic {v : V} {kvs : List (D × D)} (R : REn K mg G g H σ en) (h : OpV K mg g H v (.dic kvs)) : ∃ p o xs, v = .ref p ∧ H p = some (AtO p o) ∧ DicB p o xs ∧ RepKs K mg g.am g.F kvs xs := by
  rcases h with ⟨p, o, xs, rfl, s, b, r⟩ | ⟨p, ho, rfl, e, o, xs, rfl, b, r⟩
  · exact ⟨p, o, xs, rfl, R.fh _ _ s, b, r⟩
  · exact ⟨p, o, xs, rfl, e, b, r⟩
theorem OpV.tup {v : V} {ds : List D} (R : REn K mg G g H σ en) (h : OpV K mg g H v (.tup ds)) : ∃ a vs, v = .ref a ∧ SqT K g.F a vs ∧ SqT K H a vs ∧ Reps K mg g.am g.F ds vs := by
  obtain ⟨a, vs, e, s, r⟩ := h.rep fun xs z => by cases z
  exact ⟨a, vs, e, s, Same.seqT R.fh s, r⟩
theorem OpV.int {v : V} {i : Int} (h : OpV K mg g H v (.int i)) : v = .int i := h.rep fun xs z => by cases z
theorem OpV.bl {v : V} {i : Bool} (h : OpV K mg g H v (.bl i)) : v = .bl i := h.rep fun xs z => by cases z
theorem OpV.str {v : V} {i : Str} (h : OpV K mg g H v (.str i)) : v = .str i := h.rep fun xs z => by cases z
theorem OpV.non {v : V} (h : OpV K mg g H v .non) : v = .non := h.rep fun xs z => by cases z
/-- .. as the whole heap tells it -/
theorem OpV.all {v : V} {d : D} (R : REn K mg G g H σ en) (h : OpV K mg g H v d) : Rep K mg g.am H d v := by
  rcases h with h | ⟨p, o, rfl, e, c⟩
  · exact Rep.mono R.fh List.prefix_rfl d v h
  · exact (c.mono R.fh List.prefix_rfl).rep e
end
end Tk

/-! Tk, part 5: the operations upon values do in the model what they do upon plain data. -/
namespace Tk
open PySem PySem.Spec PyProof.Rows L2

/-- what is wanted of a result -/
abbrev Rd (K : PySem.W.Frag) (mg : Str → Option Value) (G : Hp) (g : Gh) (σ : L2.St) (en : En) (r : R) (Q : VK) : Prop :=
  ∀ (v : V) (g' : Gh) (H' : Hp), REn K mg G g' H' σ en → Ext g g' → RRes K mg G g' H' σ en v r → Q v H'
theorem guardO_some {α : Type} {b : Bool} {o : Option α} {r : α} (h : guardO b o = some r) : b = true ∧ o = some r := by
  unfold guardO at h
  split at h
  · exact ⟨by assumption, h⟩
  · cases h
theorem big_line : big = sizeLine := by rw [sizeLine_eq]; rfl
theorem repL_flat {α : Type} (xs : List α) : ∀ k, repL xs k = (List.replicate k xs).flatten
  | 0 => rfl
  | k + 1 => by rw [repL, List.replicate_succ, List.flatten_cons, repL_flat xs k]
theorem cutL_cutV (xs : List V) (lo hi : Option Int) : cutL xs lo hi = cutV xs lo hi := by
  have hs : ∀ (i : Int), cutN xs.length i = HT.sIx xs.length xs.length (some i) ∧ cutN xs.length i = HT.sIx xs.length 0 (some i) := fun i => by
    unfold cutN HT.sIx
    by_cases h : 0 ≤ i
    · simp only [if_pos h, if_neg (show ¬ i < 0 by omega), and_self]
    · simp only [if_neg h, if_pos (show i < 0 by omega), and_self]
  have e1 : loN xs.length lo = HT.sIx xs.length 0 lo := by
    cases lo with
    | none => rfl
    | some i => exact (hs i).2
  have e2 : hiN xs.length hi = HT.sIx xs.length xs.length hi := by
    cases hi with
    | none => rfl
    | some i => exact (hs i).1
  unfold cutL cutV
  rw [e1, e2, List.drop_take]
theorem Reps.cut {K : PySem.W.Frag} {mg : Str → Option Value} {am : List Addr} {F : Hp} {ds : List D} {vs : List V} (h : Reps K mg am F ds vs) (lo hi : Option Int) : Reps K mg am F (cutL ds lo hi) (cutV vs lo hi) := by
  rw [← cutL_cutV]
  unfold cutL
  rw [h.length]
  exact Reps.drop _ (Reps.take _ h)
theorem ixN_same (n : Nat) (i : Int) : ixN n i = L2.ixN n i := by
  unfold ixN L2.ixN
  by_cases h : 0 ≤ i
  · simp only [if_pos h]
  · simp only [if_neg h]

section
variable {X : Cx} {pins : List (Addr × Obj)} {s : Shared} {σ τ : L2.St} {H : Hp} {Q : VK} {G : Hp} {g : Gh} {en : En} {r : R} {x y : D} {v w : V} {a b : Value}
theorem Rd.fz (R0 : REn X.K X.mg G g H τ en) {d : D} (q : Rd X.K X.mg G g τ en (.fz d) Q) (h : Rep X.K X.mg g.am g.F d v) : Q v H := q v g H R0 (.refl g) h
theorem Rd.ow (R0 : REn X.K X.mg G g H τ en) {ds : List D} {vs : List V} (q : Rd X.K X.mg G g τ en (.ow (.lst ds)) Q) (h : Reps X.K X.mg g.am g.F ds vs) (p : Addr) (hp : H p = none) : Q (.ref p) (upd H p (.lst vs)) := by
  obtain ⟨R1, r1⟩ := R0.new (d := .lst ds) (o := .lst vs) hp ⟨vs, rfl, h⟩
  exact q _ g _ R1 (.refl g) r1
theorem Rd.tp (R0 : REn X.K X.mg G g H τ en) {ds : List D} {vs : List V} (q : Rd X.K X.mg G g τ en (.fz (.tup ds)) Q) (h : Reps X.K X.mg g.am g.F ds vs) (p : Addr) (hp : H p = none) : Q (.ref p) (upd H p (.tup vs)) := by
  obtain ⟨g', R1, e, r1⟩ := R0.newT hp h
  exact q _ g' _ R1 e r1

theorem add_ok (I : Inv X pins σ H s) (R0 : REn X.K X.mg G g H τ en) (ha : RelV v a) (hb : RelV w b) (hx : OpV X.K X.mg g H v x) (hy : OpV X.K X.mg g H w y) (e : addD x y = some r) (q : Rd X.K X.mg G g τ en r Q) :
    wpAny (model X.prog X.w) X.A (binaryOp .Add a b) (EP X pins σ Q) X.xe s := by
  unfold addD at e
  split at e
  · cases e
    exact op_add pins s σ H v w a b Q I ha hb ⟨_, _, hx.int, hy.int, q.fz R0 rfl⟩
  · cases e
    refine op_add_ib pins s σ H v w a b Q I ha hb ⟨_, _, hx.int, hy.bl, ?_⟩
    rename_i i k
    have e2 : (b2i k : Int) = if k then 1 else 0 := by cases k <;> rfl
    rw [e2]
    exact q.fz R0 rfl
  · obtain ⟨h1, e⟩ := guardO_some e
    cases e
    exact op_add_str pins s σ H v w a b Q I ha hb ⟨_, _, hx.str, hy.str, by rw [← big_line]; exact of_decide_eq_true h1, q.fz R0 rfl⟩
  · obtain ⟨h1, e⟩ := guardO_some e
    cases e
    obtain ⟨p, vs, rfl, f1, s1, r1⟩ := hx.tup R0
    obtain ⟨p', vs', rfl, f2, s2, r2⟩ := hy.tup R0
    refine op_catA pins s σ H _ _ a b Q I ha hb ⟨_, _, vs, vs', rfl, rfl, s1, s2, by rw [← big_line, r1.length, r2.length]; exact of_decide_eq_true h1, fun z => ?_, fun _ z => ?_, fun _ _ p hp => q.tp R0 (r1.append r2) p hp⟩
    · subst z
      have z := r1.length
      have z : _ = [] := List.length_eq_zero_iff.mp z.symm
      subst z
      exact q.fz R0 ⟨p', vs', rfl, f2, r2⟩
    · subst z
      have z := r2.length
      have z : _ = [] := List.length_eq_zero_iff.mp z.symm
      subst z
      refine q.fz R0 ⟨p, vs, rfl, f1, ?_⟩
      rw [List.append_nil]
      exact r1
  · obtain ⟨h1, e⟩ := guardO_some e
    cases e
    obtain ⟨p, vs, rfl, s1, r1⟩ := hx.lst R0
    obtain ⟨p', vs', rfl, s2, r2⟩ := hy.lst R0
    exact op_cat pins s σ H _ _ a b Q I ha hb ⟨_, _, vs, vs', rfl, rfl, s1, s2, by rw [← big_line, r1.length, r2.length]; exact of_decide_eq_true h1, fun p hp => q.ow R0 (r1.append r2) p hp⟩
  · cases e
theorem sub_ok (I : Inv X pins σ H s) (R0 : REn X.K X.mg G g H τ en) (ha : RelV v a) (hb : RelV w b) (hx : OpV X.K X.mg g H v x) (hy : OpV X.K X.mg g H w y) (e : subD x y = some r) (q : Rd X.K X.mg G g τ en r Q) :
    wpAny (model X.prog X.w) X.A (binaryOp .Sub a b) (EP X pins σ Q) X.xe s := by
  unfold subD at e
  split at e
  · cases e
    exact op_sub pins s σ H v w a b Q I ha hb ⟨_, _, hx.int, hy.int, q.fz R0 rfl⟩
  · cases e
theorem mul_ok (I : Inv X pins σ H s) (R0 : REn X.K X.mg G g H τ en) (ha : RelV v a) (hb : RelV w b) (hx : OpV X.K X.mg g H v x) (hy : OpV X.K X.mg g H w y) (e : mulD x y = some r) (q : Rd X.K X.mg G g τ en r Q) :
    wpAny (model X.prog X.w) X.A (binaryOp .Mult a b) (EP X pins σ Q) X.xe s := by
  unfold mulD at e
  split at e
  · obtain ⟨h1, e⟩ := guardO_some e
    cases e
    exact op_mulW pins s σ H v w a b Q I ha hb ⟨_, _, hx.int, hy.int, (by unfold CMulW; exact of_decide_eq_true h1), q.fz R0 rfl⟩
  · obtain ⟨h1, e⟩ := guardO_some e
    cases e
    simp only [Bool.and_eq_true, decide_eq_true_eq, Bool.not_eq_true'] at h1
    obtain ⟨⟨⟨h0, h2⟩, h3⟩, h4⟩ := h1
    obtain ⟨p, vs, rfl, f1, s1, r1⟩ := hx.tup R0
    refine op_repT pins s σ H _ _ a b Q I ha hb ⟨p, _, vs, rfl, hy.int, s1, fun z => ?_, h2, h3, by rw [r1.length]; exact h4, fun p hp => ?_⟩
    · subst z
      have z := r1.length
      have z : _ = [] := List.length_eq_zero_iff.mp z.symm
      subst z
      simp at h0
    · rw [← repL_flat]
      exact q.tp R0 (r1.rep _) p hp
  · obtain ⟨h1, e⟩ := guardO_some e
    cases e
    simp only [smallI, Bool.and_eq_true, decide_eq_true_eq] at h1
    obtain ⟨⟨h2, h3⟩, h4⟩ := h1
    obtain ⟨p, vs, rfl, s1, r1⟩ := hx.lst R0
    refine op_rep pins s σ H _ _ a b Q I ha hb ⟨p, _, vs, rfl, hy.int, s1, by omega, by omega, by rw [← big_line, r1.length]; exact h4, fun p hp => ?_⟩
    rw [← repL_flat]
    exact q.ow R0 (r1.rep _) p hp
  · cases e
theorem mod_ok (I : Inv X pins σ H s) (R0 : REn X.K X.mg G g H τ en) (ha : RelV v a) (hb : RelV w b) (hx : OpV X.K X.mg g H v x) (hy : OpV X.K X.mg g H w y) (e : modD x y = some r) (q : Rd X.K X.mg G g τ en r Q) :
    wpAny (model X.prog X.w) X.A (binaryOp .Mod a b) (EP X pins σ Q) X.xe s := by
  unfold modD at e
  split at e
  · obtain ⟨h1, e⟩ := guardO_some e
    cases e
    exact op_mod pins s σ H v w a b Q I ha hb ⟨_, _, hx.int, hy.int, of_decide_eq_true h1, q.fz R0 rfl⟩
  · cases e
theorem fdiv_ok (I : Inv X pins σ H s) (R0 : REn X.K X.mg G g H τ en) (ha : RelV v a) (hb : RelV w b) (hx : OpV X.K X.mg g H v x) (hy : OpV X.K X.mg g H w y) (e : fdivD x y = some r) (q : Rd X.K X.mg G g τ en r Q) :
    wpAny (model X.prog X.w) X.A (binaryOp .FloorDiv a b) (EP X pins σ Q) X.xe s := by
  unfold fdivD at e
  split at e
  · obtain ⟨h1, e⟩ := guardO_some e
    cases e
    simp only [Bool.and_eq_true, decide_eq_true_eq] at h1
    exact op_fdivW pins s σ H v w a b Q I ha hb ⟨_, _, hx.int, hy.int, h1, q.fz R0 rfl⟩
  · cases e
theorem pow_ok (I : Inv X pins σ H s) (R0 : REn X.K X.mg G g H τ en) (ha : RelV v a) (hb : RelV w b) (hx : OpV X.K X.mg g H v x) (hy : OpV X.K X.mg g H w y) (e : powD x y = some r) (q : Rd X.K X.mg G g τ en r Q) :
    wpAny (model X.prog X.w) X.A (binaryOp .Pow a b) (EP X pins σ Q) X.xe s := by
  unfold powD at e
  split at e
  · rename_i i j
    obtain ⟨h1, e⟩ := guardO_some e
    cases e
    simp only [Bool.and_eq_true, decide_eq_true_eq] at h1
    obtain ⟨⟨h2, h3⟩, h4⟩ := h1
    have ev := hx.int
    have ew := hy.int
    subst ev ew
    obtain ⟨t, rfl⟩ := ha
    obtain ⟨t', rfl⟩ := hb
    have hb : Builtin.Int.intBits i ≤ i.natAbs.log2 + 1 := by
      unfold Builtin.Int.intBits
      split <;> omega
    refine pow_int h2 ?_ ⟨.int (i ^ j.toNat), H, I.tok _, ⟨_, rfl⟩, q.fz R0 rfl⟩
    have h5 : (Builtin.Int.intBits i : Int) ≤ 100000 := by omega
    have h6 : (Builtin.Int.intBits i : Int) * j ≤ 100000 * 1000 := Int.mul_le_mul h5 h3 h2 (by omega)
    omega
  · cases e
theorem neg_ok (I : Inv X pins σ H s) (R0 : REn X.K X.mg G g H τ en) (ha : RelV v a) (hx : OpV X.K X.mg g H v x) (e : negD x = some r) (q : Rd X.K X.mg G g τ en r Q) :
    wpAny (model X.prog X.w) X.A (unaryOp .USub a) (EP X pins σ Q) X.xe s := by
  unfold negD at e
  split at e
  · cases e
    exact un_neg pins s σ H v a Q I ha ⟨_, hx.int, q.fz R0 rfl⟩
  · cases e

theorem bin_ok {op : Operator} {o : Op} (ho : cBin op = some o) (I : Inv X pins σ H s) (R0 : REn X.K X.mg G g H τ en) (ha : RelV v a) (hb : RelV w b) (hx : OpV X.K X.mg g H v x) (hy : OpV X.K X.mg g H w y)
    (e : app o [x, y] = some r) (q : Rd X.K X.mg G g τ en r Q) : wpAny (model X.prog X.w) X.A (binaryOp op a b) (EP X pins σ Q) X.xe s := by
  cases op <;> first
    | (cases ho; done)
    | (cases ho; exact add_ok I R0 ha hb hx hy e q)
    | (cases ho; exact sub_ok I R0 ha hb hx hy e q)
    | (cases ho; exact mul_ok I R0 ha hb hx hy e q)
    | (cases ho; exact mod_ok I R0 ha hb hx hy e q)
    | (cases ho; exact fdiv_ok I R0 ha hb hx hy e q)
    | (cases ho; exact pow_ok I R0 ha hb hx hy e q)
end
end Tk

/-! Tk, part 25: dicts whose keys are tuples (of ints, bools, None, tuples): keys, what is told of a dict, its operations. -/
namespace Tk
open PySem PySem.Spec PyProof.Rows L2
/-! ### keys -/
mutual
theorem hash_free : ∀ d : D, keyD d = true → ∀ w w' : World, (nkey d).hash w = (nkey d).hash w'
  | .non, _, _, _ => rfl
  | .bl _, _, _, _ => rfl
  | .int _, _, _, _ => rfl
  | .tup xs, h, w, w' => by
    show reduceHash (Builtin.Tuple.tupleHashOf (NestedKey.hashes w (nkeys xs))) = reduceHash (Builtin.Tuple.tupleHashOf (NestedKey.hashes w' (nkeys xs)))
    rw [hashes_free xs h w w']
  | .str _, h, _, _ => by cases h
  | .lst _, h, _, _ => by cases h
  | .frl _, h, _, _ => by cases h
  | .obj _, h, _, _ => by cases h
  | .fn _, h, _, _ => by cases h
  | .dic _, h, _, _ => by cases h
  | .set _, h, _, _ => by cases h
theorem hashes_free : ∀ ds : List D, keyDs ds = true → ∀ w w' : World, NestedKey.hashes w (nkeys ds) = NestedKey.hashes w' (nkeys ds)
  | [], _, _, _ => rfl
  | d :: ds, h, w, w' => by
    have h : keyD d = true ∧ keyDs ds = true := by simpa [keyDs] using h
    show NestedKey.hash w (nkey d) :: NestedKey.hashes w (nkeys ds) = NestedKey.hash w' (nkey d) :: NestedKey.hashes w' (nkeys ds)
    rw [hash_free d h.1 w w', hashes_free ds h.2 w w']
end
mutual
theorem nkey_depth : ∀ d : D, keyD d = true → (nkey d).depth = depth d
  | .non, _ => rfl
  | .bl _, _ => rfl
  | .int _, _ => rfl
  | .tup xs, h => by
    show NestedKey.depthAll (nkeys xs) + 1 = depths xs + 1
    rw [nkeys_depth xs h]
  | .str _, h => by cases h
  | .lst _, h => by cases h
  | .frl _, h => by cases h
  | .obj _, h => by cases h
  | .fn _, h => by cases h
  | .dic _, h => by cases h
  | .set _, h => by cases h
theorem nkeys_depth : ∀ ds : List D, keyDs ds = true → NestedKey.depthAll (nkeys ds) = depths ds
  | [], _ => rfl
  | d :: ds, h => by
    have h : keyD d = true ∧ keyDs ds = true := by simpa [keyDs] using h
    show max (nkey d).depth (NestedKey.depthAll (nkeys ds)) = max (depth d) (depths ds)
    rw [nkey_depth d h.1, nkeys_depth ds h.2]
end
mutual
theorem nkey_beq : ∀ a b : D, keyD a = true → keyD b = true → NestedKey.beq (nkey a) (nkey b) = eqD a b
  | .non, b, _, h => by cases b <;> first | (cases h; done) | rfl
  | .bl x, b, _, h => by
    cases b with
    | bl y => cases x <;> cases y <;> rfl
    | int j => cases x <;> rfl
    | non => rfl
    | tup _ => rfl
    | _ => cases h
  | .int i, b, _, h => by
    cases b with
    | bl y => cases y <;> rfl
    | int j => rfl
    | non => rfl
    | tup _ => rfl
    | _ => cases h
  | .tup xs, b, h', h => by
    cases b with
    | tup ys => exact nkeys_beq xs ys h' h
    | bl y => rfl
    | int j => rfl
    | non => rfl
    | _ => cases h
  | .str _, _, h, _ => by cases h
  | .lst _, _, h, _ => by cases h
  | .frl _, _, h, _ => by cases h
  | .obj _, _, h, _ => by cases h
  | .fn _, _, h, _ => by cases h
  | .dic _, _, h, _ => by cases h
  | .set _, _, h, _ => by cases h
theorem nkeys_beq : ∀ as bs : List D, keyDs as = true → keyDs bs = true → NestedKey.beqAll (nkeys as) (nkeys bs) = eqDs as bs
  | [], [], _, _ => rfl
  | [], _ :: _, _, _ => rfl
  | _ :: _, [], _, _ => rfl
  | a :: as, b :: bs, h1, h2 => by
    have h1 : keyD a = true ∧ keyDs as = true := by simpa [keyDs] using h1
    have h2 : keyD b = true ∧ keyDs bs = true := by simpa [keyDs] using h2
    show (NestedKey.beq (nkey a) (nkey b) && NestedKey.beqAll (nkeys as) (nkeys bs)) = (eqD a b && eqDs as bs)
    rw [nkey_beq a b h1.1 h2.1, nkeys_beq as bs h1.2 h2.2]
end
theorem isKey_of {d : D} (h : isKey d = true) : ∃ xs, d = .tup xs ∧ keyD d = true ∧ (nkey d).depth ≤ 8 := by
  cases d with
  | tup xs =>
    unfold isKey at h
    rw [Bool.and_eq_true, decide_eq_true_eq] at h
    refine ⟨xs, rfl, h.1, ?_⟩
    rw [nkey_depth (.tup xs) h.1]
    show depths xs + 1 ≤ 8
    omega
  | _ => cases h
theorem nkey_dec {a b : D} (ha : isKey a = true) (hb : isKey b = true) : decide (nkey a = nkey b) = eqD a b := by
  obtain ⟨_, _, h1, _⟩ := isKey_of ha
  obtain ⟨_, _, h2, _⟩ := isKey_of hb
  rw [NestedKey.decide_eq, nkey_beq a b h1 h2]
section
variable {X : Cx} {pins : List (Addr × Obj)} {s : Shared} {σ : L2.St} {H : Hp} {am : List Addr}
mutual
theorem nest_of (I : L2.Inv X pins σ H s) : ∀ (d : D) (v : V) (u : Value), keyD d = true → Rep X.K X.mg am H d v → RelV v u → NestedIs s.heap (nkey d) u
  | .non, v, u, _, h, r => by
    cases (show v = .non from h)
    cases r
    exact .none
  | .bl b, v, u, _, h, r => by
    cases (show v = .bl b from h)
    cases r
    exact .bool rfl
  | .int i, v, u, _, h, r => by
    cases (show v = .int i from h)
    obtain ⟨t, rfl⟩ := r
    exact .int i t
  | .tup xs, v, u, k, h, r => by
    obtain ⟨a, vs, rfl, hs, rs⟩ := h
    obtain ⟨its, rv, ⟨o, ho, hc, n, hd⟩, _⟩ := I.tuple hs
    cases (show u = Value.ref a from r)
    exact .tup ho hc hd (nests_of I xs vs its k rs rv)
  | .str _, _, _, h, _, _ => by cases h
  | .lst _, _, _, h, _, _ => by cases h
  | .frl _, _, _, h, _, _ => by cases h
  | .obj _, _, _, h, _, _ => by cases h
  | .fn _, _, _, h, _, _ => by cases h
  | .dic _, _, _, h, _, _ => by cases h
  | .set _, _, _, h, _, _ => by cases h
theorem nests_of (I : L2.Inv X pins σ H s) : ∀ (ds : List D) (vs : List V) (us : List Value), keyDs ds = true → Reps X.K X.mg am H ds vs → Vals vs us → NestedAll s.heap (nkeys ds) us
  | [], vs, us, _, h, r => by
    cases (show vs = [] from h)
    cases r
    exact .nil
  | d :: ds, vs, us, k, h, r => by
    obtain ⟨v, w, rfl, h1, h2⟩ := h
    have k : keyD d = true ∧ keyDs ds = true := by simpa [keyDs] using k
    cases r with
    | cons r1 r2 => exact .cons (nest_of I d v _ k.1 h1 r1) (nests_of I ds w _ k.2 h2 r2)
end
/-- the tuple at b is the key -/
theorem key_is (I : L2.Inv X pins σ H s) {k : D} {b : Addr} (hk : isKey k = true) (h : Rep X.K X.mg am H k (.ref b)) : (nestedKind X.prog X.w).is s.heap (nkey k) b := by
  obtain ⟨xs, rfl, k1, k2⟩ := isKey_of hk
  exact ⟨nest_of I _ _ _ k1 h rfl, k2⟩
theorem room_of (hu : X.A.units + 200 < cLine) : (nestedKind X.prog X.w).room X.A.in1 := by
  show X.A.units + 1 + 8 < cLine
  omega
/-! ### entries -/
theorem RepKs.look {F : Hp} {k : D} (hk : isKey k = true) : ∀ {kvs : List (D × D)} {xs : List DEnt}, RepKs X.K X.mg am F kvs xs →
    (lookD kvs k = none ∧ atKey xs (nkey k) = none) ∨ ∃ d b u v, lookD kvs k = some d ∧ atKey xs (nkey k) = some (b, u) ∧ RelV v u ∧ Rep X.K X.mg am F d v
  | [], xs, h => by
    cases (show xs = [] from h)
    exact .inl ⟨rfl, rfl⟩
  | (k', d) :: kvs, xs, h => by
    obtain ⟨⟨kn, b, u⟩, r, rfl, ⟨h0, h1, h2, v, h3, h4⟩, hr⟩ := h
    have e : decide (kn = nkey k) = eqD k' k := by
      rw [show kn = nkey k' from h1]
      exact nkey_dec h0 hk
    have l1 : lookD ((k', d) :: kvs) k = if eqD k' k = true then some d else lookD kvs k := by
      unfold lookD
      rw [List.find?_cons]
      cases eqD k' k <;> rfl
    have l2 : atKey ((kn, b, u) :: r) (nkey k) = if eqD k' k = true then some (b, u) else atKey r (nkey k) := by
      unfold atKey
      rw [List.find?_cons]
      show (match decide (kn = nkey k) with | true => some (kn, b, u) | false => List.find? _ r).map _ = _
      rw [e]
      cases eqD k' k <;> rfl
    rw [l1, l2]
    cases eqD k' k with
    | true => exact .inr ⟨d, b, u, v, rfl, rfl, h3, h4⟩
    | false => exact RepKs.look hk hr
theorem RepKs.length {F : Hp} : ∀ {kvs : List (D × D)} {xs : List DEnt}, RepKs X.K X.mg am F kvs xs → xs.length = kvs.length
  | [], xs, h => by
    cases (show xs = [] from h)
    rfl
  | kv :: kvs, xs, h => by
    obtain ⟨x, r, rfl, _, h2⟩ := h
    rw [List.length_cons, List.length_cons, RepKs.length h2]
theorem RepKs.keys {F : Hp} : ∀ {kvs : List (D × D)} {xs : List DEnt}, RepKs X.K X.mg am F kvs xs → ∀ x ∈ xs, ∃ k, isKey k = true ∧ x.1 = nkey k ∧ Rep X.K X.mg am F k (.ref x.2.1)
  | [], xs, h, x, hx => by
    cases (show xs = [] from h)
    cases hx
  | (k, d) :: kvs, xs, h, x, hx => by
    obtain ⟨y, r, rfl, ⟨h0, h1, h2, _⟩, hr⟩ := h
    rcases List.mem_cons.mp hx with rfl | hx
    · exact ⟨k, h0, h1, h2⟩
    · exact RepKs.keys hr x hx
theorem RepKs.append {F : Hp} {k d : D} {x : DEnt} : ∀ {kvs : List (D × D)} {xs : List DEnt}, RepKs X.K X.mg am F kvs xs → RepKV X.K X.mg am F (k, d) x → RepKs X.K X.mg am F (kvs ++ [(k, d)]) (xs ++ [x])
  | [], xs, h, h' => by
    cases (show xs = [] from h)
    exact ⟨x, [], rfl, h', rfl⟩
  | kv :: kvs, xs, h, h' => by
    obtain ⟨y, r, rfl, h1, h2⟩ := h
    exact ⟨y, r ++ [x], rfl, h1, RepKs.append h2 h'⟩
theorem RepKs.repl {F : Hp} {k d : D} {u : Value} {v : V} (hk : isKey k = true) (hv : RelV v u) (hd : Rep X.K X.mg am F d v) : ∀ {kvs : List (D × D)} {xs : List DEnt}, RepKs X.K X.mg am F kvs xs →
    RepKs X.K X.mg am F (kvs.map fun p => if eqD p.1 k = true then (p.1, d) else p) (xs.map (putAt (nkey k) u))
  | [], xs, h => by
    cases (show xs = [] from h)
    rfl
  | (k', d') :: kvs, xs, h => by
    obtain ⟨⟨kn, b, u'⟩, r, rfl, ⟨h0, h1, h2, v', h3, h4⟩, hr⟩ := h
    refine ⟨putAt (nkey k) u (kn, b, u'), r.map (putAt (nkey k) u), rfl, ?_, RepKs.repl hk hv hd hr⟩
    have e : decide (kn = nkey k) = eqD k' k := by
      rw [show kn = nkey k' from h1]
      exact nkey_dec h0 hk
    show RepKV X.K X.mg am F (if eqD k' k = true then (k', d) else (k', d')) (putAt (nkey k) u (kn, b, u'))
    by_cases hc : kn = nkey k
    · rw [← e, decide_eq_true hc, if_pos rfl, putAt, if_pos hc]
      exact ⟨h0, h1, h2, v, hv, hd⟩
    · rw [← e, decide_eq_false hc, if_neg (by decide), putAt, if_neg hc]
      exact ⟨h0, h1, h2, v', h3, h4⟩
/-- what stands behind d[k] = v -/
theorem RepKs.put {F : Hp} {k d : D} {b : Addr} {u : Value} {v : V} (hk : isKey k = true) (hb : Rep X.K X.mg am F k (.ref b)) (hv : RelV v u) (hd : Rep X.K X.mg am F d v) {kvs : List (D × D)} {xs : List DEnt} (h : RepKs X.K X.mg am F kvs xs) :
    RepKs X.K X.mg am F (putKD kvs k d) (storedH xs (nkey k) b u) := by
  unfold putKD storedH
  rcases h.look hk with ⟨e1, e2⟩ | ⟨d', b', u', v', e1, e2, _⟩
  · rw [e1, e2, if_neg (by decide), if_neg (by decide)]
    exact h.append ⟨hk, rfl, hb, v, hv, hd⟩
  · rw [e1, e2, if_pos (show (some d').isSome = true from rfl), if_pos (show (some (b', u')).isSome = true from rfl)]
    exact h.repl hk hv hd
/-! ### the dict in the model's heap -/
variable {G : Hp} {g : Gh} {τ : L2.St} {en : En} {Q : VK} {kvs : List (D × D)} {xs : List DEnt} {p : Addr} {o : Obj} {E : Value → Shared → Prop}
theorem dict_of (I : L2.Inv X pins σ H s) (hp : H p = some (AtO p o)) (B : DicB p o xs) (r : RepKs X.K X.mg am H kvs xs) : s.heap.DictOfH (nestedKind X.prog X.w) p xs := by
  obtain ⟨es, ep, e1, e2⟩ := B.es
  have hg : s.heap.get? p = some o := (show ObjOk X.prog X.w H s.heap p (AtO p o) from I.hok p _ hp).1
  refine ⟨o, es, ep, hg, B.ex, e1, e2 X.prog X.w, fun x hx => ?_, B.nd⟩
  obtain ⟨k, h0, h1, h2⟩ := r.keys x hx
  rw [h1]
  exact key_is I h0 h2
theorem RepKs.up {F : Hp} (hF : Same F H) (r : RepKs X.K X.mg am F kvs xs) : RepKs X.K X.mg am H kvs xs := RepKs.mono hF List.prefix_rfl kvs xs r
theorem ent_free {P P' : Program} {w w' : World} {x : DEnt} (h : ∃ k, isKey k = true ∧ x.1 = nkey k) : entryOfKey (nestedKind P w) x = entryOfKey (nestedKind P' w') x := by
  obtain ⟨k, h0, h1⟩ := h
  obtain ⟨_, _, hk, _⟩ := isKey_of h0
  show DictEntry.mk (NestedKey.hash w x.1) _ _ = DictEntry.mk (NestedKey.hash w' x.1) _ _
  rw [h1, hash_free k hk w w']
/-- the dict's object behind a change -/
theorem dicB_of {h' : Heap} {am' : List Addr} {F : Hp} (ns : (p == sysModules) = false) (hz : xs.length ≤ sizeLine) (r : RepKs X.K X.mg am' F kvs xs) (d : h'.DictOfH (nestedKind X.prog X.w) p xs) : ∃ o', h'.get? p = some o' ∧ DicB p o' xs := by
  obtain ⟨o', es, ep, h1, h2, h3, h4, _, h6⟩ := d
  refine ⟨o', h1, ns, hz, h2, ⟨es, ep, h3, fun P w => ?_⟩, h6⟩
  rw [h4]
  refine List.map_congr_left fun x hx => ?_
  obtain ⟨k, k1, k2, _⟩ := r.keys x hx
  exact ent_free ⟨k, k1, k2⟩
theorem atO_ok {P : Program} {w : World} {H' : Hp} {h' : Heap} {o' : Obj} (e : h'.get? p = some o') : ObjOk P w H' h' p (AtO p o') := ⟨e, ⟨o', e⟩, fun _ _ q k => k o' q⟩
/-- d[k] = v -/
theorem dic_set {A : Around} {k d : D} {b : Addr} {u : Value} {v : V} {Q' : Unit → Shared → Prop} (hu : (nestedKind X.prog X.w).room A.in1) (I : L2.Inv X pins σ H s) (hp : H p = some (AtO p o)) (B : DicB p o xs) {F : Hp} (hF : Same F H) (r : RepKs X.K X.mg am F kvs xs)
    (hk : isKey k = true) (hb : Rep X.K X.mg am F k (.ref b)) (hv : RelV v u) (hd : Rep X.K X.mg am F d v) (hz : kvs.length < sizeLine)
    (h : ∀ o' xs' s', DicB p o' xs' → RepKs X.K X.mg am F (putKD kvs k d) xs' → L2.Inv X pins σ (upd H p (AtO p o')) s' → Q' () s') :
    wpAny (model X.prog X.w) A (setItem (.ref p) (.ref b) u) Q' E s := by
  have r2 := r.up hF
  have lx := r.length
  refine wpAny_setItem_heap (hsz := by omega) hu (key_is I hk (Rep.mono hF List.prefix_rfl _ _ hb)) (dict_of I hp B r2) fun h' d' hs => ?_
  have r3 := r.put hk hb hv hd
  have l3 : (storedH xs (nkey k) b u).length ≤ sizeLine := by
    unfold storedH
    split
    · rw [List.length_map]; omega
    · rw [List.length_append, List.length_singleton]; omega
  obtain ⟨o', e1, B'⟩ := dicB_of B.ns l3 r3 d'
  refine h o' _ _ B' r3 (I.write (x := p) (e := p) (by rw [hp]; exact True.intro) (.inl rfl) (fun b q hb z => (hs.2 b hb).trans z) ⟨o', e1⟩ (atO_ok e1))
/-- k in d -/
theorem dic_in {A : Around} {k : D} {b : Addr} {Q' : Value → Shared → Prop} (hu : (nestedKind X.prog X.w).room A.in1) (I : L2.Inv X pins σ H s) (hp : H p = some (AtO p o)) (B : DicB p o xs) (r : RepKs X.K X.mg am H kvs xs) (hk : isKey k = true) (hb : Rep X.K X.mg am H k (.ref b))
    (h : ∀ s', L2.Inv X pins σ H s' → Q' (.bool (lookD kvs k).isSome) s') : wpAny (model X.prog X.w) A (compareOp .In (.ref b) (.ref p)) Q' E s := by
  refine wpAny_in_heap hu (key_is I hk hb) B.ns (dict_of I hp B r) ?_
  have e : (atKey xs (nkey k)).isSome = (lookD kvs k).isSome := by
    rcases r.look hk with ⟨e1, e2⟩ | ⟨d', b', u', v', e1, e2, _⟩ <;> rw [e1, e2] <;> rfl
  rw [e]
  exact h _ (I.tok _)
theorem dic_notin {A : Around} {k : D} {b : Addr} {Q' : Value → Shared → Prop} (hu : (nestedKind X.prog X.w).room A.in1) (I : L2.Inv X pins σ H s) (hp : H p = some (AtO p o)) (B : DicB p o xs) (r : RepKs X.K X.mg am H kvs xs) (hk : isKey k = true) (hb : Rep X.K X.mg am H k (.ref b))
    (h : ∀ s', L2.Inv X pins σ H s' → Q' (.bool (!(lookD kvs k).isSome)) s') : wpAny (model X.prog X.w) A (compareOp .NotIn (.ref b) (.ref p)) Q' E s := by
  refine wpAny_notIn_heap hu (key_is I hk hb) B.ns (dict_of I hp B r) ?_
  have e : (atKey xs (nkey k)).isSome = (lookD kvs k).isSome := by
    rcases r.look hk with ⟨e1, e2⟩ | ⟨d', b', u', v', e1, e2, _⟩ <;> rw [e1, e2] <;> rfl
  rw [e]
  exact h _ (I.tok _)
/-- d[k] -/
theorem dic_ix {A : Around} {k d : D} {b : Addr} {Q' : Value → Shared → Prop} (hu : (nestedKind X.prog X.w).room A.in1) (I : L2.Inv X pins σ H s) (hp : H p = some (AtO p o)) (B : DicB p o xs) {F : Hp} (hF : Same F H) (r : RepKs X.K X.mg am F kvs xs) (hk : isKey k = true) (hb : Rep X.K X.mg am F k (.ref b))
    (e : lookD kvs k = some d) (h : ∀ u v s', L2.Inv X pins σ H s' → RelV v u → Rep X.K X.mg am F d v → Q' u s') : wpAny (model X.prog X.w) A (getItem (.ref p) (.ref b)) Q' E s := by
  rcases r.look hk with ⟨e1, _⟩ | ⟨d', b', u', v', e1, e2, e3, e4⟩
  · rw [e] at e1
    cases e1
  · rw [e] at e1
    cases e1
    exact wpAny_getItem_heap hu (key_is I hk (Rep.mono hF List.prefix_rfl _ _ hb)) (dict_of I hp B (r.up hF)) e2 (h u' v' _ (I.tok _) e3 e4)
/-- d.get(k, x) -/
theorem dic_get {A : Around} {k x : D} {b : Addr} {u : Value} {v : V} {Q' : Value → Shared → Prop} (hu : (nestedKind X.prog X.w).room A.in1) (I : L2.Inv X pins σ H s) (hp : H p = some (AtO p o)) (B : DicB p o xs) {F : Hp} (hF : Same F H) (r : RepKs X.K X.mg am F kvs xs) (hk : isKey k = true) (hb : Rep X.K X.mg am F k (.ref b))
    (hv : RelV v u) (hx : Rep X.K X.mg am F x v) (h : ∀ u v s', L2.Inv X pins σ H s' → RelV v u → Rep X.K X.mg am F ((lookD kvs k).getD x) v → Q' u s') : wpAny (model X.prog X.w) A (call (.builtin "dict.get") [.ref p, .ref b, u]) Q' E s := by
  have dd := dict_of I hp B (r.up hF)
  refine call_meetsIn PySem.F.slot_dict_get dd.typeIs PySem.F.entry_dict_get (PySem.F.args_dict_get_3 _ _ _) (meetsH_dict_get_default (nestedKind X.prog X.w) p b B.ns u) ⟨hu, nkey k, xs, key_is I hk (Rep.mono hF List.prefix_rfl _ _ hb), dd, ?_⟩
  rcases r.look hk with ⟨e1, e2⟩ | ⟨d', b', u', v', e1, e2, e3, e4⟩
  · rw [e1] at h
    rw [e2]
    exact h u v _ (I.tok _) hv hx
  · rw [e1] at h
    rw [e2]
    exact h u' v' _ (I.tok _) e3 e4
/-! ### list(d) -/
theorem RepKs.reps {F : Hp} : ∀ {kvs : List (D × D)} {xs : List DEnt}, RepKs X.K X.mg am F kvs xs → Reps X.K X.mg am F (kvs.map (·.1)) (xs.map fun x => V.ref x.2.1)
  | [], xs, h => by
    cases (show xs = [] from h)
    rfl
  | (k, d) :: kvs, xs, h => by
    obtain ⟨x, r, rfl, ⟨_, _, h2, _⟩, hr⟩ := h
    exact ⟨_, _, rfl, h2, RepKs.reps hr⟩
theorem dic_list (hc : X.calm = true) {us : List Value} (I : L2.Inv X pins σ H s) (hv : Vals [.ref p] us) (hp : H p = some (AtO p o)) (B : DicB p o xs) 
    (h : ∀ p', H p' = none → Q (.ref p') (upd H p' (.lst (xs.map fun x => V.ref x.2.1)))) : wpAny (model X.prog X.w) X.A (call (.type "list") us) (EP X pins σ Q) X.xe s := by
  obtain ⟨u, rfl, rx⟩ := hv.one
  cases (show u = Value.ref p from rx)
  obtain ⟨es, ep, hdt, he⟩ := B.es
  have he := he X.prog X.w
  have ho : s.heap.get? p = some o := (show ObjOk X.prog X.w H s.heap p (AtO p o) from I.hok p _ hp).1
  have l1 : es.size = xs.length := by rw [← Array.length_toList, he, List.length_map]
  have hz := B.sz
  refine PySem.W.kdl_call (kdl_raw B.ns B.ex hdt) (I.ok.hd hc) ho (by omega) fun h' tk acc' c' kp e it => ?_
  have ea : acc'.toList = xs.map fun x => Value.ref x.2.1 := by
    have hl : acc'.toList.length = xs.length := by rw [Array.length_toList, it.1]; exact l1
    apply List.ext_getElem?
    intro j
    rw [List.getElem?_map]
    cases hj : acc'.toList[j]? with
    | none =>
      have h1 := List.getElem?_eq_none_iff.mp hj
      rw [List.getElem?_eq_none (by omega)]
      all_goals rfl
    | some v =>
      obtain ⟨en, hen, hv⟩ := it.2 j v (by rw [← Array.getElem?_toList]; exact hj)
      have qe := entry_at he j
      rw [hen] at qe
      cases hb : xs[j]? with
      | none =>
        rw [hb] at qe
        exact nomatch (show some en = none from qe)
      | some b =>
        rw [hb] at qe
        have e2 : en = entryOfKey (nestedKind X.prog X.w) b := Option.some.inj qe
        rw [hv, e2]
        all_goals rfl
  have rv : Vals (xs.map fun x => V.ref x.2.1) acc'.toList := by
    rw [ea]
    have : ∀ l : List DEnt, Vals (l.map fun x => V.ref x.2.1) (l.map fun x => Value.ref x.2.1) := fun l => by
      induction l with
      | nil => exact .nil
      | cons y l ih => exact .cons rfl ih
    exact this xs
  have hz2 : (xs.map fun x => V.ref x.2.1).length ≤ sizeLine := by rw [List.length_map]; exact hz
  refine ⟨.ref s.heap.objs.size, _, I.laid (t' := tk) (o := .lst (xs.map fun x => V.ref x.2.1)) kp (Nat.le_refl _) ?_, rfl, h _ (I.hok.fresh (Nat.le_refl _))⟩
  exact ⟨hz2, acc'.toList, c', rv, by rw [Array.toArray_toList]; exact e⟩
/-! ### d[k] = v, as a store -/
def rSetD (X : Cx) : TSet := fun o i v H Q => ∃ (p : Addr) (ob : Obj) (xs : List DEnt) (kvs : List (D × D)) (k d : D) (b : Addr) (am : List Addr) (F : Hp), o = .ref p ∧ i = .ref b ∧ H p = some (AtO p ob) ∧ DicB p ob xs ∧ Same F H ∧ RepKs X.K X.mg am F kvs xs ∧
  isKey k = true ∧ Rep X.K X.mg am F k (.ref b) ∧ Rep X.K X.mg am F d v ∧ kvs.length < sizeLine ∧ ∀ o' xs', DicB p o' xs' → RepKs X.K X.mg am F (putKD kvs k d) xs' → Q (upd H p (AtO p o'))
theorem set_dic (hu : X.A.units + 200 < cLine) : PSet X (rSetD X) := by
  intro pins s σ H o i v ov iv u Q I ro ri rv ⟨p, ob, xs, kvs, k, d, b, am, F, e1, e2, hp, B, hF, rs, hk, hb, hd, hz, q⟩
  subst e1 e2
  cases (show ov = Value.ref p from ro)
  cases (show iv = Value.ref b from ri)
  refine dic_set (kvs := kvs) ?_ I hp B hF rs hk hb rv hd hz fun o' xs' s' B' r' I' => ⟨_, I', q o' xs' B' r'⟩
  show X.A.units + 1 + 8 < cLine
  omega
theorem set_or {t t' : TSet} (h : PSet X t) (h' : PSet X t') : PSet X (fun o i v H Q => t o i v H Q ∨ t' o i v H Q) := fun pins s σ H o i v ov iv u Q I ro ri rv q =>
  q.elim (fun z => h pins s σ H o i v ov iv u Q I ro ri rv z) fun z => h' pins s σ H o i v ov iv u Q I ro ri rv z
end
end Tk

/-! Tk, part 6: comparisons, places, slices, built-in calls, truth upon values. -/
namespace Tk
open PySem PySem.Spec PyProof.Rows L2

section
variable {X : Cx} {pins : List (Addr × Obj)} {s : Shared} {σ τ : L2.St} {H : Hp} {Q : VK} {G : Hp} {g : Gh} {en : En} {r : R} {x y : D} {v w : V} {a b : Value}
theorem strD : ∀ {d : D}, isStr d = true → ∃ z, d = .str z
  | .str z, _ => ⟨z, rfl⟩
theorem okEq_cases {x y : D} (h : okEq x y = true) : (plain x = true ∧ plain y = true ∧ depth x ≤ 60 ∧ depth y ≤ 60) ∨ ∃ z z', x = .str z ∧ y = .str z' := by
  unfold okEq at h
  simp only [Bool.or_eq_true, Bool.and_eq_true, decide_eq_true_eq] at h
  rcases h with ⟨⟨⟨h1, h2⟩, h3⟩, h4⟩ | ⟨h1, h2⟩
  · exact .inl ⟨h1, h2, h3, h4⟩
  · obtain ⟨z, rfl⟩ := strD h1
    obtain ⟨z', rfl⟩ := strD h2
    exact .inr ⟨z, z', rfl, rfl⟩
theorem eq_ok (hu : X.A.units + 200 < cLine) (I : Inv X pins σ H s) (R0 : REn X.K X.mg G g H τ en) (ha : RelV v a) (hb : RelV w b) (hx : OpV X.K X.mg g H v x) (hy : OpV X.K X.mg g H w y) (e : app2 .eq x y = some r) (q : Rd X.K X.mg G g τ en r Q) :
    wpAny (model X.prog X.w) X.A (compareOp .Eq a b) (EP X pins σ Q) X.xe s := by
  obtain ⟨h1, e⟩ := guardO_some e
  cases e
  rcases okEq_cases h1 with ⟨px, py, dx, dy⟩ | ⟨z, z', rfl, rfl⟩
  · refine op_eqD (by omega) pins s σ H v w a b Q I ha hb ⟨_, _, Rep.dp x v px (hx.all R0), Rep.dp y w py (hy.all R0), shaped_toPy px dx, shaped_toPy py dy, ?_⟩
    rw [eqv_toPy x y px py]
    exact q.fz R0 rfl
  · have ev := hx.str
    have ew := hy.str
    subst ev ew
    refine L2.op_eq pins s σ H _ _ a b Q I ha hb ⟨rfl, ?_⟩
    have e1 : decide (V.str z = V.str z') = eqD (.str z) (.str z') := by rw [dec_str]; simp only [eqD]
    rw [e1]
    exact q.fz R0 rfl
theorem ne_ok (hu : X.A.units + 200 < cLine) (I : Inv X pins σ H s) (R0 : REn X.K X.mg G g H τ en) (ha : RelV v a) (hb : RelV w b) (hx : OpV X.K X.mg g H v x) (hy : OpV X.K X.mg g H w y) (e : app2 .ne x y = some r) (q : Rd X.K X.mg G g τ en r Q) :
    wpAny (model X.prog X.w) X.A (compareOp .NotEq a b) (EP X pins σ Q) X.xe s := by
  obtain ⟨h1, e⟩ := guardO_some e
  cases e
  rcases okEq_cases h1 with ⟨px, py, dx, dy⟩ | ⟨z, z', rfl, rfl⟩
  · refine op_neD (by omega) pins s σ H v w a b Q I ha hb ⟨_, _, Rep.dp x v px (hx.all R0), Rep.dp y w py (hy.all R0), shaped_toPy px dx, shaped_toPy py dy, ?_⟩
    rw [eqv_toPy x y px py]
    exact q.fz R0 rfl
  · have ev := hx.str
    have ew := hy.str
    subst ev ew
    refine L2.op_ne pins s σ H _ _ a b Q I ha hb ⟨rfl, ?_⟩
    have e1 : decide (V.str z = V.str z') = eqD (.str z) (.str z') := by rw [dec_str]; simp only [eqD]
    rw [e1]
    exact q.fz R0 rfl
theorem cmpD_some {p : Int → Int → Bool} (e : cmpD p x y = some r) : ∃ i j, x = .int i ∧ y = .int j ∧ r = .fz (.bl (p i j)) := by
  unfold cmpD at e
  split at e
  · cases e
    exact ⟨_, _, rfl, rfl, rfl⟩
  · cases e
theorem isD_some {k : Bool} (e : isD x y = some k) : (y = .non ∧ k = isNon x) ∨ ∃ i j, x = .bl i ∧ y = .bl j ∧ k = (i == j) := by
  unfold isD at e
  split at e
  · cases e
    exact .inl ⟨rfl, rfl⟩
  · cases e
    exact .inr ⟨_, _, rfl, rfl, rfl⟩
  · cases e
theorem isNon_V (hx : OpV X.K X.mg g H v x) : decide (v = V.non) = isNon x := by
  have hn : ∀ d : D, d ≠ .non → isNon d = false := fun d h => by cases d <;> first | rfl | exact absurd rfl h
  by_cases e : x = .non
  · subst e
    rw [hx.non]
    rfl
  · rw [hn x e]
    refine decide_eq_false fun z => ?_
    subst z
    rcases hx with h | ⟨p, o, z, _⟩
    · cases x with
      | non => exact e rfl
      | bl _ => cases (show V.non = V.bl _ from h)
      | int _ => cases (show V.non = V.int _ from h)
      | str _ => cases (show V.non = V.str _ from h)
      | tup _ => obtain ⟨_, _, q, _⟩ := h; cases q
      | lst _ => obtain ⟨_, _, q, _⟩ := h; cases q
      | frl _ => obtain ⟨_, _, q, _⟩ := h; cases q
      | obj _ => obtain ⟨_, _, q⟩ := h; cases q
      | fn _ => obtain ⟨_, _, q⟩ := h; cases q
      | dic _ => obtain ⟨_, _, _, q, _⟩ := h; cases q
      | set _ => exact h
    · cases z
theorem fin_fz {k k' : Bool} {s' : Shared} (I : Inv X pins σ H s') (R0 : REn X.K X.mg G g H τ en) (q : Rd X.K X.mg G g τ en (.fz (.bl k)) Q) (e : k' = k) : EP X pins σ Q (.bool k') s' := by
  subst e
  exact ⟨.bl k', H, I, rfl, q.fz R0 rfl⟩
theorem is_ok (I : Inv X pins σ H s) (R0 : REn X.K X.mg G g H τ en) (ha : RelV v a) (hb : RelV w b) (hx : OpV X.K X.mg g H v x) (hy : OpV X.K X.mg g H w y) (e : app2 .is x y = some r) (q : Rd X.K X.mg G g τ en r Q) :
    wpAny (model X.prog X.w) X.A (compareOp .Is a b) (EP X pins σ Q) X.xe s := by
  obtain ⟨k, e1, e⟩ := Option.bind_eq_some_iff.mp e
  cases e
  rcases isD_some e1 with ⟨rfl, rfl⟩ | ⟨i, j, rfl, rfl, rfl⟩
  · refine op_isN pins s σ H v w a b Q I ha hb ⟨hy.non, ?_⟩
    rw [isNon_V hx]
    exact q.fz R0 rfl
  · refine op_isBl pins s σ H v w a b Q I ha hb ⟨i, j, hx.bl, hy.bl, ?_⟩
    rw [show decide (i = j) = (i == j) by cases i <;> cases j <;> rfl]
    exact q.fz R0 rfl
theorem isn_ok (I : Inv X pins σ H s) (R0 : REn X.K X.mg G g H τ en) (ha : RelV v a) (hb : RelV w b) (hx : OpV X.K X.mg g H v x) (hy : OpV X.K X.mg g H w y) (e : app2 .isn x y = some r) (q : Rd X.K X.mg G g τ en r Q) :
    wpAny (model X.prog X.w) X.A (compareOp .IsNot a b) (EP X pins σ Q) X.xe s := by
  obtain ⟨k, e1, e⟩ := Option.bind_eq_some_iff.mp e
  cases e
  rcases isD_some e1 with ⟨rfl, rfl⟩ | ⟨i, j, rfl, rfl, rfl⟩
  · refine op_notN pins s σ H v w a b Q I ha hb ⟨hy.non, ?_⟩
    rw [isNon_V hx]
    exact q.fz R0 rfl
  · refine op_notBl pins s σ H v w a b Q I ha hb ⟨i, j, hx.bl, hy.bl, ?_⟩
    rw [show decide (i = j) = (i == j) by cases i <;> cases j <;> rfl]
    exact q.fz R0 rfl
/-! in -/
theorem any_toPys (x : D) (px : plain x = true) : ∀ ys : List D, plains ys = true → ((toPys ys).any fun z => PyData.eqv z (toPy x)) = inD x ys
  | [], _ => rfl
  | y :: ys, p => by
    have p : plain y = true ∧ plains ys = true := by simpa [plains] using p
    have ih := any_toPys x px ys p.2
    unfold inD at ih ⊢
    simp only [toPys, List.any_cons, eqv_toPy y x p.1 px, ih]
theorem flat_V {K : PySem.W.Frag} {mg : Str → Option Value} {am : List Addr} {F : Hp} : ∀ {d : D} {v : V}, isFlat d = true → Rep K mg am F d v → flatV v = true ∧ ∀ {d' : D} {v' : V}, isFlat d' = true → Rep K mg am F d' v' → eqV v v' = eqD d d'
  | .non, v, _, h => by
    cases (show v = .non from h)
    refine ⟨rfl, fun {d' v'} f h' => ?_⟩
    cases d' <;> first | (cases f; done) | (cases (show v' = _ from h'); first | rfl | simp [eqV, eqD])
  | .bl b, v, _, h => by
    cases (show v = .bl b from h)
    refine ⟨rfl, fun {d' v'} f h' => ?_⟩
    cases d' <;> first | (cases f; done) | (cases (show v' = _ from h'); first | rfl | simp [eqV, eqD])
  | .int i, v, _, h => by
    cases (show v = .int i from h)
    refine ⟨rfl, fun {d' v'} f h' => ?_⟩
    cases d' <;> first | (cases f; done) | (cases (show v' = _ from h'); first | rfl | simp [eqV, eqD])
  | .str x, v, _, h => by
    cases (show v = .str x from h)
    refine ⟨rfl, fun {d' v'} f h' => ?_⟩
    cases d' <;> first | (cases f; done) | (cases (show v' = _ from h'); first | rfl | simp [eqV, eqD])
  | .tup _, _, f, _ => by cases f
  | .lst _, _, f, _ => by cases f
  | .frl _, _, f, _ => by cases f
  | .obj _, _, f, _ => by cases f
  | .fn _, _, f, _ => by cases f
  | .dic _, _, f, _ => by cases f
  | .set _, _, f, _ => by cases f
theorem inV_inD {K : PySem.W.Frag} {mg : Str → Option Value} {am : List Addr} {F : Hp} {x : D} {v : V} (fx : isFlat x = true) (hx : Rep K mg am F x v) : ∀ {ys : List D} {vs : List V}, ys.all isFlat = true → Reps K mg am F ys vs → vs.all flatV = true ∧ inV v vs = inD x ys
  | [], vs, _, h => by
    cases (show vs = [] from h)
    exact ⟨rfl, rfl⟩
  | y :: ys, vs, f, h => by
    obtain ⟨w, r, rfl, h1, h2⟩ := h
    simp only [List.all_cons, Bool.and_eq_true] at f
    obtain ⟨i1, i2⟩ := inV_inD fx hx f.2 h2
    obtain ⟨f1, f2⟩ := flat_V f.1 h1
    refine ⟨by simp only [List.all_cons, f1, i1, Bool.and_self], ?_⟩
    unfold inV inD at i2 ⊢
    simp only [List.any_cons, i2, f2 fx hx]
theorem okIn_cases {x : D} {ys : List D} (h : okIn x ys = true) : (plain x = true ∧ plains ys = true ∧ depth x ≤ 60 ∧ depths ys ≤ 60) ∨ (isFlat x = true ∧ ys.all isFlat = true) := by
  unfold okIn at h
  simp only [Bool.or_eq_true, Bool.and_eq_true, decide_eq_true_eq] at h
  rcases h with ⟨⟨⟨h1, h2⟩, h3⟩, h4⟩ | h
  · exact .inl ⟨h1, h2, h3, h4⟩
  · exact .inr h
theorem itemsD_some {ys : List D} (e : itemsD y = some ys) : y = .tup ys ∨ y = .lst ys := by
  unfold itemsD at e
  split at e
  · cases e; exact .inl rfl
  · cases e; exact .inr rfl
  · cases e
theorem Inv.reads (I : Inv X pins σ H s) (R0 : REn X.K X.mg G g H τ en) (ha : RelV v a) (hx : OpV X.K X.mg g H v x) (p : plain x = true) : ∃ as, Reads s.heap a (toPy x) as := Dp.reads I _ _ _ (Rep.dp x v p (hx.all R0)) ha
theorem inO_some {k : Bool} (e : inO x y = some k) : (∃ ys, (y = .tup ys ∨ y = .lst ys) ∧ okIn x ys = true ∧ k = inD x ys) ∨ ∃ kvs, y = .dic kvs ∧ isKey x = true ∧ k = (lookD kvs x).isSome := by
  unfold inO at e
  split at e
  · obtain ⟨h, e⟩ := guardO_some e
    cases e
    exact .inr ⟨_, rfl, h, rfl⟩
  · obtain ⟨ys, e1, e⟩ := Option.bind_eq_some_iff.mp e
    obtain ⟨h, e⟩ := guardO_some e
    cases e
    exact .inl ⟨ys, itemsD_some e1, h, rfl⟩
/-- a key's value -/
theorem OpV.key {k : D} (R0 : REn X.K X.mg G g H τ en) (hx : OpV X.K X.mg g H v k) (hk : isKey k = true) (ha : RelV v a) : ∃ b, v = .ref b ∧ a = .ref b ∧ Rep X.K X.mg g.am g.F k (.ref b) := by
  obtain ⟨xs, rfl, _, _⟩ := isKey_of hk
  have r := hx.rep fun xs z => by cases z
  obtain ⟨p, vs, rfl, _⟩ := id r
  exact ⟨p, rfl, ha, r⟩
theorem in_ok (hu : X.A.units + 200 < cLine) (I : Inv X pins σ H s) (R0 : REn X.K X.mg G g H τ en) (ha : RelV v a) (hb : RelV w b) (hx : OpV X.K X.mg g H v x) (hy : OpV X.K X.mg g H w y) (e : app2 .isin x y = some r) (q : Rd X.K X.mg G g τ en r Q) :
    wpAny (model X.prog X.w) X.A (compareOp .In a b) (EP X pins σ Q) X.xe s := by
  obtain ⟨k, e1, e⟩ := Option.bind_eq_some_iff.mp e
  cases e
  rcases inO_some e1 with ⟨ys, hys, h1, rfl⟩ | ⟨kvs, rfl, hk, rfl⟩
  case inr =>
    obtain ⟨b', rfl, rfl, rb⟩ := hx.key R0 hk ha
    obtain ⟨p, o, xs, rfl, hp, B, rs⟩ := hy.dic R0
    cases (show b = Value.ref p from hb)
    exact dic_in (room_of hu) I hp B (rs.up R0.fh) hk (Rep.mono R0.fh List.prefix_rfl _ _ rb) fun s' I' => ⟨.bl _, H, I', rfl, q.fz R0 rfl⟩
  rcases okIn_cases h1 with ⟨px, py, dx, dy⟩ | ⟨fx, fy⟩
  · obtain ⟨as, r1⟩ := Inv.reads I R0 ha hx px
    have room : X.A.units + 1 + min (PyData.depthAll (toPys ys)) (toPy x).depth < cLine := by
      have := depth_toPy x px
      have := Nat.min_le_right (PyData.depthAll (toPys ys)) (toPy x).depth
      omega
    rcases hys with rfl | rfl
    · obtain ⟨bs, r2⟩ := Inv.reads I R0 hb hy (by simpa [plain] using py)
      refine SeqAt.in_tuple_reads (by simpa [toPy] using r2) r1 (lays_toPy ys py) (lay_toPy x px) room ?_
      rw [any_toPys x px ys py]
      exact fin_fz I R0 q rfl
    · obtain ⟨bs, r2⟩ := Inv.reads I R0 hb hy (by simpa [plain] using py)
      refine SeqAt.in_list_reads (by simpa [toPy] using r2) r1 (lays_toPy ys py) (lay_toPy x px) room ?_
      rw [any_toPys x px ys py]
      exact fin_fz I R0 q rfl
  · have hx' : Rep X.K X.mg g.am g.F x v := hx.rep (fun xs z => by subst z; cases fx) fun xs z => by subst z; cases fx
    obtain ⟨f1, _⟩ := flat_V fx hx'
    rcases hys with rfl | rfl
    · obtain ⟨p, vs, rfl, _, s1, r1⟩ := hy.tup R0
      obtain ⟨f2, e2⟩ := inV_inD fx hx' fy r1
      refine op_in_seq pins s σ H _ _ a b Q I ha hb ⟨p, vs, rfl, .inr s1, f1, f2, ?_⟩
      rw [if_neg Bool.false_ne_true, e2]
      exact q.fz R0 rfl
    · obtain ⟨p, vs, rfl, s1, r1⟩ := hy.lst R0
      obtain ⟨f2, e2⟩ := inV_inD fx hx' fy r1
      refine op_in_seq pins s σ H _ _ a b Q I ha hb ⟨p, vs, rfl, .inl (SqL.of s1), f1, f2, ?_⟩
      rw [if_neg Bool.false_ne_true, e2]
      exact q.fz R0 rfl
theorem notin_ok (hu : X.A.units + 200 < cLine) (I : Inv X pins σ H s) (R0 : REn X.K X.mg G g H τ en) (ha : RelV v a) (hb : RelV w b) (hx : OpV X.K X.mg g H v x) (hy : OpV X.K X.mg g H w y) (e : app2 .notin x y = some r) (q : Rd X.K X.mg G g τ en r Q) :
    wpAny (model X.prog X.w) X.A (compareOp .NotIn a b) (EP X pins σ Q) X.xe s := by
  obtain ⟨k, e1, e⟩ := Option.bind_eq_some_iff.mp e
  cases e
  rcases inO_some e1 with ⟨ys, hys, h1, rfl⟩ | ⟨kvs, rfl, hk, rfl⟩
  case inr =>
    obtain ⟨b', rfl, rfl, rb⟩ := hx.key R0 hk ha
    obtain ⟨p, o, xs, rfl, hp, B, rs⟩ := hy.dic R0
    cases (show b = Value.ref p from hb)
    exact dic_notin (room_of hu) I hp B (rs.up R0.fh) hk (Rep.mono R0.fh List.prefix_rfl _ _ rb) fun s' I' => ⟨.bl _, H, I', rfl, q.fz R0 rfl⟩
  rcases okIn_cases h1 with ⟨px, py, dx, dy⟩ | ⟨fx, fy⟩
  · obtain ⟨as, r1⟩ := Inv.reads I R0 ha hx px
    have room : X.A.units + 1 + min (PyData.depthAll (toPys ys)) (toPy x).depth < cLine := by
      have := depth_toPy x px
      have := Nat.min_le_right (PyData.depthAll (toPys ys)) (toPy x).depth
      omega
    rcases hys with rfl | rfl
    · obtain ⟨bs, r2⟩ := Inv.reads I R0 hb hy (by simpa [plain] using py)
      refine SeqAt.notIn_tuple_reads (by simpa [toPy] using r2) r1 (lays_toPy ys py) (lay_toPy x px) room ?_
      rw [any_toPys x px ys py]
      exact fin_fz I R0 q rfl
    · obtain ⟨bs, r2⟩ := Inv.reads I R0 hb hy (by simpa [plain] using py)
      refine SeqAt.notIn_list_reads (by simpa [toPy] using r2) r1 (lays_toPy ys py) (lay_toPy x px) room ?_
      rw [any_toPys x px ys py]
      exact fin_fz I R0 q rfl
  · have hx' : Rep X.K X.mg g.am g.F x v := hx.rep (fun xs z => by subst z; cases fx) fun xs z => by subst z; cases fx
    obtain ⟨f1, _⟩ := flat_V fx hx'
    rcases hys with rfl | rfl
    · obtain ⟨p, vs, rfl, _, s1, r1⟩ := hy.tup R0
      obtain ⟨f2, e2⟩ := inV_inD fx hx' fy r1
      refine op_notIn_seq pins s σ H _ _ a b Q I ha hb ⟨p, vs, rfl, .inr s1, f1, f2, ?_⟩
      rw [if_pos rfl, e2]
      exact q.fz R0 rfl
    · obtain ⟨p, vs, rfl, s1, r1⟩ := hy.lst R0
      obtain ⟨f2, e2⟩ := inV_inD fx hx' fy r1
      refine op_notIn_seq pins s σ H _ _ a b Q I ha hb ⟨p, vs, rfl, .inl (SqL.of s1), f1, f2, ?_⟩
      rw [if_pos rfl, e2]
      exact q.fz R0 rfl
theorem cmp_ok (hu : X.A.units + 200 < cLine) (op : CmpOp) (I : Inv X pins σ H s) (R0 : REn X.K X.mg G g H τ en) (ha : RelV v a) (hb : RelV w b) (hx : OpV X.K X.mg g H v x) (hy : OpV X.K X.mg g H w y)
    (e : app (cCmp op) [x, y] = some r) (q : Rd X.K X.mg G g τ en r Q) : wpAny (model X.prog X.w) X.A (compareOp op a b) (EP X pins σ Q) X.xe s := by
  cases op with
  | Eq => exact eq_ok hu I R0 ha hb hx hy e q
  | NotEq => exact ne_ok hu I R0 ha hb hx hy e q
  | Lt =>
    obtain ⟨i, j, rfl, rfl, rfl⟩ := cmpD_some (show cmpD _ x y = some r from e)
    exact op_lt pins s σ H v w a b Q I ha hb ⟨i, j, hx.int, hy.int, q.fz R0 rfl⟩
  | LtE =>
    obtain ⟨i, j, rfl, rfl, rfl⟩ := cmpD_some (show cmpD _ x y = some r from e)
    exact op_le pins s σ H v w a b Q I ha hb ⟨i, j, hx.int, hy.int, q.fz R0 rfl⟩
  | Gt =>
    obtain ⟨i, j, rfl, rfl, rfl⟩ := cmpD_some (show cmpD _ x y = some r from e)
    exact op_gt pins s σ H v w a b Q I ha hb ⟨i, j, hx.int, hy.int, q.fz R0 rfl⟩
  | GtE =>
    obtain ⟨i, j, rfl, rfl, rfl⟩ := cmpD_some (show cmpD _ x y = some r from e)
    exact op_ge pins s σ H v w a b Q I ha hb ⟨i, j, hx.int, hy.int, q.fz R0 rfl⟩
  | Is => exact is_ok I R0 ha hb hx hy e q
  | IsNot => exact isn_ok I R0 ha hb hx hy e q
  | In => exact in_ok hu I R0 ha hb hx hy e q
  | NotIn => exact notin_ok hu I R0 ha hb hx hy e q
end
end Tk

/-! Tk, part 7: places, slices, built-in calls, truth upon values; all operations as readings. -/
namespace Tk
open PySem PySem.Spec PyProof.Rows L2

section
variable {X : Cx} {pins : List (Addr × Obj)} {s : Shared} {σ τ : L2.St} {H : Hp} {Q : VK} {G : Hp} {g : Gh} {en : En} {r : R} {x y : D} {v w : V} {a b : Value}
/-- operands that are used now -/
def rOp2 (K : PySem.W.Frag) (mg : Str → Option Value) (o : Op) : R2 := fun v w H Q => ∃ (G : Hp) (g : Gh) (τ : L2.St) (en : En) (x y : D) (r : R), REn K mg G g H τ en ∧ OpV K mg g H v x ∧ OpV K mg g H w y ∧ app o [x, y] = some r ∧ Rd K mg G g τ en r Q
def rOp1 (K : PySem.W.Frag) (mg : Str → Option Value) (o : Op) : V → Hp → VK → Prop := fun v H Q => ∃ (G : Hp) (g : Gh) (τ : L2.St) (en : En) (x : D) (r : R), REn K mg G g H τ en ∧ OpV K mg g H v x ∧ app o [x] = some r ∧ Rd K mg G g τ en r Q
def OpVs (K : PySem.W.Frag) (mg : Str → Option Value) (g : Gh) (H : Hp) : List V → List D → Prop
  | [], [] => True
  | v :: vs, d :: ds => OpV K mg g H v d ∧ OpVs K mg g H vs ds
  | _, _ => False
def rOpN (K : PySem.W.Frag) (mg : Str → Option Value) (o : Op) : List V → Hp → VK → Prop := fun vs H Q => ∃ (G : Hp) (g : Gh) (τ : L2.St) (en : En) (xs : List D) (r : R), REn K mg G g H τ en ∧ OpVs K mg g H vs xs ∧ app o xs = some r ∧ Rd K mg G g τ en r Q
theorem opR_bin {op : Operator} {o : Op} (ho : cBin op = some o) : OpR X (binaryOp op) (rOp2 X.K X.mg o) := fun pins s σ H v w a b Q I ha hb ⟨_, _, _, _, _, _, _, R0, hx, hy, e, q⟩ => bin_ok ho I R0 ha hb hx hy e q
theorem opR_cmp (hu : X.A.units + 200 < cLine) (op : CmpOp) : OpR X (compareOp op) (rOp2 X.K X.mg (cCmp op)) := fun pins s σ H v w a b Q I ha hb ⟨_, _, _, _, _, _, _, R0, hx, hy, e, q⟩ => cmp_ok hu op I R0 ha hb hx hy e q
theorem unR_neg : UnR X (unaryOp .USub) (rOp1 X.K X.mg .neg) := fun pins s σ H v a Q I ha ⟨_, _, _, _, _, _, R0, hx, e, q⟩ => neg_ok I R0 ha hx e q
/-! a[i] -/
theorem ixN_lt {n : Nat} {i : Int} {k : Nat} (h : ixN n i = some k) : L2.ixN n i = some k := by rw [← ixN_same]; exact h
theorem dicOf_some {x : D} {kvs : List (D × D)} (e : dicOf x = some kvs) : x = .dic kvs := by
  unfold dicOf at e
  split at e
  · cases e; rfl
  · cases e
theorem ixR (hu : X.A.units + 200 < cLine) : IxR X (rOp2 X.K X.mg .ix) := by
  intro value slice pins s σ H v w a b Q I ha hb ⟨G, g, τ, en, x, y, r, R0, hx, hy, e, q⟩ hs
  have e : ixD x y = some r := e
  unfold ixD at e
  split at e
  · obtain ⟨xs, e1, e⟩ := Option.bind_eq_some_iff.mp e
    obtain ⟨k, e2, e⟩ := Option.bind_eq_some_iff.mp e
    obtain ⟨d, e3, e⟩ := Option.bind_eq_some_iff.mp e
    cases e
    rcases itemsD_some e1 with rfl | rfl
    · obtain ⟨p, vs, rfl, _, s1, r1⟩ := hx.tup R0
      obtain ⟨z, ez, rz⟩ := r1.get e3
      refine ix_tup value slice pins s σ H _ w a b Q I ha hb ⟨p, vs, _, z, rfl, hy.int, s1, ?_, q.fz R0 rz⟩ hs
      unfold atI
      rw [r1.length, ixN_lt e2]
      exact ez
    · obtain ⟨p, vs, rfl, s1, r1⟩ := hx.lst R0
      obtain ⟨z, ez, rz⟩ := r1.get e3
      refine ix_list value slice pins s σ H _ w a b Q I ha hb ⟨p, vs, _, z, rfl, hy.int, SqL.of s1, ?_, q.fz R0 rz⟩ hs
      unfold atI
      rw [r1.length, ixN_lt e2]
      exact ez
  · obtain ⟨kvs, e1, e⟩ := Option.bind_eq_some_iff.mp e
    obtain ⟨hk, e⟩ := guardO_some e
    obtain ⟨d, e2, e⟩ := Option.bind_eq_some_iff.mp e
    cases e
    cases dicOf_some e1
    obtain ⟨b', rfl, rfl, rb⟩ := hy.key R0 hk hb
    obtain ⟨p, o, xs, rfl, hp, B, rs⟩ := hx.dic R0
    cases (show a = Value.ref p from ha)
    have hT : s.TypeIs (.ref p) "dict" := (dict_of I hp B (rs.up R0.fh)).typeIs
    unfold subscriptTail
    refine wpAny_bind ?_
    rw [getitemInPython_of_ne hT.not_modules]
    refine wpAny_bind (wpAny_specialOf hT PySem.F.slot_dict_getitem.lookup ?_)
    have fin : wpAny (model X.prog X.w) X.A (subscripted slice false (.ref p) (.ref b')) (fun r' s₃ => wpAny (model X.prog X.w) X.A (letTemporaryGo value (.ref p) r' >>= fun _ => pure r') (EP X pins σ Q) X.xe s₃) X.xe s := by
      rw [hs]
      refine wpAny_operating (wpAny_mono (dic_ix (Q' := fun u s₃ => ∃ v, L2.Inv X pins σ H s₃ ∧ RelV v u ∧ Rep X.K X.mg g.am g.F d v) (E := X.xe) (room_of hu) I hp B R0.fh rs hk rb e2 fun u v s' I' r1 r2 => ⟨v, I', r1, r2⟩) (fun u s₃ ⟨v, I', r1, r2⟩ => wpAny_bind (wpAny_letTemporaryGo (wpAny_pure ⟨v, H, I', r1, q.fz R0 r2⟩))) fun _ _ x => x)
    first
      | exact wpAny_pure (wpAny_bind fin)
      | exact wpAny_bind (wpAny_pure (wpAny_bind fin))
      | exact wpAny_bind fin
  · cases e
/-! slices -/
/-- a slice's part, and whether it is there -/
def cutD (x : D) (lo hi : Option Int) : Option R := match x with
  | .tup xs => fz (.tup (cutL xs lo hi))
  | .lst xs => ow (.lst (cutL xs lo hi))
  | .frl xs => ow (.lst (cutL xs lo hi))
  | _ => none
def rCut (K : PySem.W.Frag) (mg : Str → Option Value) : V → Option Int → Option Int → Hp → VK → Prop := fun v lo hi H Q => ∃ (G : Hp) (g : Gh) (τ : L2.St) (en : En) (x : D) (r : R), REn K mg G g H τ en ∧ OpV K mg g H v x ∧ cutD x lo hi = some r ∧ Rd K mg G g τ en r Q
theorem slR : SlR X (rCut X.K X.mg) := by
  intro pins s σ H v a vl vu lo hi sl Q I ha hs pl pu ⟨G, g, τ, en, x, r, R0, hx, e, q⟩
  unfold cutD at e
  split at e
  · cases e
    obtain ⟨p, vs, rfl, f1, s1, r1⟩ := hx.tup R0
    refine sl_tupA pins s σ H _ a vl vu lo hi sl Q I ha hs pl pu ⟨p, vs, rfl, s1, fun z => q.fz R0 ⟨p, vs, rfl, f1, ?_⟩, fun _ p' hp => q.tp R0 (r1.cut lo hi) p' hp⟩
    have z' : cutV vs lo hi = vs := by
      unfold cutV
      rw [z.1, z.2]
      simp
    have := r1.cut lo hi
    rw [z'] at this
    exact this
  · cases e
    obtain ⟨p, vs, rfl, s1, r1⟩ := hx.lst R0
    exact sl_list pins s σ H _ a vl vu lo hi sl Q I ha hs pl pu ⟨p, vs, rfl, SqL.of s1, fun p' hp => q.ow R0 (r1.cut lo hi) p' hp⟩
  · cases e
    obtain ⟨p, vs, rfl, s1, r1⟩ := hx.rep fun xs z => by cases z
    exact sl_list pins s σ H _ a vl vu lo hi sl Q I ha hs pl pu ⟨p, vs, rfl, R0.fh.seq s1, fun p' hp => q.ow R0 (r1.cut lo hi) p' hp⟩
  · cases e
theorem slcD_cut {lo hi : Bool} {es : List D} {r : R} (e : slcD lo hi (x :: es) = some r) : ∃ l h es1 es2, cutO lo es = some (l, es1) ∧ cutO hi es1 = some (h, es2) ∧ es2 = [] ∧ cutD x l h = some r := by
  unfold slcD at e
  split at e
  · rename_i xs es' heq
    cases heq
    obtain ⟨p, e1, e⟩ := Option.bind_eq_some_iff.mp e
    obtain ⟨p2, e2, e⟩ := Option.bind_eq_some_iff.mp e
    obtain ⟨h1, e⟩ := guardO_some e
    exact ⟨p.1, p2.1, p.2, p2.2, e1, e2, List.isEmpty_iff.mp h1, e⟩
  · rename_i xs es' heq
    cases heq
    obtain ⟨p, e1, e⟩ := Option.bind_eq_some_iff.mp e
    obtain ⟨p2, e2, e⟩ := Option.bind_eq_some_iff.mp e
    obtain ⟨h1, e⟩ := guardO_some e
    exact ⟨p.1, p2.1, p.2, p2.2, e1, e2, List.isEmpty_iff.mp h1, e⟩
  · rename_i xs es' heq
    cases heq
    obtain ⟨p, e1, e⟩ := Option.bind_eq_some_iff.mp e
    obtain ⟨p2, e2, e⟩ := Option.bind_eq_some_iff.mp e
    obtain ⟨h1, e⟩ := guardO_some e
    exact ⟨p.1, p2.1, p.2, p2.2, e1, e2, List.isEmpty_iff.mp h1, e⟩
  · cases e
/-! built-in calls -/
theorem OpVs.one {vs : List V} {d : D} {K : PySem.W.Frag} {mg : Str → Option Value} (h : OpVs K mg g H vs [d]) : ∃ v, vs = [v] ∧ OpV K mg g H v d := by
  match vs, h with
  | [v], h => exact ⟨v, rfl, h.1⟩
theorem OpVs.two {vs : List V} {d e : D} {K : PySem.W.Frag} {mg : Str → Option Value} (h : OpVs K mg g H vs [d, e]) : ∃ v w, vs = [v, w] ∧ OpV K mg g H v d ∧ OpV K mg g H w e := by
  match vs, h with
  | [v, w], h => exact ⟨v, w, rfl, h.1, h.2.1⟩
theorem len_ok (hx : OpV X.K X.mg g H v x) (us : List Value) (hv : Vals [v] us) (I : Inv X pins σ H s) (R0 : REn X.K X.mg G g H τ en) (e : lenD x = some r) (q : Rd X.K X.mg G g τ en r Q) : wpAny (model X.prog X.w) X.A (call (.builtin "len") us) (EP X pins σ Q) X.xe s := by
  unfold lenD at e
  split at e
  · cases e
    obtain ⟨p, vs, rfl, _, s1, r1⟩ := hx.tup R0
    refine call_len_seq pins s σ H _ us Q I hv ⟨p, vs, rfl, .inr s1, ?_⟩
    rw [r1.length]
    exact q.fz R0 rfl
  · cases e
    obtain ⟨p, vs, rfl, s1, r1⟩ := hx.lst R0
    refine call_len_seq pins s σ H _ us Q I hv ⟨p, vs, rfl, .inl (SqL.of s1), ?_⟩
    rw [r1.length]
    exact q.fz R0 rfl
  · obtain ⟨h1, e⟩ := guardO_some e
    cases e
    exact call_len_str pins s σ H _ us Q I hv ⟨_, by rw [hx.str], by rw [← big_line]; exact of_decide_eq_true h1, q.fz R0 rfl⟩
  · cases e
    obtain ⟨p, o, xs, rfl, hp, B, rs⟩ := hx.dic R0
    obtain ⟨u, rfl, ru⟩ := vals1 hv
    cases (show u = Value.ref p from ru)
    have dd := dict_of I hp B (rs.up R0.fh)
    have hz := B.sz
    have hl := rs.length
    rw [sizeLine_eq] at hz
    refine PyProof.Rows.call_len_slot (n := xs.length) dd.typeIs PySem.F.slot_dict_len (fun Q' hq => len_keyed (kvs := pairsH xs) B.ns ⟨xs, dd, rfl⟩ (by rw [pairsH_length]; exact hq)) (by omega) (by omega) ⟨.int _, H, I.tok _, ⟨_, rfl⟩, ?_⟩
    rw [hl]
    exact q.fz R0 rfl
  · cases e
theorem tup_ok (hx : OpV X.K X.mg g H v x) (us : List Value) (hv : Vals [v] us) (I : Inv X pins σ H s) (R0 : REn X.K X.mg G g H τ en) (e : tupD x = some r) (q : Rd X.K X.mg G g τ en r Q) : wpAny (model X.prog X.w) X.A (call (.type "tuple") us) (EP X pins σ Q) X.xe s := by
  obtain ⟨xs, e1, e⟩ := Option.bind_eq_some_iff.mp e
  cases e
  rcases itemsD_some e1 with rfl | rfl
  · obtain ⟨p, vs, rfl, f1, s1, r1⟩ := hx.tup R0
    exact call_tuple_of pins s σ H _ us Q I hv ⟨p, vs, rfl, .inr ⟨s1, q.fz R0 ⟨p, vs, rfl, f1, r1⟩⟩⟩
  · obtain ⟨p, vs, rfl, s1, r1⟩ := hx.lst R0
    exact call_tuple_of pins s σ H _ us Q I hv ⟨p, vs, rfl, .inl ⟨SqL.of s1, fun l hl => q.tp R0 r1 l hl⟩⟩
theorem lst_ok (hc : X.calm = true) (hx : OpV X.K X.mg g H v x) (us : List Value) (hv : Vals [v] us) (I : Inv X pins σ H s) (R0 : REn X.K X.mg G g H τ en) (e : lstD x = some r) (q : Rd X.K X.mg G g τ en r Q) : wpAny (model X.prog X.w) X.A (call (.type "list") us) (EP X pins σ Q) X.xe s := by
  unfold lstD at e
  split at e
  · cases e
    obtain ⟨p, o, xs, rfl, hp, B, rs⟩ := hx.dic R0
    exact dic_list hc I hv hp B fun p' hp' => q.ow R0 rs.reps p' hp'
  obtain ⟨xs, e1, e⟩ := Option.bind_eq_some_iff.mp e
  cases e
  rcases itemsD_some e1 with rfl | rfl
  · obtain ⟨p, vs, rfl, f1, s1, r1⟩ := hx.tup R0
    exact call_list_of pins s σ H _ us Q I hv ⟨p, vs, rfl, .inr s1, fun l hl => q.ow R0 r1 l hl⟩
  · obtain ⟨p, vs, rfl, s1, r1⟩ := hx.lst R0
    exact call_list_of pins s σ H _ us Q I hv ⟨p, vs, rfl, .inl (SqL.of s1), fun l hl => q.ow R0 r1 l hl⟩
theorem repr_ok (hg : X.A.guards = some []) (hu : X.A.units + 200 < cLine) (hx : OpV X.K X.mg g H v x) (us : List Value) (hv : Vals [v] us) (I : Inv X pins σ H s) (R0 : REn X.K X.mg G g H τ en) (e : app1 .repr x = some r) (q : Rd X.K X.mg G g τ en r Q) :
    wpAny (model X.prog X.w) X.A (call (.builtin "repr") us) (EP X pins σ Q) X.xe s := by
  obtain ⟨z, e1, e⟩ := Option.bind_eq_some_iff.mp e
  cases e
  unfold reprD at e1
  split at e1
  · rename_i h
    cases e1
    simp only [Bool.and_eq_true, decide_eq_true_eq] at h
    obtain ⟨⟨⟨px, sx⟩, dx⟩, lx⟩ := h
    obtain ⟨u, rfl, ru⟩ := vals1 hv
    have lx : (toPy x).shown.length ≤ sizeLine := by rw [← big_line]; exact lx
    have fin : ∀ (h' : Heap) (t : Tok) (tk : Nat), (∀ b o, s.heap.get? b = some o → h'.get? b = some o) → EP X pins σ Q (.str (toPy x).shown t) { s with heap := h', toks := tk } := fun h' t tk hk => ⟨.str _, H, I.kept hk, ⟨t, rfl⟩, q.fz R0 rfl⟩
    have scalar : ∀ (hnl : (∀ xs, x ≠ .lst xs) ∧ ∀ xs, x ≠ .tup xs), wpAny (model X.prog X.w) X.A (call (.builtin "repr") [u]) (EP X pins σ Q) X.xe s := fun hnl => by
      have hr := hx.rep hnl.1 fun kvs z => by subst z; simp [plain] at px
      cases x with
      | non =>
        cases (show v = .non from hr)
        cases ru
        exact PySem.P.repr_of_none ⟨.str _, H, I.tok _, ⟨_, rfl⟩, q.fz R0 rfl⟩
      | bl b =>
        cases (show v = .bl b from hr)
        cases ru
        refine PySem.P.repr_of_bool ⟨.str _, H, I.tok _, ⟨_, rfl⟩, ?_⟩
        exact q.fz R0 rfl
      | int i =>
        cases (show v = .int i from hr)
        obtain ⟨t, rfl⟩ := ru
        exact PySem.P.repr_of_int (by simpa [shows] using sx) ⟨.str _, H, I.tok _, ⟨_, rfl⟩, q.fz R0 rfl⟩
      | str z =>
        cases (show v = .str z from hr)
        obtain ⟨t, rfl⟩ := ru
        exact PySem.P.repr_of_str ⟨.str _, H, I.tok _, ⟨_, rfl⟩, q.fz R0 rfl⟩ lx
      | tup xs => exact absurd rfl (hnl.2 xs)
      | lst xs => exact absurd rfl (hnl.1 xs)
      | frl _ => simp [plain] at px
      | obj _ => simp [plain] at px
      | fn _ => simp [plain] at px
      | dic _ => simp [plain] at px
      | set _ => simp [plain] at px
    have deep : (∃ p, v = .ref p) → wpAny (model X.prog X.w) X.A (call (.builtin "repr") [u]) (EP X pins σ Q) X.xe s := fun ⟨p, ep⟩ => by
      subst ep
      obtain ⟨as, rd⟩ := Inv.reads I R0 ru hx px
      cases ru
      exact repr_of_reads' rd (shows_toPy x sx) (PyData.noDict_hsm (PyData.hasDict_of_canLay _ (lay_toPy x px))) hg (by have := depth_toPy x px; omega) (fun _ _ e => e) (fun h' t tk hk => fin h' t tk hk) lx
    cases x with
    | tup xs =>
      obtain ⟨p, vs, ep, _⟩ := hx.tup R0
      exact deep ⟨p, ep⟩
    | lst xs =>
      obtain ⟨p, vs, ep, _⟩ := hx.lst R0
      exact deep ⟨p, ep⟩
    | _ => exact scalar ⟨fun _ z => (by cases z), fun _ z => (by cases z)⟩
  · cases e1
theorem int_ok (hx : OpV X.K X.mg g H v x) (us : List Value) (hv : Vals [v] us) (I : Inv X pins σ H s) (R0 : REn X.K X.mg G g H τ en) (e : intD x = some r) (q : Rd X.K X.mg G g τ en r Q) : wpAny (model X.prog X.w) X.A (call (.type "int") us) (EP X pins σ Q) X.xe s := by
  unfold intD at e
  split at e
  · cases e
    exact call_int1 pins s σ H _ us Q I hv (.inl ⟨_, by rw [hx.int], q.fz R0 rfl⟩)
  · cases e
    exact call_int1 pins s σ H _ us Q I hv (.inr ⟨_, by rw [hx.bl], q.fz R0 rfl⟩)
  · cases e
theorem lsts_some {xs : List D} (e : lsts x = some xs) : x = .lst xs := by
  unfold lsts at e
  split at e
  · cases e; rfl
  · cases e
theorem intsOf_reps {K : PySem.W.Frag} {mg : Str → Option Value} {am : List Addr} {F : Hp} : ∀ {xs : List D} {is : List Int} {vs : List V}, intsOf xs = some is → Reps K mg am F xs vs → vs = is.map V.int
  | [], is, vs, e, h => by
    cases e
    exact h
  | x :: xs, is, vs, e, h => by
    obtain ⟨v, r, rfl, h1, h2⟩ := h
    cases x with
    | int i =>
      obtain ⟨js, e1, e2⟩ := Option.map_eq_some_iff.mp (show (intsOf xs).map (i :: ·) = some is from e)
      subst e2
      rw [intsOf_reps e1 h2, show v = .int i from h1]
      rfl
    | _ => cases e
theorem boolsOf_reps {K : PySem.W.Frag} {mg : Str → Option Value} {am : List Addr} {F : Hp} : ∀ {xs : List D} {is : List Bool} {vs : List V}, boolsOf xs = some is → Reps K mg am F xs vs → vs = is.map V.bl
  | [], is, vs, e, h => by
    cases e
    exact h
  | x :: xs, is, vs, e, h => by
    obtain ⟨v, r, rfl, h1, h2⟩ := h
    cases x with
    | bl i =>
      obtain ⟨js, e1, e2⟩ := Option.map_eq_some_iff.mp (show (boolsOf xs).map (i :: ·) = some is from e)
      subst e2
      rw [boolsOf_reps e1 h2, show v = .bl i from h1]
      rfl
    | _ => cases e
theorem minI_spec : ∀ (m : Int) (xs : List Int), minI m xs ∈ m :: xs ∧ ∀ y ∈ m :: xs, minI m xs ≤ y
  | m, [] => ⟨List.mem_cons_self, fun y hy => by
    have e : y = m := by simpa using hy
    rw [e]
    exact Int.le_refl m⟩
  | m, x :: xs => by
    have e : minI m (x :: xs) = minI (if x < m then x else m) xs := rfl
    by_cases hx : x < m
    · rw [if_pos hx] at e
      rw [e]
      obtain ⟨h1, h2⟩ := minI_spec x xs
      have h3 := h2 x List.mem_cons_self
      refine ⟨List.mem_cons_of_mem _ h1, fun y hy => ?_⟩
      rcases List.mem_cons.mp hy with q | hy
      · rw [q]
        omega
      · exact h2 y hy
    · rw [if_neg hx] at e
      rw [e]
      obtain ⟨h1, h2⟩ := minI_spec m xs
      have h3 := h2 m List.mem_cons_self
      refine ⟨?_, fun y hy => ?_⟩
      · rcases List.mem_cons.mp h1 with h | h
        · rw [h]
          exact List.mem_cons_self
        · exact List.mem_cons_of_mem _ (List.mem_cons_of_mem _ h)
      · rcases List.mem_cons.mp hy with q | hy
        · rw [q]
          exact h3
        · rcases List.mem_cons.mp hy with q | hy
          · rw [q]
            omega
          · exact h2 y (List.mem_cons_of_mem _ hy)
theorem maxI_spec : ∀ (m : Int) (xs : List Int), maxI m xs ∈ m :: xs ∧ ∀ y ∈ m :: xs, y ≤ maxI m xs
  | m, [] => ⟨List.mem_cons_self, fun y hy => by
    have e : y = m := by simpa using hy
    rw [e]
    exact Int.le_refl m⟩
  | m, x :: xs => by
    have e : maxI m (x :: xs) = maxI (if m < x then x else m) xs := rfl
    by_cases hx : m < x
    · rw [if_pos hx] at e
      rw [e]
      obtain ⟨h1, h2⟩ := maxI_spec x xs
      have h3 := h2 x List.mem_cons_self
      refine ⟨List.mem_cons_of_mem _ h1, fun y hy => ?_⟩
      rcases List.mem_cons.mp hy with q | hy
      · rw [q]
        omega
      · exact h2 y hy
    · rw [if_neg hx] at e
      rw [e]
      obtain ⟨h1, h2⟩ := maxI_spec m xs
      have h3 := h2 m List.mem_cons_self
      refine ⟨?_, fun y hy => ?_⟩
      · rcases List.mem_cons.mp h1 with h | h
        · rw [h]
          exact List.mem_cons_self
        · exact List.mem_cons_of_mem _ (List.mem_cons_of_mem _ h)
      · rcases List.mem_cons.mp hy with q | hy
        · rw [q]
          exact h3
        · rcases List.mem_cons.mp hy with q | hy
          · rw [q]
            omega
          · exact h2 y (List.mem_cons_of_mem _ hy)
theorem sum_ok (hc : X.calm = true) (hx : OpV X.K X.mg g H v x) (us : List Value) (hv : Vals [v] us) (I : Inv X pins σ H s) (R0 : REn X.K X.mg G g H τ en) (e : sumD x = some r) (q : Rd X.K X.mg G g τ en r Q) : wpAny (model X.prog X.w) X.A (call (.builtin "sum") us) (EP X pins σ Q) X.xe s := by
  obtain ⟨xs, e1, e⟩ := Option.bind_eq_some_iff.mp e
  obtain ⟨is, e2, e⟩ := Option.bind_eq_some_iff.mp e
  cases e
  cases lsts_some e1
  obtain ⟨p, vs, rfl, s1, r1⟩ := hx.lst R0
  cases intsOf_reps e2 r1
  exact cr_sum hc pins s σ H _ us Q I hv ⟨p, is, rfl, SqL.of s1, q.fz R0 rfl⟩
theorem min_ok (hc : X.calm = true) (hx : OpV X.K X.mg g H v x) (us : List Value) (hv : Vals [v] us) (I : Inv X pins σ H s) (R0 : REn X.K X.mg G g H τ en) (e : app1 .min x = some r) (q : Rd X.K X.mg G g τ en r Q) : wpAny (model X.prog X.w) X.A (call (.builtin "min") us) (EP X pins σ Q) X.xe s := by
  obtain ⟨xs, e1, e⟩ := Option.bind_eq_some_iff.mp e
  obtain ⟨is, e2, e⟩ := Option.bind_eq_some_iff.mp e
  cases lsts_some e1
  obtain ⟨p, vs, rfl, s1, r1⟩ := hx.lst R0
  cases intsOf_reps e2 r1
  cases is with
  | nil => cases e
  | cons i is =>
    cases e
    obtain ⟨h1, h2⟩ := minI_spec i is
    refine cr_min hc pins s σ H _ us Q I hv ⟨p, i :: is, rfl, SqL.of s1, by simp, fun m hm hle => ?_⟩
    rw [show m = minI i is from Int.le_antisymm (hle _ h1) (h2 _ hm)]
    exact q.fz R0 rfl
theorem max_ok (hc : X.calm = true) (hx : OpV X.K X.mg g H v x) (us : List Value) (hv : Vals [v] us) (I : Inv X pins σ H s) (R0 : REn X.K X.mg G g H τ en) (e : app1 .max x = some r) (q : Rd X.K X.mg G g τ en r Q) : wpAny (model X.prog X.w) X.A (call (.builtin "max") us) (EP X pins σ Q) X.xe s := by
  obtain ⟨xs, e1, e⟩ := Option.bind_eq_some_iff.mp e
  obtain ⟨is, e2, e⟩ := Option.bind_eq_some_iff.mp e
  cases lsts_some e1
  obtain ⟨p, vs, rfl, s1, r1⟩ := hx.lst R0
  cases intsOf_reps e2 r1
  cases is with
  | nil => cases e
  | cons i is =>
    cases e
    obtain ⟨h1, h2⟩ := maxI_spec i is
    refine cr_max hc pins s σ H _ us Q I hv ⟨p, i :: is, rfl, SqL.of s1, by simp, fun m hm hle => ?_⟩
    rw [show m = maxI i is from Int.le_antisymm (h2 _ hm) (hle _ h1)]
    exact q.fz R0 rfl
theorem min2_ok (hc : X.calm = true) (hx : OpV X.K X.mg g H v x) (hy : OpV X.K X.mg g H w y) (us : List Value) (hv : Vals [v, w] us) (I : Inv X pins σ H s) (R0 : REn X.K X.mg G g H τ en) (e : min2 x y = some r) (q : Rd X.K X.mg G g τ en r Q) : wpAny (model X.prog X.w) X.A (call (.builtin "min") us) (EP X pins σ Q) X.xe s := by
  unfold min2 at e
  split at e
  · cases e
    exact call_min2 hc pins s σ H _ us Q I hv ⟨_, _, by rw [hx.int, hy.int], q.fz R0 rfl⟩
  · cases e
theorem max2_ok (hc : X.calm = true) (hx : OpV X.K X.mg g H v x) (hy : OpV X.K X.mg g H w y) (us : List Value) (hv : Vals [v, w] us) (I : Inv X pins σ H s) (R0 : REn X.K X.mg G g H τ en) (e : max2 x y = some r) (q : Rd X.K X.mg G g τ en r Q) : wpAny (model X.prog X.w) X.A (call (.builtin "max") us) (EP X pins σ Q) X.xe s := by
  unfold max2 at e
  split at e
  · cases e
    exact call_max2 hc pins s σ H _ us Q I hv ⟨_, _, by rw [hx.int, hy.int], q.fz R0 rfl⟩
  · cases e
theorem all_ok (hc : X.calm = true) (hx : OpV X.K X.mg g H v x) (us : List Value) (hv : Vals [v] us) (I : Inv X pins σ H s) (R0 : REn X.K X.mg G g H τ en) (e : allD x = some r) (q : Rd X.K X.mg G g τ en r Q) : wpAny (model X.prog X.w) X.A (call (.builtin "all") us) (EP X pins σ Q) X.xe s := by
  obtain ⟨xs, e1, e⟩ := Option.bind_eq_some_iff.mp e
  obtain ⟨is, e2, e⟩ := Option.bind_eq_some_iff.mp e
  cases e
  cases lsts_some e1
  obtain ⟨p, vs, rfl, s1, r1⟩ := hx.lst R0
  cases boolsOf_reps e2 r1
  exact cr_all hc pins s σ H _ us Q I hv ⟨p, is, rfl, SqL.of s1, q.fz R0 rfl⟩
theorem any_ok (hc : X.calm = true) (hx : OpV X.K X.mg g H v x) (us : List Value) (hv : Vals [v] us) (I : Inv X pins σ H s) (R0 : REn X.K X.mg G g H τ en) (e : anyD x = some r) (q : Rd X.K X.mg G g τ en r Q) : wpAny (model X.prog X.w) X.A (call (.builtin "any") us) (EP X pins σ Q) X.xe s := by
  obtain ⟨xs, e1, e⟩ := Option.bind_eq_some_iff.mp e
  obtain ⟨is, e2, e⟩ := Option.bind_eq_some_iff.mp e
  cases e
  cases lsts_some e1
  obtain ⟨p, vs, rfl, s1, r1⟩ := hx.lst R0
  cases boolsOf_reps e2 r1
  exact cr_any hc pins s σ H _ us Q I hv ⟨p, is, rfl, SqL.of s1, q.fz R0 rfl⟩
theorem abs_ok (hx : OpV X.K X.mg g H v x) (us : List Value) (hv : Vals [v] us) (I : Inv X pins σ H s) (R0 : REn X.K X.mg G g H τ en) (e : absD x = some r) (q : Rd X.K X.mg G g τ en r Q) : wpAny (model X.prog X.w) X.A (call (.builtin "abs") us) (EP X pins σ Q) X.xe s := by
  unfold absD at e
  split at e
  · cases e
    exact call_abs pins s σ H _ us Q I hv ⟨_, by rw [hx.int], q.fz R0 rfl⟩
  · cases e
end
end Tk

/-! Tk, sets of tuples of ints of any size up to a thousand, part 1: the table. -/
namespace Tk
open PySem PySem.Spec PyProof.Rows L2
/-! ### a full round: every slot is met -/
/-- the slots that f steps from x meet, as bits -/
def rndBits (m : Nat) : Nat → Nat → Nat → Nat
  | 0, _, acc => acc
  | f + 1, x, acc => rndBits m f ((x * 5 + 1) % (m + 1)) (acc ||| (1 <<< x))
theorem lcg_front (m x : Nat) : ∀ b, lcgI m ((x * 5 + 1) % (m + 1)) b = lcgI m x (b + 1)
  | 0 => rfl
  | b + 1 => by
    show (lcgI m ((x * 5 + 1) % (m + 1)) b * 5 + 1) % (m + 1) = (lcgI m x (b + 1) * 5 + 1) % (m + 1)
    rw [lcg_front m x b]
theorem rnd_bit (m j : Nat) : ∀ f x acc, (rndBits m f x acc).testBit j = true → acc.testBit j = true ∨ ∃ b, b < f ∧ lcgI m x b = j
  | 0, x, acc, h => .inl h
  | f + 1, x, acc, h => by
    rcases rnd_bit m j f _ _ h with z | ⟨b, hb, e⟩
    · rw [Nat.testBit_or, Bool.or_eq_true] at z
      rcases z with z | z
      · exact .inl z
      · refine .inr ⟨0, Nat.succ_pos _, ?_⟩
        rw [Nat.one_shiftLeft, Nat.testBit_two_pow] at z
        exact of_decide_eq_true z
    · exact .inr ⟨b + 1, Nat.succ_lt_succ hb, by rw [← e, lcg_front]⟩
/-- a mask whose round is full -/
structure Msk (m : Nat) : Prop where
  all : ∀ i j, i ≤ m → j ≤ m → ∃ k, k ≤ m ∧ lcgI m i k = j
  odd : m % 2 = 1
  least : 7 ≤ m
  most : m ≤ 2047
theorem lcg_at (m : Nat) : ∀ k, lcgI m 0 k = lcgN m k
  | 0 => rfl
  | k + 1 => by
    show (lcgI m 0 k * 5 + 1) % (m + 1) = (lcgN m k * 5 + 1) % (m + 1)
    rw [lcg_at m k]
theorem Msk.by_bits {m : Nat} (h : rndBits m (m + 1) 0 0 = 2 ^ (m + 1) - 1) (r : lcgI m 0 (m + 1) = 0) (o : m % 2 = 1) (l : 7 ≤ m) (b : m ≤ 2047) : Msk m := by
  have hit : ∀ j, j ≤ m → ∃ k, k ≤ m ∧ lcgN m k = j := fun j hj => by
    have t : (rndBits m (m + 1) 0 0).testBit j = true := by
      rw [h, Nat.testBit_two_pow_sub_one]
      exact decide_eq_true (by omega)
    rcases rnd_bit m j _ _ _ t with z | ⟨k, hk, e⟩
    · rw [Nat.zero_testBit] at z
      cases z
    · exact ⟨k, by omega, by rw [← lcg_at]; exact e⟩
  have again : ∀ k, lcgN m (m + 1 + k) = lcgN m k := fun k => by
    induction k with
    | zero => rw [← lcg_at]; exact r
    | succ k ih =>
      show (lcgN m (m + 1 + k) * 5 + 1) % (m + 1) = (lcgN m k * 5 + 1) % (m + 1)
      rw [ih]
  refine ⟨fun i j hi hj => ?_, o, l, b⟩
  obtain ⟨x, hx, rfl⟩ := hit i hi
  obtain ⟨y, hy, rfl⟩ := hit j hj
  by_cases c : x ≤ y
  · exact ⟨y - x, by omega, by rw [lcgN_add]; congr 1; omega⟩
  · exact ⟨m + 1 + y - x, by omega, by rw [lcgN_add, ← again y]; congr 1; omega⟩
theorem msk7 : Msk 7 := .by_bits (by decide +kernel) (by decide +kernel) rfl (by decide) (by decide)
theorem msk31 : Msk 31 := .by_bits (by decide +kernel) (by decide +kernel) rfl (by decide) (by decide)
theorem msk127 : Msk 127 := .by_bits (by decide +kernel) (by decide +kernel) rfl (by decide) (by decide)
theorem msk511 : Msk 511 := .by_bits (by decide +kernel) (by decide +kernel) rfl (by decide) (by decide)
theorem msk2047 : Msk 2047 := .by_bits (by decide +kernel) (by decide +kernel) rfl (by decide) (by decide)
/-- some run begins at the slot soon enough -/
theorem Msk.runs {m : Nat} (M : Msk m) (h : Int) {j : Nat} (hj : j ≤ m) : ∃ n, n ≤ m + 12 ∧ runI m (SetTable.bits h) n = j := by
  obtain ⟨k, hk, e⟩ := M.all _ j (runI_le m (SetTable.bits h) 12) hj
  refine ⟨12 + k, by omega, ?_⟩
  rw [runI_tail (bits_lt h), e]
theorem Msk.meets {m : Nat} (M : Msk m) (h : Int) {j : Nat} (hj : j ≤ m) : ∃ k, k < 10 * SetTable.turns m ∧ way m h k = j := by
  obtain ⟨n, hn, e⟩ := M.runs h hj
  obtain ⟨k, hk, q⟩ := run_nth m (SetTable.bits h) n
  refine ⟨k, ?_, (congrArg SetTable.Probe.j q).trans e⟩
  unfold SetTable.turns
  omega
theorem way_in {m : Nat} {h : Int} {k : Nat} : way m h k ≤ m := by
  have hi : SetTable.bits h % (m + 1) ≤ m := Nat.le_of_lt_succ (Nat.mod_lt _ (Nat.succ_pos _))
  have r := runEnd_bd hi
  have q := nth_in (m := m) k (runAt m (SetTable.bits h % (m + 1)) (SetTable.bits h)) (show SetTable.bits h % (m + 1) + (SetTable.runEnd m (SetTable.bits h % (m + 1)) - SetTable.bits h % (m + 1)) ≤ m by omega)
  exact Nat.le_trans (Nat.le_add_right _ _) q
/-! ### the table -/
/-- every entry is found again by its hash: the slots that its way passes first are taken -/
structure Tab (t : SetTable) (hs : List Int) : Prop where
  up : Ris t.place.toList
  nod : t.dummies = #[]
  many : t.place.size = hs.length
  msk : Msk t.mask
  within : ∀ x ∈ t.place.toList, x ≤ t.mask
  found : ∀ (i : Nat) (h : Int) (j : Nat), hs[i]? = some h → t.place.toList[i]? = some j → ∃ k, way t.mask h k = j ∧ ∀ q, q < k → way t.mask h q ∈ t.place.toList
section
variable {t : SetTable} {hs : List Int}
theorem Tab.len (T : Tab t hs) : t.place.toList.length = hs.length := by rw [Array.length_toList, T.many]
/-- where a search that finds nothing ends -/
theorem Tab.gap (T : Tab t hs) (hl : hs.length ≤ t.mask) (h : Int) : ∃ K, K < 10 * SetTable.turns t.mask ∧ way t.mask h K ∉ t.place.toList ∧ ∀ k, k < K → way t.mask h k ∈ t.place.toList := by
  obtain ⟨j, hj, hn⟩ := st_missing t.place.toList (t.mask + 1) (by rw [T.len]; omega)
  obtain ⟨k, hk, e⟩ := T.msk.meets h (Nat.le_of_lt_succ hj)
  obtain ⟨K, h1, h2, h3⟩ := st_least (p := fun k => way t.mask h k ∉ t.place.toList) k (by show way t.mask h k ∉ _; rw [e]; exact hn)
  exact ⟨K, by omega, h2, fun q hq => Classical.byContradiction fun z => h3 q hq z⟩
theorem Tab.ahead (T : Tab t hs) {h : Int} {K i j : Nat} (hK : way t.mask h K ∉ t.place.toList) (hi : hs[i]? = some h) (hj : t.place.toList[i]? = some j) : ∃ k, k < K ∧ way t.mask h k = j := by
  obtain ⟨k, e, hb⟩ := T.found i h j hi hj
  refine ⟨k, Classical.byContradiction fun z => ?_, e⟩
  rcases Nat.lt_or_eq_of_le (Nat.not_lt.mp z) with c | c
  · exact hK (hb K c)
  · subst c
    exact hK (e ▸ List.mem_of_getElem? hj)
/-- one entry more, at the end of its way -/
theorem Tab.add (T : Tab t hs) {h : Int} {K : Nat} (hK : way t.mask h K ∉ t.place.toList) (hb : ∀ k, k < K → way t.mask h k ∈ t.place.toList) {p : Nat} (hp : p = SetTable.below t.place (way t.mask h K)) :
    p ≤ hs.length ∧ Tab (t.put (way t.mask h K)).1 (hs.take p ++ h :: hs.drop p) ∧ (t.put (way t.mask h K)).1.fill = hs.length + 1 := by
  generalize hw : way t.mask h K = j at hK hp ⊢
  obtain ⟨c1, _, _⟩ := below_cut T.up j
  rw [← hp] at c1
  have len := T.len
  have pl : p ≤ t.place.toList.length := by rw [Array.length_toList]; exact c1
  have ph : p ≤ hs.length := by omega
  have new := put_place t j
  rw [← hp] at new
  have size : (t.put j).1.place.size = hs.length + 1 := by rw [← Array.length_toList, new, len_ins _ pl, len]
  have keep : ∀ {x : Nat}, x ∈ t.place.toList → x ∈ (t.put j).1.place.toList := fun hx => by rw [new]; exact mem_ins.2 (.inr hx)
  refine ⟨ph, ⟨ris_insert T.up fun e => hK (List.mem_of_getElem? (by rw [Array.getElem?_toList]; exact e)), put_dm T.nod j, by rw [len_ins _ ph]; exact size, T.msk, fun x hx => ?_, fun i g y h1 h2 => ?_⟩, ?_⟩
  · rw [new] at hx
    rcases mem_ins.1 hx with rfl | z
    · rw [← hw]
      exact way_in
    · exact T.within x z
  · rw [tins_get hs ph] at h1
    rw [new, tins_get _ pl] at h2
    have old : ∀ i', hs[i']? = some g → t.place.toList[i']? = some y → ∃ k, way t.mask g k = y ∧ ∀ q, q < k → way t.mask g q ∈ (t.put j).1.place.toList := fun i' a b => by
      obtain ⟨k, e, z⟩ := T.found i' g y a b
      exact ⟨k, e, fun q hq => keep (z q hq)⟩
    by_cases c : i < p
    · rw [if_pos c] at h1 h2
      exact old i h1 h2
    · rw [if_neg c] at h1 h2
      by_cases d : i = p
      · rw [if_pos d] at h1 h2
        cases h1
        cases h2
        exact ⟨K, hw, fun q hq => keep (hb q hq)⟩
      · rw [if_neg d] at h1 h2
        exact old _ h1 h2
  · show (t.put j).1.place.size + (t.put j).1.dummies.size = _
    rw [size, put_dm T.nod j]
    rfl
end
/-! ### all laid anew -/
section
variable {m : Nat}
/-- a free slot is found, the first one of the way -/
theorem Msk.free (M : Msk m) (owner : Array (Option Nat)) (h : Int) {j : Nat} (hj : j ≤ m) (hf : oAt owner j = none) :
    ∃ K, SetTable.layClean.free m owner (SetTable.turns m) (SetTable.bits h % (m + 1)) (SetTable.bits h) = some (way m h K) ∧ oAt owner (way m h K) = none ∧ ∀ k, k < K → oAt owner (way m h k) ≠ none := by
  obtain ⟨n, hn, e⟩ := M.runs h hj
  have hw : way m h (off m (SetTable.bits h % (m + 1)) (SetTable.bits h) n) = j := by
    have z := congrArg SetTable.Probe.j (nth_off m n (SetTable.bits h % (m + 1)) (SetTable.bits h))
    rw [itL_run] at z
    exact z.trans e
  obtain ⟨K, k1, k2, k3⟩ := st_least (p := fun k => oAt owner (way m h k) = none) _ (hw.symm ▸ hf)
  refine ⟨K, free_spec m owner _ n _ _ K (by unfold SetTable.turns; omega) k1 (fun k hk => ?_) (by rw [show oAt owner (nth m _ K).j = none from k2]; rfl), k2, k3⟩
  rw [← Bool.not_eq_true, Option.isNone_iff_eq_none]
  exact k3 k hk
theorem Msk.seat (M : Msk m) {done : List Int} {owner : Array (Option Nat)} (W : Own m done owner) (hl : done.length ≤ m) (h : Int) :
    ∃ j, SetTable.layClean.free m owner (SetTable.turns m) (SetTable.bits h % (m + 1)) (SetTable.bits h) = some j ∧ Own m (done ++ [h]) (owner.setIfInBounds j (some done.length)) := by
  obtain ⟨taken, ht, hin⟩ := W.ps
  obtain ⟨j0, g0, hn⟩ := st_missing taken (m + 1) (by omega)
  have free0 : oAt owner j0 = none := Classical.byContradiction fun z => hn (hin j0 (Nat.le_of_lt_succ g0) z)
  obtain ⟨K, e1, e2, e3⟩ := M.free owner h (Nat.le_of_lt_succ g0) free0
  generalize hw : way m h K = j at e1 e2
  have jm : j ≤ m := hw ▸ way_in
  have self := oAt_set_self (some done.length) (show j < owner.size by rw [W.sz]; omega)
  have other : ∀ {i : Nat}, i ≠ j → oAt (owner.setIfInBounds j (some done.length)) i = oAt owner i := fun c => oAt_set_ne _ c
  have grow : ∀ {i : Nat}, oAt owner i ≠ none → oAt (owner.setIfInBounds j (some done.length)) i ≠ none := fun {i} hi => by
    by_cases c : i = j
    · rw [c, self]; simp
    · rw [other c]; exact hi
  refine ⟨j, e1, by rw [Array.size_setIfInBounds]; exact W.sz, fun i k hi e => ?_, fun k hk => ?_, j :: taken, by simp [ht], fun i hi e => ?_⟩
  · by_cases c : i = j
    · rw [c, self] at e
      cases e
      exact ⟨h, K, by simp, by rw [c, hw], fun q hq => grow (e3 q hq)⟩
    · rw [other c] at e
      obtain ⟨g, K', a1, a2, a3⟩ := W.at_ i k hi e
      exact ⟨g, K', by rw [List.getElem?_append_left (List.getElem?_eq_some_iff.mp a1).1]; exact a1, a2, fun q hq => grow (a3 q hq)⟩
  · rw [List.length_append, List.length_singleton] at hk
    by_cases c : k = done.length
    · exact ⟨j, jm, by rw [c]; exact self⟩
    · obtain ⟨i, hi, e⟩ := W.all k (by omega)
      refine ⟨i, hi, ?_⟩
      rw [other fun z => by rw [z, e2] at e; cases e]
      exact e
  · by_cases c : i = j
    · simp [c]
    · rw [other c] at e
      exact List.mem_cons_of_mem _ (hin i hi e)
theorem Msk.seats (M : Msk m) : ∀ (rest done : List Int) (owner : Array (Option Nat)), Own m done owner → done.length + rest.length ≤ m →
    ∃ o2, rest.foldl (stepF m) (some (owner, done.length)) = some (o2, (done ++ rest).length) ∧ Own m (done ++ rest) o2
  | [], done, owner, W, _ => ⟨owner, by simp, by simpa using W⟩
  | h :: rest, done, owner, W, hl => by
    rw [List.length_cons] at hl
    obtain ⟨j, e, W'⟩ := M.seat W (by omega) h
    obtain ⟨o2, f, W2⟩ := M.seats rest (done ++ [h]) _ W' (by rw [List.length_append, List.length_singleton]; omega)
    refine ⟨o2, ?_, by simpa using W2⟩
    rw [List.foldl_cons, stepF_some e]
    simpa using f
theorem Msk.laid (M : Msk m) {hs : Array Int} (hn : hs.size ≤ m) : ∃ owner, SetTable.layClean m hs = some owner ∧ Own m hs.toList owner := by
  obtain ⟨o2, f, W⟩ := M.seats hs.toList [] _ (Own.init m) (by simpa using hn)
  refine ⟨o2, ?_, by simpa using W⟩
  rw [layClean_eq]
  have z : ([] : List Int).length = 0 := rfl
  rw [z] at f
  rw [f]
  rfl
/-- the table laid anew with another mask -/
theorem Msk.again (M : Msk m) (t : SetTable) {hs : Array Int} {wanted : Nat} (hw : SetTable.sizeAbove wanted - 1 = m) (hn : hs.size ≤ m) :
    ∃ t' order, t.relaid hs wanted = some (t', order) ∧ order.toList.Perm (List.range hs.size) ∧ Tab t' (order.toList.map fun i => hs.getD i 0) ∧ t'.mask = m ∧ t'.led = t.led ∧ t'.plain = t.plain := by
  obtain ⟨owner, e, W⟩ := M.laid hn
  have hr : t.relaid hs wanted = some (tabOf t m owner, ((liveOf m owner).map (·.2)).toArray) := by
    rw [relaid_eq, hw, e]
    rfl
  have live : ∀ j k, (j, k) ∈ liveOf m owner ↔ j ≤ m ∧ oAt owner j = some k := fun j k => mem_live W.sz
  have rl := ris_live (fun j => owner.getD j none) (List.range (m + 1)) List.pairwise_lt_range
  have up : Ris ((liveOf m owner).map (·.1)) := rl.1
  have below : ∀ x ∈ (liveOf m owner).map (·.1), x ∈ List.range (m + 1) := rl.2
  have nd : ((liveOf m owner).map (·.1)).Nodup := up.imp fun h => Nat.ne_of_lt h
  have every : ∀ k, k < hs.size → k ∈ (liveOf m owner).map (·.2) := fun k hk => by
    obtain ⟨j, b1, b2⟩ := W.all k (by simpa using hk)
    exact List.mem_map.mpr ⟨(j, k), (live j k).2 ⟨b1, b2⟩, rfl⟩
  have len : (liveOf m owner).length = hs.size := by
    obtain ⟨ps, p1, p2⟩ := W.ps
    have a := nat_nodup_len _ ps nd fun x hx => by
      obtain ⟨⟨y, k⟩, hq, rfl⟩ := List.mem_map.mp hx
      obtain ⟨b1, b2⟩ := (live y k).1 hq
      exact p2 y b1 (by rw [b2]; simp)
    have b := nat_nodup_len (List.range hs.size) ((liveOf m owner).map (·.2)) List.nodup_range fun k hk => every k (List.mem_range.mp hk)
    simp only [List.length_map, List.length_range, Array.length_toList] at a b p1
    omega
  refine ⟨_, _, hr, perm_range hs.size _ (by simpa using len) every, ⟨up, rfl, by simp [tabOf], M, fun x hx => Nat.le_of_lt_succ (List.mem_range.mp (below x hx)), fun i h j h1 h2 => ?_⟩, rfl, rfl, rfl⟩
  have h1 : (((liveOf m owner).map (·.2)).map fun i => hs.getD i 0)[i]? = some h := h1
  have h2 : ((liveOf m owner).map (·.1))[i]? = some j := h2
  rw [List.getElem?_map, List.getElem?_map] at h1
  rw [List.getElem?_map] at h2
  obtain ⟨⟨y, k⟩, hq, rfl⟩ := Option.map_eq_some_iff.mp h2
  rw [hq] at h1
  have h1 : hs.getD k 0 = h := Option.some.inj h1
  obtain ⟨b1, b2⟩ := (live y k).1 (List.mem_of_getElem? hq)
  obtain ⟨g, K, a1, a2, a3⟩ := W.at_ y k b1 b2
  have eg : hs.getD k 0 = g := by
    rw [Array.getD_eq_getD_getElem?, ← Array.getElem?_toList, a1]
    rfl
  have eh : g = h := eg.symm.trans h1
  subst eh
  refine ⟨K, a2, fun q hq => ?_⟩
  obtain ⟨k2, z⟩ := Option.ne_none_iff_exists'.mp (a3 q hq)
  exact List.mem_map.mpr ⟨(way m g q, k2), (live _ k2).2 ⟨way_in, z⟩, rfl⟩
end
end Tk

/-! Tk, sets of tuples of ints, part 2: a search, adding, set(list), sorted(set). -/
namespace Tk
open PySem PySem.Spec PyProof.Rows L2
abbrev AK := List (Addr × List Int)
abbrev keysOf (L : AK) : List (List Int) := L.map fun p => p.2
theorem keys_perm {L L' : AK} (pm : L'.Perm L) : (keysOf L).Nodup → (keysOf L').Nodup := (pm.map fun p : Addr × List Int => p.2).nodup_iff.mpr
/-- the set at a: its entries in the table's order -/
structure SetS (P : Program) (w : World) (h : Heap) (a : Addr) (L : AK) (es : Array (Int × Value)) (ep : Nat) (t : SetTable) : Prop where
  obj : ∃ o, h.get? a = some o ∧ o.ExactSet ∧ o.data = .set es ep t
  ent : es.toList = rowsOf P w L
  tab : Tab t (L.map fun p => thash P w p.2)
  dif : (keysOf L).Nodup
  tups : ∀ p ∈ L, IsT P w h p.2 p.1
  pln : t.plain = true
  ldd : w.params.followText "set-order" = true ∨ t.led = true
  low : L.length * 5 < t.mask * 3
  few : L.length ≤ 1200
section
variable {P : Program} {w : World} {A : Around} {E : Value → Shared → Prop} {s : Shared}
variable {a : Addr} {L : AK} {es : Array (Int × Value)} {ep : Nat} {t : SetTable}
theorem ent_size (h : es.toList = rowsOf P w L) : es.size = L.length := by
  have z := congrArg List.length h
  simpa [rowsOf] using z
theorem ent_at (h : es.toList = rowsOf P w L) {i : Nat} {p : Addr × List Int} (hp : L[i]? = some p) : es[i]? = some (thash P w p.2, Value.ref p.1) := by
  rw [← Array.getElem?_toList, h, rowsOf, List.getElem?_map, hp]
  rfl
theorem SetS.size (R : SetS P w s.heap a L es ep t) : es.size = L.length := ent_size R.ent
theorem SetS.fit (R : SetS P w s.heap a L es ep t) : t.fits es.size = true := by
  have z1 := R.tab.many
  have z2 := R.size
  have z3 := R.low
  rw [List.length_map] at z1
  simp only [SetTable.fits, SetTable.fill, R.tab.nod, Bool.and_eq_true, beq_iff_eq, decide_eq_true_eq]
  constructor
  · omega
  · show t.place.size + 0 ≤ t.mask
    omega
theorem SetS.stays (R : SetS P w s.heap a L es ep t) : ¬ t.gaveWay = true := by
  unfold SetTable.gaveWay
  rw [R.tab.msk.odd]
  decide
theorem nodummy (m : Nat) : ∀ (n : Nat) (p : SetTable.Probe), p.dummy = none → (nth m p n).dummy = none
  | 0, _, h => h
  | n + 1, p, h => nodummy m n (adv m p) (by unfold adv; split <;> exact h)
/-- from the c-th slot of the way on -/
theorem SetS.from (R : SetS P w s.heap a L es ep t) {x : Addr} {k : List Int} (hx : IsT P w s.heap k x) (hu : A.units < cLine) {g : Int} (hg : g = thash P w k) {K : Nat} (hKf : K < 10 * SetTable.turns t.mask)
    (hK : way t.mask g K ∉ t.place.toList) (hKb : ∀ c, c < K → way t.mask g c ∈ t.place.toList) {Q : SetFound → Shared → Prop} (hin : k ∈ keysOf L → Q (.there none) s) (hout : k ∉ keysOf L → Q (.free (way t.mask g K) false) s) :
    ∀ (f c : Nat) (stand : Option SetTable.Probe), stand.getD (t.probeStart g) = nth t.mask (runAt t.mask (SetTable.bits g % (t.mask + 1)) (SetTable.bits g)) c → c ≤ K → K - c < f →
      (∀ (i : Nat) (p : Addr × List Int), L[i]? = some p → p.2 = k → ∃ c', c ≤ c' ∧ c' < K ∧ t.place.toList[i]? = some (way t.mask g c')) → wpAny (model P w) A (setSearchFrom a (.ref x) g true f stand) Q E s
  | 0, c, stand, _, _, hf, _ => absurd hf (Nat.not_lt_zero _)
  | f + 1, c, stand, hst, hc, hf, hre => by
    obtain ⟨o, ho, hex, hd⟩ := R.obj
    generalize hp0 : runAt t.mask (SetTable.bits g % (t.mask + 1)) (SetTable.bits g) = p0 at hst
    have hw : ∀ q, (nth t.mask p0 q).j = way t.mask g q := fun q => by rw [← hp0]
    have hsum : ∀ q, nth t.mask (nth t.mask p0 c) q = nth t.mask p0 (c + q) := fun q => (nth_add t.mask c p0 q).symm
    have hat : ∀ (i : Nat) (p : Addr × List Int), L[i]? = some p → (es[i]?.map fun z => z.1).getD 0 = thash P w p.2 := fun i p hp => by rw [ent_at R.ent hp]; rfl
    have spec := go_spec t R.tab.up R.tab.nod (fun i => (es[i]?.map fun z => z.1).getD 0) g (10 * SetTable.turns t.mask) (K - c) (nth t.mask p0 c) (nodummy _ _ _ (by rw [← hp0]; rfl)) (by omega)
      (fun q hq => by rw [hsum, hw]; exact hKb (c + q) (by omega)) (by rw [hsum, hw, Nat.add_sub_cancel' hc]; exact hK)
    simp only [hsum, hw] at spec
    rw [Nat.add_sub_cancel' hc] at spec
    have start : t.probe (fun i => (es[i]?.map fun z => z.1).getD 0) g (stand.getD (t.probeStart g)) = SetTable.probe.go t (fun i => (es[i]?.map fun z => z.1).getD 0) g (10 * SetTable.turns t.mask) (nth t.mask p0 c) := by rw [hst]; rfl
    have miss : ∀ q, (∀ k' i', k' < q → t.place.toList[i']? = some (way t.mask g (c + k')) → (es[i']?.map fun z : Int × Value => z.1).getD 0 ≠ g) → ∀ (i : Nat) (p : Addr × List Int), L[i]? = some p → p.2 = k → ∀ c', c ≤ c' → t.place.toList[i]? = some (way t.mask g c') → ¬ c' < c + q := fun q no i p hp hk c' h1 h2 h3 => by
      refine no (c' - c) i (by omega) (by rw [Nat.add_sub_cancel' h1]; exact h2) ?_
      rw [hat i p hp, hk, hg]
    rw [setSearchFrom_succ]
    refine wpAny_bind (wpAny_setState_of ho hd R.fit ?_)
    dsimp only
    refine wp_if_neg R.stays ?_
    try refine wpAny_bind (wpAny_pure ?_)
    rcases spec with ⟨q, i, hq, hi, _, hno, hgo⟩ | ⟨hno, hgo⟩
    · rw [start, hgo]
      dsimp only
      have hil : i < L.length := by
        have z1 := (List.getElem?_eq_some_iff.mp hi).1
        have z2 := R.tab.len
        rw [List.length_map] at z2
        omega
      obtain ⟨p, hp⟩ : ∃ p, L[i]? = some p := ⟨_, List.getElem?_eq_getElem hil⟩
      have hm := List.mem_of_getElem? hp
      have rest : wpAny (model P w) A (searchRest a (.ref x) g true f es t (way t.mask g (c + q)) i (nth t.mask p0 (c + (q + 1)))) Q E s := by
        unfold searchRest
        rw [ent_at R.ent hp]
        dsimp only
        refine wpAny_bind (wpAny_holding (wpAny_eqBool_tuple hu (R.tups p hm) hx ?_))
        refine wpAny_bind (wpAny_setState_of ho hd R.fit ?_)
        dsimp only
        by_cases same : p.2 = k
        · refine wp_if_pos (by simp [same]) (wpAny_pure (hin (List.mem_map.mpr ⟨p, hm, same⟩)))
        · have here := slot_live R.tab.up hi
          refine wp_if_neg (by simp [same]) ?_
          try refine wpAny_bind (wpAny_pure ?_)
          rw [sameMem]
          simp only [if_true, here, ent_at R.ent hp]
          refine wpAny_bind (wpAny_isSame_ref_self (wpAny_bind (wpAny_pure ?_)))
          simp only [if_true]
          refine wp_if_neg (by simp [same]) (SetS.from R hx hu hg hKf hK hKb hin hout f (c + (q + 1)) _ (by rw [hp0]; rfl) (by omega) (by omega) fun i0 r0 g0 k0 => ?_)
          obtain ⟨c', a1, a2, a3⟩ := hre i0 r0 g0 k0
          refine ⟨c', ?_, a2, a3⟩
          have z := miss q hno i0 r0 g0 k0 c' a1 a3
          have ne : c' ≠ c + q := fun e => by
            rw [e] at a3
            have s0 := slot_live R.tab.up a3
            rw [here] at s0
            injection s0 with s0
            subst s0
            rw [hp] at g0
            cases g0
            exact same k0
          omega
      by_cases hl : t.led = true
      · refine wp_if_neg (by simp [hl]) ?_
        try refine wpAny_bind (wpAny_pure ?_)
        exact rest
      · refine wp_if_pos (by simp [hl]) (wpAny_bind (seen_tup hx (fun y hy => ?_) ?_))
        · obtain ⟨e, he, rfl⟩ := List.mem_map.mp hy
          have he : e ∈ es.toList := by
            have z : e ∈ es ∧ e.1 = g := by simpa using he
            simpa using z.1
          rw [R.ent] at he
          obtain ⟨r, hr, rfl⟩ := List.mem_map.mp he
          exact ⟨r.2, r.1, rfl, R.tups r hr⟩
        · refine wp_if_neg (by decide) ?_
          try refine wpAny_bind (wpAny_pure ?_)
          exact rest
    · rw [start, hgo]
      dsimp only
      refine wpAny_pure (hout fun hm => ?_)
      obtain ⟨r, hr, hk⟩ := List.mem_map.mp hm
      obtain ⟨i0, hi0⟩ := List.mem_iff_getElem?.mp hr
      obtain ⟨c', a1, a2, a3⟩ := hre i0 r hi0 hk
      exact miss (K - c) hno i0 r hi0 hk c' a1 a3 (by omega)
/-- a search: the key is there, or the slot for it -/
theorem SetS.look (R : SetS P w s.heap a L es ep t) {x : Addr} {k : List Int} (hx : IsT P w s.heap k x) (hu : A.units < cLine) {Q : SetFound → Shared → Prop} (hin : k ∈ keysOf L → Q (.there none) s)
    (hout : ∀ K, k ∉ keysOf L → way t.mask (thash P w k) K ∉ t.place.toList → (∀ c, c < K → way t.mask (thash P w k) c ∈ t.place.toList) → Q (.free (way t.mask (thash P w k) K) false) s) :
    wpAny (model P w) A (setSearch a (.ref x) (thash P w k) true) Q E s := by
  have z1 := R.low
  have z2 := R.tab.msk.most
  obtain ⟨K, hKf, hK, hKb⟩ := R.tab.gap (by rw [List.length_map]; omega) (thash P w k)
  have hbig : 10 * SetTable.turns t.mask < 100000 := by unfold SetTable.turns; omega
  unfold setSearch
  refine R.from hx hu rfl hKf hK hKb hin (fun hn => hout K hn hK hKb) 100000 0 none rfl (Nat.zero_le _) (by omega) fun i p hp hk => ?_
  have hi : (L.map fun p => thash P w p.2)[i]? = some (thash P w k) := by rw [List.getElem?_map, hp, ← hk]; rfl
  have hlt : i < t.place.toList.length := by
    rw [R.tab.len]
    exact (List.getElem?_eq_some_iff.mp hi).1
  obtain ⟨c, hc, e⟩ := R.tab.ahead hK hi (List.getElem?_eq_getElem hlt)
  exact ⟨c, Nat.zero_le _, hc, by rw [List.getElem?_eq_getElem hlt, e]⟩
/-- the sizes that come -/
theorem grow_mask {m n : Nat} (M : Msk m) (hm : m = 7 ∨ m = 31 ∨ m = 127 ∨ m = 511 ∨ m = 2047) (hl : n * 5 < m * 3) (hf : (n + 1) * 5 ≥ m * 3) (hn : n ≤ 1200) :
    ∃ m', SetTable.sizeAbove (SetTable.grown (n + 1)) - 1 = m' ∧ Msk m' ∧ SetTable.sizeAbove (SetTable.grown (n + 1)) ≤ 2048 ∧ (n + 1) * 5 < m' * 3 ∧ (m' = 7 ∨ m' = 31 ∨ m' = 127 ∨ m' = 511 ∨ m' = 2047) := by
  rcases hm with rfl | rfl | rfl | rfl | rfl
  · obtain rfl : n = 4 := by omega
    exact ⟨31, by decide +kernel, msk31, by decide +kernel, by decide, by decide⟩
  · obtain rfl : n = 18 := by omega
    exact ⟨127, by decide +kernel, msk127, by decide +kernel, by decide, by decide⟩
  · obtain rfl : n = 76 := by omega
    exact ⟨511, by decide +kernel, msk511, by decide +kernel, by decide, by decide⟩
  · obtain rfl : n = 306 := by omega
    exact ⟨2047, by decide +kernel, msk2047, by decide +kernel, by decide, by decide⟩
  · omega
/-- a set with its mask told -/
structure SetM (P : Program) (w : World) (h : Heap) (a : Addr) (L : AK) : Prop where
  ex : ∃ es ep t, SetS P w h a L es ep t ∧ (t.mask = 7 ∨ t.mask = 31 ∨ t.mask = 127 ∨ t.mask = 511 ∨ t.mask = 2047)
/-- the table laid anew, larger -/
theorem relay_s {o : Obj} (ho : s.heap.get? a = some o) (hex : o.ExactSet) (hd : o.data = .set es ep t) (hr : es.toList = rowsOf P w L) (T : Tab t (L.map fun p => thash P w p.2)) (hfl : es.size ≤ t.mask)
    (nd : (keysOf L).Nodup) (tup : ∀ p ∈ L, IsT P w s.heap p.2 p.1) (pl : t.plain = true) (ld : w.params.followText "set-order" = true ∨ t.led = true) (few : L.length ≤ 1200) {wanted m' : Nat}
    (hw : SetTable.sizeAbove wanted - 1 = m') (M : Msk m') (hw2 : SetTable.sizeAbove wanted ≤ 2048) (hn : L.length * 5 < m' * 3) (hms : m' = 7 ∨ m' = 31 ∨ m' = 127 ∨ m' = 511 ∨ m' = 2047) {Q : Unit → Shared → Prop}
    (hQ : ∀ h' L', Heap.SameBut a s.heap h' → SetM P w h' a L' → L'.Perm L → Q () { s with heap := h' }) : wpAny (model P w) A (setRelay a wanted) Q E s := by
  have len := ent_size hr
  have many := T.many
  rw [List.length_map] at many
  have hfits : t.fits es.size = true := by
    simp only [SetTable.fits, SetTable.fill, T.nod, Bool.and_eq_true, beq_iff_eq, decide_eq_true_eq]
    constructor
    · omega
    · show t.place.size + 0 ≤ t.mask
      omega
  obtain ⟨t', order, e, hp, T', em, el, ep'⟩ := M.again t (hs := es.map (·.1)) (wanted := wanted) hw (by rw [Array.size_map]; omega)
  rw [Array.size_map, len] at hp
  obtain ⟨L2, r1, r2, r3⟩ := order_rows L es order hr hp
  rw [← r3] at T'
  have size2 : (order.filterMap (es[·]?)).size = es.size := by rw [ent_size r1, r2.length_eq, len]
  rw [setRelay_eq]
  refine wpAny_bind (wpAny_setState_of ho hd hfits ?_)
  dsimp only
  refine wp_if_neg (by rw [sizeLine_eq]; omega) ?_
  try refine wpAny_bind (wpAny_pure ?_)
  rw [e]
  dsimp only
  refine wpAny_bind (wp_if_neg (by rw [size2]; simp) ?_)
  try refine wpAny_bind (wpAny_pure ?_)
  refine wpAny_pure ?_
  dsimp only
  refine wpAny_storeSet_of ho hd ?_ (by rw [size2, len, sizeLine_eq]; omega)
  have sb : Heap.SameBut a s.heap (s.heap.update a (Obj.putSet (order.filterMap (es[·]?)) t')) := Heap.SameBut.update ..
  refine hQ _ L2 sb ⟨_, ep + 1, t', ⟨⟨_, store_at ho hd, ⟨hex.1, hex.2.1, hex.2.2⟩, rfl⟩, r1, T', keys_perm r2 nd, fun p q => isT_same (tup p (r2.mem_iff.mp q)) ho hd sb, by rw [ep']; exact pl, by rw [el]; exact ld, ?_, by rw [r2.length_eq]; exact few⟩, by rw [em]; exact hms⟩ r2
  rw [r2.length_eq, em]
  exact hn
theorem SetM.add (R : SetM P w s.heap a L) {x : Addr} {k : List Int} (hx : IsT P w s.heap k x) (hu : A.units < cLine) (hfew : L.length < 1200) {Q : Bool → Shared → Prop}
    (hQ : ∀ b h' L', Heap.SameBut a s.heap h' → SetM P w h' a L' → (k ∈ keysOf L → L' = L) → (k ∉ keysOf L → L'.Perm ((x, k) :: L)) → Q b { s with heap := h' }) :
    wpAny (model P w) A (setAddHashed a (.ref x) (thash P w k)) Q E s := by
  obtain ⟨es, ep, t, R, hms⟩ := R.ex
  obtain ⟨o, ho, hex, hd⟩ := R.obj
  have len := R.size
  have low := R.low
  unfold setAddHashed
  refine wpAny_holding ?_
  rw [show (100000 : Nat) = 99999 + 1 from rfl, setAddHashedIn_succ]
  refine wpAny_bind (wpAny_setState_of ho hd R.fit ?_)
  dsimp only
  refine wp_if_neg (by simp [byScan, Value.scannable]) ?_
  try refine wpAny_bind (wpAny_pure ?_)
  refine wpAny_bind (R.look hx hu (fun hm => ?_) fun K hm hK hb => ?_)
  · exact wpAny_pure (hQ false s.heap L (Heap.SameBut.refl a s.heap) ⟨es, ep, t, R, hms⟩ (fun _ => rfl) fun z => absurd hm z)
  · dsimp only
    refine wpAny_bind (wpAny_setState_of ho hd R.fit ?_)
    dsimp only
    obtain ⟨p1, p2, p3⟩ := R.tab.add hK hb rfl
    generalize hpt : t.put (way t.mask (thash P w k) K) = pt at p2 p3 ⊢
    have fst : pt.1.mask = t.mask ∧ pt.1.led = t.led ∧ pt.1.plain = t.plain ∧ pt.2 = SetTable.below t.place (way t.mask (thash P w k) K) := by subst hpt; exact ⟨rfl, rfl, rfl, rfl⟩
    obtain ⟨t1, p⟩ := pt
    obtain ⟨f1, f2, f3, f4⟩ := fst
    dsimp only at f1 f2 f3 f4 p2 p3 ⊢
    subst f4
    generalize SetTable.below t.place (way t.mask (thash P w k) K) = p at p1 p2 p3 ⊢
    have pl1 : t1.plain = true := f3.trans R.pln
    first
      | (refine wpAny_bind ?_; refine wp_if_pos pl1 ?_; refine hashBy_tup hx ?_)
      | refine wp_if_pos pl1 (wpAny_bind (hashBy_tup hx ?_))
    simp only [if_true]
    have rows1 : (SetTable.insertAt es p (thash P w k, Value.ref x)).toList = rowsOf P w (L.take p ++ (x, k) :: L.drop p) := by rw [SetTable.toList_insertAt, rows_put, R.ent]
    have pm := put_perm L p (x, k)
    have hash1 : (L.take p ++ (x, k) :: L.drop p).map (fun p => thash P w p.2) = (L.map fun p => thash P w p.2).take p ++ thash P w k :: (L.map fun p => thash P w p.2).drop p := by simp
    rw [← hash1] at p2
    generalize SetTable.insertAt es p (thash P w k, Value.ref x) = es1 at rows1 ⊢
    generalize L.take p ++ (x, k) :: L.drop p = L1 at pm p2 rows1
    have len1 : L1.length = L.length + 1 := pm.length_eq
    have size1 := ent_size rows1
    have nd1 : (keysOf L1).Nodup := keys_perm pm (List.nodup_cons.mpr ⟨hm, R.dif⟩)
    refine wpAny_bind (wpAny_storeSet_of ho hd ?_ (by rw [size1, len1, sizeLine_eq]; omega))
    have sb : Heap.SameBut a s.heap (s.heap.update a (Obj.putSet es1 t1)) := Heap.SameBut.update ..
    have ho1 := store_at (es' := es1) (t' := t1) ho hd
    generalize s.heap.update a (Obj.putSet es1 t1) = h1 at sb ho1 ⊢
    have tup1 : ∀ p ∈ L1, IsT P w h1 p.2 p.1 := fun p hp => by
      rcases List.mem_cons.mp (pm.mem_iff.mp hp) with rfl | hp
      · exact isT_same hx ho hd sb
      · exact isT_same (R.tups p hp) ho hd sb
    have ld1 : w.params.followText "set-order" = true ∨ t1.led = true := by rw [f2]; exact R.ldd
    rw [List.length_map] at p3
    have full : t1.tooFull = decide ((L.length + 1) * 5 ≥ t.mask * 3) := by
      unfold SetTable.tooFull
      rw [p3, f1]
    by_cases hf : (L.length + 1) * 5 ≥ t.mask * 3
    · have tf : t1.tooFull = true := full.trans (decide_eq_true hf)
      obtain ⟨m', q1, q2, q3, q4, q5⟩ := grow_mask R.tab.msk hms low hf (by omega)
      have go : wpAny (model P w) A (setRelay a (SetTable.grown (L.length + 1))) (fun _ s' => wpAny (model P w) A (pure true) Q E s') E { s with heap := h1 } := by
        refine relay_s (s := { s with heap := h1 }) ho1 ⟨hex.1, hex.2.1, hex.2.2⟩ rfl rows1 p2 (by rw [size1, len1, f1]; have := R.tab.msk.least; omega) nd1 tup1 pl1 ld1 (by omega) q1 q2 q3 (by rw [len1]; exact q4) q5 fun h2 L2 sb2 R2 pm2 => ?_
        exact wpAny_pure (hQ true h2 L2 (sb.trans sb2) R2 (fun z => absurd z hm) fun _ => pm2.trans pm)
      rw [len]
      first
        | (refine wpAny_bind ?_; refine wp_if_pos (by simp [tf]) go)
        | (refine wp_if_pos (by simp [tf]) (wpAny_bind go))
    · have tf : t1.tooFull = false := full.trans (decide_eq_false hf)
      have last : wpAny (model P w) A (pure true) Q E { s with heap := h1 } := wpAny_pure (hQ true h1 L1 sb ⟨es1, ep + 1, t1, ⟨⟨_, ho1, ⟨hex.1, hex.2.1, hex.2.2⟩, rfl⟩, rows1, p2, nd1, tup1, pl1, ld1, by rw [len1, f1]; omega, by omega⟩, by rw [f1]; exact hms⟩ (fun z => absurd z hm) fun _ => pm)
      first
        | exact wp_if_neg (by simp [tf]) last
        | (refine wpAny_bind ?_; exact wp_if_neg (by simp [tf]) (wpAny_pure last))
end
end Tk

/-! Tk, sets of tuples of ints, part 3: set(list), sorted(set). -/
namespace Tk
open PySem PySem.Spec PyProof.Rows L2
abbrev set0 (w : World) : Obj := { cls := .type "set", dict := none, data := .set #[] 0 (.fresh 0 0 (!w.params.followText "set-order")) }
section
variable {P : Program} {w : World} {A : Around} {E : Value → Shared → Prop} {s : Shared}
theorem SetM.kept {h h' : Heap} {a : Addr} {L : AK} (R : SetM P w h a L) (ha : ∀ o, h.get? a = some o → h'.get? a = some o) (ht : ∀ p ∈ L, IsT P w h' p.2 p.1) : SetM P w h' a L := by
  obtain ⟨es, ep, t, R, m⟩ := R.ex
  obtain ⟨o, ho, r⟩ := R.obj
  exact ⟨es, ep, t, ⟨⟨o, ha o ho, r⟩, R.ent, R.tab, R.dif, ht, R.pln, R.ldd, R.low, R.few⟩, m⟩
theorem SetM.new {h : Heap} {a : Addr} (ho : h.get? a = some (set0 w)) : SetM P w h a [] :=
  ⟨#[], 0, .fresh 0 0 (!w.params.followText "set-order"), ⟨⟨_, ho, ⟨rfl, rfl, rfl⟩, rfl⟩, rfl, ⟨.nil, rfl, rfl, msk7, fun x hx => (by cases hx), fun i h j hi => (by simp at hi)⟩, .nil, fun p hp => (by cases hp), rfl, by
    cases q : w.params.followText "set-order"
    · exact .inr rfl
    · exact .inl rfl, (by show 0 * 5 < 7 * 3; decide), Nat.zero_le _⟩, .inl rfl⟩
/-- set.update over the items -/
theorem fill_set {I : Addr} {fp wr : List Addr} {G : Array GenState → Array GenState → Prop} {n : Nat} {Pv : Nat → Value → Prop} {St : Nat → Shared → Prop} {R : Result → Shared → Prop}
    (W : WalksS P w A.in1 I fp wr G n Pv St) (S : Addr) (hSf : S ∉ fp) (ks : AK) (hn : n = ks.length) (hfew : ks.length ≤ 1000000) (hkey : ∀ L : AK, (keysOf L).Nodup → (∀ p ∈ L, p ∈ ks) → L.length < 1200) (hval : ∀ i v, Pv i v → ∃ p, ks[i]? = some p ∧ v = .ref p.1)
    (h0 : Heap) (hk : ∀ p ∈ ks, IsT P w h0 p.2 p.1) (hS0 : h0.get? S = none) (hw0 : ∀ b ∈ wr, h0.get? b = none) (hu : A.in1.units < cLine) :
    ∀ (k i : Nat) (s : Shared), n - i = k → i ≤ n → St i s → (∀ b o, h0.get? b = some o → s.heap.get? b = some o) → (∃ L, SetM P w s.heap S L ∧ Got ks i L) →
      (∀ s' L, Moved (S :: wr) G s s' → SetM P w s'.heap S L → Got ks n L → (∀ b o, h0.get? b = some o → s'.heap.get? b = some o) → R (.ok (.ret .none)) s') →
      codeAny (model P w) A (.builtin "set.update.loop" ⟨[.ref S, .ref I], []⟩) R s := by
  have out : S ∉ wr := fun h => hSf (W.sub _ h)
  have more : ∀ b ∈ wr, b ∈ S :: wr := fun b hb => List.mem_cons_of_mem _ hb
  have stay : ∀ {s s' : Shared}, Moved wr G s s' → (∀ b o, h0.get? b = some o → s.heap.get? b = some o) → ∀ b o, h0.get? b = some o → s'.heap.get? b = some o := fun hm q b o e =>
    hm.heap b o (fun hb => by rw [hw0 b hb] at e; cases e) (q b o e)
  have of_ks : ∀ {i : Nat} {L : AK}, Got ks i L → ∀ p ∈ L, p ∈ ks := fun g p hp => List.mem_of_mem_take (g.sub p hp)
  intro k
  induction k with
  | zero =>
    intro i s hi0 hi hst q ⟨L, hS, g⟩ hR
    obtain rfl : i = n := by omega
    refine codeAny_builtin F.entry_set_update_loop ?_
    rw [Around.under_plainId F.plain_set_update_loop _]
    show wpAny _ A.in1 (pyNext (.ref I) >>= _) _ _ s
    refine wpAny_bind (W.done s _ _ hst fun s' hm => ?_)
    show wpAny _ A.in1 (ret Value.none) _ _ s'
    have q' := stay hm q
    exact wpAny_pure (hR s' L (hm.mono more) (hS.kept (fun o e => hm.heap S o out e) fun p hp => isT_keep (hk p (of_ks g p hp)) q') g q')
  | succ k ih =>
    intro i s hi0 hi hst q ⟨L, hS, g⟩ hR
    have lt : i < n := by omega
    refine codeAny_builtin F.entry_set_update_loop ?_
    rw [Around.under_plainId F.plain_set_update_loop _]
    show wpAny _ A.in1 (pyNext (.ref I) >>= _) _ _ s
    refine wpAny_bind (W.item i s _ _ lt hst fun v s' hP hst' hm => ?_)
    obtain ⟨p, hp, rfl⟩ := hval i v hP
    have q' := stay hm q
    have S1 : SetM P w s'.heap S L := hS.kept (fun o e => hm.heap S o out e) fun r hr => isT_keep (hk r (of_ks g r hr)) q'
    have hx : IsT P w s'.heap p.2 p.1 := isT_keep (hk p (List.mem_of_getElem? hp)) q'
    have nd : (keysOf L).Nodup := let ⟨_, _, _, R, _⟩ := S1.ex; R.dif
    show wpAny _ A.in1 (holding [Value.ref p.1] (setAdd S (.ref p.1)) >>= _) _ _ s'
    refine wpAny_bind (wpAny_holding ?_)
    unfold setAdd
    refine wpAny_holding (wpAny_bind (wpAny_pyHash_tuple hu hx ?_))
    refine SetM.add (s := { s' with toks := s'.toks + (p.2.length + 1) }) S1 hx hu (hkey L nd (of_ks g)) fun b h' L' sb S2 c1 c2 => ?_
    have g' : Got ks (i + 1) L' := by
      rcases Classical.em (p.2 ∈ L.map (·.2)) with c | c
      · rw [c1 c]
        exact g.same hp c
      · exact g.more hp (c2 c)
    have q2 : ∀ b o, h0.get? b = some o → h'.get? b = some o := fun b o e => (sb.2 b (fun z => by rw [z, hS0] at e; cases e)).trans (q' b o e)
    refine wpAny_pure ⟨plainId_quiet F.plain_set_update_loop _, ih (i + 1) _ (by omega) lt (W.frame _ s' _ _ hst' (Nat.le_add_right _ _) fun b hb o e => ?_) q2 ⟨L', S2, g'⟩ fun s2 L2 hm2 hS2 g2 q3 => ?_⟩
    · rw [sb.2 b (fun h : b = S => hSf (by rw [← h]; exact hb))]
      exact e
    · refine hR s2 L2 (Moved.trans W.gtrans ((hm.mono more).then_heap (Nat.le_add_right _ _) fun b o hb e => ?_) hm2) hS2 g2 q3
      rw [sb.2 b (fun h : b = S => hb (by rw [h]; exact List.mem_cons_self))]
      exact e
end
/-! ### sorted -/
section
variable {P : Program} {w : World} {A : Around} {E : Value → Shared → Prop} {s : Shared}
theorem reads_ints {h : Heap} : ∀ {k : List Int} {vs : List Value}, IntsAre vs k → ReadsAll h vs (k.map .int) []
  | _, _, .nil => .nil
  | _, _, .cons i t r => .cons (as := []) (bs := []) (.int i t) (reads_ints r)
theorem reads_tup {h : Heap} {k : List Int} {b : Addr} (x : IsT P w h k b) : Reads h (.ref b) (.tuple (k.map .int)) [] := by
  obtain ⟨o, items, n, ho, hc, hd, hi⟩ := x
  exact .tuple ho hc hd (reads_ints (ints_of_items hi))
abbrev encT (p : Addr × List Int) : PyData := .tuple (p.2.map .int)
/-- the order of keys -/
def leK (p q : List Int) : Bool := decide (p ≤ q)
theorem leT_eq : PySem.W.dataLe false encT = fun p q => leK p.2 q.2 := by
  funext p q
  show (!PySem.W.dataLt (.tuple (q.2.map .int)) (.tuple (p.2.map .int))) = _
  rw [PySem.W.dataLt_tuple]
  have z := PySem.W.dataLt_ints q.2 p.2
  unfold PySem.W.rowLt at z
  rw [z]
  unfold leK
  by_cases h : q.2 < p.2
  · have h' : ¬ p.2 ≤ q.2 := fun z => List.not_lt.mpr z h
    simp [h, h']
  · have h' : p.2 ≤ q.2 := List.not_lt.mp h
    simp [h, h']
theorem alikeT (bs : AK) : PySem.W.AllAlike (bs.map encT) := .of fun b b' => by
  show PySem.W.alike (.tuple (b.2.map .int)) (.tuple (b'.2.map .int)) = true
  rw [PySem.W.alike]
  exact PySem.W.alike_ints b.2 b'.2
theorem sortableT {bs : AK} (h : ∀ p ∈ bs, p.2 ≠ []) : PySem.W.Sortable (bs.map encT) := .inl fun d hd => by
  obtain ⟨b, hb, rfl⟩ := List.mem_map.mp hd
  cases e : b.2 with
  | nil => exact absurd e (h b hb)
  | cons x r => exact ⟨.int x, r.map .int, by simp [encT, e]⟩
theorem depthT (p : Addr × List Int) : (encT p).depth = 1 := by
  show PyData.depth (.tuple _) = 1
  rw [PyData.depth, PySem.W.depth_ints]
theorem each_refs {R : Value → Addr × List Int → Prop} : ∀ {bs : AK}, (∀ p ∈ bs, R (.ref p.1) p) → PySem.W.EachIs R (bs.map fun p => Value.ref p.1) bs
  | [], _ => .nil
  | b :: bs, h => .cons (h b List.mem_cons_self) (each_refs fun p hp => h p (List.mem_cons_of_mem _ hp))
theorem refs_each : ∀ {vs : List Value} {bs : AK}, PySem.W.EachIs (fun v p => v = Value.ref p.1) vs bs → vs = bs.map fun p => Value.ref p.1
  | _, _, .nil => rfl
  | _, _, .cons h t => by rw [List.map_cons, h, refs_each t]
/-- the list.sort that sorted ends with -/
theorem sort_refs {l : Addr} {n : Nat} (bs : AK) {Q : Value → Shared → Prop} (ho : s.heap.get? l = some (seqObj "list" (bs.map fun p => Value.ref p.1).toArray n)) (hk : ∀ p ∈ bs, IsT P w s.heap p.2 p.1) (hne : ∀ p ∈ bs, p.2 ≠ []) (hL : bs.length ≤ sizeLine) (hu : A.units + 3 < cLine)
    (h : Q .none { s with heap := sortedHeap s.heap l (bs.map fun p => Value.ref p.1) ((bs.mergeSort fun p q => leK p.2 q.2).map fun p => Value.ref p.1).toArray }) :
    wpAny (model P w) A (call (.builtin "list.sort") [.ref l]) Q E s := by
  refine PySem.W.list_sort_data (R := fun v p => v = Value.ref p.1) (enc := encT) (bs := bs) ho (each_refs fun p hp => rfl) (each_refs fun p hp => ⟨[], reads_tup (hk p hp), by simp⟩) (alikeT bs) (sortableT hne) hL (fun b hb => by rw [depthT]; omega) fun out hl he => ?_
  rw [leT_eq] at he
  rw [refs_each he]
  exact h
theorem perm_rows {L : AK} {vs : List Value} (h : vs.Perm (L.map fun p => Value.ref p.1)) (one : ∀ q ∈ L, ∀ r ∈ L, q.1 = r.1 → q = r) (nd : L.Nodup) : ∃ L1 : AK, vs = L1.map (fun p => Value.ref p.1) ∧ L1.Perm L := by
  have pick : ∀ vs : List Value, (∀ v ∈ vs, ∃ q ∈ L, v = Value.ref q.1) → ∃ L1 : AK, vs = L1.map (fun q => Value.ref q.1) ∧ ∀ q ∈ L1, q ∈ L := by
    intro vs
    induction vs with
    | nil => exact fun _ => ⟨[], rfl, fun q hq => by cases hq⟩
    | cons v vs ih =>
      intro hv
      obtain ⟨q, hq, e⟩ := hv v List.mem_cons_self
      obtain ⟨L1, e1, hs⟩ := ih fun u hu => hv u (List.mem_cons_of_mem _ hu)
      exact ⟨q :: L1, by rw [List.map_cons, e, e1], List.forall_mem_cons.mpr ⟨hq, hs⟩⟩
  obtain ⟨L1, e, hs⟩ := pick vs fun v hv => by
    obtain ⟨q, hq, e⟩ := List.mem_map.mp (h.mem_iff.mp hv)
    exact ⟨q, hq, e.symm⟩
  subst e
  have inj : ∀ q ∈ L, ∀ r ∈ L, Value.ref q.1 = Value.ref r.1 → q = r := fun q hq r hr e => one q hq r hr (by injection e)
  have n0 : (L.map fun q => Value.ref q.1).Nodup := List.pairwise_map.mpr (nd.imp_of_mem fun hq hr hne e => hne (inj _ hq _ hr e))
  have n1 : L1.Nodup := nodup_of_map (h.nodup_iff.mpr n0)
  refine ⟨L1, rfl, (List.perm_ext_iff_of_nodup n1 nd).mpr fun q => ⟨hs q, fun hq => ?_⟩⟩
  obtain ⟨r, hr, e⟩ := List.mem_map.mp (h.mem_iff.mpr (List.mem_map.mpr ⟨q, hq, rfl⟩))
  rw [← inj r (hs r hr) q hq e]
  exact hr
/-- sorted(set) -/
theorem sorted_of_set {a : Addr} {L : AK} {Q : Value → Shared → Prop} (M : SetM P w s.heap a L) (hh : A.handled = none) (hu : A.units + 4 < cLine) (hne : ∀ p ∈ L, p.2 ≠ [])
    (hQ : ∀ s' p (c : Nat) (L1 : AK), (∀ b o, s.heap.get? b = some o → s'.heap.get? b = some o) → s'.gens = s.gens → s'.os = s.os → s.heap.objs.size ≤ p → L1.Perm L →
      s'.heap.get? p = some (seqObj "list" ((L1.mergeSort fun p q => leK p.2 q.2).map fun p => Value.ref p.1).toArray c) → Q (.ref p) s') :
    wpAny (model P w) A (call (.builtin "sorted") [.ref a]) Q E s := by
  obtain ⟨es, ep, t, R, _⟩ := M.ex
  obtain ⟨o, ho, hex, hd⟩ := R.obj
  have len := R.size
  have few := R.few
  refine Calls.call_function_entry kind_sorted plain_sorted entry_sorted (args_sorted1 _) ?_
  unfold Builtin.«sorted»
  refine wpAny_bind (m := checkCount "sorted" 1 1 _) (wpAny_pure ?_)
  refine wpAny_bind (collect_set (A := A.in1) hh ⟨o, ho, hex.1, hd⟩ R.fit (by unfold scanBound; omega) R.tab.up R.ldd fun s1 vs k1 hz g1 o1 pm => ?_)
  have e0 : es.toList.map (·.2) = L.map fun q => Value.ref q.1 := by
    rw [R.ent, rowsOf, List.map_map]
    rfl
  rw [e0] at pm
  obtain ⟨L1, rfl, pL⟩ := perm_rows pm (fun q hq r hr e => by
    have a1 := R.tups q hq
    rw [e] at a1
    exact Prod.ext e (a1.inj (R.tups r hr))) (nodup_of_map R.dif)
  have len1 : L1.length ≤ sizeLine := by rw [pL.length_eq, sizeLine_eq]; omega
  refine wpAny_bind (wpAny_newList ?_ (by rw [List.length_map]; exact len1))
  have hoL : (s1.heap.push (seqObj "list" (L1.map fun q => Value.ref q.1).toArray 0)).get? s1.heap.objs.size = some (seqObj "list" (L1.map fun q => Value.ref q.1).toArray 0) := Heap.get?_push_size _ rfl
  refine wpAny_bind (wpAny_holding (sort_refs (s := { s1 with heap := s1.heap.push (seqObj "list" (L1.map fun q => Value.ref q.1).toArray 0) }) L1 hoL (fun p hp => isT_keep (R.tups p (pL.mem_iff.mp hp)) fun b u e => Heap.get?_push_of_some _ (k1 b u e)) (fun p hp => hne p (pL.mem_iff.mp hp)) len1 (by show A.units + 1 + 3 < cLine; omega) ?_))
  obtain ⟨c, hc⟩ := sortedHeap_at (vs := L1.map fun q => Value.ref q.1) (out := ((L1.mergeSort fun p q => leK p.2 q.2).map fun p => Value.ref p.1).toArray) hoL
  refine wpAny_pure ⟨_, rfl, hQ _ s1.heap.objs.size c L1 (fun b u e => ?_) g1 o1 hz pL hc⟩
  have q := k1 b u e
  have lt := Heap.lt_size q
  show (sortedHeap (s1.heap.push _) s1.heap.objs.size _ _).get? b = some u
  rw [sortedHeap_old (Nat.ne_of_lt lt) (by rw [size_push']; exact Nat.lt_succ_of_lt lt)]
  exact Heap.get?_push_of_some _ q
end
end Tk

/-! Tk, sets, part 7: set(x) of a list or a tuple, of tuples of ints or of ints. -/
namespace Tk
open PySem PySem.Spec PyProof.Rows L2
section
variable {P : Program} {w : World} {A : Around} {E : Value → Shared → Prop} {s : Shared}
/-- set.update over ints -/
theorem fill_ints {I : Addr} {fp wr : List Addr} {G : Array GenState → Array GenState → Prop} {n : Nat} {Pv : Nat → Value → Prop} {St : Nat → Shared → Prop} {R : Result → Shared → Prop}
    (W : WalksS P w A.in1 I fp wr G n Pv St) (S : Addr) (hSf : S ∉ fp) (ns : List Int) (hn : n = ns.length) (hfew : ns.length < 64) (hval : ∀ i v, Pv i v → ∃ (k : Int) (tk : Tok), ns[i]? = some k ∧ v = .int k tk)
    (h0 : Heap) (hS0 : h0.get? S = none) (hw0 : ∀ b ∈ wr, h0.get? b = none) :
    ∀ (k i : Nat) (s : Shared), n - i = k → i ≤ n → St i s → (∀ b o, h0.get? b = some o → s.heap.get? b = some o) → (∃ T m, SetR w s.heap S T m ∧ m ≤ i ∧ ∀ x, T x = true ↔ x ∈ ns.take i) →
      (∀ s' T m, Moved (S :: wr) G s s' → SetR w s'.heap S T m → m ≤ n → (∀ x, T x = true ↔ x ∈ ns) → (∀ b o, h0.get? b = some o → s'.heap.get? b = some o) → R (.ok (.ret .none)) s') →
      codeAny (model P w) A (.builtin "set.update.loop" ⟨[.ref S, .ref I], []⟩) R s := by
  have out : S ∉ wr := fun h => hSf (W.sub _ h)
  have more : ∀ b ∈ wr, b ∈ S :: wr := fun b hb => List.mem_cons_of_mem _ hb
  have stay : ∀ {s s' : Shared}, Moved wr G s s' → (∀ b o, h0.get? b = some o → s.heap.get? b = some o) → ∀ b o, h0.get? b = some o → s'.heap.get? b = some o := fun hm q b o e =>
    hm.heap b o (fun hb => by rw [hw0 b hb] at e; cases e) (q b o e)
  intro k
  induction k with
  | zero =>
    intro i s hi0 hi hst q ⟨T, m, hS, hm1, g⟩ hR
    obtain rfl : i = n := by omega
    refine codeAny_builtin F.entry_set_update_loop ?_
    rw [Around.under_plainId F.plain_set_update_loop _]
    show wpAny _ A.in1 (pyNext (.ref I) >>= _) _ _ s
    refine wpAny_bind (W.done s _ _ hst fun s' hm => ?_)
    show wpAny _ A.in1 (ret Value.none) _ _ s'
    refine wpAny_pure (hR s' T m (hm.mono more) (hS.at fun o e => hm.heap S o out e) hm1 (fun x => ?_) (stay hm q))
    rw [g, hn, List.take_length]
  | succ k ih =>
    intro i s hi0 hi hst q ⟨T, m, hS, hm1, g⟩ hR
    have lt : i < n := by omega
    refine codeAny_builtin F.entry_set_update_loop ?_
    rw [Around.under_plainId F.plain_set_update_loop _]
    show wpAny _ A.in1 (pyNext (.ref I) >>= _) _ _ s
    refine wpAny_bind (W.item i s _ _ lt hst fun v s' hP hst' hm => ?_)
    obtain ⟨x, tk, hx, rfl⟩ := hval i v hP
    have q' := stay hm q
    have S1 : SetR w s'.heap S T m := hS.at fun o e => hm.heap S o out e
    show wpAny _ A.in1 (holding [Value.int x tk] (setAdd S (.int x tk)) >>= _) _ _ s'
    refine wpAny_bind (wpAny_holding ?_)
    unfold setAdd
    refine wpAny_holding (wpAny_bind ((intKind P w).pyHash (intKind_is P w x tk) ?_))
    refine setR_add_hashed (s := { s' with toks := s'.toks + 1 }) S1 (by unfold scanBound; omega) fun h' sb S2 => ?_
    have q2 : ∀ b o, h0.get? b = some o → h'.get? b = some o := fun b o e => (sb.2 b (fun z => by rw [z, hS0] at e; cases e)).trans (q' b o e)
    refine wpAny_pure ⟨plainId_quiet F.plain_set_update_loop _, ih (i + 1) _ (by omega) lt (W.frame _ s' _ _ hst' (Nat.le_add_right _ _) fun b hb o e => ?_) q2 ⟨_, _, S2, by split <;> omega, fun y => ?_⟩ fun s2 T2 m2 hm2 hS2 g2 g3 q3 => ?_⟩
    · rw [sb.2 b (fun h : b = S => hSf (by rw [← h]; exact hb))]
      exact e
    · rw [List.take_add_one, hx, Bool.or_eq_true, g, List.mem_append, decide_eq_true_eq]
      simp
    · refine hR s2 T2 m2 (Moved.trans W.gtrans ((hm.mono more).then_heap (Nat.le_add_right _ _) fun b o hb e => ?_) hm2) hS2 g2 g3 q3
      rw [sb.2 b (fun h : b = S => hb (by rw [h]; exact List.mem_cons_self))]
      exact e
/-- what fills the set -/
def Fills (P : Program) (w : World) (A : Around) (s : Shared) (items : Array Value) (B : Heap → Prop) : Prop :=
  ∀ (A' : Around) (I : Addr) (fp wr : List Addr) (G : Array GenState → Array GenState → Prop) (Pv : Nat → Value → Prop) (St : Nat → Shared → Prop) (R : Result → Shared → Prop) (s1 : Shared), A'.in1.units ≤ A.units + 3 →
    WalksS P w A'.in1 I fp wr G items.size Pv St → s.heap.objs.size ∉ fp → (∀ i v, Pv i v → items[i]? = some v) → s.heap.get? s.heap.objs.size = none → (∀ b ∈ wr, s.heap.get? b = none) → St 0 s1 → (∀ b o, s.heap.get? b = some o → s1.heap.get? b = some o) →
    s1.heap.get? s.heap.objs.size = some (set0 w) →
    (∀ s', Moved (s.heap.objs.size :: wr) G s1 s' → B s'.heap → (∀ b o, s.heap.get? b = some o → s'.heap.get? b = some o) → R (.ok (.ret .none)) s') → codeAny (model P w) A' (.builtin "set.update.loop" ⟨[.ref s.heap.objs.size, .ref I], []⟩) R s1
theorem fills_keys {items : Array Value} (ks : AK) (hit : items.toList = ks.map fun p => Value.ref p.1) (hk : ∀ p ∈ ks, IsT P w s.heap p.2 p.1) (hfew : ks.length ≤ 1000000) (hkey : ∀ L : AK, (keysOf L).Nodup → (∀ p ∈ L, p ∈ ks) → L.length < 1200) (hu : A.units + 3 < cLine) :
    Fills P w A s items fun h' => ∃ L, SetM P w h' s.heap.objs.size L ∧ Got ks ks.length L := by
  intro A' I fp wr G Pv St R s1 hA W hSf hval hS0 hw0 hst hkp hnew hR
  have hisz : items.size = ks.length := by simpa using congrArg List.length hit
  refine fill_set W s.heap.objs.size hSf ks hisz hfew hkey (fun i v hv => ?_) s.heap hk hS0 hw0 (by omega) (items.size - 0) 0 s1 (by omega) (Nat.zero_le _) hst hkp ⟨[], SetM.new hnew, Got.zero ks⟩ fun s' L hm hS' g q => hR s' hm ⟨L, hS', by rw [← hisz]; exact g⟩ q
  have hv := hval i v hv
  rw [← Array.getElem?_toList, hit, List.getElem?_map] at hv
  obtain ⟨p, hp, rfl⟩ := Option.map_eq_some_iff.mp hv
  exact ⟨p, hp, rfl⟩
theorem fills_ints {items : Array Value} (ns : List Int) (hit : IntsAre items.toList ns) (hfew : ns.length < 64) : Fills P w A s items fun h' => ∃ T m, SetR w h' s.heap.objs.size T m ∧ m < 64 ∧ ∀ x, T x = true ↔ x ∈ ns := by
  intro A' I fp wr G Pv St R s1 hA W hSf hval hS0 hw0 hst hkp hnew hR
  have hisz : items.size = ns.length := by rw [← Array.length_toList]; exact hit.length
  have at_ : ∀ {vs : List Value} {ns : List Int}, IntsAre vs ns → ∀ {i : Nat} {v : Value}, vs[i]? = some v → ∃ (k : Int) (tk : Tok), ns[i]? = some k ∧ v = .int k tk := fun {vs ns} h => by
    induction h with
    | nil => intro i v e; simp at e
    | cons k tk t ih =>
      intro i v e
      cases i with
      | zero => cases e; exact ⟨k, tk, rfl, rfl⟩
      | succ i => exact ih (by simpa using e)
  have fresh : SetR w s1.heap s.heap.objs.size (fun _ => false) 0 := (setR_fresh (h := s.heap) w).at fun o e => by
    rw [Heap.get?_push_size _ rfl] at e
    cases e
    exact hnew
  refine fill_ints W s.heap.objs.size hSf ns hisz hfew (fun i v hv => at_ hit (by rw [Array.getElem?_toList]; exact hval i v hv)) s.heap hS0 hw0 (items.size - 0) 0 s1 (by omega) (Nat.zero_le _) hst hkp ⟨_, 0, fresh, Nat.le_refl _, fun x => by simp⟩ fun s' T m hm hS' h1 h2 q => hR s' hm ⟨T, m, hS', by omega, h2⟩ q
set_option maxRecDepth 100000 in
set_option maxHeartbeats 3200000 in
/-- set(xs) -/
theorem set_outer {l : Addr} {items : Array Value} {B : Heap → Prop} {Q : Value → Shared → Prop} (hh : A.handled = none) (hl : s.heap.IsList l items ∨ s.heap.IsTuple l items) (fill : Fills P w A s items B)
    (h : ∀ (h' : Heap) (tk : Nat), B h' → (∀ b o, s.heap.get? b = some o → h'.get? b = some o) → Q (.ref s.heap.objs.size) { s with heap := h', toks := tk }) :
    wpAny (model P w) A (call (.type "set") [.ref l]) Q E s := by
  obtain ⟨c, tl, hmro⟩ := F.called_set.mro
  have hmade := F.called_set.made
  have hsub := F.called_set.sub
  refine wpAny_call (codeAny_of_tree ?_)
  show wpAny _ _ (callAny (.type "set") _) _ _ _
  refine wpAny_pure ⟨Code.quiet_builtin _ (by decide +kernel), codeAny_builtin F.entry_type_call ?_⟩
  rw [Around.under_plain (weight_type_call_type "set" [.ref l] []) rfl]
  have n1 := F.called_set.notType
  have n2 := F.called_set.canCreate
  have n3 := F.typeCall_set_1 (.ref l)
  repeat any_goals first | assumption | wp_step
  refine codeAny_mono (code_set_led1 (.ref l) (E := E) (Q₁ := fun obj s1 => obj = .ref s.heap.objs.size ∧ s1 = { s with heap := s.heap.push (set0 w) }) ⟨rfl, rfl⟩) fun r s1 hr => ?_
  match r, hr with
  | .error e, hr => exact hr
  | .ok .next, hr => exact hr.elim
  | .ok .brk, hr => exact hr.elim
  | .ok .cont, hr => exact hr.elim
  | .ok (.ret obj), hr =>
    obtain ⟨rfl, rfl⟩ := hr
    have hS : (s.heap.push (set0 w)).get? s.heap.objs.size = some (set0 w) := Heap.get?_push_size _ rfl
    have hT : Shared.TypeIs { s with heap := s.heap.push (set0 w) } (.ref s.heap.objs.size) "set" := ⟨_, hS, rfl⟩
    have i1 := F.called_set.init.lookup
    have i2 := F.called_set.init.bind (.ref s.heap.objs.size)
    repeat any_goals first | assumption | wp_step
    have size1 : (s.heap.push (set0 w)).objs.size = s.heap.objs.size + 1 := Heap.size_push ..
    have none_of : ∀ b, s.heap.objs.size ≤ b → s.heap.get? b = none := fun b hb => by
      cases z : s.heap.get? b with
      | none => rfl
      | some o => exact absurd (Nat.lt_of_lt_of_le (Heap.lt_size z) hb) (Nat.lt_irrefl _)
    refine codeAny_mono (codeAny_call_builtin (R := wants (fun r s2 => r = .none ∧ ∃ h' tk, s2 = { s with heap := h', toks := tk } ∧ B h' ∧ (∀ b o, s.heap.get? b = some o → h'.get? b = some o)) E)
      F.called_set.init.plain F.entry_set_init (check_set_init_1 hT ?_)) fun r2 s2 hr2 => ?_
    · rcases hl with hl | hl
      · obtain ⟨⟨ocls, odict, odata, oslots⟩, hol, hcl, nl, hdl⟩ := hl
        simp only at hcl hdl
        subst hcl hdl
        have lt : l < s.heap.objs.size := Heap.lt_size hol
        have hl1 : (s.heap.push (set0 w)).IsList l items := ⟨_, Heap.get?_push_of_some _ hol, rfl, nl, rfl⟩
        have ho1 : (s.heap.push (set0 w)).get? l = some { cls := .type "list", dict := odict, data := .seq items nl, slots := oslots } := Heap.get?_push_of_some _ hol
        have u1 := F.sub_list_set
        have u2 := F.sub_list_frozenset
        have u3 : (Value.type "list" == Value.type "dict") = false := by decide
        unfold Builtin.«set.__init__» noKeywords Builtin.Frozenset.updateFrom
        generalize hPI : pyIter = PI
        wp_walk
        subst hPI
        refine wpAny_pyIter_list hl1 (wpAny_bind (wpAny_runValue ?_))
        have hh3 : A.in1.in1.in1.handled = none := by simp [hh]
        have apart : l ≠ (s.heap.push (set0 w)).objs.size := by rw [size1]; exact Nat.ne_of_lt (Nat.lt_succ_of_lt lt)
        refine fill _ _ _ _ _ _ _ _ _ (Nat.le_refl _) (Walks.list hh3 _ l apart items).toS (by simp only [size1, List.mem_cons, List.not_mem_nil, or_false, not_or]; exact ⟨Nat.ne_of_lt (Nat.lt_succ_self _), Nat.ne_of_gt lt⟩) (fun i v hv => hv) (none_of _ (Nat.le_refl _))
          (fun b hb => none_of b (by rw [List.mem_singleton.mp hb, size1]; exact Nat.le_succ _)) ⟨⟨_, Heap.get?_push_size _ rfl, rfl, rfl⟩, (hl1.push _)⟩ (fun b o e => Heap.get?_push_of_some _ (Heap.get?_push_of_some _ e)) (Heap.get?_push_of_some _ hS) ?_
        intro s' hm hB q
        obtain ⟨h', g2, d', tk', os'⟩ := s'
        obtain rfl : g2 = s.gens := hm.gens
        obtain rfl : d' = s.drawn := hm.drawn
        obtain rfl : os' = s.os := hm.os
        show wpAny _ _ _ _ _ _
        refine wpAny_pure ?_
        show wpAny _ _ (ret Value.none) _ _ _
        exact wpAny_pure ⟨rfl, h', tk', rfl, hB, q⟩
      · obtain ⟨⟨ocls, odict, odata, oslots⟩, hol, hcl, nl, hdl⟩ := hl
        simp only at hcl hdl
        subst hcl hdl
        have lt : l < s.heap.objs.size := Heap.lt_size hol
        have hl1 : (s.heap.push (set0 w)).IsTuple l items := ⟨_, Heap.get?_push_of_some _ hol, rfl, nl, rfl⟩
        have ho1 : (s.heap.push (set0 w)).get? l = some { cls := .type "tuple", dict := odict, data := .seq items nl, slots := oslots } := Heap.get?_push_of_some _ hol
        have u1 := F.sub_tuple_set
        have u2 := F.sub_tuple_frozenset
        have u3 : (Value.type "tuple" == Value.type "dict") = false := by decide
        unfold Builtin.«set.__init__» noKeywords Builtin.Frozenset.updateFrom
        generalize hPI : pyIter = PI
        wp_walk
        subst hPI
        refine wpAny_pyIter_tuple hl1 (wpAny_bind (wpAny_runValue ?_))
        have hh3 : A.in1.in1.in1.handled = none := by simp [hh]
        have apart : l ≠ (s.heap.push (set0 w)).objs.size := by rw [size1]; exact Nat.ne_of_lt (Nat.lt_succ_of_lt lt)
        refine fill _ _ _ _ _ _ _ _ _ (Nat.le_refl _) (Walks.tuple hh3 _ l apart items).toS (by simp only [size1, List.mem_cons, List.not_mem_nil, or_false, not_or]; exact ⟨Nat.ne_of_lt (Nat.lt_succ_self _), Nat.ne_of_gt lt⟩) (fun i v hv => hv) (none_of _ (Nat.le_refl _))
          (fun b hb => none_of b (by rw [List.mem_singleton.mp hb, size1]; exact Nat.le_succ _)) ⟨⟨_, Heap.get?_push_size _ rfl, rfl, rfl⟩, (hl1.push _)⟩ (fun b o e => Heap.get?_push_of_some _ (Heap.get?_push_of_some _ e)) (Heap.get?_push_of_some _ hS) ?_
        intro s' hm hB q
        obtain ⟨h', g2, d', tk', os'⟩ := s'
        obtain rfl : g2 = s.gens := hm.gens
        obtain rfl : d' = s.drawn := hm.drawn
        obtain rfl : os' = s.os := hm.os
        show wpAny _ _ _ _ _ _
        refine wpAny_pure ?_
        show wpAny _ _ (ret Value.none) _ _ _
        exact wpAny_pure ⟨rfl, h', tk', rfl, hB, q⟩
    · match r2, hr2 with
      | .error e, hr2 => exact hr2
      | .ok .next, hr2 => exact hr2.elim
      | .ok .brk, hr2 => exact hr2.elim
      | .ok .cont, hr2 => exact hr2.elim
      | .ok (.ret r), hr2 =>
        obtain ⟨rfl, h', tk, rfl, hB, q⟩ := hr2
        repeat any_goals first | assumption | wp_step
        exact h _ _ hB q
end
end Tk

/-! Tk, sets and sorting, part 4: sorted(xs), sorted(set(xs)) upon plain data. -/
namespace Tk
open PySem PySem.Spec PyProof.Rows L2
/-! ### the stable sort by insertion -/
section
variable {α : Type} {le : α → α → Bool}
theorem insBy_perm (x : α) : ∀ ys : List α, (insBy le x ys).Perm (x :: ys)
  | [] => .refl _
  | y :: ys => by
    unfold insBy
    split
    · exact .refl _
    · exact ((insBy_perm x ys).cons y).trans (.swap x y ys)
theorem srtBy_perm : ∀ xs : List α, (srtBy le xs).Perm xs
  | [] => .refl _
  | x :: xs => (insBy_perm x _).trans ((srtBy_perm xs).cons x)
theorem insBy_sorted (h : PySem.W.TotalLe le) (x : α) : ∀ ys : List α, ys.Pairwise (fun a b => le a b = true) → (insBy le x ys).Pairwise (fun a b => le a b = true)
  | [], _ => by unfold insBy; exact .cons (fun _ z => by cases z) .nil
  | y :: ys, hp => by
    unfold insBy
    obtain ⟨h1, h2⟩ := List.pairwise_cons.mp hp
    split
    · rename_i c
      refine .cons (fun z hz => ?_) hp
      rcases List.mem_cons.mp hz with rfl | hz
      · exact c
      · exact h.trans _ _ _ c (h1 z hz)
    · rename_i c
      refine .cons (fun z hz => ?_) (insBy_sorted h x ys h2)
      rcases List.mem_cons.mp ((insBy_perm x ys).mem_iff.mp hz) with rfl | hz
      · exact (h.total z y).resolve_left c
      · exact h1 z hz
theorem srtBy_sorted (h : PySem.W.TotalLe le) : ∀ xs : List α, (srtBy le xs).Pairwise (fun a b => le a b = true)
  | [] => .nil
  | x :: xs => insBy_sorted h x _ (srtBy_sorted h xs)
theorem insBy_rank (h : PySem.W.TotalLe le) (x c : α) : ∀ ys : List α, ys.Pairwise (fun a b => le a b = true) → (insBy le x ys).filter (PySem.W.sameRank le c) = (x :: ys).filter (PySem.W.sameRank le c)
  | [], _ => rfl
  | y :: ys, hp => by
    unfold insBy
    split
    · rfl
    · rename_i n
      obtain ⟨h1, h2⟩ := List.pairwise_cons.mp hp
      rw [List.filter_cons, insBy_rank h x c ys h2, List.filter_cons, List.filter_cons, List.filter_cons]
      by_cases cx : PySem.W.sameRank le c x = true
      · by_cases cy : PySem.W.sameRank le c y = true
        · exfalso
          unfold PySem.W.sameRank at cx cy
          rw [Bool.and_eq_true] at cx cy
          exact n (h.trans _ _ _ cx.2 cy.1)
        · simp only [if_pos cx, if_neg cy]
      · simp only [if_neg cx]
theorem srtBy_rank (h : PySem.W.TotalLe le) (c : α) : ∀ xs : List α, (srtBy le xs).filter (PySem.W.sameRank le c) = xs.filter (PySem.W.sameRank le c)
  | [] => rfl
  | x :: xs => by
    show (insBy le x (srtBy le xs)).filter _ = _
    rw [insBy_rank h x c _ (srtBy_sorted h xs), List.filter_cons, List.filter_cons, srtBy_rank h c xs]
theorem merge_srt (h : PySem.W.TotalLe le) (xs : List α) : xs.mergeSort le = srtBy le xs := (PySem.W.sort_unique h (srtBy_sorted h xs) fun c => srtBy_rank h c xs).symm
theorem insBy_map {β : Type} {r : β → β → Bool} (f : α → β) (x : α) : ∀ {ys : List α}, (∀ b ∈ ys, le x b = r (f x) (f b)) → (insBy le x ys).map f = insBy r (f x) (ys.map f)
  | [], _ => rfl
  | y :: ys, h => by
    have e := h y List.mem_cons_self
    show (if le x y = true then x :: y :: ys else y :: insBy le x ys).map f = if r (f x) (f y) = true then f x :: f y :: ys.map f else f y :: insBy r (f x) (ys.map f)
    rw [← e]
    split
    · rfl
    · rw [List.map_cons, insBy_map f x fun b hb => h b (List.mem_cons_of_mem _ hb)]
theorem srtBy_map {β : Type} {r : β → β → Bool} (f : α → β) : ∀ {xs : List α}, (∀ a ∈ xs, ∀ b ∈ xs, le a b = r (f a) (f b)) → (srtBy le xs).map f = srtBy r (xs.map f)
  | [], _ => rfl
  | x :: xs, h => by
    show (insBy le x (srtBy le xs)).map f = insBy r (f x) (srtBy r (xs.map f))
    rw [insBy_map (r := r) f x fun b hb => h x List.mem_cons_self b (List.mem_cons_of_mem _ ((srtBy_perm xs).mem_iff.mp hb)), srtBy_map f fun a ha b hb => h a (List.mem_cons_of_mem _ ha) b (List.mem_cons_of_mem _ hb)]
end
theorem leI_eq : ∀ p q : List Int, leI p q = leK p q
  | [], q => by
    unfold leI leK
    exact (decide_eq_true (List.nil_le q)).symm
  | x :: xs, [] => by
    unfold leI leK
    refine (decide_eq_false fun h => ?_).symm
    exact absurd (List.not_lt.mpr h) (by simp)
  | x :: xs, y :: ys => by
    have ih := leI_eq xs ys
    unfold leI leK
    unfold leK at ih
    rw [ih]
    by_cases h1 : x < y
    · rw [if_pos h1]
      refine (decide_eq_true ?_).symm
      rw [List.cons_le_cons_iff]
      exact .inl h1
    · rw [if_neg h1]
      by_cases h2 : y < x
      · rw [if_pos h2]
        refine (decide_eq_false fun h => ?_).symm
        rw [List.cons_le_cons_iff] at h
        omega
      · rw [if_neg h2]
        obtain rfl : x = y := by omega
        refine decide_eq_decide.mpr ?_
        rw [List.cons_le_cons_iff]
        constructor
        · exact fun h => .inr ⟨rfl, h⟩
        · rintro (h | ⟨_, h⟩)
          · exact absurd h h1
          · exact h
theorem leI_total : PySem.W.TotalLe leI := by
  rw [show leI = leK from funext fun p => funext fun q => leI_eq p q]
  refine ⟨fun a b c h1 h2 => ?_, fun a b => ?_⟩
  · exact decide_eq_true (List.le_trans (of_decide_eq_true h1) (of_decide_eq_true h2))
  · unfold leK
    rcases List.le_total a b with h | h <;> simp [h]
theorem leI_anti {p q : List Int} (h1 : leI p q = true) (h2 : leI q p = true) : p = q := by
  rw [leI_eq] at h1 h2
  exact List.le_antisymm (of_decide_eq_true h1) (of_decide_eq_true h2)
/-- sorted lists of the same keys are one -/
theorem srt_one {xs ys : List (List Int)} (hx : xs.Pairwise (fun a b => leI a b = true)) (hp : xs.Perm ys) : xs = srtBy leI ys :=
  List.Perm.eq_of_pairwise (fun a b _ _ h1 h2 => leI_anti h1 h2) hx (srtBy_sorted leI_total ys) (hp.trans (srtBy_perm ys).symm)
theorem mem_dd {x : List Int} : ∀ {xs : List (List Int)}, x ∈ dd xs ↔ x ∈ xs
  | [] => Iff.rfl
  | y :: xs => by
    unfold dd
    split
    · rename_i h
      have h : y ∈ dd xs := by simpa using h
      rw [mem_dd, List.mem_cons]
      constructor
      · exact .inr
      · rintro (rfl | h')
        · exact mem_dd.mp h
        · exact h'
    · rw [List.mem_cons, List.mem_cons, mem_dd]
theorem dd_nodup : ∀ xs : List (List Int), (dd xs).Nodup
  | [] => .nil
  | y :: xs => by
    unfold dd
    split
    · exact dd_nodup xs
    · rename_i h
      exact List.nodup_cons.mpr ⟨by simpa using h, dd_nodup xs⟩
/-! ### sorted(xs) -/
section
variable {X : Cx} {pins : List (Addr × Obj)} {s : Shared} {σ τ : L2.St} {H : Hp} {Q : VK} {G : Hp} {g : Gh} {en : En} {r : R} {x y : D} {v w : V} {a b : Value}
variable {P : Program} {w0 : World} {A : Around} {E : Value → Shared → Prop}
theorem ones_of_tuple {l : Addr} {vs : List Value} {Q : List Value → Shared → Prop} (hl : IsTup s.heap l vs.toArray) (h : Q vs { s with heap := (s.heap.push (seqObj "list" #[] 0)).update s.heap.objs.size (Obj.mapSeq (· ++ vs.toArray)) }) (hsz : vs.length ≤ sizeLine) :
    wpAny (model P w0) A (collect (.ref l)) Q E s := by
  obtain ⟨o, ho, hc, n, hd⟩ := hl
  unfold collect
  refine wpAny_bind (wpAny_runValue (codeAny_builtin entry_proto_collect' ?_))
  show wpAny _ _ (do again (.builtin "list.__iadd__" ⟨[← newList [], .ref l], []⟩)) _ _ s
  refine wpAny_bind (wpAny_newList (wpAny_pure ⟨Code.quiet_builtin _ (by decide +kernel), codeAny_builtin entry_list_iadd' ?_⟩))
  show wpAny _ _ (Builtin.List.listExtendWith (.ref s.heap.objs.size) (.ref l) (.ref s.heap.objs.size)) _ _ { s with heap := s.heap.push (seqObj "list" #[] 0) }
  have ho' : (s.heap.push (seqObj "list" #[] 0)).get? l = some o := Heap.get?_push_of_some _ ho
  unfold Builtin.List.listExtendWith
  refine wpAny_bind (wpAny_typeOf (T := "tuple") ⟨o, ho', hc⟩ ?_)
  have ht : (Value.type "tuple" == Value.type "tuple") = true := by rfl
  rw [if_pos (by rw [ht]; simp)]
  refine wpAny_bind (listItems_at ho' hd (wpAny_bind (listItems_at (xs := #[]) (n := 0) (Heap.get?_push_size _ rfl) rfl ?_)))
  rw [if_neg (by simp)]
  refine wpAny_bind (listUpdate_at (xs := #[]) (n := 0) (Heap.get?_push_size _ rfl) rfl (wpAny_pure ?_) (Nat.zero_le _) (by show (#[] ++ vs.toArray).size ≤ sizeLine + 1; simp only [Array.size_append, List.size_toArray, List.length_nil]; omega))
  refine wpAny_bind (wpAny_load (get?_update_seq (Heap.get?_push_size _ rfl) _) ?_)
  show wpAny _ _ (pure ((#[] : Array Value) ++ vs.toArray).toList) Q E _
  rw [show ((#[] : Array Value) ++ vs.toArray).toList = vs by simp]
  exact wpAny_pure h
theorem old_in_sorted {h : Heap} {vs : List Value} {b : Addr} {o : Obj} (e : h.get? b = some o) : ((h.push (seqObj "list" #[] 0)).update h.objs.size (Obj.mapSeq (· ++ vs.toArray))).get? b = some o := by
  rw [Heap.get?_update_ne _ _ _ _ (Nat.ne_of_lt (Heap.lt_size e))]
  exact Heap.get?_push_of_some _ e
/-- sorted(xs) of a list or a tuple whose items read as alike data -/
theorem sorted_seq {β : Type} {R : Value → β → Prop} {enc : β → PyData} {bs : List β} {l : Addr} {vs : List Value} {Q : Value → Shared → Prop} (hl : s.heap.IsList l vs.toArray ∨ IsTup s.heap l vs.toArray) (e : PySem.W.EachIs R vs bs) (er : PySem.W.EachIs (fun v b => ∃ as, Reads s.heap v (enc b) as) vs bs)
    (hal : PySem.W.AllAlike (bs.map enc)) (hk : PySem.W.Sortable (bs.map enc)) (hL : bs.length ≤ sizeLine) (hu : ∀ b, b ∈ bs → A.units + 2 + (enc b).depth < cLine)
    (h : ∀ out, out.length = bs.length → PySem.W.EachIs R out (bs.mergeSort (PySem.W.dataLe false enc)) → Q (.ref (s.heap.objs.size + 1)) { s with heap := sortedAll s.heap vs (List.toArray out) }) :
    wpAny (model P w0) A (call (.builtin "sorted") [.ref l]) Q E s := by
  rcases hl with hl | hl
  · exact PySem.W.sorted_data hl e er hal hk hL hu h
  · refine Calls.call_function_entry kind_sorted plain_sorted entry_sorted (args_sorted1 _) ?_
    unfold Builtin.«sorted»
    refine wpAny_bind (m := checkCount "sorted" 1 1 _) (wpAny_pure ?_)
    have len := e.length
    refine wpAny_bind (ones_of_tuple hl ?_ (by omega))
    refine wpAny_bind (wpAny_newList ?_ (by omega))
    have hsz : ((s.heap.push (seqObj "list" #[] 0)).update s.heap.objs.size (Obj.mapSeq (· ++ vs.toArray))).objs.size = s.heap.objs.size + 1 := by rw [Heap.size_update, size_push']
    have hoL : (((s.heap.push (seqObj "list" #[] 0)).update s.heap.objs.size (Obj.mapSeq (· ++ vs.toArray))).push (seqObj "list" vs.toArray 0)).get? (s.heap.objs.size + 1) = some (seqObj "list" vs.toArray 0) := by
      rw [← hsz]
      exact Heap.get?_push_size _ rfl
    rw [hsz]
    have er2 : PySem.W.EachIs (fun v b => ∃ as, Reads (((s.heap.push (seqObj "list" #[] 0)).update s.heap.objs.size (Obj.mapSeq (· ++ vs.toArray))).push (seqObj "list" vs.toArray 0)) v (enc b) as ∧ s.heap.objs.size + 1 ∉ as) vs bs :=
      er.mono fun v b ⟨as, rd⟩ => ⟨as, PyProof.Rows.Reads.keeps (fun c o z => Heap.get?_push_of_some _ (old_in_sorted z)) rd, fun hm => by
        obtain ⟨o, z⟩ := PyProof.On.reads_mem_get rd _ hm
        exact absurd (Heap.lt_size z) (Nat.not_lt.mpr (Nat.le_succ _))⟩
    refine wpAny_bind (wpAny_holding (PySem.W.list_sort_data (s := { s with heap := ((s.heap.push (seqObj "list" #[] 0)).update s.heap.objs.size (Obj.mapSeq (· ++ vs.toArray))).push (seqObj "list" vs.toArray 0) }) hoL e er2 hal hk hL (fun b hb => by have := hu b hb; show A.units + 1 + 1 + _ < _; omega) fun out lo he => ?_))
    exact wpAny_pure ⟨_, rfl, h out lo he⟩
end
end Tk

/-! Tk, sets and sorting, part 5: the operations upon values. -/
namespace Tk
open PySem PySem.Spec PyProof.Rows L2
section
variable {X : Cx} {pins : List (Addr × Obj)} {s : Shared} {σ τ : L2.St} {H : Hp} {Q : VK} {G : Hp} {g : Gh} {en : En} {r : R} {x y : D} {v w : V} {a b : Value}
theorem seq_of (I : Inv X pins σ H s) (R0 : REn X.K X.mg G g H τ en) {xs : List D} (e : itemsD x = some xs) (hx : OpV X.K X.mg g H v x) : ∃ l vs its, v = .ref l ∧ Reps X.K X.mg g.am g.F xs vs ∧ Vals vs its ∧ (s.heap.IsList l its.toArray ∨ IsTup s.heap l its.toArray) ∧ vs.length ≤ sizeLine := by
  rcases itemsD_some e with rfl | rfl
  · obtain ⟨l, vs, rfl, _, s1, r1⟩ := hx.tup R0
    obtain ⟨its, rv, tp, hz⟩ := I.tuple s1
    exact ⟨l, vs, its, rfl, r1, rv, .inr tp, hz⟩
  · obtain ⟨l, vs, rfl, s1, r1⟩ := hx.lst R0
    obtain ⟨its, rv, pl, hz⟩ := I.list (SqL.of s1)
    exact ⟨l, vs, its, rfl, r1, rv, .inl pl.isList, hz⟩
/-- what a value of the list stands for -/
def Stand (K : PySem.W.Frag) (mg : Str → Option Value) (g : Gh) (u : Value) (b : V × D) : Prop := RelV b.1 u ∧ Rep K mg g.am g.F b.2 b.1
theorem stand_zip {K : PySem.W.Frag} {mg : Str → Option Value} : ∀ {xs : List D} {vs : List V} {its : List Value}, Reps K mg g.am g.F xs vs → Vals vs its → ∃ bs : List (V × D), bs.map Prod.snd = xs ∧ bs.map Prod.fst = vs ∧ PySem.W.EachIs (Stand K mg g) its bs
  | [], vs, its, h, hv => by
    cases (show vs = [] from h)
    cases hv
    exact ⟨[], rfl, rfl, .nil⟩
  | d :: xs, vs, its, h, hv => by
    obtain ⟨v, r, rfl, h1, h2⟩ := h
    cases hv with
    | cons q t =>
      obtain ⟨bs, e1, e2, e3⟩ := stand_zip h2 t
      exact ⟨(v, d) :: bs, by rw [List.map_cons, e1], by rw [List.map_cons, e2], .cons ⟨q, h1⟩ e3⟩
theorem zip_stand {K : PySem.W.Frag} {mg : Str → Option Value} : ∀ {its : List Value} {bs : List (V × D)}, PySem.W.EachIs (Stand K mg g) its bs → Reps K mg g.am g.F (bs.map Prod.snd) (bs.map Prod.fst) ∧ Vals (bs.map Prod.fst) its
  | _, _, .nil => ⟨rfl, .nil⟩
  | _, _, .cons h t => let ⟨a1, a2⟩ := zip_stand t; ⟨.cons h.2 a1, .cons h.1 a2⟩
theorem plains_mem : ∀ {xs : List D}, plains xs = true → ∀ x ∈ xs, plain x = true
  | y :: xs, h, x, hx => by
    have h : plain y = true ∧ plains xs = true := by simpa [plains] using h
    rcases List.mem_cons.mp hx with rfl | hx
    · exact h.1
    · exact plains_mem h.2 x hx
theorem depths_mem : ∀ {xs : List D} {x : D}, x ∈ xs → depth x ≤ depths xs
  | y :: xs, x, hx => by
    have e : depths (y :: xs) = max (depth y) (depths xs) := by rw [depths]
    rw [e]
    rcases List.mem_cons.mp hx with rfl | hx
    · exact Nat.le_max_left _ _
    · exact Nat.le_trans (depths_mem hx) (Nat.le_max_right _ _)
theorem leP_srt {xs : List D} (h : alikeD xs = true) : xs.mergeSort (fun x y => !PySem.W.dataLt (toPy y) (toPy x)) = srtBy leP xs :=
  merge_srt (le := leP) (PySem.W.sortLe_total (listOrd itemOrd) false fun b => PySem.W.keyToks (toPy b)) xs
theorem sort_sq (hu : X.A.units + 200 < cLine) (hx : OpV X.K X.mg g H v x) (us : List Value) (hv : Vals [v] us) (I : Inv X pins σ H s) (R0 : REn X.K X.mg G g H τ en) {xs : List D} (e1 : itemsD x = some xs) (e : sortL xs = some r) (q : Rd X.K X.mg G g τ en r Q) : wpAny (model X.prog X.w) X.A (call (.builtin "sorted") us) (EP X pins σ Q) X.xe s := by
  obtain ⟨h1, e⟩ := guardO_some e
  cases e
  simp only [Bool.and_eq_true, decide_eq_true_eq] at h1
  obtain ⟨⟨⟨⟨pl, al⟩, so⟩, lb⟩, dx⟩ := h1
  obtain ⟨l, vs, its, rfl, r1, rv, sq, hz⟩ := seq_of I R0 e1 hx
  obtain ⟨bs, b1, b2, b3⟩ := stand_zip r1 rv
  rw [Vals.ref1 hv]
  have inxs : ∀ b ∈ bs, b.2 ∈ xs := fun b hb => by rw [← b1]; exact List.mem_map.mpr ⟨b, hb, rfl⟩
  have len : bs.length = xs.length := by rw [← b1, List.length_map]
  refine sorted_seq (R := Stand X.K X.mg g) (enc := fun b => toPy b.2) (bs := bs) sq b3 ?_ ?_ ?_ (by rw [len, ← big_line]; exact lb) (fun b hb => ?_) fun out lo he => ?_
  · have : ∀ {us : List Value} {cs : List (V × D)}, (∀ c ∈ cs, c.2 ∈ xs) → PySem.W.EachIs (Stand X.K X.mg g) us cs → PySem.W.EachIs (fun v b => ∃ as, Reads s.heap v (toPy b.2) as) us cs := fun {us cs} hm ev => by
      induction ev with
      | nil => exact .nil
      | @cons u c us cs h t ih => exact .cons (Dp.reads I _ _ _ (Rep.dp c.2 c.1 (plains_mem pl _ (hm c List.mem_cons_self)) (Rep.mono R0.fh List.prefix_rfl _ _ h.2)) h.1) (ih fun c hc => hm c (List.mem_cons_of_mem _ hc))
    exact this inxs b3
  · intro d hd d' hd'
    obtain ⟨b, hb, rfl⟩ := List.mem_map.mp hd
    obtain ⟨b', hb', rfl⟩ := List.mem_map.mp hd'
    exact List.all_eq_true.mp (List.all_eq_true.mp al _ (inxs b hb)) _ (inxs b' hb')
  · unfold sortableD at so
    rw [Bool.or_eq_true] at so
    rcases so with so | so
    · refine .inl fun d hd => ?_
      obtain ⟨b, hb, rfl⟩ := List.mem_map.mp hd
      have z := List.all_eq_true.mp so _ (inxs b hb)
      unfold isTup1 at z
      split at z
      · rename_i y ys ey
        exact ⟨toPy y, toPys ys, by show toPy b.2 = _; rw [ey]; simp only [toPy, toPys]⟩
      · cases z
    · refine .inr fun d hd => ?_
      obtain ⟨b, hb, rfl⟩ := List.mem_map.mp hd
      have z := List.all_eq_true.mp so _ (inxs b hb)
      have p := plains_mem pl _ (inxs b hb)
      show toPy b.2 ≠ .none ∧ ∀ ys, toPy b.2 ≠ .tuple ys
      cases e : b.2 <;> rw [e] at z p <;> first | (cases z; done) | (cases p; done) | (simp [toPy]; done)
  · have := depth_toPy b.2 (plains_mem pl _ (inxs b hb))
    have := depths_mem (inxs b hb)
    omega
  · have k : ∀ b o, s.heap.get? b = some o → (sortedAll s.heap its out.toArray).get? b = some o := fun b o z => sortedAll_old z
    obtain ⟨c, hc⟩ := sortedAll_at s.heap its out.toArray
    obtain ⟨z1, z2⟩ := zip_stand he
    have hn : H (s.heap.objs.size + 1) = none := I.hok.fresh (Nat.le_succ _)
    have ed : (bs.mergeSort (PySem.W.dataLe false fun b => toPy b.2)).map Prod.snd = srtBy leP xs := by
      rw [← b1, ← leP_srt (by rw [b1]; exact al)]
      exact PySem.W.sort_maps (s := fun x y => !PySem.W.dataLt (toPy y) (toPy x)) Prod.snd (fun _ _ _ _ => rfl)
    rw [ed] at z1
    have lo2 : ((bs.mergeSort (PySem.W.dataLe false fun b => toPy b.2)).map Prod.fst).length ≤ sizeLine := by rw [List.length_map, List.length_mergeSort, len, ← big_line]; exact lb
    exact ⟨.ref (s.heap.objs.size + 1), _, I.laid (a := s.heap.objs.size + 1) (o := .lst _) (t' := s.toks) k (Nat.le_succ _) ⟨lo2, out, c, z2, hc⟩, rfl, q.ow R0 z1 _ hn⟩
/-- sorted(d): the keys -/
theorem acc_keys {es : Array DictEntry} {xs : List DEnt} {acc : Array Value} (he : es.toList = xs.map (entryOfKey (nestedKind X.prog X.w))) (hl : acc.size = es.size) (hi : ∀ (j : Nat) (v : Value), acc[j]? = some v → ∃ e : DictEntry, es[j]? = some e ∧ v = e.key) : acc.toList = xs.map fun x => Value.ref x.2.1 := by
  have l1 : es.size = xs.length := by rw [← Array.length_toList, he, List.length_map]
  have hl : acc.toList.length = xs.length := by rw [Array.length_toList, hl]; exact l1
  apply List.ext_getElem?
  intro j
  rw [List.getElem?_map]
  cases hj : acc.toList[j]? with
  | none =>
    have h1 := List.getElem?_eq_none_iff.mp hj
    rw [List.getElem?_eq_none (by omega)]
    all_goals rfl
  | some v =>
    obtain ⟨en, hen, hv⟩ := hi j v (by rw [← Array.getElem?_toList]; exact hj)
    have qe : es[j]? = (xs.map (entryOfKey (nestedKind X.prog X.w)))[j]? := by rw [← he, Array.getElem?_toList]
    rw [hen, List.getElem?_map] at qe
    cases hb : xs[j]? with
    | none =>
      rw [hb] at qe
      exact nomatch (show some en = none from qe)
    | some b =>
      rw [hb] at qe
      have e2 : en = entryOfKey (nestedKind X.prog X.w) b := Option.some.inj qe
      rw [hv, e2]
      all_goals rfl
theorem sort_dic (hc : X.calm = true) (hu : X.A.units + 200 < cLine) {kvs : List (D × D)} (hx : OpV X.K X.mg g H v (.dic kvs)) (us : List Value) (hv : Vals [v] us) (I : Inv X pins σ H s) (R0 : REn X.K X.mg G g H τ en) (e : sortL (kvs.map (·.1)) = some r) (q : Rd X.K X.mg G g τ en r Q) : wpAny (model X.prog X.w) X.A (call (.builtin "sorted") us) (EP X pins σ Q) X.xe s := by
  obtain ⟨h1, e⟩ := guardO_some e
  cases e
  simp only [Bool.and_eq_true, decide_eq_true_eq] at h1
  obtain ⟨⟨⟨⟨pl, al⟩, so⟩, lb⟩, dx⟩ := h1
  obtain ⟨p, o, ents, rfl, hp, B, rs⟩ := hx.dic R0
  obtain ⟨es, ep, hdt, he⟩ := B.es
  have he := he X.prog X.w
  have ho : s.heap.get? p = some o := (show ObjOk X.prog X.w H s.heap p (AtO p o) from I.hok p _ hp).1
  have l1 : es.size = ents.length := by rw [← Array.length_toList, he, List.length_map]
  have hz := B.sz
  have rv : Vals (ents.map fun x => V.ref x.2.1) (ents.map fun x => Value.ref x.2.1) := by
    have : ∀ l : List DEnt, Vals (l.map fun x => V.ref x.2.1) (l.map fun x => Value.ref x.2.1) := fun l => by
      induction l with
      | nil => exact .nil
      | cons y l ih => exact .cons rfl ih
    exact this ents
  have r1 := rs.reps
  generalize kvs.map (·.1) = xs at *
  obtain ⟨bs, b1, b2, b3⟩ := stand_zip r1 rv
  rw [Vals.ref1 hv]
  have inxs : ∀ b ∈ bs, b.2 ∈ xs := fun b hb => by rw [← b1]; exact List.mem_map.mpr ⟨b, hb, rfl⟩
  have len : bs.length = xs.length := by rw [← b1, List.length_map]
  have len2 : bs.length = ents.length := by
    have := congrArg List.length b2
    rwa [List.length_map, List.length_map] at this
  have er : PySem.W.EachIs (fun v b => ∃ as, Reads s.heap v (toPy b.2) as) (ents.map fun x => Value.ref x.2.1) bs := by
    have : ∀ {us : List Value} {cs : List (V × D)}, (∀ c ∈ cs, c.2 ∈ xs) → PySem.W.EachIs (Stand X.K X.mg g) us cs → PySem.W.EachIs (fun v b => ∃ as, Reads s.heap v (toPy b.2) as) us cs := fun {us cs} hm ev => by
      induction ev with
      | nil => exact .nil
      | @cons u c us cs h t ih => exact .cons (Dp.reads I _ _ _ (Rep.dp c.2 c.1 (plains_mem pl _ (hm c List.mem_cons_self)) (Rep.mono R0.fh List.prefix_rfl _ _ h.2)) h.1) (ih fun c hc => hm c (List.mem_cons_of_mem _ hc))
    exact this inxs b3
  refine Calls.call_function_entry kind_sorted plain_sorted entry_sorted (args_sorted1 _) ?_
  unfold Builtin.«sorted»
  refine wpAny_bind (m := checkCount "sorted" 1 1 _) (wpAny_pure ?_)
  refine wpAny_bind (PySem.W.kdu_collect (A := X.A.in1) (kdl_raw B.ns B.ex hdt) (I.ok.hd hc) ho (by omega) fun h' tk acc kp it => ?_)
  rw [acc_keys (X := X) he it.1 it.2]
  have hL : bs.length ≤ sizeLine := by rw [len2]; exact hz
  refine wpAny_bind (wpAny_newList ?_ (by rw [List.length_map, ← len2]; exact hL))
  have hoL : (h'.push (seqObj "list" (ents.map fun x => Value.ref x.2.1).toArray 0)).get? h'.objs.size = some (seqObj "list" (ents.map fun x => Value.ref x.2.1).toArray 0) := Heap.get?_push_size _ rfl
  have er2 : PySem.W.EachIs (fun v b => ∃ as, Reads (h'.push (seqObj "list" (ents.map fun x => Value.ref x.2.1).toArray 0)) v (toPy b.2) as ∧ h'.objs.size ∉ as) (ents.map fun x => Value.ref x.2.1) bs :=
    er.mono fun v b ⟨as, rd⟩ => ⟨as, PyProof.Rows.Reads.keeps (fun c o z => Heap.get?_push_of_some _ (kp c o z)) rd, fun hm => by
      obtain ⟨o, z⟩ := PyProof.On.reads_mem_get rd _ hm
      exact absurd (Heap.lt_size (kp _ _ z)) (Nat.lt_irrefl _)⟩
  refine wpAny_bind (wpAny_holding (PySem.W.list_sort_data (R := Stand X.K X.mg g) (enc := fun b => toPy b.2) (bs := bs) (s := { s with heap := h'.push (seqObj "list" (ents.map fun x => Value.ref x.2.1).toArray 0), toks := tk }) hoL b3 er2 ?_ ?_ hL (fun b hb => ?_) fun out lo he2 => ?_))
  · intro d hd d' hd'
    obtain ⟨b, hb, rfl⟩ := List.mem_map.mp hd
    obtain ⟨b', hb', rfl⟩ := List.mem_map.mp hd'
    exact List.all_eq_true.mp (List.all_eq_true.mp al _ (inxs b hb)) _ (inxs b' hb')
  · unfold sortableD at so
    rw [Bool.or_eq_true] at so
    rcases so with so | so
    · refine .inl fun d hd => ?_
      obtain ⟨b, hb, rfl⟩ := List.mem_map.mp hd
      have z := List.all_eq_true.mp so _ (inxs b hb)
      unfold isTup1 at z
      split at z
      · rename_i y ys ey
        exact ⟨toPy y, toPys ys, by show toPy b.2 = _; rw [ey]; simp only [toPy, toPys]⟩
      · cases z
    · refine .inr fun d hd => ?_
      obtain ⟨b, hb, rfl⟩ := List.mem_map.mp hd
      have z := List.all_eq_true.mp so _ (inxs b hb)
      have p := plains_mem pl _ (inxs b hb)
      show toPy b.2 ≠ .none ∧ ∀ ys, toPy b.2 ≠ .tuple ys
      cases e : b.2 <;> rw [e] at z p <;> first | (cases z; done) | (cases p; done) | (simp [toPy]; done)
  · have := depth_toPy b.2 (plains_mem pl _ (inxs b hb))
    have := depths_mem (inxs b hb)
    show X.A.units + 1 + 1 + (toPy b.2).depth < cLine
    omega
  · obtain ⟨c, hc⟩ := sortedHeap_at (vs := ents.map fun x => Value.ref x.2.1) (out := out.toArray) hoL
    obtain ⟨z1, z2⟩ := zip_stand he2
    have I1 : Inv X pins σ H { s with heap := h', toks := tk } := I.kept kp
    have hn : H h'.objs.size = none := I1.hok.fresh (Nat.le_refl _)
    have ed : (bs.mergeSort (PySem.W.dataLe false fun b => toPy b.2)).map Prod.snd = srtBy leP xs := by
      rw [← b1, ← leP_srt (by rw [b1]; exact al)]
      exact PySem.W.sort_maps (s := fun x y => !PySem.W.dataLt (toPy y) (toPy x)) Prod.snd (fun _ _ _ _ => rfl)
    rw [ed] at z1
    have lo2 : ((bs.mergeSort (PySem.W.dataLe false fun b => toPy b.2)).map Prod.fst).length ≤ sizeLine := by rw [List.length_map, List.length_mergeSort]; exact hL
    have k : ∀ b o, h'.get? b = some o → (sortedHeap (h'.push (seqObj "list" (ents.map fun x => Value.ref x.2.1).toArray 0)) h'.objs.size (ents.map fun x => Value.ref x.2.1) out.toArray).get? b = some o := fun b u q => by
      have lt := Heap.lt_size q
      rw [sortedHeap_old (Nat.ne_of_lt lt) (by rw [size_push']; exact Nat.lt_succ_of_lt lt)]
      exact Heap.get?_push_of_some _ q
    refine wpAny_pure ⟨_, rfl, .ref h'.objs.size, _, I1.laid (a := h'.objs.size) (o := .lst _) (t' := tk) k (Nat.le_refl _) ⟨lo2, out, c, z2, hc⟩, rfl, q.ow R0 z1 _ hn⟩
theorem sort_ok (hc : X.calm = true) (hu : X.A.units + 200 < cLine) (hx : OpV X.K X.mg g H v x) (us : List Value) (hv : Vals [v] us) (I : Inv X pins σ H s) (R0 : REn X.K X.mg G g H τ en) (e : sortD x = some r) (q : Rd X.K X.mg G g τ en r Q) : wpAny (model X.prog X.w) X.A (call (.builtin "sorted") us) (EP X pins σ Q) X.xe s := by
  cases x with
  | dic kvs => exact sort_dic hc hu hx us hv I R0 e q
  | tup ys => exact sort_sq hu hx us hv I R0 (xs := ys) rfl e q
  | lst ys => exact sort_sq hu hx us hv I R0 (xs := ys) rfl e q
  | _ => cases e
end
end Tk

/-! Tk, part 8: what an expression of the text does is what the small language says of it: readings. -/
namespace Tk
open PySem PySem.Spec PyProof.Rows L2

abbrev XF : XP := fun _ _ => False
abbrev noO : Hp := fun _ => none
/-! ### a def's promise in the small language -/
/-- as the library's FnOk, with the marks around told -/
structure FnG (P : Program) (w : World) (K : PySem.W.Frag) (mg : Str → Option Value) (base : Heap) (k : Nat) (f : Addr) (fd : FuncData) (ps : List Str) (sp : Sp) : Prop where
  len : ∀ vs H Q E, sp vs H Q E → vs.length = ps.length
  run : ∀ (A : Around) (outer : List Env) (s : Shared) (H : Hp) (args : Args) (us : List Value) (vs : List V) (Q : VK) (E : XK), Room k A → A.guards = some [] → Env0 P w K mg base A outer s H →
    BindsTo s fd args (ps.zip us) → Vals vs us → sp vs H Q E → codeAny (model P w) A (.call (.ref f) args) (CR CX0 outer P w H s Q E) s
/-- what a def of the small language promises -/
def spF (K : PySem.W.Frag) (mg : Str → Option Value) (cal : Cal) (f : Str) (n : Nat) : Sp := fun vs H Q _ => ∃ (G F : Hp) (am : List Addr) (ob : List Ob) (ds : List D) (Q0 : R → List Ob → Prop),
  ds.length = n ∧ REn K mg G ⟨F, noO, am⟩ H [] ⟨[], ob⟩ ∧ Reps K mg am F ds vs ∧ cal f ds ob Q0 (fun _ _ => False) ∧
  ∀ (v : V) (F' : Hp) (am' : List Addr) (H' : Hp) (r : R) (ob' : List Ob), REn K mg G ⟨F', noO, am'⟩ H' [] ⟨[], ob'⟩ → Same F F' → am <+: am' → RRes K mg G ⟨F', noO, am'⟩ H' [] ⟨[], ob'⟩ v r → Q0 r ob' → Q v H'
/-- every def of the list keeps its promise -/
def CalOk (P : Program) (w : World) (K : PySem.W.Frag) (mg : Str → Option Value) (base : Heap) (k : Nat) (cal : Cal) (fs : List Str) : Prop :=
  ∀ f ∈ fs, ∃ (fa : Addr) (fd : FuncData) (ps : List Str), mg f = some (.ref fa) ∧ PySem.W.keepIn K (.ref fa) = true ∧ Binds K fd ps [] ∧ (∀ ds ob Q E, cal f ds ob Q E → ds.length = ps.length) ∧ FnG P w K mg base k fa fd ps (spF K mg cal f ps.length)
def bltNames : List Str := ["len", "tuple", "list", "repr", "int", "sum", "min", "max", "all", "any", "abs", "isinstance", "bool", "str", "range", "enumerate", "sorted", "set"]
structure Ok8 (C : Cfg) (k : Nat) (X : Cx) (cc : CC) : Prop where
  N : X.N = cc.N
  nd : X.N.Nodup
  sc : X.env.scope = cc.sc
  calm : X.calm = true
  fnc : cc.top = true → ∀ x, X.fn x = true
  gd : X.A.guards = some []
  hu : X.A.units + 200 < cLine
  blt : ∀ x ∈ bltNames, X.mg x = none
  gl : ∀ (x : Str) (d : D), C.gl x = some d → ∃ (u : Value) (v : V), X.mg x = some u ∧ RelV v u ∧ ∀ (am : List Addr) (F : Hp), Rep X.K X.mg am F d v
  mono : CalMono C.cal
  cal : CalOk X.prog X.w X.K X.mg X.base k C.cal cc.fs
  room : Room k X.A

section
variable {C : Cfg} {k : Nat} {X : Cx} {cc : CC}
theorem the_some {α : Type} {o : Option α} {Q : α → Prop} (h : the o Q) : ∃ a, o = some a ∧ Q a := by
  cases o with
  | none => exact h.elim
  | some a => exact ⟨a, rfl, h⟩
/-- an expression's reading -/
def rdE (K : PySem.W.Frag) (mg : Str → Option Value) (C : Cfg) (ir : IE) : TE := fun σ H Q => ∃ (G : Hp) (g : Gh) (en : En) (Q0 : QR), REn K mg G g H σ en ∧ wE C ir en Q0 XF ∧
  ∀ (v : V) (g' : Gh) (H' : Hp) (r : R) (en' : En), REn K mg G g' H' σ en' → Ext g g' → RRes K mg G g' H' σ en' v r → Q0 r en' → Q v H'
def Helds (K : PySem.W.Frag) (mg : Str → Option Value) (g : Gh) : List V → List D → Prop
  | [], [] => True
  | v :: vs, d :: ds => Held K mg g v d ∧ Helds K mg g vs ds
  | _, _ => False
def rdA (K : PySem.W.Frag) (mg : Str → Option Value) (C : Cfg) (irs : List IE) : TA := fun σ H Q => ∃ (G : Hp) (g : Gh) (en : En) (Q0 : List D → En → Prop), REn K mg G g H σ en ∧ wA C irs en Q0 XF ∧
  ∀ (vs : List V) (g' : Gh) (H' : Hp) (ds : List D) (en' : En), REn K mg G g' H' σ en' → Ext g g' → Helds K mg g' vs ds → Q0 ds en' → Q vs H'
def rdX (K : PySem.W.Frag) (mg : Str → Option Value) (C : Cfg) (irs : List IE) : TA := fun σ H Q => ∃ (G : Hp) (g : Gh) (en : En) (Q0 : List D → En → Prop), REn K mg G g H σ en ∧ wX C irs en Q0 XF ∧
  ∀ (vs : List V) (g' : Gh) (H' : Hp) (ds : List D) (en' : En), REn K mg G g' H' σ en' → Ext g g' → Reps K mg g'.am g'.F ds vs → Q0 ds en' → Q vs H'
def rdT (K : PySem.W.Frag) (mg : Str → Option Value) (C : Cfg) (ir : IE) : TT := fun σ H Q => ∃ (G : Hp) (g : Gh) (en : En) (Q0 : Bool → En → Prop), REn K mg G g H σ en ∧ wT C ir en Q0 XF ∧
  ∀ (b : Bool) (g' : Gh) (H' : Hp) (en' : En), REn K mg G g' H' σ en' → Ext g g' → Q0 b en' → Q b H'
theorem _root_.L2.PE.imp {e : Expr} {t t' : TE} (h : PE X e t) (i : ∀ σ H Q, t' σ H Q → t σ H Q) : PE X e t' := ⟨fun pins s σ H Q I q => h.run pins s σ H Q I (i σ H Q q)⟩
theorem _root_.L2.PT.imp {e : Expr} {t t' : TT} (h : PT X e t) (i : ∀ σ H Q, t' σ H Q → t σ H Q) : PT X e t' := ⟨fun pins s σ H Q I q => h.run pins s σ H Q I (i σ H Q q)⟩
theorem _root_.L2.PW.imp {e : Expr} {t t' : TT} (h : PW X e t) (i : ∀ σ H Q, t' σ H Q → t σ H Q) : PW X e t' := ⟨fun wh pins s σ H Q I q => h.run wh pins s σ H Q I (i σ H Q q)⟩
theorem _root_.L2.PA.imp {es : List Expr} {t t' : TA} (h : PA X es t) (i : ∀ σ H Q, t' σ H Q → t σ H Q) : PA X es t' := ⟨fun pos pins s σ H Q I q => h.run pos pins s σ H Q I (i σ H Q q)⟩
theorem Helds.mono {K : PySem.W.Frag} {mg : Str → Option Value} {g g' : Gh} (x : Ext g g') : ∀ {vs : List V} {ds : List D}, Helds K mg g vs ds → Helds K mg g' vs ds
  | [], [], _ => trivial
  | _ :: _, _ :: _, h => ⟨h.1.mono x, Helds.mono x h.2⟩
  | [], _ :: _, h => h.elim
  | _ :: _, [], h => h.elim
theorem Helds.op {K : PySem.W.Frag} {mg : Str → Option Value} {G : Hp} {g : Gh} {H : Hp} {σ : L2.St} {en : En} (R0 : REn K mg G g H σ en) : ∀ {vs : List V} {ds : List D}, Helds K mg g vs ds → OpVs K mg g H vs (ds.map (view en.ob))
  | [], [], _ => trivial
  | _ :: _, _ :: _, h => ⟨h.1.op R0, Helds.op R0 h.2⟩
  | [], _ :: _, h => h.elim
  | _ :: _, [], h => h.elim
/-- taken as an operand, the rest -/
theorem rdE.cons {σ : L2.St} {H : Hp} {ir : IE} {irs : List IE} {K : PySem.W.Frag} {mg : Str → Option Value} {Q : List V → Hp → Prop} (h : rdA K mg C (ir :: irs) σ H Q) : tCons (rdE K mg C ir) (rdA K mg C irs) σ H Q := by
  obtain ⟨G, g, en, Q0, R0, w, q⟩ := h
  refine ⟨G, g, en, _, R0, w, fun v g1 H1 r en1 R1 e1 rr w1 => ?_⟩
  obtain ⟨g2, R2, e2, held⟩ := rr.hold R1
  exact ⟨G, g2, en1, _, R2, w1, fun vs g3 H3 ds en3 R3 e3 hs q0 => q (v :: vs) g3 H3 (r.d :: ds) en3 R3 (e1.trans (e2.trans e3)) ⟨held.mono e3, hs⟩ q0⟩
theorem rdX.cons {σ : L2.St} {H : Hp} {ir : IE} {irs : List IE} {K : PySem.W.Frag} {mg : Str → Option Value} {Q : List V → Hp → Prop} (h : rdX K mg C (ir :: irs) σ H Q) : tCons (rdE K mg C ir) (rdX K mg C irs) σ H Q := by
  obtain ⟨G, g, en, Q0, R0, w, q⟩ := h
  refine ⟨G, g, en, _, R0, w, fun v g1 H1 r en1 R1 e1 rr w1 => ?_⟩
  obtain ⟨g2, R2, e2, held⟩ := rr.esc R1
  exact ⟨G, g2, en1.frz r, _, R2, w1, fun vs g3 H3 ds en3 R3 e3 hs q0 => q (v :: vs) g3 H3 (r.d :: ds) en3 R3 (e1.trans (e2.trans e3)) (.cons (Rep.mono e3.F e3.am _ _ held) hs) q0⟩
theorem star_of {e : Expr} {es : List Expr} {env : Env} (h : isStar e = false) : starEach (e :: es) env = (false, eval e env) :: starEach es env := by
  cases e <;> first | rfl | (cases h; done)
theorem paA_nil : PA X [] (rdA X.K X.mg C []) := pa_nil.imp fun σ H Q ⟨G, g, en, Q0, R0, w, q⟩ => q [] g H [] en R0 (.refl g) trivial w
theorem paA_cons {e : Expr} {es : List Expr} {ir : IE} {irs : List IE} (hs : isStar e = false) (he : PE X e (rdE X.K X.mg C ir)) (hr : PA X es (rdA X.K X.mg C irs)) : PA X (e :: es) (rdA X.K X.mg C (ir :: irs)) :=
  (pa_cons he hr (star_of hs)).imp fun σ H Q h => rdE.cons h
theorem paX_nil : PA X [] (rdX X.K X.mg C []) := pa_nil.imp fun σ H Q ⟨G, g, en, Q0, R0, w, q⟩ => q [] g H [] en R0 (.refl g) Reps.nil w
theorem paX_cons {e : Expr} {es : List Expr} {ir : IE} {irs : List IE} (hs : isStar e = false) (he : PE X e (rdE X.K X.mg C ir)) (hr : PA X es (rdX X.K X.mg C irs)) : PA X (e :: es) (rdX X.K X.mg C (ir :: irs)) :=
  (pa_cons he hr (star_of hs)).imp fun σ H Q h => rdX.cons h
/-! ### forms -/
theorem peC {c : Const} {d : D} {j : Nat} {pos : Pos} (h : cConst c = some d) : PE X (.Constant c j pos) (rdE X.K X.mg C (.c d)) := by
  have fin : ∀ {v : V}, (∀ am F, Rep X.K X.mg am F d v) → ∀ σ H Q, rdE X.K X.mg C (.c d) σ H Q → tC v σ H Q := fun hr σ H Q ⟨G, g, en, Q0, R0, w, q⟩ => q _ g H (.fz d) en R0 (.refl g) (hr _ _) w
  cases c with
  | none => cases h; exact pe_non.imp (fin fun _ _ => rfl)
  | bool b => cases h; exact pe_bl.imp (fin fun _ _ => rfl)
  | int i => cases h; exact pe_int.imp (fin fun _ _ => rfl)
  | str x => cases h; exact pe_str.imp (fin fun _ _ => rfl)
  | _ => cases h
theorem isDbg_of {x : Str} (h : isDbg x = false) : (x == ("__debug__" : Str)) = false ∧ (x == ("__classdict__" : Str)) = false := by
  unfold isDbg at h
  rw [Bool.or_eq_false_iff] at h
  exact h
theorem place_of {x : Str} {i : Nat} (h : cc.place x = some i) : cc.N[i]? = some x := by
  unfold CC.place at h
  rw [List.findIdx?_eq_some_iff_getElem] at h
  obtain ⟨hl, h1, _⟩ := h
  rw [List.getElem?_eq_getElem hl, eq_of_beq h1]
theorem cVar_of {x : Str} {i : Nat} (h : cVar cc x = some i) : isDbg x = false ∧ cc.N[i]? = some x ∧ (cc.sc.names.lookup x = some .local ∨ cc.sc.names.lookup x = some .cell ∨ cc.sc.names.lookup x = some .free) := by
  unfold cVar at h
  split at h
  · cases h
  · rename_i hd
    refine ⟨by simpa using hd, ?_⟩
    unfold CC.kind at h
    split at h
    · exact ⟨place_of h, .inl (by assumption)⟩
    · exact ⟨place_of h, .inr (.inl (by assumption))⟩
    · exact ⟨place_of h, .inr (.inr (by assumption))⟩
    · cases h
theorem cLoc_of {x : Str} {i : Nat} (h : cLoc cc x = some i) : isDbg x = false ∧ cc.N[i]? = some x ∧ cc.sc.names.lookup x = some .local := by
  unfold cLoc at h
  split at h
  · cases h
  · rename_i hd
    refine ⟨by simpa using hd, ?_⟩
    unfold CC.kind at h
    split at h
    · exact ⟨place_of h, by assumption⟩
    · cases h
theorem cSto_of {x : Str} {i : Nat} (h : cSto cc x = some i) : isDbg x = false ∧ cc.N[i]? = some x ∧ (cc.sc.names.lookup x = some .local ∨ (cc.sc.names.lookup x = some .cell ∧ cc.top = true)) := by
  unfold cSto at h
  split at h
  · cases h
  · rename_i hd
    refine ⟨by simpa using hd, ?_⟩
    unfold CC.kind at h
    split at h
    · exact ⟨place_of h, .inl (by assumption)⟩
    · split at h
      · exact ⟨place_of h, .inr ⟨by assumption, by assumption⟩⟩
      · cases h
    · cases h
theorem cGlob_of {x : Str} (h : cGlob cc x = true) : isDbg x = false ∧ x ≠ "__name__" ∧ cc.sc.names.lookup x = some .globalImplicit := by
  unfold cGlob at h
  simp only [Bool.and_eq_true, Bool.not_eq_true'] at h
  obtain ⟨⟨h1, h2⟩, h3⟩ := h
  refine ⟨h1, fun e => ?_, ?_⟩
  · rw [beq_eq_false_iff_ne] at h2
    exact h2 e
  · unfold CC.kind at h3
    split at h3
    · assumption
    · cases h3
theorem peV (O : Ok8 C k X cc) {x : Str} {i : Nat} {pos : Pos} (h : cVar cc x = some i) : PE X (.Name x pos) (rdE X.K X.mg C (.v i)) := by
  obtain ⟨h1, h2, h3⟩ := cVar_of h
  obtain ⟨d1, d2⟩ := isDbg_of h1
  refine (pe_var (i := i) (x := x) (by rw [O.N]; exact h2) (by unfold Vis; rw [O.sc]; exact h3) d1 d2).imp fun σ H Q ⟨G, g, en, Q0, R0, w, q⟩ => ?_
  have w : (match en.sl[i]? with | some (.fz d) => Q0 (.fz d) en | some (.ow d) => Q0 (.rf i d) en | _ => False) := w
  split at w
  · rename_i d e
    obtain ⟨v, e1, r⟩ := R0.sl i _ e
    exact ⟨v, e1, q v g H (.fz d) en R0 (.refl g) r w⟩
  · rename_i d e
    obtain ⟨p, o, e1, e2, c⟩ := R0.ownAt e
    exact ⟨_, e1, q _ g H (.rf i d) en R0 (.refl g) ⟨e, e1⟩ w⟩
  · exact w.elim
theorem gl_of (O : Ok8 C k X cc) {x : Str} (h : cGlob cc x = true) : Gl X x ∧ (x == ("__debug__" : Str)) = false ∧ x ≠ "__name__" := by
  obtain ⟨h1, h2, h3⟩ := cGlob_of h
  refine ⟨?_, (isDbg_of h1).1, h2⟩
  show X.env.scope.names.lookup x = _
  rw [O.sc]
  exact h3
theorem peG (O : Ok8 C k X cc) {x : Str} {pos : Pos} (h : cGlob cc x = true) : PE X (.Name x pos) (rdE X.K X.mg C (.g x)) := by
  obtain ⟨h1, h2, _⟩ := gl_of O h
  refine ⟨fun pins s σ H Q I ⟨G, g, en, Q0, R0, w, q⟩ => ?_⟩
  obtain ⟨d, e, w⟩ := the_some w
  obtain ⟨u, v, e1, r, rp⟩ := O.gl x d e
  exact (pe_glob h1 e1 r h2).run pins s σ H Q I (q v g H (.fz d) en R0 (.refl g) (rp _ _) w)
theorem peB (O : Ok8 C k X cc) {a b : Expr} {op : Operator} {o : Op} {ia ib : IE} {pos : Pos} (ho : cBin op = some o) (ha : PE X a (rdE X.K X.mg C ia)) (hb : PE X b (rdE X.K X.mg C ib)) : PE X (.BinOp a op b pos) (rdE X.K X.mg C (.op o [ia, ib])) := by
  refine (pe_op (opR_bin ho) ha hb).imp fun σ H Q ⟨G, g, en, Q0, R0, w, q⟩ => ?_
  refine ⟨G, g, en, _, R0, w, fun v g1 H1 r1 en1 R1 e1 rr w1 => ?_⟩
  obtain ⟨g2, R2, e2, held⟩ := rr.hold R1
  refine ⟨G, g2, en1, _, R2, w1, fun w' g3 H3 r2 en3 R3 e3 rr2 w2 => ?_⟩
  obtain ⟨g4, R4, e4, held2⟩ := rr2.hold R3
  obtain ⟨r, er, w2⟩ := the_some w2
  exact ⟨G, g4, σ, en3, _, _, r, R4, (held.mono (e3.trans e4)).op R4, held2.op R4, er, fun v' g' H' R' e' rr' => q v' g' H' r en3 R' (e1.trans (e2.trans (e3.trans (e4.trans e')))) rr' w2⟩
theorem peN (O : Ok8 C k X cc) {a : Expr} {ia : IE} {pos : Pos} (ha : PE X a (rdE X.K X.mg C ia)) : PE X (.UnaryOp .USub a pos) (rdE X.K X.mg C (.op .neg [ia])) := by
  refine (pe_un unR_neg ha).imp fun σ H Q ⟨G, g, en, Q0, R0, w, q⟩ => ?_
  refine ⟨G, g, en, _, R0, w, fun v g1 H1 r1 en1 R1 e1 rr w1 => ?_⟩
  obtain ⟨g2, R2, e2, held⟩ := rr.hold R1
  obtain ⟨r, er, w2⟩ := the_some w1
  exact ⟨G, g2, σ, en1, _, r, R2, held.op R2, er, fun v' g' H' R' e' rr' => q v' g' H' r en1 R' (e1.trans (e2.trans e')) rr' w2⟩
theorem nomarks {op : CmpOp} {e : Expr} (h : ∀ es n p, e ≠ .Set es n p) : behindInMarks op e = false := by
  cases e <;> first | rfl | exact absurd rfl (h _ _ _)
theorem peCmp (O : Ok8 C k X cc) {a b : Expr} {op : CmpOp} {ia ib : IE} {pos : Pos} (hb' : ∀ es n p, b ≠ .Set es n p) (ha : PE X a (rdE X.K X.mg C ia)) (hb : PE X b (rdE X.K X.mg C ib)) : PE X (.Compare a [op] [b] pos) (rdE X.K X.mg C (.op (cCmp op) [ia, ib])) := by
  refine (pe_cmpR (opR_cmp O.hu op) ha hb (nomarks hb')).imp fun σ H Q ⟨G, g, en, Q0, R0, w, q⟩ => ?_
  refine ⟨G, g, en, _, R0, w, fun v g1 H1 r1 en1 R1 e1 rr w1 => ?_⟩
  obtain ⟨g2, R2, e2, held⟩ := rr.hold R1
  refine ⟨G, g2, en1, _, R2, w1, fun w' g3 H3 r2 en3 R3 e3 rr2 w2 => ?_⟩
  obtain ⟨g4, R4, e4, held2⟩ := rr2.hold R3
  obtain ⟨r, er, w2⟩ := the_some w2
  exact ⟨G, g4, σ, en3, _, _, r, R4, (held.mono (e3.trans e4)).op R4, held2.op R4, er, fun v' g' H' R' e' rr' => q v' g' H' r en3 R' (e1.trans (e2.trans (e3.trans (e4.trans e')))) rr' w2⟩
theorem peIx (O : Ok8 C k X cc) {a b : Expr} {ia ib : IE} {pos : Pos} (hb' : isSlice b = false) (ha : PE X a (rdE X.K X.mg C ia)) (hb : PE X b (rdE X.K X.mg C ib)) : PE X (.Subscript a b pos) (rdE X.K X.mg C (.op .ix [ia, ib])) := by
  have hp : PlainIx b := fun o i => by cases b <;> first | rfl | (cases hb'; done)
  refine (pe_ix (ixR O.hu) ha hb hp).imp fun σ H Q ⟨G, g, en, Q0, R0, w, q⟩ => ?_
  refine ⟨G, g, en, _, R0, w, fun v g1 H1 r1 en1 R1 e1 rr w1 => ?_⟩
  obtain ⟨g2, R2, e2, held⟩ := rr.hold R1
  refine ⟨G, g2, en1, _, R2, w1, fun w' g3 H3 r2 en3 R3 e3 rr2 w2 => ?_⟩
  obtain ⟨g4, R4, e4, held2⟩ := rr2.hold R3
  obtain ⟨r, er, w2⟩ := the_some w2
  exact ⟨G, g4, σ, en3, _, _, r, R4, (held.mono (e3.trans e4)).op R4, held2.op R4, er, fun v' g' H' R' e' rr' => q v' g' H' r en3 R' (e1.trans (e2.trans (e3.trans (e4.trans e')))) rr' w2⟩
end
end Tk

/-! Tk, part 26: {} and d.get(k, x) as expressions. -/
namespace Tk
open PySem PySem.Spec PyProof.Rows L2
section
variable {C : Cfg} {k : Nat} {X : Cx} {cc : CC}
def newDict : Obj := { cls := .type "dict", data := .dict #[] }
theorem dicB_new {p : Addr} (h : (p == sysModules) = false) : DicB p newDict [] := ⟨h, Nat.zero_le _, ⟨rfl, rfl, rfl⟩, ⟨#[], 0, rfl, fun _ _ => rfl⟩, List.nodup_nil⟩
theorem peDnew {pos : Pos} : PE X (.Dict [] [] pos) (rdE X.K X.mg C (.op .dnew [])) := by
  refine ⟨fun pins s σ H Q I ⟨G, g, en, Q0, R0, w, q⟩ => ?_⟩
  have w : Q0 (.ow (.dic [])) en := w
  have hn := I.hok.fresh (Nat.le_refl s.heap.objs.size)
  have ns : (s.heap.objs.size == sysModules) = false := beq_eq_false_iff_ne.mpr (Ne.symm (Nat.ne_of_lt I.big))
  obtain ⟨R1, rr⟩ := R0.new (d := .dic []) (o := AtO s.heap.objs.size newDict) hn ⟨newDict, [], rfl, dicB_new ns, rfl⟩
  exact wpAny_Dict_empty ⟨.ref s.heap.objs.size, _, I.laid (a := s.heap.objs.size) (o := AtO s.heap.objs.size newDict) (t' := s.toks) (fun _ _ q => Heap.get?_push_of_some _ q) (Nat.le_refl _) (atO_ok (Heap.get?_push_size _ rfl)), rfl, q _ g _ _ en R1 (.refl g) rr w⟩
end
end Tk

/-! Tk, part 27: d.get(k, x). -/
namespace Tk
open PySem PySem.Spec PyProof.Rows L2
section
variable {C : Cfg} {k : Nat} {X : Cx} {cc : CC}
def tyDic (x : V) (H : Hp) : Prop := ∃ p o, x = .ref p ∧ H p = some (AtO p o) ∧ o.ExactDict
theorem ty_dic : TyOk X "dict" tyDic := fun pins σ H s x v I r ⟨p, o, e, hp, ex⟩ => by
  subst e
  cases (show v = Value.ref p from r)
  have ho : s.heap.get? p = some o := (show ObjOk X.prog X.w H s.heap p (AtO p o) from I.hok p _ hp).1
  exact ⟨⟨o, ho, ex.1⟩, fun a e => by cases e; exact ⟨o, ho, ex.2.1⟩⟩
def rGetD (X : Cx) : V → List V → Hp → VK → Prop := fun x xs H Q => ∃ (p : Addr) (ob : Obj) (ents : List DEnt) (kvs : List (D × D)) (k d : D) (b : Addr) (v : V) (am : List Addr) (F : Hp), x = .ref p ∧ xs = [.ref b, v] ∧ H p = some (AtO p ob) ∧ DicB p ob ents ∧ Same F H ∧ RepKs X.K X.mg am F kvs ents ∧
  isKey k = true ∧ Rep X.K X.mg am F k (.ref b) ∧ Rep X.K X.mg am F d v ∧ ∀ v', Rep X.K X.mg am F ((lookD kvs k).getD d) v' → Q v' H
theorem mt_dget (hu : X.A.units + 200 < cLine) : MtR X "dict.get" (rGetD X) := by
  intro pins s σ H x xs v us Q I rx rxs ⟨p, ob, ents, kvs, k, d, b, y, am, F, e1, e2, hp, B, hF, rs, hk, hb, hd, q⟩
  subst e1 e2
  cases (show v = Value.ref p from rx)
  cases rxs with
  | cons r1 r2 =>
    cases r2 with
    | cons r2 r3 =>
      cases r3
      cases r1
      exact dic_get (room_of hu) I hp B hF rs hk hb r2 hd fun u v' s' I' ru rv => ⟨v', H, I', ru, q v' rv⟩
theorem isKey_tup {d : D} (h : isKey d = true) : ∃ ks, d = .tup ks := by
  cases d <;> first | (cases h; done) | exact ⟨_, rfl⟩
theorem Held.key {K : PySem.W.Frag} {mg : Str → Option Value} {g : Gh} {v : V} {d : D} (h : Held K mg g v d) (hk : isKey d = true) : Rep K mg g.am g.F d v := by
  obtain ⟨ks, rfl⟩ := isKey_tup hk
  rcases h with h | ⟨p, o, _, _, c⟩
  · exact h
  · exact c.elim
theorem frz_free {r : R} {en : En} (h : r.free = true) : en.frz r = en := by
  cases r <;> first | rfl | (cases h; done)
theorem wE_dget {X : XP} {d k x : IE} {en : En} {Q : QR} : wE C (.dget d k x) en Q X = wE C d en (fun r en1 => the (dicOf (view en1.ob r.d)) fun _ => wE C k en1 (fun r2 en2 => wE C x en2 (fun r3 en3 => r3.free = true ∧ the (dgetD (view en3.ob r.d) r2.d r3.d) fun z => Q z en3) X) X) X := by
  simp only [wE]
theorem peDget (O : Ok8 C k X cc) {x : Str} {i : Nat} {e f : Expr} {ie if_ : IE} {px ap cp : Pos} (h : cVar cc x = some i) (hl : (ap.endLine == cp.line) = true) (h1 : isStar e = false) (h2 : isStar f = false) (he : PE X e (rdE X.K X.mg C ie)) (hf : PE X f (rdE X.K X.mg C if_)) :
    PE X (.Call (.Attribute (.Name x px) "get" ap) [e, f] [] cp) (rdE X.K X.mg C (.dget (.v i) ie if_)) := by
  have st : starEach [e, f] X.env = (false, eval e X.env) :: starEach [f] X.env := star_of h1
  have st2 : starEach [f] X.env = (false, eval f X.env) :: starEach [] X.env := star_of h2
  have z := pe_mG (cpos := cp) ty_dic PySem.F.plainAttrs_dict PySem.F.slot_dict_get PySem.F.type_dict_get (mt_dget O.hu) (peV O (pos := px) h) (pa_cons he (pa_cons hf pa_nil st2) st) rfl (by rw [st, st2]; rfl) hl st (by rw [st2]; rfl)
  refine z.imp fun σ H Q ⟨G, g, en, Q0, R0, w, q⟩ => ?_
  rw [wE_dget] at w
  refine ⟨G, g, en, _, R0, w, fun v g1 H1 r en1 R1 e1 rr w1 => ?_⟩
  obtain ⟨g2, R2, e2, held⟩ := rr.hold R1
  obtain ⟨kvs0, hd0, w1⟩ := the_some w1
  have ov := held.op R2
  rw [dicOf_some hd0] at ov
  obtain ⟨p, o, xs, rfl, hp, B, _⟩ := ov.dic R2
  refine ⟨⟨p, o, rfl, hp, B.ex⟩, G, g2, en1, _, R2, w1, fun v2 g3 H3 r2 en3 R3 e3 rr2 w2 => ?_⟩
  obtain ⟨g4, R4, e4, held2⟩ := rr2.hold R3
  refine ⟨G, g4, en3, _, R4, w2, fun v3 g5 H5 r3 en5 R5 e5 rr3 w3 => ?_⟩
  obtain ⟨fr, w3⟩ := w3
  obtain ⟨g6, R6, e6, rp3⟩ := rr3.esc R5
  rw [frz_free fr] at R6
  obtain ⟨z, ez, w3⟩ := the_some w3
  obtain ⟨kvs, hd, ez⟩ := Option.bind_eq_some_iff.mp ez
  obtain ⟨hk, ez⟩ := guardO_some ez
  cases ez
  have ov := (held.mono ((e3.trans e4).trans (e5.trans e6))).op R6
  rw [dicOf_some hd] at ov
  obtain ⟨p', o', xs', ep, hp', B', rs'⟩ := ov.dic R6
  cases ep
  have rk := (held2.mono (e5.trans e6)).key hk
  obtain ⟨ks, ek⟩ := isKey_tup hk
  have : ∃ b, v2 = .ref b := by
    rw [ek] at rk
    obtain ⟨a, vs, e, _⟩ := rk
    exact ⟨a, e⟩
  obtain ⟨b, rfl⟩ := this
  refine ⟨p, o', xs', kvs, r2.d, r3.d, b, v3, g6.am, g6.F, rfl, rfl, hp', B', R6.fh, rs', hk, rk, rp3, fun v' rv => ?_⟩
  exact q v' g6 H5 (.fz ((lookD kvs r2.d).getD r3.d)) en5 R6 (e1.trans (e2.trans (e3.trans (e4.trans (e5.trans e6))))) rv w3
end
end Tk

/-! Tk, part 9: truth, and/or/not, chains, displays, slices, built-in calls: readings. -/
namespace Tk
open PySem PySem.Spec PyProof.Rows L2

section
variable {K : PySem.W.Frag} {mg : Str → Option Value} {G : Hp} {g : Gh} {H : Hp} {σ : L2.St} {en : En} {v : V} {d : D} {r : R} {k : Bool}
theorem emp_eq {ds : List D} {vs : List V} {am : List Addr} {F : Hp} (h : Reps K mg am F ds vs) : (!vs.isEmpty) = !ds.isEmpty := by
  have e := h.length
  cases ds <;> cases vs <;> first | rfl | (simp at e; done)
theorem truV_of (R0 : REn K mg G g H σ en) (h : OpV K mg g H v d) (e : truthD d = some k) : TruV K v H k := by
  cases d with
  | non => cases e; rw [h.non]; rfl
  | bl b => cases e; rw [h.bl]; rfl
  | int i => cases e; rw [h.int]; rfl
  | str x =>
    rw [h.str]
    have e : (if x.length ≤ big then some ((x.length : Int) != 0) else none) = some k := e
    split at e
    · cases e
      exact ⟨by rw [← big_line]; assumption, rfl⟩
    · cases e
  | tup xs =>
    cases e
    obtain ⟨a, vs, rfl, _, s, r⟩ := h.tup R0
    exact .inr (.inl ⟨vs, s, (emp_eq r).symm⟩)
  | lst xs =>
    cases e
    obtain ⟨a, vs, rfl, s, r⟩ := h.lst R0
    exact .inl ⟨vs, SqL.of s, (emp_eq r).symm⟩
  | frl xs =>
    cases e
    obtain ⟨a, vs, rfl, s, r⟩ := h.rep fun xs z => by cases z
    exact .inl ⟨vs, R0.fh.seq s, (emp_eq r).symm⟩
  | _ => cases e
theorem RRes.op (R0 : REn K mg G g H σ en) (h : RRes K mg G g H σ en v r) : ∃ g', REn K mg G g' H σ en ∧ Ext g g' ∧ OpV K mg g' H v (view en.ob r.d) := by
  obtain ⟨g', R1, e, q⟩ := h.hold R0
  exact ⟨g', R1, e, q.op R1⟩
theorem RRes.tru (R0 : REn K mg G g H σ en) (h : RRes K mg G g H σ en v r) (e : truthD (view en.ob r.d) = some k) : TruV K v H k := by
  obtain ⟨g', R1, _, q⟩ := h.op R0
  exact truV_of R1 q e
theorem boolD_some (e : boolD d = some k) : d = .bl k := by
  cases d <;> cases e
  rfl
theorem RRes.bool (R0 : REn K mg G g H σ en) (h : RRes K mg G g H σ en v r) (e : boolD r.d = some k) : v = .bl k := by
  obtain ⟨g', R1, _, q⟩ := h.op R0
  rw [boolD_some e] at q
  exact q.bl
end

section
variable {C : Cfg} {k : Nat} {X : Cx} {cc : CC}
/-- a test that is its value's truth -/
theorem rdT.toE {ir : IE} {K : PySem.W.Frag} {mg : Str → Option Value} {σ : L2.St} {H : Hp} {Q : Bool → Hp → Prop} (hw : ∀ en Q0, wT C ir en Q0 XF → wE C ir en (fun r en' => the (truthD (view en'.ob r.d)) fun t => Q0 t en') XF) (h : rdT K mg C ir σ H Q) :
    rdE K mg C ir σ H fun x H' => ∃ k, TruV K x H' k ∧ Q k H' := by
  obtain ⟨G, g, en, Q0, R0, w, q⟩ := h
  refine ⟨G, g, en, _, R0, hw en Q0 w, fun v g' H' r en' R' e' rr' w' => ?_⟩
  obtain ⟨t, et, w'⟩ := the_some w'
  exact ⟨t, rr'.tru R' et, q t g' H' en' R' e' w'⟩
theorem rdT.toB {ir : IE} {K : PySem.W.Frag} {mg : Str → Option Value} {σ : L2.St} {H : Hp} {Q : Bool → Hp → Prop} (hw : ∀ en Q0, wT C ir en Q0 XF → wE C ir en (fun r en' => the (boolD r.d) fun t => Q0 t en') XF) (h : rdT K mg C ir σ H Q) :
    rdE K mg C ir σ H fun x H' => ∃ k, x = .bl k ∧ Q k H' := by
  obtain ⟨G, g, en, Q0, R0, w, q⟩ := h
  refine ⟨G, g, en, _, R0, hw en Q0 w, fun v g' H' r en' R' e' rr' w' => ?_⟩
  obtain ⟨t, et, w'⟩ := the_some w'
  exact ⟨t, rr'.bool R' et, q t g' H' en' R' e' w'⟩
theorem ptOf {e : Expr} {ir : IE} (hw : ∀ en Q0, wT C ir en Q0 XF → wE C ir en (fun r en' => the (truthD (view en'.ob r.d)) fun t => Q0 t en') XF) (he : ∀ whole, isTrue e X.env whole = (do let v ← whole; standAt e.pos; holding [v] (truthy v)))
    (h : PE X e (rdE X.K X.mg C ir)) : PT X e (rdT X.K X.mg C ir) := (pt_truth h he).imp fun σ H Q q => rdT.toE hw q
theorem ptNo {e : Expr} {ir : IE} (hw : ∀ en Q0, ¬ wT C ir en Q0 XF) : PT X e (rdT X.K X.mg C ir) := ⟨fun pins s σ H Q I ⟨G, g, en, Q0, R0, w, q⟩ => (hw en Q0 w).elim⟩
theorem rdE.two {o : Op} {ia ib : IE} {K : PySem.W.Frag} {mg : Str → Option Value} {σ : L2.St} {H : Hp} {Q : VK} (h : rdE K mg C (.op o [ia, ib]) σ H Q) : tOp (rOp2 K mg o) (rdE K mg C ia) (rdE K mg C ib) σ H Q := by
  obtain ⟨G, g, en, Q0, R0, w, q⟩ := h
  refine ⟨G, g, en, _, R0, w, fun v g1 H1 r1 en1 R1 e1 rr w1 => ?_⟩
  obtain ⟨g2, R2, e2, held⟩ := rr.hold R1
  refine ⟨G, g2, en1, _, R2, w1, fun w' g3 H3 r2 en3 R3 e3 rr2 w2 => ?_⟩
  obtain ⟨g4, R4, e4, held2⟩ := rr2.hold R3
  obtain ⟨r, er, w2⟩ := the_some w2
  exact ⟨G, g4, σ, en3, _, _, r, R4, (held.mono (e3.trans e4)).op R4, held2.op R4, er, fun v' g' H' R' e' rr' => q v' g' H' r en3 R' (e1.trans (e2.trans (e3.trans (e4.trans e')))) rr' w2⟩
theorem ptCmp (O : Ok8 C k X cc) {a b : Expr} {op : CmpOp} {ia ib : IE} {pos : Pos} (hb' : ∀ es n p, b ≠ .Set es n p) (ha : PE X a (rdE X.K X.mg C ia)) (hb : PE X b (rdE X.K X.mg C ib)) : PT X (.Compare a [op] [b] pos) (rdT X.K X.mg C (.op (cCmp op) [ia, ib])) := by
  refine ⟨fun pins s σ H Q I h => ?_⟩
  have h := rdE.two (rdT.toE (fun en Q0 w => w) h)
  refine wpAny_isTrue_Compare1 (thn (ha.run pins s σ H _ I h) fun v s1 ⟨x, H1, I1, r1, q1⟩ => thn (hb.run pins s1 σ H1 _ I1 q1) fun u s2 ⟨y, H2, I2, r2, q2⟩ =>
    thn (opR_cmp O.hu op pins s2 σ H2 x y v u _ I2 r1 r2 q2) fun c s3 ⟨z, H3, I3, r3, q3⟩ => tru_ok pins s3 σ H3 z c Q I3 r3 q3) (nomarks hb')
/-! ### not, if else -/
theorem peNot {a : Expr} {ia : IE} {pos : Pos} (ha : PE X a (rdE X.K X.mg C ia)) (hw : ∀ en Q0, wT C ia en Q0 XF → wE C ia en (fun r en' => the (truthD (view en'.ob r.d)) fun t => Q0 t en') XF) : PE X (.UnaryOp .Not a pos) (rdE X.K X.mg C (.not ia)) := by
  refine (pe_notT ha).imp fun σ H Q ⟨G, g, en, Q0, R0, w, q⟩ => ?_
  exact rdT.toE hw ⟨G, g, en, fun t en' => Q0 (.fz (.bl (!t))) en', R0, w, fun b g' H' en' R' e' w' => q (.bl (!b)) g' H' (.fz (.bl (!b))) en' R' e' rfl w'⟩
theorem ptNot {a : Expr} {ia : IE} {pos : Pos} (ha : PT X a (rdT X.K X.mg C ia)) : PT X (.UnaryOp .Not a pos) (rdT X.K X.mg C (.not ia)) :=
  (pt_not ha).imp fun σ H Q ⟨G, g, en, Q0, R0, w, q⟩ => ⟨G, g, en, _, R0, w, fun b g' H' en' R' e' w' => q (!b) g' H' en' R' e' w'⟩
theorem peIte {t a b : Expr} {it ia ib : IE} {pos : Pos} (ht : PT X t (rdT X.K X.mg C it)) (ha : PE X a (rdE X.K X.mg C ia)) (hb : PE X b (rdE X.K X.mg C ib)) : PE X (.IfExp t a b pos) (rdE X.K X.mg C (.ite it ia ib)) := by
  refine (pe_ifExp ht ha hb).imp fun σ H Q ⟨G, g, en, Q0, R0, w, q⟩ => ?_
  refine ⟨G, g, en, _, R0, w, fun c g1 H1 en1 R1 e1 w1 => ?_⟩
  cases c with
  | true => exact ⟨G, g1, en1, Q0, R1, w1, fun v g' H' r en' R' e' rr' w' => q v g' H' r en' R' (e1.trans e') rr' w'⟩
  | false => exact ⟨G, g1, en1, Q0, R1, w1, fun v g' H' r en' R' e' rr' w' => q v g' H' r en' R' (e1.trans e') rr' w'⟩
theorem ptIte {t a b : Expr} {it ia ib : IE} {pos : Pos} (ht : PT X t (rdT X.K X.mg C it)) (ha : PT X a (rdT X.K X.mg C ia)) (hb : PT X b (rdT X.K X.mg C ib)) : PT X (.IfExp t a b pos) (rdT X.K X.mg C (.ite it ia ib)) := by
  refine ⟨fun pins s σ H Q I ⟨G, g, en, Q0, R0, w, q⟩ => ?_⟩
  have h : rdT X.K X.mg C it σ H fun c H1 => if c = true then rdT X.K X.mg C ia σ H1 Q else rdT X.K X.mg C ib σ H1 Q := by
    refine ⟨G, g, en, _, R0, w, fun c g1 H1 en1 R1 e1 w1 => ?_⟩
    cases c with
    | true => exact ⟨G, g1, en1, Q0, R1, w1, fun b g' H' en' R' e' w' => q b g' H' en' R' (e1.trans e') w'⟩
    | false => exact ⟨G, g1, en1, Q0, R1, w1, fun b g' H' en' R' e' w' => q b g' H' en' R' (e1.trans e') w'⟩
  refine isTrue_IfExp (thn (ht.run pins s σ H _ I h) fun c s1 ⟨H1, I1, q1⟩ => ?_)
  cases c with
  | true => exact ha.run pins s1 σ H1 Q I1 q1
  | false => exact hb.run pins s1 σ H1 Q I1 q1
/-! ### and, or -/
theorem peAnd {a b : Expr} {rest : List Expr} {ia ib : IE} {pos : Pos} (ha : PE X a (rdE X.K X.mg C ia)) (hb : PE X (.BoolOp .And (b :: rest) pos) (rdE X.K X.mg C ib)) : PE X (.BoolOp .And (a :: b :: rest) pos) (rdE X.K X.mg C (.and ia ib)) := by
  refine (pe_andT ha hb).imp fun σ H Q ⟨G, g, en, Q0, R0, w, q⟩ => ?_
  refine ⟨G, g, en, _, R0, w, fun v g1 H1 r en1 R1 e1 rr w1 => ?_⟩
  obtain ⟨t, et, w1⟩ := the_some w1
  refine ⟨t, rr.tru R1 et, ?_⟩
  cases t with
  | true => exact ⟨G, g1, en1, Q0, R1, w1, fun v g' H' r en' R' e' rr' w' => q v g' H' r en' R' (e1.trans e') rr' w'⟩
  | false => exact q v g1 H1 r en1 R1 e1 rr w1
theorem peOr {a b : Expr} {rest : List Expr} {ia ib : IE} {pos : Pos} (ha : PE X a (rdE X.K X.mg C ia)) (hb : PE X (.BoolOp .Or (b :: rest) pos) (rdE X.K X.mg C ib)) : PE X (.BoolOp .Or (a :: b :: rest) pos) (rdE X.K X.mg C (.or ia ib)) := by
  refine (pe_orT ha hb).imp fun σ H Q ⟨G, g, en, Q0, R0, w, q⟩ => ?_
  refine ⟨G, g, en, _, R0, w, fun v g1 H1 r en1 R1 e1 rr w1 => ?_⟩
  obtain ⟨t, et, w1⟩ := the_some w1
  refine ⟨t, rr.tru R1 et, ?_⟩
  cases t with
  | false => exact ⟨G, g1, en1, Q0, R1, w1, fun v g' H' r en' R' e' rr' w' => q v g' H' r en' R' (e1.trans e') rr' w'⟩
  | true => exact q v g1 H1 r en1 R1 e1 rr w1
theorem pwAnd {a b : Expr} {rest : List Expr} {ia ib : IE} {pos : Pos} (ha : PT X a (rdT X.K X.mg C ia)) (hb : PW X (.BoolOp .And (b :: rest) pos) (rdT X.K X.mg C ib)) : PW X (.BoolOp .And (a :: b :: rest) pos) (rdT X.K X.mg C (.and ia ib)) := by
  refine (pw_and ha hb).imp fun σ H Q ⟨G, g, en, Q0, R0, w, q⟩ => ?_
  refine ⟨G, g, en, _, R0, w, fun c g1 H1 en1 R1 e1 w1 => ?_⟩
  cases c with
  | true => exact ⟨G, g1, en1, Q0, R1, w1, fun b g' H' en' R' e' w' => q b g' H' en' R' (e1.trans e') w'⟩
  | false => exact q false g1 H1 en1 R1 e1 w1
theorem pwOr {a b : Expr} {rest : List Expr} {ia ib : IE} {pos : Pos} (ha : PT X a (rdT X.K X.mg C ia)) (hb : PW X (.BoolOp .Or (b :: rest) pos) (rdT X.K X.mg C ib)) : PW X (.BoolOp .Or (a :: b :: rest) pos) (rdT X.K X.mg C (.or ia ib)) := by
  refine (pw_or ha hb).imp fun σ H Q ⟨G, g, en, Q0, R0, w, q⟩ => ?_
  refine ⟨G, g, en, _, R0, w, fun c g1 H1 en1 R1 e1 w1 => ?_⟩
  cases c with
  | false => exact ⟨G, g1, en1, Q0, R1, w1, fun b g' H' en' R' e' w' => q b g' H' en' R' (e1.trans e') w'⟩
  | true => exact q true g1 H1 en1 R1 e1 w1
/-! ### chains -/
theorem rdE.ch {o1 o2 : Op} {ia ib ic : IE} {K : PySem.W.Frag} {mg : Str → Option Value} {σ : L2.St} {H : Hp} {Q : VK} (h : rdE K mg C (.ch o1 o2 ia ib ic) σ H Q) : tChain (rOp2 K mg o1) (rOp2 K mg o2) (rdE K mg C ia) (rdE K mg C ib) (rdE K mg C ic) σ H Q := by
  obtain ⟨G, g, en, Q0, R0, w, q⟩ := h
  refine ⟨G, g, en, _, R0, w, fun v g1 H1 r1 en1 R1 e1 rr w1 => ?_⟩
  obtain ⟨g2, R2, e2, held⟩ := rr.hold R1
  refine ⟨G, g2, en1, _, R2, w1, fun w' g3 H3 r2 en3 R3 e3 rr2 w2 => ?_⟩
  obtain ⟨g4, R4, e4, held2⟩ := rr2.hold R3
  obtain ⟨r, er, w2⟩ := the_some w2
  obtain ⟨t, et, w2⟩ := the_some w2
  refine ⟨G, g4, σ, en3, _, _, r, R4, (held.mono (e3.trans e4)).op R4, held2.op R4, er, fun v' g5 H5 R5 e5 rr5 => ⟨t, rr5.bool R5 et, ?_⟩⟩
  have eE := e1.trans (e2.trans (e3.trans (e4.trans e5)))
  cases t with
  | false => exact q _ g5 H5 (.fz (.bl false)) en3 R5 eE rfl w2
  | true =>
    refine ⟨G, g5, en3, _, R5, w2, fun w' g6 H6 r6 en6 R6 e6 rr6 w6 => ?_⟩
    obtain ⟨g7, R7, e7, held7⟩ := rr6.hold R6
    obtain ⟨r, er, w6⟩ := the_some w6
    exact ⟨G, g7, σ, en6, _, _, r, R7, (held2.mono (e5.trans (e6.trans e7))).op R7, held7.op R7, er, fun v' g' H' R' e' rr' => q v' g' H' r en6 R' (eE.trans (e6.trans (e7.trans e'))) rr' w6⟩
theorem nolast {o1 o2 : CmpOp} {b c : Expr} (h : ∀ es n p, c ≠ .Set es n p) : lastMarks [o1, o2] [b, c] = false := nomarks (op := o2) h
theorem peCh (O : Ok8 C k X cc) {a b c : Expr} {o1 o2 : CmpOp} {ia ib ic : IE} {pos : Pos} (hc' : ∀ es n p, c ≠ .Set es n p) (ha : PE X a (rdE X.K X.mg C ia)) (hb : PE X b (rdE X.K X.mg C ib)) (hc : PE X c (rdE X.K X.mg C ic)) :
    PE X (.Compare a [o1, o2] [b, c] pos) (rdE X.K X.mg C (.ch (cCmp o1) (cCmp o2) ia ib ic)) := (pe_chain (opR_cmp O.hu o1) (opR_cmp O.hu o2) ha hb hc (nolast hc')).imp fun σ H Q h => rdE.ch h
theorem ptCh (O : Ok8 C k X cc) {a b c : Expr} {o1 o2 : CmpOp} {ia ib ic : IE} {pos : Pos} (hc' : ∀ es n p, c ≠ .Set es n p) (ha : PE X a (rdE X.K X.mg C ia)) (hb : PE X b (rdE X.K X.mg C ib)) (hc : PE X c (rdE X.K X.mg C ic)) :
    PT X (.Compare a [o1, o2] [b, c] pos) (rdT X.K X.mg C (.ch (cCmp o1) (cCmp o2) ia ib ic)) := (pt_chain (opR_cmp O.hu o1) (opR_cmp O.hu o2) ha hb hc (nolast hc')).imp fun σ H Q h => rdE.ch (rdT.toB (fun en Q0 w => w) h)
/-! ### chains of three -/
def tChain3 (r1 r2 r3 : R2) (ta tb tc td : TE) : TE := fun σ H Q => ta σ H fun x H1 => tb σ H1 fun y H2 => r1 x y H2 fun z H3 => ∃ k, z = .bl k ∧
  (if k = true then tc σ H3 fun u H4 => r2 y u H4 fun z2 H5 => ∃ k2, z2 = .bl k2 ∧ (if k2 = true then td σ H5 fun v H6 => r3 u v H6 Q else Q (.bl false) H5) else Q (.bl false) H3)
section
variable {a b c d : Expr} {ta tb tc td : TE} {r1 r2 r3 : R2} {o1 o2 o3 : CmpOp} {pos : Pos}
theorem pe_chain3 (h1 : OpR X (compareOp o1) r1) (h2 : OpR X (compareOp o2) r2) (h3 : OpR X (compareOp o3) r3) (ha : PE X a ta) (hb : PE X b tb) (hc : PE X c tc) (hd : PE X d td) (hm : lastMarks [o1, o2, o3] [b, c, d] = false) :
    PE X (.Compare a [o1, o2, o3] [b, c, d] pos) (tChain3 r1 r2 r3 ta tb tc td) := by
  constructor
  intro pins s σ H Q I h
  refine Compare_chain ?_ hm
  refine thn (ha.run pins s σ H _ I h) fun v s1 ⟨x, H1, I1, k1, h⟩ => ?_
  apply chain_link
  refine thn (hb.run pins s1 σ H1 _ I1 h) fun u s2 ⟨y, H2, I2, k2, h⟩ => ?_
  refine thn (h1 pins s2 σ H2 x y v u _ I2 k1 k2 h) fun e s3 ⟨z, H3, I3, k3, t, ez, h⟩ => ?_
  subst ez
  cases k3
  apply wpAny_truthy_bool
  cases t with
  | false => exact ite_ff ⟨.bl false, H3, I3, rfl, h⟩
  | true =>
    apply ite_tt
    apply chain_link
    refine thn (hc.run pins s3 σ H3 _ I3 h) fun u' s4 ⟨y', H4, I4, k4, h⟩ => ?_
    refine thn (h2 pins s4 σ H4 y y' u u' _ I4 k2 k4 h) fun e s5 ⟨z, H5, I5, k5, t, ez, h⟩ => ?_
    subst ez
    cases k5
    apply wpAny_truthy_bool
    cases t with
    | false => exact ite_ff ⟨.bl false, H5, I5, rfl, h⟩
    | true =>
      apply ite_tt
      apply chain_last
      exact thn (hd.run pins s5 σ H5 _ I5 h) fun w' s6 ⟨y2, H6, I6, k6, h⟩ => h3 pins s6 σ H6 y' y2 u' w' Q I6 k4 k6 h
theorem pt_chain3 (h1 : OpR X (compareOp o1) r1) (h2 : OpR X (compareOp o2) r2) (h3 : OpR X (compareOp o3) r3) (ha : PE X a ta) (hb : PE X b tb) (hc : PE X c tc) (hd : PE X d td) (hm : lastMarks [o1, o2, o3] [b, c, d] = false) :
    PT X (.Compare a [o1, o2, o3] [b, c, d] pos) (tTest (tChain3 r1 r2 r3 ta tb tc td)) := by
  constructor
  intro pins s σ H Q I h
  refine isTrue_chain ?_ hm
  refine thn (ha.run pins s σ H _ I h) fun v s1 ⟨x, H1, I1, k1, h⟩ => ?_
  apply test_link
  refine thn (hb.run pins s1 σ H1 _ I1 h) fun u s2 ⟨y, H2, I2, k2, h⟩ => ?_
  refine thn (h1 pins s2 σ H2 x y v u _ I2 k1 k2 h) fun e s3 ⟨z, H3, I3, k3, t, ez, h⟩ => ?_
  subst ez
  cases k3
  apply wpAny_truthy_bool
  cases t with
  | false =>
    obtain ⟨t', et, h⟩ := h
    cases et
    exact ite_ff ⟨H3, I3, h⟩
  | true =>
    apply ite_tt
    apply test_link
    refine thn (hc.run pins s3 σ H3 _ I3 h) fun u' s4 ⟨y', H4, I4, k4, h⟩ => ?_
    refine thn (h2 pins s4 σ H4 y y' u u' _ I4 k2 k4 h) fun e s5 ⟨z, H5, I5, k5, t, ez, h⟩ => ?_
    subst ez
    cases k5
    apply wpAny_truthy_bool
    cases t with
    | false =>
      obtain ⟨t', et, h⟩ := h
      cases et
      exact ite_ff ⟨H5, I5, h⟩
    | true =>
      apply ite_tt
      apply test_last
      refine thn (hd.run pins s5 σ H5 _ I5 h) fun w' s6 ⟨y2, H6, I6, k6, h⟩ => ?_
      refine thn (h3 pins s6 σ H6 y' y2 u' w' _ I6 k4 k6 h) fun e s7 ⟨z, H7, I7, k7, t, ez, h⟩ => ?_
      subst ez
      cases k7
      exact wpAny_truthy_bool ⟨H7, I7, h⟩
end
theorem rdE.ch3 {o1 o2 o3 : Op} {ia ib ic id : IE} {K : PySem.W.Frag} {mg : Str → Option Value} {σ : L2.St} {H : Hp} {Q : VK} (h : rdE K mg C (.ch3 o1 o2 o3 ia ib ic id) σ H Q) : tChain3 (rOp2 K mg o1) (rOp2 K mg o2) (rOp2 K mg o3) (rdE K mg C ia) (rdE K mg C ib) (rdE K mg C ic) (rdE K mg C id) σ H Q := by
  obtain ⟨G, g, en, Q0, R0, w, q⟩ := h
  refine ⟨G, g, en, _, R0, w, fun v g1 H1 r1 en1 R1 e1 rr w1 => ?_⟩
  obtain ⟨g2, R2, e2, held⟩ := rr.hold R1
  refine ⟨G, g2, en1, _, R2, w1, fun w' g3 H3 r2 en3 R3 e3 rr2 w2 => ?_⟩
  obtain ⟨g4, R4, e4, held2⟩ := rr2.hold R3
  obtain ⟨r, er, w2⟩ := the_some w2
  obtain ⟨t, et, w2⟩ := the_some w2
  refine ⟨G, g4, σ, en3, _, _, r, R4, (held.mono (e3.trans e4)).op R4, held2.op R4, er, fun v' g5 H5 R5 e5 rr5 => ⟨t, rr5.bool R5 et, ?_⟩⟩
  have eE := e1.trans (e2.trans (e3.trans (e4.trans e5)))
  cases t with
  | false => exact q _ g5 H5 (.fz (.bl false)) en3 R5 eE rfl w2
  | true =>
    refine ⟨G, g5, en3, _, R5, w2, fun w' g6 H6 r6 en6 R6 e6 rr6 w6 => ?_⟩
    obtain ⟨g7, R7, e7, held7⟩ := rr6.hold R6
    obtain ⟨r, er, w6⟩ := the_some w6
    obtain ⟨t, et, w6⟩ := the_some w6
    refine ⟨G, g7, σ, en6, _, _, r, R7, (held2.mono (e5.trans (e6.trans e7))).op R7, held7.op R7, er, fun v' g8 H8 R8 e8 rr8 => ⟨t, rr8.bool R8 et, ?_⟩⟩
    have eF := eE.trans (e6.trans (e7.trans e8))
    cases t with
    | false => exact q _ g8 H8 (.fz (.bl false)) en6 R8 eF rfl w6
    | true =>
      refine ⟨G, g8, en6, _, R8, w6, fun w' g9 H9 r9 en9 R9 e9 rr9 w9 => ?_⟩
      obtain ⟨ga, Ra, ea, heldA⟩ := rr9.hold R9
      obtain ⟨r, er, w9⟩ := the_some w9
      exact ⟨G, ga, σ, en9, _, _, r, Ra, (held7.mono (e8.trans (e9.trans ea))).op Ra, heldA.op Ra, er, fun v' g' H' R' e' rr' => q v' g' H' r en9 R' (eF.trans (e9.trans (ea.trans e'))) rr' w9⟩
theorem peCh3 (O : Ok8 C k X cc) {a b c d : Expr} {o1 o2 o3 : CmpOp} {ia ib ic id : IE} {pos : Pos} (hd' : ∀ es n p, d ≠ .Set es n p) (ha : PE X a (rdE X.K X.mg C ia)) (hb : PE X b (rdE X.K X.mg C ib)) (hc : PE X c (rdE X.K X.mg C ic)) (hd : PE X d (rdE X.K X.mg C id)) :
    PE X (.Compare a [o1, o2, o3] [b, c, d] pos) (rdE X.K X.mg C (.ch3 (cCmp o1) (cCmp o2) (cCmp o3) ia ib ic id)) := (pe_chain3 (opR_cmp O.hu o1) (opR_cmp O.hu o2) (opR_cmp O.hu o3) ha hb hc hd (nomarks (op := o3) hd')).imp fun σ H Q h => rdE.ch3 h
theorem ptCh3 (O : Ok8 C k X cc) {a b c d : Expr} {o1 o2 o3 : CmpOp} {ia ib ic id : IE} {pos : Pos} (hd' : ∀ es n p, d ≠ .Set es n p) (ha : PE X a (rdE X.K X.mg C ia)) (hb : PE X b (rdE X.K X.mg C ib)) (hc : PE X c (rdE X.K X.mg C ic)) (hd : PE X d (rdE X.K X.mg C id)) :
    PT X (.Compare a [o1, o2, o3] [b, c, d] pos) (rdT X.K X.mg C (.ch3 (cCmp o1) (cCmp o2) (cCmp o3) ia ib ic id)) := (pt_chain3 (opR_cmp O.hu o1) (opR_cmp O.hu o2) (opR_cmp O.hu o3) ha hb hc hd (nomarks (op := o3) hd')).imp fun σ H Q h => rdE.ch3 (rdT.toB (fun en Q0 w => w) h)
end
end Tk

/-! Tk, part 10: displays, slices, built-in calls, calls of own defs: readings. -/
namespace Tk
open PySem PySem.Spec PyProof.Rows L2

section
variable {C : Cfg} {k : Nat} {X : Cx} {cc : CC}
/-! ### displays -/
def rdD (K : PySem.W.Frag) (mg : Str → Option Value) (C : Cfg) (st : List Bool) (irs : List IE) : TA := fun σ H Q => ∃ (G : Hp) (g : Gh) (en : En) (Q0 : List D → En → Prop), REn K mg G g H σ en ∧ wD C st irs en Q0 XF ∧
  ∀ (vs : List V) (g' : Gh) (H' : Hp) (ds : List D) (en' : En), REn K mg G g' H' σ en' → Ext g g' → Reps K mg g'.am g'.F ds vs → Q0 ds en' → Q vs H'
theorem paD_nil : PA X [] (rdD X.K X.mg C [] []) := pa_nil.imp fun σ H Q ⟨G, g, en, Q0, R0, w, q⟩ => q [] g H [] en R0 (.refl g) Reps.nil w
theorem paD_cons {e : Expr} {es : List Expr} {st : List Bool} {ir : IE} {irs : List IE} (hs : isStar e = false) (he : PE X e (rdE X.K X.mg C ir)) (hr : PA X es (rdD X.K X.mg C st irs)) : PA X (e :: es) (rdD X.K X.mg C (false :: st) (ir :: irs)) := by
  refine (pa_cons he hr (star_of hs)).imp fun σ H Q ⟨G, g, en, Q0, R0, w, q⟩ => ?_
  refine ⟨G, g, en, _, R0, w, fun v g1 H1 r en1 R1 e1 rr w1 => ?_⟩
  obtain ⟨g2, R2, e2, held⟩ := rr.esc R1
  exact ⟨G, g2, en1.frz r, _, R2, w1, fun vs g3 H3 ds en3 R3 e3 hs q0 => q (v :: vs) g3 H3 (r.d :: ds) en3 R3 (e1.trans (e2.trans e3)) (.cons (Rep.mono e3.F e3.am _ _ held) hs) q0⟩
theorem spl_one {d : D} {xs : List D} (e : spliceD [true] [d] = some xs) : d = .tup xs ∨ d = .lst xs := by
  cases d with
  | tup ys =>
    have e : some (ys ++ []) = some xs := e
    rw [List.append_nil] at e
    cases e
    exact .inl rfl
  | lst ys =>
    have e : some (ys ++ []) = some xs := e
    rw [List.append_nil] at e
    cases e
    exact .inr rfl
  | _ => cases e
theorem paD_star {e : Expr} {p : Pos} {es : List Expr} {st : List Bool} {ir : IE} {irs : List IE} (he : PE X e (rdE X.K X.mg C ir)) (hr : PA X es (rdD X.K X.mg C st irs)) : PA X (.Starred e p :: es) (rdD X.K X.mg C (true :: st) (ir :: irs)) := by
  refine (StX.pa_star he hr).imp fun σ H Q ⟨G, g, en, Q0, R0, w, q⟩ => ?_
  refine ⟨G, g, en, _, R0, w, fun v g1 H1 r en1 R1 e1 rr w1 => ?_⟩
  obtain ⟨g2, R2, e2, op⟩ := rr.op R1
  obtain ⟨xs, ex, w1⟩ := the_some w1
  have fin : ∀ vs, Reps X.K X.mg g2.am g2.F xs vs → rdD X.K X.mg C st irs σ H1 fun ys H2 => Q (vs ++ ys) H2 := fun vs hv =>
    ⟨G, g2, en1, _, R2, w1, fun ws g3 H3 ds en3 R3 e3 hs q0 => q (vs ++ ws) g3 H3 (xs ++ ds) en3 R3 (e1.trans (e2.trans e3)) ((Reps.mono e3.F e3.am _ _ hv).append hs) q0⟩
  rcases spl_one ex with ez | ez
  · rw [ez] at op
    obtain ⟨a, vs, rfl, f1, s1, r1⟩ := op.tup R2
    exact ⟨a, vs, rfl, .inl s1, fin vs r1⟩
  · rw [ez] at op
    obtain ⟨a, vs, rfl, s1, r1⟩ := op.lst R2
    exact ⟨a, vs, rfl, .inr (SqL.of s1), fin vs r1⟩
theorem peTup {es : List Expr} {n : Nat} {pos : Pos} {st : List Bool} {irs : List IE} (h : PA X es (rdD X.K X.mg C st irs)) : PE X (.Tuple es n pos) (rdE X.K X.mg C (.disp true st irs)) := by
  refine (pe_tup h).imp fun σ H Q ⟨G, g, en, Q0, R0, w, q⟩ => ?_
  refine ⟨G, g, en, _, R0, w, fun vs g1 H1 ds en1 R1 e1 hv ⟨hl, w1⟩ => ⟨by rw [hv.length, ← big_line]; exact hl, fun p hp => ?_⟩⟩
  obtain ⟨g2, R2, e2, r2⟩ := R1.newT hp hv
  exact q _ g2 _ (.fz (.tup ds)) en1 R2 (e1.trans e2) r2 w1
theorem peLst {es : List Expr} {pos : Pos} {st : List Bool} {irs : List IE} (h : PA X es (rdD X.K X.mg C st irs)) : PE X (.List es pos) (rdE X.K X.mg C (.disp false st irs)) := by
  refine (pe_lst h).imp fun σ H Q ⟨G, g, en, Q0, R0, w, q⟩ => ?_
  refine ⟨G, g, en, _, R0, w, fun vs g1 H1 ds en1 R1 e1 hv ⟨hl, w1⟩ => ⟨by rw [hv.length, ← big_line]; exact hl, fun p hp => ?_⟩⟩
  obtain ⟨R2, r2⟩ := R1.new (d := .lst ds) (o := .lst vs) hp ⟨vs, rfl, hv⟩
  exact q _ g1 _ (.ow (.lst ds)) en1 R2 e1 r2 w1
/-! ### slices -/
theorem cutO_true {es es' : List D} {l : Option Int} (e : cutO true es = some (l, es')) : ∃ i, es = .int i :: es' ∧ l = some i := by
  match es, e with
  | .int i :: ds, e =>
    obtain ⟨_, e⟩ := guardO_some e
    cases e
    exact ⟨i, rfl, rfl⟩
theorem cutO_false {es es' : List D} {l : Option Int} (e : cutO false es = some (l, es')) : l = none ∧ es' = es := by
  cases e
  exact ⟨rfl, rfl⟩
theorem peSl0 {a : Expr} {ia : IE} {p2 pos : Pos} (ha : PE X a (rdE X.K X.mg C ia)) : PE X (.Subscript a (.Slice none none none p2) pos) (rdE X.K X.mg C (.op (.slc false false) [ia])) := by
  refine (pe_slice slR ha po_none po_none).imp fun σ H Q ⟨G, g, en, Q0, R0, w, q⟩ => ?_
  refine ⟨G, g, en, _, R0, w, fun v g1 H1 r1 en1 R1 e1 rr w1 => ?_⟩
  obtain ⟨g2, R2, e2, op⟩ := rr.op R1
  obtain ⟨r, er, w1⟩ := the_some w1
  obtain ⟨l, h, es1, es2, c1, c2, _, c3⟩ := slcD_cut (show slcD false false [view en1.ob r1.d] = some r from er)
  obtain ⟨rfl, _⟩ := cutO_false c1
  obtain ⟨rfl, _⟩ := cutO_false c2
  exact ⟨G, g2, σ, en1, _, r, R2, op, c3, fun v' g' H' R' e' rr' => q v' g' H' r en1 R' (e1.trans (e2.trans e')) rr' w1⟩
theorem peSlL {a b : Expr} {ia ib : IE} {p2 pos : Pos} (ha : PE X a (rdE X.K X.mg C ia)) (hb : PE X b (rdE X.K X.mg C ib)) : PE X (.Subscript a (.Slice (some b) none none p2) pos) (rdE X.K X.mg C (.op (.slc true false) [ia, ib])) := by
  refine (pe_slice slR ha (po_some hb) po_none).imp fun σ H Q ⟨G, g, en, Q0, R0, w, q⟩ => ?_
  refine ⟨G, g, en, _, R0, w, fun v g1 H1 r1 en1 R1 e1 rr w1 => ?_⟩
  obtain ⟨g2, R2, e2, held⟩ := rr.hold R1
  refine ⟨G, g2, en1, _, R2, w1, fun v2 g3 H3 r3 en3 R3 e3 rr3 w3 => ?_⟩
  obtain ⟨g4, R4, e4, op⟩ := rr3.op R3
  obtain ⟨r, er, w4⟩ := the_some w3
  obtain ⟨l, h, es1, es2, c1, c2, _, c3⟩ := slcD_cut (show slcD true false (view en3.ob r1.d :: [view en3.ob r3.d]) = some r from er)
  obtain ⟨i, ei, rfl⟩ := cutO_true c1
  obtain ⟨rfl, _⟩ := cutO_false c2
  injection ei with ei _
  rw [ei] at op
  exact ⟨i, op.int, G, g4, σ, en3, _, r, R4, (held.mono (e3.trans e4)).op R4, c3, fun v' g' H' R' e' rr' => q v' g' H' r en3 R' (e1.trans (e2.trans (e3.trans (e4.trans e')))) rr' w4⟩
theorem peSlH {a b : Expr} {ia ib : IE} {p2 pos : Pos} (ha : PE X a (rdE X.K X.mg C ia)) (hb : PE X b (rdE X.K X.mg C ib)) : PE X (.Subscript a (.Slice none (some b) none p2) pos) (rdE X.K X.mg C (.op (.slc false true) [ia, ib])) := by
  refine (pe_slice slR ha po_none (po_some hb)).imp fun σ H Q ⟨G, g, en, Q0, R0, w, q⟩ => ?_
  refine ⟨G, g, en, _, R0, w, fun v g1 H1 r1 en1 R1 e1 rr w1 => ?_⟩
  obtain ⟨g2, R2, e2, held⟩ := rr.hold R1
  refine ⟨G, g2, en1, _, R2, w1, fun v2 g3 H3 r3 en3 R3 e3 rr3 w3 => ?_⟩
  obtain ⟨g4, R4, e4, op⟩ := rr3.op R3
  obtain ⟨r, er, w4⟩ := the_some w3
  obtain ⟨l, h, es1, es2, c1, c2, _, c3⟩ := slcD_cut (show slcD false true (view en3.ob r1.d :: [view en3.ob r3.d]) = some r from er)
  obtain ⟨rfl, rfl⟩ := cutO_false c1
  obtain ⟨i, ei, rfl⟩ := cutO_true c2
  injection ei with ei _
  rw [ei] at op
  exact ⟨i, op.int, G, g4, σ, en3, _, r, R4, (held.mono (e3.trans e4)).op R4, c3, fun v' g' H' R' e' rr' => q v' g' H' r en3 R' (e1.trans (e2.trans (e3.trans (e4.trans e')))) rr' w4⟩
/-- both ends written: that they are ints is asked behind both -/
theorem sl_both {rr : V → Option Int → Option Int → Hp → VK → Prop} {a b c : Expr} {ta tb tc : TE} {p2 pos : Pos} (S : SlR X rr) (A1 : PE X a ta) (A2 : PE X b tb) (A3 : PE X c tc) :
    PE X (.Subscript a (.Slice (some b) (some c) none p2) pos) (fun σ H Q => ta σ H fun x H1 => tb σ H1 fun l H2 => tc σ H2 fun h H3 => ∃ i j, l = .int i ∧ h = .int j ∧ rr x (some i) (some j) H3 Q) := by
  constructor
  intro pins s σ H Q I q
  apply Subscript_
  refine thn (A1.run pins s σ H _ I q) fun v1 s1 ⟨x, H1, I1, k1, q1⟩ => ?_
  apply wpAny_Slice
  rw [evalPart_some]
  refine thn (A2.run pins s1 σ H1 _ I1 q1) fun v2 s2 ⟨l, H2, I2, k2, q2⟩ => ?_
  rw [evalPart_some]
  refine thn (A3.run pins s2 σ H2 _ I2 q2) fun v3 s3 ⟨h, H3, I3, k3, i, j, el, eh, q3⟩ => ?_
  subst el eh
  obtain ⟨t2, rfl⟩ := k2
  obtain ⟨t3, rfl⟩ := k3
  rw [evalPart_none]
  apply wpAny_pure
  generalize hs4 : ({ s3 with heap := s3.heap.push { cls := .type "slice", data := .fields #[.int i t2, .int j t3, .none] } } : Shared) = s4
  have I4 : Inv X pins σ H3 s4 := hs4 ▸ I3.kept (t' := s3.toks) fun _ _ z => Heap.get?_push_of_some _ z
  have sl4 : s4.heap.IsSliceOf s3.heap.objs.size (.int i t2) (.int j t3) .none := hs4 ▸ Heap.IsSliceOf.new ..
  obtain ⟨T, m, hT, ht, hg⟩ := S pins s4 σ H3 x v1 (.int i t2) (.int j t3) (some i) (some j) s3.heap.objs.size Q I4 k1 sl4 (.int i t2) (.int j t3) q3
  have fin : wpAny (model X.prog X.w) X.A (subscriptTail a (.Slice (some b) (some c) none p2) v1 (.ref s3.heap.objs.size)) (EP X pins σ Q) X.xe s4 := tail_any (ops := [.ref s3.heap.objs.size, v1]) ht hT hg (by with_unfolding_all rfl)
  exact fin
theorem peSlLH {a b c : Expr} {ia ib ic : IE} {p2 pos : Pos} (ha : PE X a (rdE X.K X.mg C ia)) (hb : PE X b (rdE X.K X.mg C ib)) (hc : PE X c (rdE X.K X.mg C ic)) : PE X (.Subscript a (.Slice (some b) (some c) none p2) pos) (rdE X.K X.mg C (.op (.slc true true) [ia, ib, ic])) := by
  refine (sl_both slR ha hb hc).imp fun σ H Q ⟨G, g, en, Q0, R0, w, q⟩ => ?_
  refine ⟨G, g, en, _, R0, w, fun v g1 H1 r1 en1 R1 e1 rr w1 => ?_⟩
  obtain ⟨g2, R2, e2, held⟩ := rr.hold R1
  refine ⟨G, g2, en1, _, R2, w1, fun v2 g3 H3 r3 en3 R3 e3 rr3 w3 => ?_⟩
  obtain ⟨g4, R4, e4, held3⟩ := rr3.hold R3
  refine ⟨G, g4, en3, _, R4, w3, fun v5 g5 H5 r5 en5 R5 e5 rr5 w5 => ?_⟩
  obtain ⟨g6, R6, e6, op⟩ := rr5.op R5
  obtain ⟨r, er, w6⟩ := the_some w5
  obtain ⟨l, h, es1, es2, c1, c2, _, c3⟩ := slcD_cut (show slcD true true (view en5.ob r1.d :: [view en5.ob r3.d, view en5.ob r5.d]) = some r from er)
  obtain ⟨i, ei, rfl⟩ := cutO_true c1
  injection ei with ei ei2
  subst ei2
  obtain ⟨j, ej, rfl⟩ := cutO_true c2
  injection ej with ej _
  have op3 := (held3.mono (e5.trans e6)).op R6
  rw [ei] at op3
  rw [ej] at op
  exact ⟨i, j, op3.int, op.int, G, g6, σ, en5, _, r, R6, (held.mono (e3.trans (e4.trans (e5.trans e6)))).op R6, c3, fun v' g' H' R' e' rr' => q v' g' H' r en5 R' (e1.trans (e2.trans (e3.trans (e4.trans (e5.trans (e6.trans e')))))) rr' w6⟩
end
end Tk

/-! Tk, sets and sorting, part 6: sorted(set(e)) in the text. -/
namespace Tk
open PySem PySem.Spec PyProof.Rows L2
/-- the set at a, the tuples themselves apart -/
structure SetB (P : Program) (w : World) (h : Heap) (a : Addr) (L : AK) : Prop where
  ex : ∃ (es : Array (Int × Value)) (ep : Nat) (t : SetTable), (∃ o, h.get? a = some o ∧ o.ExactSet ∧ o.data = .set es ep t) ∧ es.toList = rowsOf P w L ∧ Tab t (L.map fun p => thash P w p.2) ∧ (keysOf L).Nodup ∧ t.plain = true ∧
    (w.params.followText "set-order" = true ∨ t.led = true) ∧ L.length * 5 < t.mask * 3 ∧ L.length ≤ 1200 ∧ (t.mask = 7 ∨ t.mask = 31 ∨ t.mask = 127 ∨ t.mask = 511 ∨ t.mask = 2047)
def SetH (P : Program) (w : World) (a : Addr) (L : AK) : HO := .ext fun h => SetB P w h a L
theorem SetM.bare {P : Program} {w : World} {h : Heap} {a : Addr} {L : AK} (R : SetM P w h a L) : SetB P w h a L := by
  obtain ⟨es, ep, t, R, m⟩ := R.ex
  exact ⟨es, ep, t, R.obj, R.ent, R.tab, R.dif, R.pln, R.ldd, R.low, R.few, m⟩
theorem SetB.whole {P : Program} {w : World} {h : Heap} {a : Addr} {L : AK} (R : SetB P w h a L) (ht : ∀ p ∈ L, IsT P w h p.2 p.1) : SetM P w h a L := by
  obtain ⟨es, ep, t, h1, h2, h3, h4, h5, h6, h7, h8, h9⟩ := R.ex
  exact ⟨es, ep, t, ⟨h1, h2, h3, h4, ht, h5, h6, h7, h8⟩, h9⟩
theorem setH_new {P : Program} {w : World} {H : Hp} {h : Heap} {a : Addr} {L : AK} (R : SetB P w h a L) : ObjOk P w H h a (SetH P w a L) := by
  have ⟨es, ep, t, ⟨o, ho, _⟩, _⟩ := R.ex
  refine ⟨R, ⟨o, ho⟩, fun h1 h2 p k => ?_⟩
  have ⟨es', ep', t', ⟨o', ho', r'⟩, q'⟩ := SetB.ex p
  exact ⟨es', ep', t', ⟨o', k o' ho', r'⟩, q'⟩
section
variable {X : Cx}
def rSetS (K : PySem.W.Frag) (P : Program) (w : World) : List V → Hp → VK → Prop := fun xs H Q => ∃ (l : Addr) (ks : AK), xs = [V.ref l] ∧ (SqL K H l (ks.map fun p => V.ref p.1) ∨ SqT K H l (ks.map fun p => V.ref p.1)) ∧ (∀ p ∈ ks, SqT K H p.1 (p.2.map V.int)) ∧ ks.length ≤ 1000000 ∧ (∀ L : AK, (keysOf L).Nodup → (∀ p ∈ L, p ∈ ks) → L.length < 1200) ∧
  ∀ a L, H a = none → (keysOf L).Nodup → (∀ p ∈ L, p ∈ ks) → (∀ p ∈ ks, p.2 ∈ keysOf L) → Q (.ref a) (upd H a (SetH P w a L))
theorem seq_any {pins : List (Addr × Obj)} {s : Shared} {σ : L2.St} {H : Hp} {l : Addr} {vs : List V} (I : L2.Inv X pins σ H s) (h : SqL X.K H l vs ∨ SqT X.K H l vs) : ∃ its : List Value, Vals vs its ∧ (s.heap.IsList l its.toArray ∨ s.heap.IsTuple l its.toArray) := by
  rcases h with h | h
  · obtain ⟨its, rv, pl, hz⟩ := I.list h
    exact ⟨its, rv, .inl pl.isList⟩
  · obtain ⟨its, rv, pl, hz⟩ := I.tuple h
    exact ⟨its, rv, .inr pl⟩
theorem cr_setS (hc : X.calm = true) (hu : X.A.units + 64 < cLine) : CallR X (.type "set") (rSetS X.K X.prog X.w) := by
  intro pins s σ H xs us Q I r h
  obtain ⟨l, ks, rfl, hl, hk, hf, hm, q⟩ := h
  rw [Vals.ref1 r]
  obtain ⟨its, rv, pl⟩ := seq_any I hl
  have hn : H s.heap.objs.size = none := I.hok.fresh (Nat.le_refl _)
  refine set_outer (P := X.prog) (w := X.w) (I.ok.hd hc) pl (fills_keys ks (by simpa using refs_of_vals rv) (fun p hp => I.isT (hk p hp)) hf hm (by omega)) fun h' tk ⟨L, R, g⟩ k => ?_
  obtain ⟨_, _, _, R0, _⟩ := R.ex
  exact ⟨.ref s.heap.objs.size, upd H s.heap.objs.size (SetH X.prog X.w s.heap.objs.size L), I.laid (t' := tk) k (Nat.le_refl _) (setH_new R.bare), rfl, q _ L hn R0.dif (fun p hp => List.mem_of_mem_take (g.sub p hp)) fun p hp => g.all p (by rw [List.take_length]; exact hp)⟩
def rSetI (K : PySem.W.Frag) (w : World) : List V → Hp → VK → Prop := fun xs H Q => ∃ (l : Addr) (ns : List Int), xs = [V.ref l] ∧ (SqL K H l (ns.map V.int) ∨ SqT K H l (ns.map V.int)) ∧ ns.length < 64 ∧
  ∀ a T m, H a = none → m < 64 → (∀ x, T x = true ↔ x ∈ ns) → Q (.ref a) (upd H a (SetO w a T m))
theorem cr_setI (hc : X.calm = true) : CallR X (.type "set") (rSetI X.K X.w) := by
  intro pins s σ H xs us Q I r h
  obtain ⟨l, ns, rfl, hl, hf, q⟩ := h
  rw [Vals.ref1 r]
  obtain ⟨its, rv, pl⟩ := seq_any I hl
  have hn : H s.heap.objs.size = none := I.hok.fresh (Nat.le_refl _)
  refine set_outer (P := X.prog) (w := X.w) (I.ok.hd hc) pl (fills_ints ns (by simpa using ints_of_vals rv) hf) fun h' tk ⟨T, m, R, hm, g⟩ k => ?_
  exact ⟨.ref s.heap.objs.size, upd H s.heap.objs.size (SetO X.w s.heap.objs.size T m), I.laid (t' := tk) k (Nat.le_refl _) (setO_new R), rfl, q _ T m hn hm g⟩
theorem cr_or {f : Value} {r r' : List V → Hp → VK → Prop} (h : CallR X f r) (h' : CallR X f r') : CallR X f (fun xs H Q => r xs H Q ∨ r' xs H Q) := fun pins s σ H xs us Q I rv q =>
  q.elim (fun z => h pins s σ H xs us Q I rv z) fun z => h' pins s σ H xs us Q I rv z
def rSortedS' (K : PySem.W.Frag) (P : Program) (w : World) : List V → Hp → VK → Prop := fun vs H Q => ∃ (a : Addr) (L : AK), vs = [V.ref a] ∧ H a = some (SetH P w a L) ∧ (∀ p ∈ L, SqT K H p.1 (p.2.map V.int)) ∧ (∀ p ∈ L, p.2 ≠ []) ∧
  ∀ (L1 : AK) (p : Addr), L1.Perm L → H p = none → Q (.ref p) (upd H p (.lst ((L1.mergeSort fun p q => leK p.2 q.2).map fun q => V.ref q.1)))
theorem cr_sortedS' (hc : X.calm = true) (hu : X.A.units + 64 < cLine) : CallR X (.builtin "sorted") (rSortedS' X.K X.prog X.w) := by
  intro pins s σ H vs us Q I r h
  obtain ⟨a, L, rfl, ha, hk, hne, q⟩ := h
  have B : SetB X.prog X.w s.heap a L := (I.hok a _ ha).1
  have R := B.whole fun p hp => I.isT (hk p hp)
  rw [Vals.ref1 r]
  refine sorted_of_set R (I.ok.hd hc) (by omega) hne fun s' p c L1 k g o hp pm hg => ?_
  obtain ⟨_, _, _, R0, _⟩ := R.ex
  have few := R0.few
  have hlen : ((L1.mergeSort fun p q => leK p.2 q.2).map fun q => V.ref q.1).length ≤ sizeLine := by rw [List.length_map, List.length_mergeSort, pm.length_eq, sizeLine_eq]; omega
  have hn : H p = none := I.hok.fresh hp
  have J : Inv X pins σ (upd H p (.lst ((L1.mergeSort fun p q => leK p.2 q.2).map fun q => V.ref q.1))) { s with heap := s'.heap, gens := s'.gens, drawn := s'.drawn, toks := s'.toks } :=
    I.call (ch := []) (Un.laid k hp hn) (I.hok.laid k hp ⟨hlen, _, c, vals_of_refs _, hg⟩) (by rw [g]; exact I.bare) (fun _ z => nomatch z)
  have e : s' = { s with heap := s'.heap, gens := s'.gens, drawn := s'.drawn, toks := s'.toks } := by
    cases s'
    cases s
    cases o
    rfl
  rw [e]
  exact ⟨.ref p, _, J, rfl, q L1 p pm hn⟩
end
section
variable {C : Cfg} {k : Nat} {X : Cx} {cc : CC} {K : PySem.W.Frag} {mg : Str → Option Value} {G : Hp} {g : Gh} {H : Hp} {σ : L2.St} {en : En}
/-- keys as they stand in the heap -/
theorem keys_at {F : Hp} {am : List Addr} : ∀ {xs : List D} {ks : List (List Int)} {vs : List V}, keysD xs = some ks → Reps K mg am F xs vs → ∃ ps : AK, keysOf ps = ks ∧ vs = ps.map (fun p => V.ref p.1) ∧ ∀ p ∈ ps, SqT K F p.1 (p.2.map V.int)
  | [], ks, vs, e, h => by
    cases e
    cases (show vs = [] from h)
    exact ⟨[], rfl, rfl, fun p hp => by cases hp⟩
  | x :: xs, ks, vs, e, h => by
    obtain ⟨v, r, rfl, h1, h2⟩ := h
    obtain ⟨k0, e1, e⟩ := Option.bind_eq_some_iff.mp e
    obtain ⟨ks', e2, rfl⟩ := Option.map_eq_some_iff.mp e
    obtain ⟨ps, p1, rfl, p3⟩ := keys_at e2 h2
    unfold intsT at e1
    split at e1
    · rename_i ds
      obtain ⟨a, us, rfl, s1, r1⟩ := h1
      cases intsOf_reps e1 r1
      exact ⟨(a, k0) :: ps, by rw [keysOf, List.map_cons]; exact congrArg _ p1, rfl, List.forall_mem_cons.mpr ⟨s1, p3⟩⟩
    · cases e1
theorem reps_keys {F : Hp} {am : List Addr} : ∀ {ps : AK}, (∀ p ∈ ps, SqT K F p.1 (p.2.map V.int)) → Reps K mg am F ((keysOf ps).map tupK) (ps.map fun p => V.ref p.1)
  | [], _ => rfl
  | p :: ps, h => by
    have one : ∀ k : List Int, Reps K mg am F (k.map .int) (k.map V.int) := fun k => by
      induction k with
      | nil => rfl
      | cons i k ih => exact ⟨_, _, rfl, rfl, ih⟩
    exact .cons ⟨p.1, _, rfl, h p List.mem_cons_self, one p.2⟩ (reps_keys fun q hq => h q (List.mem_cons_of_mem _ hq))
theorem bb_sorted : bootBuiltins "sorted" = some (.builtin "sorted") := by decide +kernel
theorem bb_set : bootBuiltins "set" = some (.type "set") := by decide +kernel
theorem sub_length : ∀ {l m : List (List Int)}, l.Nodup → (∀ x ∈ l, x ∈ m) → l.length ≤ m.length
  | [], _, _, _ => Nat.zero_le _
  | x :: l, m, nd, h => by
    obtain ⟨n1, n2⟩ := List.nodup_cons.mp nd
    have hx := h x List.mem_cons_self
    have ih := sub_length (m := m.erase x) n2 fun y hy => (List.mem_erase_of_ne (fun e : y = x => n1 (by rw [← e]; exact hy))).2 (h y (List.mem_cons_of_mem _ hy))
    have pos := List.length_pos_of_mem hx
    rw [List.length_erase_of_mem hx] at ih
    rw [List.length_cons]
    omega
theorem mem_ddI {x : Int} : ∀ {xs : List Int}, x ∈ ddI xs ↔ x ∈ xs
  | [] => Iff.rfl
  | y :: xs => by
    unfold ddI
    split
    · rename_i h
      have h : y ∈ ddI xs := by simpa using h
      rw [mem_ddI, List.mem_cons]
      constructor
      · exact .inr
      · rintro (rfl | h')
        · exact mem_ddI.mp h
        · exact h'
    · rw [List.mem_cons, List.mem_cons, mem_ddI]
theorem ddI_nodup : ∀ xs : List Int, (ddI xs).Nodup
  | [] => .nil
  | y :: xs => by
    unfold ddI
    split
    · exact ddI_nodup xs
    · rename_i h
      exact List.nodup_cons.mpr ⟨by simpa using h, ddI_nodup xs⟩
theorem leZ_total : PySem.W.TotalLe leZ := ⟨fun a b c h1 h2 => decide_eq_true (Int.le_trans (of_decide_eq_true h1) (of_decide_eq_true h2)), fun a b => by
  unfold leZ
  rcases Int.le_total a b with h | h <;> simp [h]⟩
/-- ascending ints are told by their members -/
theorem asc_ddI {ns is : List Int} (h : ns.Pairwise (· < ·)) (hm : ∀ x, x ∈ ns ↔ x ∈ is) : ns = srtBy leZ (ddI is) := by
  have nd : ns.Nodup := h.imp fun h e => by omega
  exact List.Perm.eq_of_pairwise (le := fun a b => leZ a b = true) (fun a b _ _ h1 h2 => Int.le_antisymm (of_decide_eq_true h1) (of_decide_eq_true h2)) (h.imp fun h => decide_eq_true (by omega)) (srtBy_sorted leZ_total _)
    (((List.perm_ext_iff_of_nodup nd (ddI_nodup is)).mpr fun x => by rw [mem_ddI]; exact hm x).trans (srtBy_perm _).symm)
theorem reps_ints {F : Hp} {am : List Addr} : ∀ {xs : List D} {is : List Int} {vs : List V}, intsOf xs = some is → Reps K mg am F xs vs → vs = is.map V.int := fun {xs is vs} e h => intsOf_reps e h
/-- sorted(set(e)) -/
theorem peSet (O : Ok8 C k X cc) {a : Expr} {ia : IE} {p p1 p2 p3 : Pos} (h1 : cGlob cc "sorted" = true) (h2 : cGlob cc "set" = true) (hs : isStar a = false) (ha : PA X [a] (rdA X.K X.mg C [ia])) :
    PE X (.Call (.Name "sorted" p) [.Call (.Name "set" p1) [a] [] p2] [] p3) (rdE X.K X.mg C (.op .set [ia])) := by
  obtain ⟨g1, g2, g3⟩ := gl_of O h1
  obtain ⟨f1, f2, f3⟩ := gl_of O h2
  have inner : PE X (.Call (.Name "set" p1) [a] [] p2) _ := pe_callTy (cr_or (cr_setS O.calm (by have := O.hu; omega)) (cr_setI O.calm)) f1 (O.blt _ (by decide +kernel)) bb_set ha f3 f2 (star_of hs) rfl
  refine (pe_callB (cr_or (cr_sortedS' O.calm (by have := O.hu; omega)) (cr_sortedSet O.calm)) g1 (O.blt _ (by decide +kernel)) bb_sorted (pa_cons inner pa_nil (star_of rfl)) g3 g2 (star_of rfl) rfl).imp fun σ H Q h => ?_
  obtain ⟨G, g, en, Q0, R0, w, q⟩ := h
  refine ⟨G, g, en, _, R0, w, fun vs g1 H1 ds en1 R1 e1 hs w1 => ?_⟩
  obtain ⟨r, er, w1⟩ := the_some w1
  have ops := hs.op R1
  have er : app .set (ds.map (view en1.ob)) = some r := er
  generalize ds.map (view en1.ob) = xs at er ops
  match xs, ops, er with
  | [x], ops, er =>
    obtain ⟨v, rfl, hx⟩ := ops.one
    have er : setD x = some r := er
    obtain ⟨ys, e2, er⟩ := Option.bind_eq_some_iff.mp er
    obtain ⟨l, us, rfl, s1, r1⟩ : ∃ l us, v = V.ref l ∧ (SqL X.K H1 l us ∨ SqT X.K H1 l us) ∧ Reps X.K X.mg g1.am g1.F ys us := by
      rcases itemsD_some e2 with rfl | rfl
      · obtain ⟨l, us, rfl, _, s1, r1⟩ := hx.tup R1
        exact ⟨l, us, rfl, .inr s1, r1⟩
      · obtain ⟨l, us, rfl, s1, r1⟩ := hx.lst R1
        exact ⟨l, us, rfl, .inl (SqL.of s1), r1⟩
    unfold setL at er
    split at er
    case h_2 =>
      obtain ⟨is, e3, er⟩ := Option.bind_eq_some_iff.mp er
      obtain ⟨h3, er⟩ := guardO_some er
      cases er
      obtain rfl := reps_ints e3 r1
      refine .inr ⟨l, is, rfl, s1, of_decide_eq_true h3, fun b T m hb hm hT => ?_⟩
      have R2 : REn X.K X.mg G g1 (upd H1 b (SetO X.w b T m)) σ en1 := R1.grow (same_new hb)
      refine .inr ⟨b, T, m, rfl, upd_same, hm, fun ns c hs hn hl hc => ?_⟩
      have en : ns = srtBy leZ (ddI is) := asc_ddI hs fun x => by rw [hn, hT]
      have rp : ∀ (ns : List Int), Reps X.K X.mg g1.am g1.F (ns.map .int) (ns.map V.int) := fun ns => by
        induction ns with
        | nil => rfl
        | cons i k ih => exact ⟨_, _, rfl, rfl, ih⟩
      obtain ⟨R3, r3⟩ := R2.new (d := .lst (ns.map .int)) (o := .lst (ns.map V.int)) hc ⟨_, rfl, rp ns⟩
      rw [en] at R3 r3 ⊢
      exact q _ g1 _ _ en1 R3 e1 r3 w1
    rename_i ks e3
    obtain ⟨h3, er⟩ := guardO_some er
    cases er
    simp only [Bool.and_eq_true, decide_eq_true_eq] at h3
    obtain ⟨⟨ne, len⟩, few⟩ := h3
    obtain ⟨ps, q1, rfl, q3⟩ := keys_at e3 r1
    have up : ∀ {b us}, SqT X.K g1.F b us → SqT X.K H1 b us := fun z => Same.seqT R1.fh z
    have kin : ∀ {L : AK}, (∀ p ∈ L, p ∈ ps) → ∀ x ∈ keysOf L, x ∈ dd ks := fun hL x hx => by
      obtain ⟨p, hp, rfl⟩ := List.mem_map.mp hx
      rw [mem_dd, ← q1]
      exact List.mem_map.mpr ⟨p, hL p hp, rfl⟩
    refine .inl ⟨l, ps, rfl, s1, fun p hp => up (q3 p hp), by rw [← q1, List.length_map] at len; exact len, fun L nd sub => ?_, fun b L hb nd sub all => ?_⟩
    · have z := sub_length nd (kin sub)
      rw [List.length_map] at z
      omega
    · obtain ⟨b1, b2, b3, b4⟩ := R1.free hb
      have up2 : ∀ {c us}, SqT X.K g1.F c us → SqT X.K (upd H1 b (SetH X.prog X.w b L)) c us := fun z => Same.seqT (R1.fh.trans (same_new hb)) z
      have R2 : REn X.K X.mg G g1 (upd H1 b (SetH X.prog X.w b L)) σ en1 := R1.grow (same_new hb)
      refine .inl ⟨b, L, rfl, upd_same, fun p hp => up2 (q3 p (sub p hp)), fun p hp z => ?_, fun L1 c pm hc => ?_⟩
      · have y := List.all_eq_true.mp ne p.2 (by rw [← q1]; exact List.mem_map.mpr ⟨p, sub p hp, rfl⟩)
        rw [z] at y
        cases y
      · have kk : keysOf (L1.mergeSort fun p q => leK p.2 q.2) = srtBy leI (dd ks) := by
          refine srt_one (List.pairwise_map.mpr (((List.pairwise_mergeSort (le := fun p q : Addr × List Int => leK p.2 q.2) (fun a b c h1 h2 => ?_) (fun a b => ?_) L1)).imp fun h => by rw [leI_eq]; exact h)) ?_
          · have := leI_total.trans a.2 b.2 c.2
            simp only [leI_eq] at this
            exact this h1 h2
          · have := leI_total.total a.2 b.2
            simp only [leI_eq] at this
            rcases this with h | h <;> simp [h]
          · have pk : (keysOf (L1.mergeSort fun p q => leK p.2 q.2)).Perm (keysOf L) := ((List.mergeSort_perm _ _).trans pm).map _
            refine pk.trans ((List.perm_ext_iff_of_nodup nd (dd_nodup ks)).mpr fun x => ⟨kin sub x, fun hx => ?_⟩)
            rw [mem_dd, ← q1] at hx
            obtain ⟨p, hp, rfl⟩ := List.mem_map.mp hx
            exact all p hp
        have rp := reps_keys (K := X.K) (mg := X.mg) (F := g1.F) (am := g1.am) (ps := L1.mergeSort fun p q => leK p.2 q.2) fun p hp => q3 p (sub p (pm.mem_iff.mp ((List.mergeSort_perm _ _).mem_iff.mp hp)))
        rw [kk] at rp
        obtain ⟨R3, r3⟩ := R2.new (d := .lst _) (o := .lst _) hc ⟨_, rfl, rp⟩
        exact q _ g1 _ _ en1 R3 e1 r3 w1
  | [], _, er => cases er
  | [_, _], _, er => cases er
  | _ :: _ :: _ :: _, _, er => cases er
end
end Tk

/-! Tk, part 11: calls of built-ins, isinstance, calls of own defs: readings. -/
namespace Tk
open PySem PySem.Spec PyProof.Rows L2

/-! ### what a built-in does -/
theorem app_one {o : Op} (h2 : ∀ x y, app2 o x y = none) (h3 : ∀ lo hi, o ≠ .slc lo hi) {ds : List D} {r : R} (e : app o ds = some r) (h4 : o ≠ .dget := by intro z; cases z) (h5 : o ≠ .dnew := by intro z; cases z) : ∃ x, ds = [x] ∧ app1 o x = some r := by
  match ds, e with
  | [x], e => exact ⟨x, rfl, e⟩
  | [x, y], e =>
    have e : app2 o x y = some r := e
    rw [h2] at e
    cases e
  | x :: y :: z :: l, e => cases o <;> first | cases e | exact absurd rfl (h3 _ _) | exact absurd rfl h4
  | [], e => cases o <;> first | exact absurd rfl h5 | cases e
theorem app_two {o : Op} (h3 : ∀ lo hi, o ≠ .slc lo hi) {ds : List D} {r : R} (e : app o ds = some r) (h4 : o ≠ .dget := by intro z; cases z) (h5 : o ≠ .dnew := by intro z; cases z) : (∃ x, ds = [x] ∧ app1 o x = some r) ∨ ∃ x y, ds = [x, y] ∧ app2 o x y = some r := by
  match ds, e with
  | [x], e => exact .inl ⟨x, rfl, e⟩
  | [x, y], e => exact .inr ⟨x, y, rfl, e⟩
  | x :: y :: z :: l, e => cases o <;> first | cases e | exact absurd rfl (h3 _ _) | exact absurd rfl h4
  | [], e => cases o <;> first | exact absurd rfl h5 | cases e
section
variable {X : Cx}
theorem cb_len : CallR X (.builtin "len") (rOpN X.K X.mg .len) := fun pins s σ H xs us Q I hv ⟨G, g, τ, en, ds, r, R0, ops, e, q⟩ => by
  obtain ⟨x, rfl, e⟩ := app_one (fun _ _ => rfl) (fun _ _ z => by cases z) e
  obtain ⟨v, rfl, hx⟩ := ops.one
  exact len_ok hx us hv I R0 e q
theorem cb_tuple : CallR X (.type "tuple") (rOpN X.K X.mg .tuple) := fun pins s σ H xs us Q I hv ⟨G, g, τ, en, ds, r, R0, ops, e, q⟩ => by
  obtain ⟨x, rfl, e⟩ := app_one (fun _ _ => rfl) (fun _ _ z => by cases z) e
  obtain ⟨v, rfl, hx⟩ := ops.one
  exact tup_ok hx us hv I R0 e q
theorem cb_list (hc : X.calm = true) : CallR X (.type "list") (rOpN X.K X.mg .list) := fun pins s σ H xs us Q I hv ⟨G, g, τ, en, ds, r, R0, ops, e, q⟩ => by
  obtain ⟨x, rfl, e⟩ := app_one (fun _ _ => rfl) (fun _ _ z => by cases z) e
  obtain ⟨v, rfl, hx⟩ := ops.one
  exact lst_ok hc hx us hv I R0 e q
theorem cb_repr (hg : X.A.guards = some []) (hu : X.A.units + 200 < cLine) : CallR X (.builtin "repr") (rOpN X.K X.mg .repr) := fun pins s σ H xs us Q I hv ⟨G, g, τ, en, ds, r, R0, ops, e, q⟩ => by
  obtain ⟨x, rfl, e⟩ := app_one (fun _ _ => rfl) (fun _ _ z => by cases z) e
  obtain ⟨v, rfl, hx⟩ := ops.one
  exact repr_ok hg hu hx us hv I R0 e q
theorem cb_int : CallR X (.type "int") (rOpN X.K X.mg .int) := fun pins s σ H xs us Q I hv ⟨G, g, τ, en, ds, r, R0, ops, e, q⟩ => by
  obtain ⟨x, rfl, e⟩ := app_one (fun _ _ => rfl) (fun _ _ z => by cases z) e
  obtain ⟨v, rfl, hx⟩ := ops.one
  exact int_ok hx us hv I R0 e q
theorem cb_sum (hc : X.calm = true) : CallR X (.builtin "sum") (rOpN X.K X.mg .sum) := fun pins s σ H xs us Q I hv ⟨G, g, τ, en, ds, r, R0, ops, e, q⟩ => by
  obtain ⟨x, rfl, e⟩ := app_one (fun _ _ => rfl) (fun _ _ z => by cases z) e
  obtain ⟨v, rfl, hx⟩ := ops.one
  exact sum_ok hc hx us hv I R0 e q
theorem cb_all (hc : X.calm = true) : CallR X (.builtin "all") (rOpN X.K X.mg .all) := fun pins s σ H xs us Q I hv ⟨G, g, τ, en, ds, r, R0, ops, e, q⟩ => by
  obtain ⟨x, rfl, e⟩ := app_one (fun _ _ => rfl) (fun _ _ z => by cases z) e
  obtain ⟨v, rfl, hx⟩ := ops.one
  exact all_ok hc hx us hv I R0 e q
theorem cb_any (hc : X.calm = true) : CallR X (.builtin "any") (rOpN X.K X.mg .any) := fun pins s σ H xs us Q I hv ⟨G, g, τ, en, ds, r, R0, ops, e, q⟩ => by
  obtain ⟨x, rfl, e⟩ := app_one (fun _ _ => rfl) (fun _ _ z => by cases z) e
  obtain ⟨v, rfl, hx⟩ := ops.one
  exact any_ok hc hx us hv I R0 e q
theorem cb_abs : CallR X (.builtin "abs") (rOpN X.K X.mg .abs) := fun pins s σ H xs us Q I hv ⟨G, g, τ, en, ds, r, R0, ops, e, q⟩ => by
  obtain ⟨x, rfl, e⟩ := app_one (fun _ _ => rfl) (fun _ _ z => by cases z) e
  obtain ⟨v, rfl, hx⟩ := ops.one
  exact abs_ok hx us hv I R0 e q
theorem cb_min (hc : X.calm = true) : CallR X (.builtin "min") (rOpN X.K X.mg .min) := fun pins s σ H xs us Q I hv ⟨G, g, τ, en, ds, r, R0, ops, e, q⟩ => by
  rcases app_two (fun _ _ z => by cases z) e with ⟨x, rfl, e⟩ | ⟨x, y, rfl, e⟩
  · obtain ⟨v, rfl, hx⟩ := ops.one
    exact min_ok hc hx us hv I R0 e q
  · obtain ⟨v, w, rfl, hx, hy⟩ := ops.two
    exact min2_ok hc hx hy us hv I R0 e q
theorem cb_max (hc : X.calm = true) : CallR X (.builtin "max") (rOpN X.K X.mg .max) := fun pins s σ H xs us Q I hv ⟨G, g, τ, en, ds, r, R0, ops, e, q⟩ => by
  rcases app_two (fun _ _ z => by cases z) e with ⟨x, rfl, e⟩ | ⟨x, y, rfl, e⟩
  · obtain ⟨v, rfl, hx⟩ := ops.one
    exact max_ok hc hx us hv I R0 e q
  · obtain ⟨v, w, rfl, hx, hy⟩ := ops.two
    exact max2_ok hc hx hy us hv I R0 e q
end
theorem bb_len : bootBuiltins "len" = some (.builtin "len") := by decide +kernel
theorem bb_tuple : bootBuiltins "tuple" = some (.type "tuple") := by decide +kernel
theorem bb_list : bootBuiltins "list" = some (.type "list") := by decide +kernel
theorem bb_repr : bootBuiltins "repr" = some (.builtin "repr") := by decide +kernel
theorem bb_int : bootBuiltins "int" = some (.type "int") := by decide +kernel
theorem bb_sum : bootBuiltins "sum" = some (.builtin "sum") := by decide +kernel
theorem bb_min : bootBuiltins "min" = some (.builtin "min") := by decide +kernel
theorem bb_max : bootBuiltins "max" = some (.builtin "max") := by decide +kernel
theorem bb_all : bootBuiltins "all" = some (.builtin "all") := by decide +kernel
theorem bb_any : bootBuiltins "any" = some (.builtin "any") := by decide +kernel
theorem bb_abs : bootBuiltins "abs" = some (.builtin "abs") := by decide +kernel
theorem bb_isi : bootBuiltins "isinstance" = some (.builtin "isinstance") := by decide +kernel
theorem bb_bool : bootBuiltins "bool" = some (.type "bool") := by decide +kernel
theorem bb_str : bootBuiltins "str" = some (.type "str") := by decide +kernel
/-! ### a call in the text -/
section
variable {C : Cfg} {k : Nat} {X : Cx} {cc : CC}
theorem back_ns {pos : Pos} {env : Env} : ∀ {es : List Expr}, (∀ e ∈ es, isStar e = false) → (backTo pos (starEach es env)).any (·.1) = false
  | [], _ => rfl
  | e :: es, h => by
    rw [star_of (h e List.mem_cons_self)]
    show (false || (backTo pos (starEach es env)).any (·.1)) = false
    rw [Bool.false_or]
    exact back_ns fun x hx => h x (List.mem_cons_of_mem _ hx)
theorem rdA.opN {o : Op} {irs : List IE} {K : PySem.W.Frag} {mg : Str → Option Value} {σ : L2.St} {H : Hp} {Q : VK} (h : rdE K mg C (.op o irs) σ H Q) : tCB (rOpN K mg o) (rdA K mg C irs) σ H Q := by
  obtain ⟨G, g, en, Q0, R0, w, q⟩ := h
  refine ⟨G, g, en, _, R0, w, fun vs g1 H1 ds en1 R1 e1 hs w1 => ?_⟩
  obtain ⟨r, er, w1⟩ := the_some w1
  exact ⟨G, g1, σ, en1, _, r, R1, hs.op R1, er, fun v' g' H' R' e' rr' => q v' g' H' r en1 R' (e1.trans e') rr' w1⟩
theorem cBlt_of {f : Str} {z : Op × BK × Nat × Nat} (hc : cBlt f = some z) : (f = "len" ∧ z.1 = .len) ∨ (f = "tuple" ∧ z.1 = .tuple) ∨ (f = "list" ∧ z.1 = .list) ∨ (f = "repr" ∧ z.1 = .repr) ∨ (f = "int" ∧ z.1 = .int) ∨ (f = "sum" ∧ z.1 = .sum) ∨ (f = "min" ∧ z.1 = .min) ∨ (f = "max" ∧ z.1 = .max) ∨ (f = "all" ∧ z.1 = .all) ∨ (f = "any" ∧ z.1 = .any) ∨ (f = "abs" ∧ z.1 = .abs) ∨ (f = "sorted" ∧ z.1 = .sorted) := by
  unfold cBlt at hc
  rcases hb : (f == ("len" : Str)) with _ | _
  rotate_left
  · rw [if_pos hb] at hc
    have hc := (Option.some.inj hc).symm
    exact .inl ⟨eq_of_beq hb, by rw [hc]⟩
  rw [if_neg (by rw [hb]; decide)] at hc
  clear hb
  rcases hb : (f == ("tuple" : Str)) with _ | _
  rotate_left
  · rw [if_pos hb] at hc
    have hc := (Option.some.inj hc).symm
    exact .inr (.inl ⟨eq_of_beq hb, by rw [hc]⟩)
  rw [if_neg (by rw [hb]; decide)] at hc
  clear hb
  rcases hb : (f == ("list" : Str)) with _ | _
  rotate_left
  · rw [if_pos hb] at hc
    have hc := (Option.some.inj hc).symm
    exact .inr (.inr (.inl ⟨eq_of_beq hb, by rw [hc]⟩))
  rw [if_neg (by rw [hb]; decide)] at hc
  clear hb
  rcases hb : (f == ("repr" : Str)) with _ | _
  rotate_left
  · rw [if_pos hb] at hc
    have hc := (Option.some.inj hc).symm
    exact .inr (.inr (.inr (.inl ⟨eq_of_beq hb, by rw [hc]⟩)))
  rw [if_neg (by rw [hb]; decide)] at hc
  clear hb
  rcases hb : (f == ("int" : Str)) with _ | _
  rotate_left
  · rw [if_pos hb] at hc
    have hc := (Option.some.inj hc).symm
    exact .inr (.inr (.inr (.inr (.inl ⟨eq_of_beq hb, by rw [hc]⟩))))
  rw [if_neg (by rw [hb]; decide)] at hc
  clear hb
  rcases hb : (f == ("sum" : Str)) with _ | _
  rotate_left
  · rw [if_pos hb] at hc
    have hc := (Option.some.inj hc).symm
    exact .inr (.inr (.inr (.inr (.inr (.inl ⟨eq_of_beq hb, by rw [hc]⟩)))))
  rw [if_neg (by rw [hb]; decide)] at hc
  clear hb
  rcases hb : (f == ("min" : Str)) with _ | _
  rotate_left
  · rw [if_pos hb] at hc
    have hc := (Option.some.inj hc).symm
    exact .inr (.inr (.inr (.inr (.inr (.inr (.inl ⟨eq_of_beq hb, by rw [hc]⟩))))))
  rw [if_neg (by rw [hb]; decide)] at hc
  clear hb
  rcases hb : (f == ("max" : Str)) with _ | _
  rotate_left
  · rw [if_pos hb] at hc
    have hc := (Option.some.inj hc).symm
    exact .inr (.inr (.inr (.inr (.inr (.inr (.inr (.inl ⟨eq_of_beq hb, by rw [hc]⟩)))))))
  rw [if_neg (by rw [hb]; decide)] at hc
  clear hb
  rcases hb : (f == ("all" : Str)) with _ | _
  rotate_left
  · rw [if_pos hb] at hc
    have hc := (Option.some.inj hc).symm
    exact .inr (.inr (.inr (.inr (.inr (.inr (.inr (.inr (.inl ⟨eq_of_beq hb, by rw [hc]⟩))))))))
  rw [if_neg (by rw [hb]; decide)] at hc
  clear hb
  rcases hb : (f == ("any" : Str)) with _ | _
  rotate_left
  · rw [if_pos hb] at hc
    have hc := (Option.some.inj hc).symm
    exact .inr (.inr (.inr (.inr (.inr (.inr (.inr (.inr (.inr (.inl ⟨eq_of_beq hb, by rw [hc]⟩)))))))))
  rw [if_neg (by rw [hb]; decide)] at hc
  clear hb
  rcases hb : (f == ("abs" : Str)) with _ | _
  rotate_left
  · rw [if_pos hb] at hc
    have hc := (Option.some.inj hc).symm
    exact .inr (.inr (.inr (.inr (.inr (.inr (.inr (.inr (.inr (.inr (.inl ⟨eq_of_beq hb, by rw [hc]⟩))))))))))
  rw [if_neg (by rw [hb]; decide)] at hc
  clear hb
  rcases hb : (f == ("sorted" : Str)) with _ | _
  rotate_left
  · rw [if_pos hb] at hc
    have hc := (Option.some.inj hc).symm
    exact .inr (.inr (.inr (.inr (.inr (.inr (.inr (.inr (.inr (.inr (.inr ⟨eq_of_beq hb, by rw [hc]⟩))))))))))
  rw [if_neg (by rw [hb]; decide)] at hc
  clear hb
  cases hc
theorem pb_len (O : Ok8 C k X cc) {e : Expr} {es : List Expr} {irs : List IE} {p pos : Pos} (hg : cGlob cc "len" = true) (hs : ∀ x ∈ e :: es, isStar x = false)
    (ha : PA X (e :: es) (rdA X.K X.mg C irs)) : PE X (.Call (.Name "len" p) (e :: es) [] pos) (rdE X.K X.mg C (.op .len irs)) := by
  obtain ⟨g1, g2, g3⟩ := gl_of O hg
  exact (pe_callB cb_len g1 (O.blt _ (by decide +kernel)) bb_len ha g3 g2 (star_of (hs e List.mem_cons_self)) (back_ns fun x hx => hs x (List.mem_cons_of_mem _ hx))).imp fun σ H Q h => rdA.opN h
theorem pb_tuple (O : Ok8 C k X cc) {e : Expr} {es : List Expr} {irs : List IE} {p pos : Pos} (hg : cGlob cc "tuple" = true) (hs : ∀ x ∈ e :: es, isStar x = false)
    (ha : PA X (e :: es) (rdA X.K X.mg C irs)) : PE X (.Call (.Name "tuple" p) (e :: es) [] pos) (rdE X.K X.mg C (.op .tuple irs)) := by
  obtain ⟨g1, g2, g3⟩ := gl_of O hg
  exact (pe_callTy cb_tuple g1 (O.blt _ (by decide +kernel)) bb_tuple ha g3 g2 (star_of (hs e List.mem_cons_self)) (back_ns fun x hx => hs x (List.mem_cons_of_mem _ hx))).imp fun σ H Q h => rdA.opN h
theorem pb_list (O : Ok8 C k X cc) {e : Expr} {es : List Expr} {irs : List IE} {p pos : Pos} (hg : cGlob cc "list" = true) (hs : ∀ x ∈ e :: es, isStar x = false)
    (ha : PA X (e :: es) (rdA X.K X.mg C irs)) : PE X (.Call (.Name "list" p) (e :: es) [] pos) (rdE X.K X.mg C (.op .list irs)) := by
  obtain ⟨g1, g2, g3⟩ := gl_of O hg
  exact (pe_callTy (cb_list O.calm) g1 (O.blt _ (by decide +kernel)) bb_list ha g3 g2 (star_of (hs e List.mem_cons_self)) (back_ns fun x hx => hs x (List.mem_cons_of_mem _ hx))).imp fun σ H Q h => rdA.opN h
theorem pb_repr (O : Ok8 C k X cc) {e : Expr} {es : List Expr} {irs : List IE} {p pos : Pos} (hg : cGlob cc "repr" = true) (hs : ∀ x ∈ e :: es, isStar x = false)
    (ha : PA X (e :: es) (rdA X.K X.mg C irs)) : PE X (.Call (.Name "repr" p) (e :: es) [] pos) (rdE X.K X.mg C (.op .repr irs)) := by
  obtain ⟨g1, g2, g3⟩ := gl_of O hg
  exact (pe_callB (cb_repr O.gd O.hu) g1 (O.blt _ (by decide +kernel)) bb_repr ha g3 g2 (star_of (hs e List.mem_cons_self)) (back_ns fun x hx => hs x (List.mem_cons_of_mem _ hx))).imp fun σ H Q h => rdA.opN h
theorem pb_int (O : Ok8 C k X cc) {e : Expr} {es : List Expr} {irs : List IE} {p pos : Pos} (hg : cGlob cc "int" = true) (hs : ∀ x ∈ e :: es, isStar x = false)
    (ha : PA X (e :: es) (rdA X.K X.mg C irs)) : PE X (.Call (.Name "int" p) (e :: es) [] pos) (rdE X.K X.mg C (.op .int irs)) := by
  obtain ⟨g1, g2, g3⟩ := gl_of O hg
  exact (pe_callTy cb_int g1 (O.blt _ (by decide +kernel)) bb_int ha g3 g2 (star_of (hs e List.mem_cons_self)) (back_ns fun x hx => hs x (List.mem_cons_of_mem _ hx))).imp fun σ H Q h => rdA.opN h
theorem pb_sum (O : Ok8 C k X cc) {e : Expr} {es : List Expr} {irs : List IE} {p pos : Pos} (hg : cGlob cc "sum" = true) (hs : ∀ x ∈ e :: es, isStar x = false)
    (ha : PA X (e :: es) (rdA X.K X.mg C irs)) : PE X (.Call (.Name "sum" p) (e :: es) [] pos) (rdE X.K X.mg C (.op .sum irs)) := by
  obtain ⟨g1, g2, g3⟩ := gl_of O hg
  exact (pe_callB (cb_sum O.calm) g1 (O.blt _ (by decide +kernel)) bb_sum ha g3 g2 (star_of (hs e List.mem_cons_self)) (back_ns fun x hx => hs x (List.mem_cons_of_mem _ hx))).imp fun σ H Q h => rdA.opN h
theorem pb_min (O : Ok8 C k X cc) {e : Expr} {es : List Expr} {irs : List IE} {p pos : Pos} (hg : cGlob cc "min" = true) (hs : ∀ x ∈ e :: es, isStar x = false)
    (ha : PA X (e :: es) (rdA X.K X.mg C irs)) : PE X (.Call (.Name "min" p) (e :: es) [] pos) (rdE X.K X.mg C (.op .min irs)) := by
  obtain ⟨g1, g2, g3⟩ := gl_of O hg
  exact (pe_callB (cb_min O.calm) g1 (O.blt _ (by decide +kernel)) bb_min ha g3 g2 (star_of (hs e List.mem_cons_self)) (back_ns fun x hx => hs x (List.mem_cons_of_mem _ hx))).imp fun σ H Q h => rdA.opN h
theorem pb_max (O : Ok8 C k X cc) {e : Expr} {es : List Expr} {irs : List IE} {p pos : Pos} (hg : cGlob cc "max" = true) (hs : ∀ x ∈ e :: es, isStar x = false)
    (ha : PA X (e :: es) (rdA X.K X.mg C irs)) : PE X (.Call (.Name "max" p) (e :: es) [] pos) (rdE X.K X.mg C (.op .max irs)) := by
  obtain ⟨g1, g2, g3⟩ := gl_of O hg
  exact (pe_callB (cb_max O.calm) g1 (O.blt _ (by decide +kernel)) bb_max ha g3 g2 (star_of (hs e List.mem_cons_self)) (back_ns fun x hx => hs x (List.mem_cons_of_mem _ hx))).imp fun σ H Q h => rdA.opN h
theorem pb_all (O : Ok8 C k X cc) {e : Expr} {es : List Expr} {irs : List IE} {p pos : Pos} (hg : cGlob cc "all" = true) (hs : ∀ x ∈ e :: es, isStar x = false)
    (ha : PA X (e :: es) (rdA X.K X.mg C irs)) : PE X (.Call (.Name "all" p) (e :: es) [] pos) (rdE X.K X.mg C (.op .all irs)) := by
  obtain ⟨g1, g2, g3⟩ := gl_of O hg
  exact (pe_callB (cb_all O.calm) g1 (O.blt _ (by decide +kernel)) bb_all ha g3 g2 (star_of (hs e List.mem_cons_self)) (back_ns fun x hx => hs x (List.mem_cons_of_mem _ hx))).imp fun σ H Q h => rdA.opN h
theorem pb_any (O : Ok8 C k X cc) {e : Expr} {es : List Expr} {irs : List IE} {p pos : Pos} (hg : cGlob cc "any" = true) (hs : ∀ x ∈ e :: es, isStar x = false)
    (ha : PA X (e :: es) (rdA X.K X.mg C irs)) : PE X (.Call (.Name "any" p) (e :: es) [] pos) (rdE X.K X.mg C (.op .any irs)) := by
  obtain ⟨g1, g2, g3⟩ := gl_of O hg
  exact (pe_callB (cb_any O.calm) g1 (O.blt _ (by decide +kernel)) bb_any ha g3 g2 (star_of (hs e List.mem_cons_self)) (back_ns fun x hx => hs x (List.mem_cons_of_mem _ hx))).imp fun σ H Q h => rdA.opN h
theorem pb_abs (O : Ok8 C k X cc) {e : Expr} {es : List Expr} {irs : List IE} {p pos : Pos} (hg : cGlob cc "abs" = true) (hs : ∀ x ∈ e :: es, isStar x = false)
    (ha : PA X (e :: es) (rdA X.K X.mg C irs)) : PE X (.Call (.Name "abs" p) (e :: es) [] pos) (rdE X.K X.mg C (.op .abs irs)) := by
  obtain ⟨g1, g2, g3⟩ := gl_of O hg
  exact (pe_callB cb_abs g1 (O.blt _ (by decide +kernel)) bb_abs ha g3 g2 (star_of (hs e List.mem_cons_self)) (back_ns fun x hx => hs x (List.mem_cons_of_mem _ hx))).imp fun σ H Q h => rdA.opN h
theorem cb_sorted (hc : X.calm = true) (hu : X.A.units + 200 < cLine) : CallR X (.builtin "sorted") (rOpN X.K X.mg .sorted) := fun pins s σ H xs us Q I hv ⟨G, g, τ, en, ds, r, R0, ops, e, q⟩ => by
  obtain ⟨x, rfl, e⟩ := app_one (fun _ _ => rfl) (fun _ _ z => by cases z) e
  obtain ⟨v, rfl, hx⟩ := ops.one
  exact sort_ok hc hu hx us hv I R0 e q
theorem pb_sorted (O : Ok8 C k X cc) {e : Expr} {es : List Expr} {irs : List IE} {p pos : Pos} (hg : cGlob cc "sorted" = true) (hs : ∀ x ∈ e :: es, isStar x = false)
    (ha : PA X (e :: es) (rdA X.K X.mg C irs)) : PE X (.Call (.Name "sorted" p) (e :: es) [] pos) (rdE X.K X.mg C (.op .sorted irs)) := by
  obtain ⟨g1, g2, g3⟩ := gl_of O hg
  exact (pe_callB (cb_sorted O.calm O.hu) g1 (O.blt _ (by decide +kernel)) bb_sorted ha g3 g2 (star_of (hs e List.mem_cons_self)) (back_ns fun x hx => hs x (List.mem_cons_of_mem _ hx))).imp fun σ H Q h => rdA.opN h
theorem peBlt (O : Ok8 C k X cc) {f : Str} {o : Op} {kd : BK} {lo hi : Nat} {e : Expr} {es : List Expr} {irs : List IE} {p pos : Pos} (hc : cBlt f = some (o, kd, lo, hi)) (hg : cGlob cc f = true) (hs : ∀ x ∈ e :: es, isStar x = false)
    (ha : PA X (e :: es) (rdA X.K X.mg C irs)) : PE X (.Call (.Name f p) (e :: es) [] pos) (rdE X.K X.mg C (.op o irs)) := by
  have hc := cBlt_of hc
  simp only at hc
  rcases hc with ⟨h1, h2⟩ | ⟨h1, h2⟩ | ⟨h1, h2⟩ | ⟨h1, h2⟩ | ⟨h1, h2⟩ | ⟨h1, h2⟩ | ⟨h1, h2⟩ | ⟨h1, h2⟩ | ⟨h1, h2⟩ | ⟨h1, h2⟩ | ⟨h1, h2⟩ | ⟨h1, h2⟩
  · rw [h1] at hg ⊢
    rw [h2]
    exact pb_len O hg hs ha
  · rw [h1] at hg ⊢
    rw [h2]
    exact pb_tuple O hg hs ha
  · rw [h1] at hg ⊢
    rw [h2]
    exact pb_list O hg hs ha
  · rw [h1] at hg ⊢
    rw [h2]
    exact pb_repr O hg hs ha
  · rw [h1] at hg ⊢
    rw [h2]
    exact pb_int O hg hs ha
  · rw [h1] at hg ⊢
    rw [h2]
    exact pb_sum O hg hs ha
  · rw [h1] at hg ⊢
    rw [h2]
    exact pb_min O hg hs ha
  · rw [h1] at hg ⊢
    rw [h2]
    exact pb_max O hg hs ha
  · rw [h1] at hg ⊢
    rw [h2]
    exact pb_all O hg hs ha
  · rw [h1] at hg ⊢
    rw [h2]
    exact pb_any O hg hs ha
  · rw [h1] at hg ⊢
    rw [h2]
    exact pb_abs O hg hs ha
  · rw [h1] at hg ⊢
    rw [h2]
    exact pb_sorted O hg hs ha
/-! ### isinstance -/
def tyN : Ty → String
  | .int => "int"
  | .bool => "bool"
  | .str => "str"
  | .tuple => "tuple"
  | .list => "list"
def dN : D → String
  | .non => "NoneType"
  | .bl _ => "bool"
  | .int _ => "int"
  | .str _ => "str"
  | .tup _ => "tuple"
  | .lst _ => "list"
  | _ => "object"
theorem kb_bl (t : Ty) : kitB "bool" (tyN t) = some (isTy t (.bl true)) := by cases t <;> decide +kernel
theorem kb_int (t : Ty) : kitB "int" (tyN t) = some (isTy t (.int 0)) := by cases t <;> decide +kernel
theorem kb_str (t : Ty) : kitB "str" (tyN t) = some (isTy t (.str "")) := by cases t <;> decide +kernel
theorem kb_tup (t : Ty) : kitB "tuple" (tyN t) = some (isTy t (.tup [])) := by cases t <;> decide +kernel
theorem kb_lst (t : Ty) : kitB "list" (tyN t) = some (isTy t (.lst [])) := by cases t <;> decide +kernel
theorem kitB_ok : ∀ (t : Ty) (d : D), plain d = true → kitB (dN d) (tyN t) = some (isTy t d) := by
  intro t d p
  cases d with
  | non => cases t <;> decide +kernel
  | bl b => exact (kb_bl t).trans (congrArg some (by cases t <;> rfl))
  | int i => exact (kb_int t).trans (congrArg some (by cases t <;> rfl))
  | str x => exact (kb_str t).trans (congrArg some (by cases t <;> rfl))
  | tup xs => exact (kb_tup t).trans (congrArg some (by cases t <;> rfl))
  | lst xs => exact (kb_lst t).trans (congrArg some (by cases t <;> rfl))
  | _ => cases p
theorem tyX_of {K : PySem.W.Frag} {mg : Str → Option Value} {G : Hp} {g : Gh} {H : Hp} {σ : L2.St} {en : En} {v : V} {d : D} (R0 : REn K mg G g H σ en) (h : OpV K mg g H v d) (p : plain d = true) : TyX K H v (.type (dN d)) := by
  cases d with
  | non => rw [h.non]; exact .base .non
  | bl b => rw [h.bl]; exact .base (.bl b)
  | int i => rw [h.int]; exact .base (.int i)
  | str x => rw [h.str]; exact .base (.str x)
  | tup xs =>
    obtain ⟨a, vs, rfl, _, s, _⟩ := h.tup R0
    rcases s with (s | ⟨o, s⟩) | ⟨o, its, n, e, c, _⟩
    · exact .base (.tup s)
    · exact .fTuple s
    · exact .kTuple e c
  | lst xs =>
    obtain ⟨a, vs, rfl, s, _⟩ := h.lst R0
    exact .base (.lst s)
  | _ => cases p
theorem cTy_of {x : Str} {t : Ty} (h : cTy x = some t) : x ∈ bltNames ∧ bootBuiltins x = some (.type (tyN t)) := by
  unfold cTy at h
  split at h
  · rename_i hf; cases h; cases eq_of_beq hf; exact ⟨by decide +kernel, bb_int⟩
  split at h
  · rename_i hf; cases h; cases eq_of_beq hf; exact ⟨by decide +kernel, bb_bool⟩
  split at h
  · rename_i hf; cases h; cases eq_of_beq hf; exact ⟨by decide +kernel, bb_str⟩
  split at h
  · rename_i hf; cases h; cases eq_of_beq hf; exact ⟨by decide +kernel, bb_tuple⟩
  split at h
  · rename_i hf; cases h; cases eq_of_beq hf; exact ⟨by decide +kernel, bb_list⟩
  · cases h
theorem peIsi (O : Ok8 C k X cc) {a : Expr} {ia : IE} {y : Str} {t : Ty} {p p2 pos : Pos} (hg : cGlob cc "isinstance" = true) (hy : cGlob cc y = true) (ht : cTy y = some t) (hs : isStar a = false) (ha : PE X a (rdE X.K X.mg C ia)) :
    PE X (.Call (.Name "isinstance" p) [a, .Name y p2] [] pos) (rdE X.K X.mg C (.op (.isi [t]) [ia])) := by
  obtain ⟨g1, g2, g3⟩ := gl_of O hg
  obtain ⟨y1, y2, y3⟩ := gl_of O hy
  obtain ⟨t1, t2⟩ := cTy_of ht
  have hy' : PE X (.Name y p2) (tC (.ty (tyN t))) := pe_bltn y1 (O.blt y t1) t2 rfl y3 y2
  refine (pe_callB call_isi g1 (O.blt _ (by decide +kernel)) bb_isi (pa_cons ha (pa_cons hy' pa_nil rfl) (star_of hs)) g3 g2 (star_of hs) rfl).imp fun σ H Q ⟨G, g, en, Q0, R0, w, q⟩ => ?_
  refine ⟨G, g, en, _, R0, w, fun v g1 H1 r1 en1 R1 e1 rr w1 => ?_⟩
  obtain ⟨g2, R2, e2, op⟩ := rr.op R1
  generalize hd : view en1.ob r1.d = d at op
  obtain ⟨r, er, w1⟩ := the_some w1
  have er : guardO (plain (view en1.ob r1.d)) (Tk.fz (.bl ([t].any fun t => isTy t (view en1.ob r1.d)))) = some r := er
  rw [hd] at er
  obtain ⟨pl, er⟩ := guardO_some er
  cases er
  have z : ([t].any fun t => isTy t d) = isTy t d := by simp
  rw [z] at w1
  exact ⟨v, .ty (tyN t), _, _, isTy t d, rfl, .ty _, tyX_of R2 op pl, kit_ty (kitB_ok t d pl), q _ g2 H1 (.fz (.bl (isTy t d))) en1 R2 (e1.trans e2) rfl w1⟩
/-! ### an own def -/
def join (a b : Hp) : Hp := fun x => match a x with
  | some o => some o
  | none => b x
theorem join_none {a b : Hp} {x : Addr} (h1 : a x = none) (h2 : b x = none) : join a b x = none := by
  unfold join
  rw [h1]
  exact h2
theorem join_l {a b : Hp} {x : Addr} {o : HO} (h : a x = some o) : join a b x = some o := by
  unfold join
  rw [h]
theorem join_r {a b : Hp} {x : Addr} {o : HO} (h1 : a x = none) (h : b x = some o) : join a b x = some o := by
  unfold join
  rw [h1]
  exact h
theorem join_some {a b : Hp} {x : Addr} {o : HO} (h : join a b x = some o) : a x = some o ∨ a x = none ∧ b x = some o := by
  unfold join at h
  split at h
  · rename_i e
    cases h
    exact .inl e
  · rename_i e
    exact .inr ⟨e, h⟩
theorem join_no {a b : Hp} {x : Addr} (h : join a b x = none) : a x = none ∧ b x = none := by
  unfold join at h
  split at h
  · cases h
  · rename_i e
    exact ⟨e, h⟩
section
variable {K : PySem.W.Frag} {mg : Str → Option Value} {G : Hp} {g : Gh} {H H' : Hp} {σ : L2.St} {en : En} {F' : Hp} {am' : List Addr} {ob' : List Ob}
theorem REn.toCall (R : REn K mg G g H σ en) : REn K mg (join G g.O) ⟨g.F, noO, g.am⟩ H [] ⟨[], en.ob⟩ := by
  refine ⟨R.fh, fun b o e => (by cases e), fun b o e => ?_, fun b o e => (by cases e), fun b o e => ?_, rfl, fun i s e => (by simp at e), fun i j d d' v e => (by simp at e), ⟨R.ob.len, R.ob.nd, fun a ha => ?_, fun n a x e1 e2 => ?_⟩⟩
  · rcases join_some e with e | ⟨_, e⟩
    · exact R.gh b o e
    · exact R.oh b o e
  · rcases join_some e with e | ⟨_, e⟩
    · exact ⟨(R.fg b o e).1, rfl⟩
    · exact ⟨R.fo b o e, rfl⟩
  · obtain ⟨h1, h2, h3⟩ := R.ob.fr a ha
    exact ⟨h1, rfl, join_none h3 h2⟩
  · have z := R.ob.at_ n a x e1 e2
    cases x with
    | con d => exact z
    | ins c fs => exact z.elim
theorem REn.back (R : REn K mg G g H σ en) (R' : REn K mg (join G g.O) ⟨F', noO, am'⟩ H' [] ⟨[], ob'⟩) (sF : Same g.F F') (sa : g.am <+: am') : REn K mg G ⟨F', g.O, am'⟩ H' σ { en with ob := ob' } := by
  have go : ∀ b o, g.O b = some o → G b = none := fun b o e => by
    cases hG : G b with
    | none => rfl
    | some x =>
      have := (R.fg b x hG).2
      rw [e] at this
      cases this
  have jo : ∀ b o, g.O b = some o → join G g.O b = some o := fun b o e => join_r (go b o e) e
  refine ⟨R'.fh, fun b o e => R'.gh b o (jo b o e), fun b o e => R'.gh b o (join_l e), fun b o e => (R'.fg b o (jo b o e)).1, fun b o e => ⟨(R'.fg b o (join_l e)).1, (R.fg b o e).2⟩, R.len, fun i s e => ?_, R.inj, ⟨R'.ob.len, R'.ob.nd, fun a ha => ?_, fun n a x e1 e2 => ?_⟩⟩
  · exact SlOk.mono (g' := ⟨F', g.O, am'⟩) sF sa (fun _ _ _ _ _ q => q) (R.sl i s e)
  · obtain ⟨h1, _, h3⟩ := R'.ob.fr a ha
    obtain ⟨h4, h5⟩ := join_no h3
    exact ⟨h1, h5, h4⟩
  · have z := R'.ob.at_ n a x e1 e2
    cases x with
    | con d => exact z
    | ins c fs => exact z.elim
theorem RRes.back {v : V} {r : R} (h : RRes K mg (join G g.O) ⟨F', noO, am'⟩ H' [] ⟨[], ob'⟩ v r) : RRes K mg G ⟨F', g.O, am'⟩ H' σ { en with ob := ob' } v r := by
  cases r with
  | fz d => exact h
  | ow d =>
    obtain ⟨p, o, rfl, hp, c, h1, h2, h3, h4⟩ := h
    obtain ⟨h5, h6⟩ := join_no h3
    exact ⟨p, o, rfl, hp, c, h1, h6, h5, h4⟩
  | rf i d =>
    obtain ⟨e1, e2⟩ := h
    have e1 : ([] : List Sl)[i]? = _ := e1
    simp at e1
end
theorem run_fnG {n : Nat} {f : Str} {fa : Addr} {fd : FuncData} {ps : List Str} {pins : List (Addr × Obj)} {σ : L2.St} {H : Hp} {s : Shared} {Q : VK} {us : List Value} {vs : List V} {sp : Sp} (F : FnG X.prog X.w X.K X.mg X.base k fa fd ps sp) (hr : Room k X.A) (hgd : X.A.guards = some [])
    (hb : Binds X.K fd ps []) (I : Inv X pins σ H s) (r : Vals vs us) (h : sp vs H Q (fun _ _ _ => False)) : wpAny (model X.prog X.w) X.A (call (.ref fa) us) (EP X pins σ Q) X.xe s := by
  have hl : (us ++ []).length = ps.length := by rw [List.append_nil, ← r.length]; exact F.len _ _ _ _ h
  have hb := hb s us I.kIn hl
  rw [List.append_nil] at hb
  refine wpAny_call (codeAny_mono (F.run X.A X.stack s H ⟨us, []⟩ us vs Q _ hr hgd I.env0 hb r h) fun o s' hq => ?_)
  match o, hq with
  | .ok (.ret u), hq => exact I.after hq
  | .ok .next, hq => exact hq.elim
  | .ok .brk, hq => exact hq.elim
  | .ok .cont, hq => exact hq.elim
  | .error e, hq => exact hq.elim
theorem peOwn (O : Ok8 C k X cc) {f : Str} {e : Expr} {es : List Expr} {irs : List IE} {p pos : Pos} (hf : f ∈ cc.fs) (hg : cGlob cc f = true) (hs : ∀ x ∈ e :: es, isStar x = false) (ha : PA X (e :: es) (rdX X.K X.mg C irs)) :
    PE X (.Call (.Name f p) (e :: es) [] pos) (rdE X.K X.mg C (.call f irs)) := by
  obtain ⟨g1, g2, g3⟩ := gl_of O hg
  obtain ⟨fa, fd, ps, hm, hk, hb, hn, F⟩ := O.cal f hf
  refine ⟨fun pins s σ H Q I ⟨G, g, en, Q0, R0, w, q⟩ => ?_⟩
  have w : wX C irs en (fun ds en' => C.cal f ds en'.ob (fun r ob => Q0 r { en' with ob := ob }) (fun e ob => False)) XF := w
  have h : rdX X.K X.mg C irs σ H fun vs H1 => spF X.K X.mg C.cal f ps.length vs H1 Q (fun _ _ _ => False) := by
    refine ⟨G, g, en, _, R0, w, fun vs g1 H1 ds en1 R1 e1 hv w1 => ?_⟩
    refine ⟨join G g1.O, g1.F, g1.am, en1.ob, ds, _, hn _ _ _ _ w1, R1.toCall, hv, w1, fun v F' am' H' r ob' R' sF sa rr q0 => ?_⟩
    exact q v ⟨F', g1.O, am'⟩ H' r { en1 with ob := ob' } (R1.back R' sF sa) (e1.trans ⟨sF, sa, fun _ _ e => .inl e⟩) rr.back q0
  refine wpAny_Call_Name_kw (ld_glob I g1 hm ?_ g2)
  have st := star_of (es := es) (env := X.env) (hs e List.mem_cons_self)
  refine PySem.W.callWith_K (h₀ := X.base) I.ok.mod.kin hk (thn (ha.run pos pins s σ H _ I h) fun us s1 ⟨vs, H1, I1, r, q⟩ => ⟨I1.kIn, ?_⟩) st (back_ns fun x hx => hs x (List.mem_cons_of_mem _ hx))
  exact run_fnG (n := 0) (f := f) F O.room O.gd hb I1 r q
theorem peOwn0 (O : Ok8 C k X cc) {f : Str} {p pos : Pos} (hf : f ∈ cc.fs) (hg : cGlob cc f = true) : PE X (.Call (.Name f p) [] [] pos) (rdE X.K X.mg C (.call f [])) := by
  obtain ⟨g1, g2, g3⟩ := gl_of O hg
  obtain ⟨fa, fd, ps, hm, hk, hb, hn, F⟩ := O.cal f hf
  refine ⟨fun pins s σ H Q I ⟨G, g, en, Q0, R1, w, q⟩ => ?_⟩
  have w1 : C.cal f [] en.ob (fun r ob => Q0 r { en with ob := ob }) (fun e ob => False) := w
  refine wpAny_Call_Name_kw (ld_glob I g1 hm ?_ g2)
  refine PySem.W.callWith_K0 I.kIn hk (run_fnG (n := 0) (f := f) (us := []) (vs := []) F O.room O.gd hb I .nil ?_)
  refine ⟨join G g.O, g.F, g.am, en.ob, [], _, hn _ _ _ _ w1, R1.toCall, rfl, w1, fun v F' am' H' r ob' R' sF sa rr q0 => ?_⟩
  exact q v ⟨F', g.O, am'⟩ H' r { en with ob := ob' } (R1.back R' sF sa) ⟨sF, sa, fun _ _ e => .inl e⟩ rr.back q0
end
end Tk

/-! Tk, part 12a: enumerate over a tuple. -/
namespace Tk
open PySem PySem.Spec PyProof.Rows L2

theorem enum1_meets {v : Value} {o : Obj} {Hh : Heap → Prop} (B : Begins v o Hh) :
    Meets (Builtin.«enumerate.__new__» ⟨[.type "enumerate", v], []⟩) (fun _ R s => Hh s.heap ∧
      R (.ok (.ret (.ref (s.heap.push o).objs.size))) { s with heap := (s.heap.push o).push { cls := .type "enumerate", data := .fields #[.none, .bool false, .ref s.heap.objs.size, rawInt 0, .none, .none] } }) :=
  .of_wp fun prog w A R s0 hh => by
    rcases s0 with ⟨h0, gs, dr, tk0, os0⟩
    rcases hh with ⟨a1, a2⟩
    have sub0 := sub_enumerate
    have it0 : ∀ {A' : Around} {E : Value → Shared → Prop} {Q : Value → Shared → Prop}, Q (.ref h0.objs.size) ⟨h0.push o, gs, dr, tk0, os0⟩ → wpAny (model prog w) A' (pyIter v) Q E ⟨h0, gs, dr, tk0, os0⟩ :=
      fun z => B.iter prog w _ _ ⟨h0, gs, dr, tk0, os0⟩ _ a1 z
    wp_walk using it0
    apply wpAny_stack_any
    intro st0
    apply wpAny_pure
    split
    · rename_i c0 _ _ _ _ _
      cases (c0 == Value.type "enumerate") <;> (wp_walk using it0; exact ⟨_, rfl, a2⟩)
    · wp_walk using it0
      exact ⟨_, rfl, a2⟩
section
variable {prog : Program} {w : World} {A : Around} {E : Value → Shared → Prop} {s : Shared}
theorem enum1_call {v : Value} {o : Obj} {Hh : Heap → Prop} {Q : Value → Shared → Prop} (B : Begins v o Hh) (h1 : Hh s.heap)
    (h : ∀ h', IsEnum h' (s.heap.objs.size + 1) s.heap.objs.size 0 .none → h'.get? s.heap.objs.size = some o → (∀ b x, s.heap.get? b = some x → h'.get? b = some x) → Q (.ref (s.heap.objs.size + 1)) { s with heap := h' }) :
    wpAny (model prog w) A (call (.type "enumerate") [v]) Q E s := by
  refine callType_new F.called_enumerate (by decide) (F.typeCall_enumerate_1 _) (F.newCall_enumerate_1 _) (fun obj => F.args_object_init_2 obj _) F.entry_enumerate_new (enum1_meets B) ⟨h1, ?_⟩
  have z1 : (s.heap.push o).objs.size = s.heap.objs.size + 1 := Heap.size_push ..
  have z2 := Heap.get?_push_size (s.heap.push o) (o := { cls := .type "enumerate", data := .fields #[.none, .bool false, .ref s.heap.objs.size, rawInt 0, .none, .none] }) rfl
  rw [z1] at z2
  show _ ∧ _
  rw [z1]
  exact ⟨⟨_, z2, rfl⟩, h _ z2 (Heap.get?_push_of_some _ (Heap.get?_push_size _ B.free)) fun b x q => Heap.get?_push_of_some _ (Heap.get?_push_of_some _ q)⟩
end
/-- what such an iterator serves -/
def IteT (K : PySem.W.Frag) (a : Addr) : It :=
  ⟨fun i H => ∃ (xs : List V) (x : V), SqT K H a xs ∧ xs[i]? = some x, fun i H v H' => ∃ T x, v = .ref T ∧ H T = none ∧ H' = upd H T (.tup [.int (i : Nat), x]) ∧ ∀ xs, SqT K H a xs → xs[i]? = some x, fun i H => ∃ xs : List V, SqT K H a xs ∧ i = xs.length⟩
theorem enumT_turn {P : Program} {w : World} {K : PySem.W.Frag} {elts : List Expr} {kk : Nat} {tpos : Pos} (a e it : Addr) :
    Turn P w K (.Tuple elts kk tpos) (IteT K a) [e, it] e (fun i h => (∃ old, IsEnum h e it ((i : Nat) : Int) old) ∧ h.IsTupleIter it a i ∧ e ≠ it) where
  mem := List.mem_cons_self
  obj := by
    rintro i h ⟨⟨old, he⟩, ⟨o, ho, _, hd⟩, _⟩ b hb
    rcases List.mem_cons.mp hb with rfl | hb
    · exact ⟨_, he, fun v z => nomatch z⟩
    · rw [List.mem_singleton.mp hb]
      exact ⟨o, ho, fun v z => by rw [hd] at z; cases z⟩
  keep := by
    rintro i h h' ⟨⟨old, he⟩, hi, hne⟩ k
    exact ⟨⟨old, k e List.mem_cons_self _ he⟩, hi.at fun o q => k it (by simp) o q, hne⟩
  item := by
    intro X hP hw hK hc i pins s σ H E I hf st hg
    cases hP
    cases hw
    cases hK
    obtain ⟨⟨old, he⟩, hit, hne⟩ := st
    obtain ⟨xs, x, sq, hx⟩ := hg
    obtain ⟨its, rv, pt, hz⟩ := I.tuple sq
    have pt : s.heap.IsTuple a its.toArray := pt
    obtain ⟨u, hu, ru⟩ := rv.get hx
    have hl : i < its.toArray.size := by
      have z := (List.getElem?_eq_some_iff.mp hu).1
      simpa using z
    have nai : a ≠ it := fun z => by
      subst z
      obtain ⟨o1, g1, c1, _⟩ := pt
      obtain ⟨o2, g2, c2, _⟩ := hit
      rw [g1] at g2
      cases g2
      rw [c1] at c2
      injection c2 with c2
      exact absurd c2 (by decide)
    have nae : e ≠ a := fun z => by
      subst z
      obtain ⟨o1, g1, c1, _⟩ := pt
      rw [show s.heap.get? e = _ from he] at g1
      cases g1
      injection c1 with c1
      exact absurd c1 (by decide)
    have hel : e < s.heap.objs.size := Heap.lt_size he
    have hil : it < s.heap.objs.size := by obtain ⟨_, q, _⟩ := hit; exact Heap.lt_size q
    have hd : X.A.in1.handled = none := I.ok.hd hc
    refine wpAny_pyNext_enum_itemC (Draws.tuple hd it a nai its.toArray) he ⟨hit, pt⟩ hl hne (by simp [hne, nae]) fun y h1 tk hy ho st1 hT hsz hk => ?_
    have ey : y = u := by
      rw [List.getElem?_toArray, hu] at hy
      exact (Option.some.inj hy).symm
    subst ey
    refine ⟨_, rfl, ?_⟩
    refine wpAny_letOwnedTupleGo_enum (s := { s with heap := h1, toks := tk + 1 }) ho fun h2 he2 sb => ?_
    have hT2 : h2.get? s.heap.objs.size = some { cls := .type "tuple", data := .seq #[.int i tk, y] } := (sb.2 _ (Nat.ne_of_gt hel)).trans hT
    have ok : ObjOk X.prog X.w (upd H s.heap.objs.size (.tup [.int (i : Nat), x])) h2 s.heap.objs.size (.tup [.int (i : Nat), x]) := ⟨(by show 2 ≤ sizeLine; decide), [.int i tk, y], Paired.cons ⟨_, rfl⟩ (Paired.cons ru Paired.nil), ⟨_, hT2, rfl, _, rfl⟩⟩
    have I2 : Inv X pins σ (upd H s.heap.objs.size (.tup [.int (i : Nat), x])) { s with heap := h2, toks := tk + 1 } := I.turnedNew (ch := [e, it]) (fun b ob hb q => by
      have n1 : b ≠ e := fun z => hb (by simp [z])
      have n2 : b ≠ it := fun z => hb (by simp [z])
      exact (sb.2 b n1).trans (hk b ob n1 n2 q)) hf (Nat.le_refl _) ok
    refine ⟨.ref s.heap.objs.size, _, I2, rfl, ⟨_, x, rfl, I.hok.fresh (Nat.le_refl _), rfl, fun ys hy2 => ?_⟩, ⟨⟨y, ?_⟩, st1.1.at fun o q => (sb.2 it (Ne.symm hne)).trans q, hne⟩, fun b hb => ?_⟩
    · obtain ⟨its2, rv2, pt2, _⟩ := I.tuple hy2
      rw [I.tuple_inj hy2 sq]
      exact hx
    · have q : ((i + 1 : Nat) : Int) = (i : Int) + 1 := by omega
      rw [q]
      exact he2
    · have lt : b < s.heap.objs.size := by
        rcases List.mem_cons.mp hb with rfl | hb
        · exact hel
        · rw [List.mem_singleton.mp hb]; exact hil
      rw [upd_ne (Nat.ne_of_lt lt)]
      exact (hf b hb).1
  done := by
    intro X hP hw hK hc i pins s σ H E I hf st hg
    cases hP
    cases hw
    cases hK
    obtain ⟨⟨old, he⟩, hit, hne⟩ := st
    obtain ⟨xs, sq, hx⟩ := hg
    obtain ⟨its, rv, pt, hz⟩ := I.tuple sq
    have pt : s.heap.IsTuple a its.toArray := pt
    have nai : a ≠ it := fun z => by
      subst z
      obtain ⟨o1, g1, c1, _⟩ := pt
      obtain ⟨o2, g2, c2, _⟩ := hit
      rw [g1] at g2
      cases g2
      rw [c1] at c2
      injection c2 with c2
      exact absurd c2 (by decide)
    have hd : X.A.in1.handled = none := I.ok.hd hc
    have hl : i = its.toArray.size := by
      rw [List.size_toArray, ← rv.length]
      exact hx
    subst hl
    obtain ⟨f0, f1, f2, f3, f4, f5⟩ := hf it (by simp)
    exact wpAny_pyNext_enum_endD (Draws.tuple hd it a nai its.toArray) he ⟨hit, pt⟩ fun h' eb => ⟨rfl, I.turned (t' := s.toks) (fun b o hb q => eb b o hb q) f0 f1 f3 f4 f5⟩
  self := fun A i s Q E st h => let ⟨⟨_, he⟩, _⟩ := st; wpAny_pyIter_enum he h
theorem enumL_iter {X : Cx} {pins : List (Addr × Obj)} {σ : L2.St} {H : Hp} {s : Shared} {R : It → Hp → Prop} {E : Value → Shared → Prop} {elts : List Expr} {kk : Nat} {tpos : Pos} {a : Addr} {xs : List V} (I : Inv X pins σ H s) (sq : SqL X.K H a xs) (hR : R (Ite X.K a) H) :
    wpAny (model X.prog X.w) X.A (call (.type "enumerate") [.ref a]) (fun v s1 => wpAny (model X.prog X.w) X.A (pyIter v) (PIE X pins σ (.Tuple elts kk tpos) R) E s1) E s := by
  obtain ⟨its, rv, pt, _⟩ := I.list sq
  refine enum1_call (begins_list a its.toArray) pt.isList fun h' he hi hk => ?_
  refine wpAny_pyIter_enum he ?_
  have I2 : Inv X pins σ H { s with heap := h' } := I.kept (t' := s.toks) hk
  refine ⟨_, [s.heap.objs.size + 1, s.heap.objs.size], _, _, H, rfl, I2, turn_enum a (s.heap.objs.size + 1) s.heap.objs.size, ⟨⟨_, he⟩, ⟨_, hi, rfl, rfl⟩, Nat.succ_ne_self _⟩, fun b hb => ?_, hR⟩
  have hle : s.heap.objs.size ≤ b := by
    rcases List.mem_cons.mp hb with rfl | hb
    · exact Nat.le_succ _
    · rw [List.mem_singleton.mp hb]
      exact Nat.le_refl _
  exact I.fpOk hle (I.hok.fresh hle)
theorem enumT_iter {X : Cx} {pins : List (Addr × Obj)} {σ : L2.St} {H : Hp} {s : Shared} {R : It → Hp → Prop} {E : Value → Shared → Prop} {elts : List Expr} {kk : Nat} {tpos : Pos} {a : Addr} {xs : List V} (I : Inv X pins σ H s) (sq : SqT X.K H a xs) (hR : R (IteT X.K a) H) :
    wpAny (model X.prog X.w) X.A (call (.type "enumerate") [.ref a]) (fun v s1 => wpAny (model X.prog X.w) X.A (pyIter v) (PIE X pins σ (.Tuple elts kk tpos) R) E s1) E s := by
  obtain ⟨its, rv, pt, _⟩ := I.tuple sq
  refine enum1_call (begins_tuple a its.toArray) pt fun h' he hi hk => ?_
  refine wpAny_pyIter_enum he ?_
  have I2 : Inv X pins σ H { s with heap := h' } := I.kept (t' := s.toks) hk
  refine ⟨_, [s.heap.objs.size + 1, s.heap.objs.size], _, _, H, rfl, I2, enumT_turn a (s.heap.objs.size + 1) s.heap.objs.size, ⟨⟨_, he⟩, ⟨_, hi, rfl, rfl⟩, Nat.succ_ne_self _⟩, fun b hb => ?_, hR⟩
  have hle : s.heap.objs.size ≤ b := by
    rcases List.mem_cons.mp hb with rfl | hb
    · exact Nat.le_succ _
    · rw [List.mem_singleton.mp hb]
      exact Nat.le_refl _
  have q := I.fpOk hle (I.hok.fresh hle)
  exact q
end Tk

/-! Tk, part 12: what a for walks. -/
namespace Tk
open PySem PySem.Spec PyProof.Rows L2

/-- the iterator J serves the items xs, as long as what g0 holds for good stands -/
structure Wk (K : PySem.W.Frag) (mg : Str → Option Value) (g0 : Gh) (J : It) (xs : List D) : Prop where
  go : ∀ i H, Same g0.F H → i < xs.length → J.go i H
  stop : ∀ i H, Same g0.F H → i = xs.length → J.stop i H
  yld : ∀ i d G g H σ en x H', xs[i]? = some d → REn K mg G g H σ en → Same g0.F g.F → g0.am <+: g.am → J.yld i H x H' → ∃ g', REn K mg G g' H' σ en ∧ Ext g g' ∧ Rep K mg g'.am g'.F d x
section
variable {K : PySem.W.Frag} {mg : Str → Option Value} {g g0 : Gh} {xs : List D} {vs : List V} {a : Addr}
theorem reps_at {am : List Addr} {F : Hp} : ∀ {ds : List D} {vs : List V} {i : Nat} {d : D}, Reps K mg am F ds vs → ds[i]? = some d → ∃ v, vs[i]? = some v ∧ Rep K mg am F d v
  | [], _, _, _, _, e => by simp at e
  | d :: ds, vs, 0, d', h, e => by
    obtain ⟨v, r, rfl, h1, h2⟩ := h
    cases e
    exact ⟨v, rfl, h1⟩
  | d :: ds, vs, i + 1, d', h, e => by
    obtain ⟨v, r, rfl, h1, h2⟩ := h
    exact reps_at (i := i) h2 e
theorem reps_lt {am : List Addr} {F : Hp} {ds : List D} {vs : List V} {i : Nat} (h : Reps K mg am F ds vs) (hi : i < ds.length) : ∃ v, vs[i]? = some v := by
  obtain ⟨v, e, _⟩ := reps_at h (List.getElem?_eq_getElem hi)
  exact ⟨v, e⟩
theorem wk_list (s : SqL K g0.F a vs) (r : Reps K mg g0.am g0.F xs vs) : Wk K mg g0 (Itl K a) xs := by
  refine ⟨fun i H sm hi => ?_, fun i H sm hi => ⟨vs, sm.seq s, by rw [r.length, hi]; exact Nat.le_refl _⟩, fun i d G g H σ en x H' e R sF sa y => ?_⟩
  · obtain ⟨v, hv⟩ := reps_lt r hi
    exact ⟨vs, v, sm.seq s, hv⟩
  · obtain ⟨v, ev, rv⟩ := reps_at r e
    obtain ⟨rfl, y⟩ := y
    have z := y vs ((sF.trans R.fh).seq s)
    rw [ev] at z
    cases z
    exact ⟨g, R, .refl g, Rep.mono sF sa d _ rv⟩
theorem wk_tup (s : SqT K g0.F a vs) (r : Reps K mg g0.am g0.F xs vs) : Wk K mg g0 (Itt K a) xs := by
  refine ⟨fun i H sm hi => ?_, fun i H sm hi => ⟨vs, Same.seqT sm s, by rw [r.length, hi]; exact Nat.le_refl _⟩, fun i d G g H σ en x H' e R sF sa y => ?_⟩
  · obtain ⟨v, hv⟩ := reps_lt r hi
    exact ⟨vs, v, Same.seqT sm s, hv⟩
  · obtain ⟨v, ev, rv⟩ := reps_at r e
    obtain ⟨rfl, y⟩ := y
    have z := y vs (Same.seqT (sF.trans R.fh) s)
    rw [ev] at z
    cases z
    exact ⟨g, R, .refl g, Rep.mono sF sa d _ rv⟩
theorem wk_rng {lo : Int} {n : Nat} (h : xs = (List.range n).map fun k : Nat => D.int (lo + k)) : Wk K mg g0 (Itr lo n) xs := by
  have hl : xs.length = n := by rw [h, List.length_map, List.length_range]
  refine ⟨fun i H sm hi => by rw [hl] at hi; exact hi, fun i H sm hi => by rw [hl] at hi; rw [hi]; exact Nat.le_refl _, fun i d G g H σ en x H' e R sF sa y => ?_⟩
  obtain ⟨rfl, rfl⟩ := y
  have hi : i < n := by rw [← hl]; exact (List.getElem?_eq_some_iff.mp e).1
  rw [h, List.getElem?_map, List.getElem?_range hi] at e
  cases e
  exact ⟨g, R, .refl g, rfl⟩
theorem wk_enum {ys : List D} (s : SqL K g0.F a vs) (r : Reps K mg g0.am g0.F ys vs) (h : xs = ys.zipIdx.map fun p => D.tup [.int p.2, p.1]) : Wk K mg g0 (Ite K a) xs := by
  have hl : xs.length = ys.length := by rw [h, List.length_map, List.length_zipIdx]
  refine ⟨fun i H sm hi => ?_, fun i H sm hi => ⟨vs, sm.seq s, by rw [r.length, ← hl, hi]; exact Nat.le_refl _⟩, fun i d G g H σ en x H' e R sF sa y => ?_⟩
  · obtain ⟨v, hv⟩ := reps_lt r (by rw [← hl]; exact hi)
    exact ⟨vs, v, sm.seq s, hv⟩
  · obtain ⟨T, x', rfl, hT, rfl, y⟩ := y
    rw [h, List.getElem?_map, List.getElem?_zipIdx] at e
    cases ey : ys[i]? with
    | none => rw [ey] at e; cases e
    | some d' =>
      rw [ey] at e
      cases e
      obtain ⟨v, ev, rv⟩ := reps_at r ey
      have z := y vs ((sF.trans R.fh).seq s)
      rw [ev] at z
      cases z
      obtain ⟨g', R', e', r'⟩ := R.newT (ds := [.int ((0 + i : Nat) : Int), d']) (vs := [.int (i : Nat), x']) hT ⟨_, _, rfl, by rw [Nat.zero_add]; rfl, _, _, rfl, Rep.mono sF sa d' x' rv, rfl⟩
      exact ⟨g', R', e', r'⟩
theorem wk_enumT {ys : List D} (s : SqT K g0.F a vs) (r : Reps K mg g0.am g0.F ys vs) (h : xs = ys.zipIdx.map fun p => D.tup [.int p.2, p.1]) : Wk K mg g0 (IteT K a) xs := by
  have hl : xs.length = ys.length := by rw [h, List.length_map, List.length_zipIdx]
  refine ⟨fun i H sm hi => ?_, fun i H sm hi => ⟨vs, Same.seqT sm s, by rw [r.length, ← hl, hi]⟩, fun i d G g H σ en x H' e R sF sa y => ?_⟩
  · obtain ⟨v, hv⟩ := reps_lt r (by rw [← hl]; exact hi)
    exact ⟨vs, v, Same.seqT sm s, hv⟩
  · obtain ⟨T, x', rfl, hT, rfl, y⟩ := y
    rw [h, List.getElem?_map, List.getElem?_zipIdx] at e
    cases ey : ys[i]? with
    | none => rw [ey] at e; cases e
    | some d' =>
      rw [ey] at e
      cases e
      obtain ⟨v, ev, rv⟩ := reps_at r ey
      have z := y vs (Same.seqT (sF.trans R.fh) s)
      rw [ev] at z
      cases z
      obtain ⟨g', R', e', r'⟩ := R.newT (ds := [.int ((0 + i : Nat) : Int), d']) (vs := [.int (i : Nat), x']) hT ⟨_, _, rfl, by rw [Nat.zero_add]; rfl, _, _, rfl, Rep.mono sF sa d' x' rv, rfl⟩
      exact ⟨g', R', e', r'⟩
end

/-! ### the keys of a dict -/
def Itq (d : Addr) (o : Obj) (xs : List DEnt) : It :=
  ⟨fun i H => H d = some (AtO d o) ∧ i < xs.length, fun i H x H' => H' = H ∧ ∃ y, xs[i]? = some y ∧ x = .ref y.2.1, fun i H => H d = some (AtO d o) ∧ xs.length ≤ i⟩
theorem at_es {es : Array DictEntry} {xs : List DEnt} {P : Program} {w : World} (he : es.toList = xs.map (entryOfKey (nestedKind P w))) : es.size = xs.length ∧ ∀ (i : Nat) (y : DEnt), xs[i]? = some y → ∃ e : DictEntry, es[i]? = some e ∧ e.key = Value.ref y.2.1 := by
  refine ⟨by rw [← Array.length_toList, he, List.length_map], fun i y e => ⟨entryOfKey (nestedKind P w) y, ?_, rfl⟩⟩
  rw [← Array.getElem?_toList, he, List.getElem?_map, e]
  rfl
theorem turn_q {P : Program} {w : World} {K : PySem.W.Frag} {tg : Expr} {d : Addr} {o : Obj} {es : Array DictEntry} {ep : Nat} {xs : List DEnt} (it : Addr) (hod : o.data = .dict es ep) (he : ∀ (P : Program) (w : World), es.toList = xs.map (entryOfKey (nestedKind P w))) :
    Turn P w K tg (Itq d o xs) [it] it (fun i h => h.IsKeyIter it d i xs.length ep) where
  mem := by simp
  obj := fun i h st b hb => by
    have e : b = it := by simpa using hb
    subst e
    obtain ⟨oi, e, c, dd⟩ := st
    exact ⟨oi, e, fun v z => by rw [dd] at z; cases z⟩
  keep := fun i h h' st k => st.at fun oi e => k it (by simp) oi e
  item := by
    intro X hP hw hK hc i pins s σ H E I hf st hg
    subst hP hw hK
    obtain ⟨hd, hi⟩ := hg
    obtain ⟨f0, f1, f2, f3, f4, f5⟩ := hf it (by simp)
    have hgd : s.heap.get? d = some o := (show ObjOk X.prog X.w H s.heap d (AtO d o) from I.hok d _ hd).1
    obtain ⟨hsz, ent⟩ := at_es (he X.prog X.w)
    obtain ⟨y, hy⟩ : ∃ p, xs[i]? = some p := ⟨xs[i], List.getElem?_eq_getElem hi⟩
    obtain ⟨en, hen, hkey⟩ := ent i y hy
    refine next_key_item st hgd hod hsz hen fun h' st' sb => ?_
    have I1 : Inv X pins σ H { s with heap := h' } := I.turned (t' := s.toks) (fun b ob hb e => (sb.2 b hb).trans e) f0 f1 f3 f4 f5
    obtain ⟨oi, e, c, dd⟩ := id st'
    exact ⟨en.key, rfl, go_of (s := { s with heap := h' }) e c dd (by decide) ⟨.ref y.2.1, H, I1, hkey, ⟨rfl, y, hy, rfl⟩, st', fun b hb => (hf b hb).1⟩⟩
  done := by
    intro X hP hw hK hc i pins s σ H E I hf st hg
    subst hP hw hK
    obtain ⟨hd, hi⟩ := hg
    obtain ⟨f0, f1, f2, f3, f4, f5⟩ := hf it (by simp)
    have hgd : s.heap.get? d = some o := (show ObjOk X.prog X.w H s.heap d (AtO d o) from I.hok d _ hd).1
    obtain ⟨hsz, ent⟩ := at_es (he X.prog X.w)
    exact next_key_end (I.ok.hd hc) st hgd hod hsz hi fun h' eb => ⟨rfl, I.turned (t' := s.toks) (fun b ob hb e => eb b ob hb e) f0 f1 f3 f4 f5⟩
  self := fun A i s Q E st h => by
    refine wpAny_pyIter_slot st.typeIs PySem.F.slot_dict_keyiterator_iter (wpAny_call_entry PySem.F.slot_dict_keyiterator_iter st.typeIs PySem.F.entry_dict_keyiterator_iter ?_ (PySem.F.args_dict_keyiterator_iter_1 _))
    show wpAny _ _ (ret (.ref it)) _ _ s
    exact wpAny_pure ⟨_, rfl, "dict_keyiterator", _, st.typeIs, PySem.F.slot_dict_keyiterator_next.lookup, h⟩
theorem repKs_reps {K : PySem.W.Frag} {mg : Str → Option Value} {am : List Addr} {F : Hp} : ∀ {kvs : List (D × D)} {xs : List DEnt}, RepKs K mg am F kvs xs → Reps K mg am F (kvs.map (·.1)) (xs.map fun x => V.ref x.2.1) ∧ xs.length = kvs.length
  | [], xs, h => by
    cases (show xs = [] from h)
    exact ⟨rfl, rfl⟩
  | (k, d) :: kvs, xs, h => by
    obtain ⟨x, r, rfl, ⟨_, _, h2, _⟩, hr⟩ := h
    obtain ⟨a, b⟩ := repKs_reps hr
    exact ⟨⟨_, _, rfl, h2, a⟩, by rw [List.length_cons, List.length_cons, b]⟩
theorem wk_dic {K : PySem.W.Frag} {mg : Str → Option Value} {g0 : Gh} {p : Addr} {o : Obj} {xs : List DEnt} {kvs : List (D × D)} (s : g0.F p = some (AtO p o)) (r : RepKs K mg g0.am g0.F kvs xs) : Wk K mg g0 (Itq p o xs) (kvs.map (·.1)) := by
  have hl : (kvs.map (·.1)).length = xs.length := by rw [List.length_map, (repKs_reps r).2]
  refine ⟨fun i H sm hi => ⟨sm _ _ s, by rw [← hl]; exact hi⟩, fun i H sm hi => ⟨sm _ _ s, by rw [← hl, hi]; exact Nat.le_refl _⟩, fun i d G g H σ en x H' e R sF sa y => ?_⟩
  obtain ⟨rfl, y, hy, rfl⟩ := y
  obtain ⟨v, ev, rv⟩ := reps_at (repKs_reps r).1 e
  rw [List.getElem?_map, hy] at ev
  cases ev
  exact ⟨g, R, .refl g, Rep.mono sF sa d _ rv⟩

section
variable {C : Cfg} {k : Nat} {X : Cx} {cc : CC}
/-- a source's reading -/
def rdI (K : PySem.W.Frag) (mg : Str → Option Value) (C : Cfg) (s : Src) (irs : List IE) : TI := fun σ H R => ∃ (G : Hp) (g : Gh) (en : En) (Q0 : List D → En → Prop), REn K mg G g H σ en ∧ wX C irs en (fun ds en' => the (walk s ds) fun xs => Q0 xs en') XF ∧
  ∀ (J : It) (g' : Gh) (H' : Hp) (xs : List D) (en' : En), REn K mg G g' H' σ en' → Ext g g' → Wk K mg g' J xs → Q0 xs en' → R J H'
theorem piIt {tg e : Expr} {ir : IE} (he : PE X e (rdE X.K X.mg C ir)) : PI X tg e (rdI X.K X.mg C .it [ir]) := by
  refine ⟨fun pins s σ H R I ⟨G, g, en, Q0, R0, w, q⟩ => ?_⟩
  have w : wE C ir en (fun r en' => the (walk .it [r.d]) fun xs => Q0 xs (en'.frz r)) XF := w
  refine thn (he.run pins s σ H (fun v H' => ∃ a, v = .ref a ∧ ((∃ vs, SqL X.K H' a vs) ∧ R (Itl X.K a) H' ∨ (∃ vs, SqT X.K H' a vs) ∧ R (Itt X.K a) H' ∨ ∃ o xs, H' a = some (AtO a o) ∧ DicB a o xs ∧ R (Itq a o xs) H')) I ⟨G, g, en, _, R0, w, fun v g1 H1 r en1 R1 e1 rr w1 => ?_⟩) fun u s1 ⟨x, H1, I1, rx, a, ex, hq⟩ => ?_
  · obtain ⟨g2, R2, e2, held⟩ := rr.esc R1
    obtain ⟨xs, ew, w1⟩ := the_some w1
    generalize hd : r.d = d at held ew
    have ew : (walk .it [d]) = some xs := ew
    cases d with
    | tup ys =>
      cases ew
      obtain ⟨a, vs, rfl, sq, rs⟩ := held
      exact ⟨a, rfl, .inr (.inl ⟨⟨vs, Same.seqT R2.fh sq⟩, q _ g2 H1 _ _ R2 (e1.trans e2) (wk_tup sq rs) w1⟩)⟩
    | lst ys =>
      cases ew
      obtain ⟨a, vs, rfl, sq, rs⟩ := held
      exact ⟨a, rfl, .inl ⟨⟨vs, SqL.of (R2.fh _ _ sq)⟩, q _ g2 H1 _ _ R2 (e1.trans e2) (wk_list (SqL.of sq) rs) w1⟩⟩
    | dic kvs =>
      cases ew
      obtain ⟨a, o, xs, rfl, sq, B, rs⟩ := held
      exact ⟨a, rfl, .inr (.inr ⟨o, xs, R2.fh _ _ sq, B, q _ g2 H1 _ _ R2 (e1.trans e2) (wk_dic sq rs) w1⟩)⟩
    | _ => cases ew
  · subst ex
    cases rx
    have hn : H1 s1.heap.objs.size = none := I1.hok.fresh (Nat.le_refl _)
    have fp : ∀ b ∈ [s1.heap.objs.size], FpOk X pins H1 b := fun b hb => by
      rw [List.mem_singleton.mp hb]
      exact I1.fpOk (Nat.le_refl _) hn
    rcases hq with ⟨⟨vs, sq⟩, hR⟩ | ⟨⟨vs, sq⟩, hR⟩ | ⟨o, xs, ho, B, hR⟩
    · obtain ⟨its, _, pl, _⟩ := I1.list sq
      exact wpAny_pyIter_list pl.isList ⟨_, [s1.heap.objs.size], _, _, H1, rfl, I1.kept (t' := s1.toks) fun _ _ z => Heap.get?_push_of_some _ z, turn_list a _, ⟨_, Heap.get?_push_size _ rfl, rfl, rfl⟩, fp, hR⟩
    · obtain ⟨its, _, pl, _⟩ := I1.tuple sq
      exact wpAny_pyIter_tuple (show s1.heap.IsTuple a its.toArray from pl) ⟨_, [s1.heap.objs.size], _, _, H1, rfl, I1.kept (t' := s1.toks) fun _ _ z => Heap.get?_push_of_some _ z, turn_tuple a _, ⟨_, Heap.get?_push_size _ rfl, rfl, rfl⟩, fp, hR⟩
    · have hgd : s1.heap.get? a = some o := (show ObjOk X.prog X.w H1 s1.heap a (AtO a o) from I1.hok a _ ho).1
      obtain ⟨es, ep, hdt, he⟩ := B.es
      refine iter_keys B.ns hgd B.ex hdt (pi_one (tk := s1.toks) I1 _ (turn_q _ hdt he) ⟨_, Heap.get?_push_size _ rfl, rfl, ?_⟩ hR)
      rw [(at_es (he X.prog X.w)).1]
      rfl
theorem _root_.L2.PI.imp {tg e : Expr} {t t' : TI} (h : PI X tg e t) (i : ∀ σ H R, t' σ H R → t σ H R) : PI X tg e t' := ⟨fun pins s σ H R I q => h.run pins s σ H R I (i σ H R q)⟩
theorem smallI_of {i : Int} (h : smallI i = true) : -(2 ^ 62) ≤ i ∧ i < 2 ^ 62 := by
  unfold smallI at h
  simp only [Bool.and_eq_true, decide_eq_true_eq] at h
  exact h
theorem walk_range {ds xs : List D} (e : walk .range ds = some xs) : ∃ j, ds = [.int j] ∧ smallI j = true ∧ xs = (List.range j.toNat).map fun k : Nat => D.int k := by
  rcases ds with _ | ⟨d, _ | ⟨d2, l⟩⟩
  · cases e
  · cases d with
    | int j =>
      obtain ⟨sm, ew⟩ := guardO_some (show guardO (smallI j) (some ((List.range j.toNat).map fun k : Nat => D.int k)) = some xs from e)
      exact ⟨j, rfl, sm, (Option.some.inj ew).symm⟩
    | _ => cases e
  · cases d <;> cases e
theorem walk_range2 {ds xs : List D} (e : walk .range2 ds = some xs) : ∃ i j, ds = [.int i, .int j] ∧ smallI i = true ∧ smallI j = true ∧ xs = (List.range (j - i).toNat).map fun k : Nat => D.int (i + k) := by
  rcases ds with _ | ⟨d, _ | ⟨d2, _ | ⟨d3, l⟩⟩⟩
  · cases e
  · cases d <;> cases e
  · cases d with
    | int i =>
      cases d2 with
      | int j =>
        obtain ⟨sm, ew⟩ := guardO_some (show guardO (smallI i && smallI j) (some ((List.range (j - i).toNat).map fun k : Nat => D.int (i + k))) = some xs from e)
        rw [Bool.and_eq_true] at sm
        exact ⟨i, j, rfl, sm.1, sm.2, (Option.some.inj ew).symm⟩
      | _ => cases e
    | _ => cases e
  · cases d <;> first | cases e | (cases d2 <;> cases e)
theorem walk_enum {ds xs : List D} (e : walk .enum ds = some xs) : ∃ ys, (ds = [.lst ys] ∨ ds = [.tup ys]) ∧ xs = ys.zipIdx.map fun p => D.tup [.int p.2, p.1] := by
  rcases ds with _ | ⟨d, _ | ⟨d2, l⟩⟩
  · cases e
  · cases d with
    | lst ys => exact ⟨ys, .inl rfl, (Option.some.inj e).symm⟩
    | tup ys => exact ⟨ys, .inr rfl, (Option.some.inj e).symm⟩
    | _ => cases e
  · cases d <;> cases e
theorem piRng1 (O : Ok8 C k X cc) {tg a : Expr} {ia : IE} {p pos : Pos} (hg : cGlob cc "range" = true) (hs : isStar a = false) (ha : PA X [a] (rdX X.K X.mg C [ia])) : PI X tg (.Call (.Name "range" p) [a] [] pos) (rdI X.K X.mg C .range [ia]) := by
  refine (pi_range1 (gl_of O hg).1 (O.blt _ (by decide +kernel)) ha (star_of hs)).imp fun σ H R ⟨G, g, en, Q0, R0, w, q⟩ => ?_
  refine ⟨G, g, en, _, R0, w, fun vs g1 H1 ds en1 R1 e1 hv w1 => ?_⟩
  obtain ⟨xs, ew, w2⟩ := the_some w1
  obtain ⟨j, rfl, sm, ex⟩ := walk_range ew
  obtain ⟨v, l, rfl, rfl, rfl⟩ := hv
  obtain ⟨h1, h2⟩ := smallI_of sm
  refine ⟨j, rfl, h1, h2, q _ g1 H1 xs en1 R1 e1 (wk_rng ?_) w2⟩
  rw [ex]
  exact List.map_congr_left fun k _ => by rw [Int.zero_add]
theorem piRng2 (O : Ok8 C k X cc) {tg a b : Expr} {ia ib : IE} {p pos : Pos} (hg : cGlob cc "range" = true) (hs : isStar a = false) (hs2 : isStar b = false) (ha : PA X [a, b] (rdX X.K X.mg C [ia, ib])) : PI X tg (.Call (.Name "range" p) [a, b] [] pos) (rdI X.K X.mg C .range2 [ia, ib]) := by
  have st2 : starEach [b] X.env = [(false, eval b X.env)] := star_of hs2
  refine (pi_range2 (gl_of O hg).1 (O.blt _ (by decide +kernel)) ha ((star_of hs).trans (by rw [st2])) st2).imp fun σ H R ⟨G, g, en, Q0, R0, w, q⟩ => ?_
  refine ⟨G, g, en, _, R0, w, fun vs g1 H1 ds en1 R1 e1 hv w1 => ?_⟩
  obtain ⟨xs, ew, w2⟩ := the_some w1
  obtain ⟨i, j, rfl, s1, s2, ex⟩ := walk_range2 ew
  obtain ⟨v, l, rfl, rfl, v2, l2, rfl, rfl, rfl⟩ := hv
  obtain ⟨h1, h2⟩ := smallI_of s1
  obtain ⟨h3, h4⟩ := smallI_of s2
  exact ⟨i, j, rfl, ⟨h1, h2, h3, h4⟩, q _ g1 H1 xs en1 R1 e1 (wk_rng ex) w2⟩
theorem bb_enum : bootBuiltins "enumerate" = some (.type "enumerate") := by decide +kernel
theorem piEnum (O : Ok8 C k X cc) {a : Expr} {elts : List Expr} {kk : Nat} {ia : IE} {p pos tp : Pos} (hg : cGlob cc "enumerate" = true) (hs : isStar a = false) (ha : PA X [a] (rdX X.K X.mg C [ia])) : PI X (.Tuple elts kk tp) (.Call (.Name "enumerate" p) [a] [] pos) (rdI X.K X.mg C .enum [ia]) := by
  refine ⟨fun pins s σ H R I ⟨G, g, en, Q0, R0, w, q⟩ => ?_⟩
  have h : rdX X.K X.mg C [ia] σ H fun vs H' => ∃ a', vs = [.ref a'] ∧ ((∃ ws, SqL X.K H' a' ws) ∧ R (Ite X.K a') H' ∨ (∃ ws, SqT X.K H' a' ws) ∧ R (IteT X.K a') H') := by
    refine ⟨G, g, en, _, R0, w, fun vs g1 H1 ds en1 R1 e1 hv w1 => ?_⟩
    obtain ⟨xs, ew, w2⟩ := the_some w1
    obtain ⟨ys, hd, ex⟩ := walk_enum ew
    rcases hd with rfl | rfl
    · obtain ⟨v, l, rfl, ⟨a', ws, rfl, sq, rs⟩, rfl⟩ := hv
      exact ⟨a', rfl, .inl ⟨⟨ws, SqL.of (R1.fh _ _ sq)⟩, q _ g1 H1 _ en1 R1 e1 (wk_enum (SqL.of sq) rs ex) w2⟩⟩
    · obtain ⟨v, l, rfl, ⟨a', ws, rfl, sq, rs⟩, rfl⟩ := hv
      exact ⟨a', rfl, .inr ⟨⟨ws, Same.seqT R1.fh sq⟩, q _ g1 H1 _ en1 R1 e1 (wk_enumT sq rs ex) w2⟩⟩
  obtain ⟨g1, g2, g3⟩ := gl_of O hg
  have st : starEach [a] X.env = [(false, eval a X.env)] := star_of hs
  refine Call_ ?_ rfl
  refine ld_blt I g1 (O.blt _ (by decide +kernel)) bb_enum ?_
  refine PyProof.Rows.callWith_type1 ?_ st rfl
  refine thn (ha.run pos pins s σ H _ I h) fun us s1 ⟨vs, H1, I1, r1, a', e, hq⟩ => ?_
  subst e
  cases r1 with
  | cons r rr =>
    cases rr
    cases r
    rcases hq with ⟨⟨ws, sq⟩, hR⟩ | ⟨⟨ws, sq⟩, hR⟩
    · exact enumL_iter I1 sq hR
    · exact enumT_iter I1 sq hR
end
end Tk

/-! Tk, part 13: targets; the names of a block; the loop of a comprehension. -/
namespace Tk
open PySem PySem.Spec PyProof.Rows L2

section
variable {K : PySem.W.Frag} {mg : Str → Option Value} {G : Hp} {g g' g0 : Gh} {H H' : Hp} {σ τ : L2.St} {en : En} {d : D} {v : V}
/-! ### names are stored -/
theorem REn.put (R : REn K mg G g H σ en) (i : Nat) (h : Rep K mg g.am g.F d v) : REn K mg G g H (σ.set i (some v)) { en with sl := en.sl.set i (.fz d) } := by
  have L := R.len
  refine ⟨R.fh, R.oh, R.gh, R.fo, R.fg, by simp only [List.length_set]; exact L, fun j s e => ?_, fun j k d1 d2 u e1 e2 e3 e4 => ?_, R.ob⟩
  · by_cases hj : i = j
    · subst hj
      have hi : i < en.sl.length := by
        have z := (List.getElem?_eq_some_iff.mp e).1
        rw [List.length_set] at z
        exact z
      have e : (en.sl.set i (.fz d))[i]? = some s := e
      rw [List.getElem?_set_self hi] at e
      cases e
      exact ⟨v, List.getElem?_set_self (by rw [← L]; exact hi), h⟩
    · have e : (en.sl.set i (.fz d))[j]? = some s := e
      rw [List.getElem?_set_ne hj] at e
      have z := R.sl j s e
      cases s with
      | un => trivial
      | fz d => obtain ⟨u, e1, r⟩ := z; exact ⟨u, by rw [List.getElem?_set_ne hj]; exact e1, r⟩
      | ow d => obtain ⟨p, o, e1, r⟩ := z; exact ⟨p, o, by rw [List.getElem?_set_ne hj]; exact e1, r⟩
  · have ne : ∀ {j : Nat} {d : D} {d0 : D}, (en.sl.set i (.fz d0))[j]? = some (.ow d) → i ≠ j ∧ en.sl[j]? = some (.ow d) := fun {j d d0} e => by
      by_cases hj : i = j
      · subst hj
        have hi : i < en.sl.length := by
          have z := (List.getElem?_eq_some_iff.mp e).1
          rw [List.length_set] at z
          exact z
        rw [List.getElem?_set_self hi] at e
        cases e
      · rw [List.getElem?_set_ne hj] at e
        exact ⟨hj, e⟩
    obtain ⟨n1, e1⟩ := ne e1
    obtain ⟨n2, e2⟩ := ne e2
    rw [List.getElem?_set_ne n1] at e3
    rw [List.getElem?_set_ne n2] at e4
    exact R.inj j k d1 d2 u e1 e2 e3 e4
theorem wipe_get {σ : L2.St} {i : Nat} : ∀ {vs : List Nat}, (wipe σ vs)[i]? = if i ∈ vs then σ[i]?.map (fun _ => none) else σ[i]?
  | [] => by simp [wipe]
  | v :: vs => by
    unfold wipe
    by_cases hi : v = i
    · subst hi
      rw [if_pos List.mem_cons_self]
      by_cases hv : v < (wipe σ vs).length
      · rw [List.getElem?_set_self hv, List.getElem?_eq_getElem (by rw [← wipe_length σ vs]; exact hv)]
        rfl
      · rw [List.getElem?_eq_none (by rw [List.length_set]; omega), List.getElem?_eq_none (by rw [wipe_length] at hv; omega)]
        rfl
    · rw [List.getElem?_set_ne hi, wipe_get (vs := vs)]
      have e : (i ∈ v :: vs) ↔ i ∈ vs := ⟨fun h => (List.mem_cons.mp h).elim (fun z => absurd z.symm hi) id, List.mem_cons_of_mem _⟩
      simp only [e]
theorem wipeS_length (sl : List Sl) : ∀ vs : List Nat, (wipeS sl vs).length = sl.length
  | [] => rfl
  | v :: vs => by unfold wipeS; rw [List.length_set, wipeS_length sl vs]
theorem wipeS_get {sl : List Sl} {i : Nat} : ∀ {vs : List Nat}, (wipeS sl vs)[i]? = if i ∈ vs then sl[i]?.map (fun _ => Sl.un) else sl[i]?
  | [] => by simp [wipeS]
  | v :: vs => by
    unfold wipeS
    by_cases hi : v = i
    · subst hi
      rw [if_pos List.mem_cons_self]
      by_cases hv : v < (wipeS sl vs).length
      · rw [List.getElem?_set_self hv, List.getElem?_eq_getElem (by rw [← wipeS_length sl vs]; exact hv)]
        rfl
      · rw [List.getElem?_eq_none (by rw [List.length_set]; omega), List.getElem?_eq_none (by rw [wipeS_length] at hv; omega)]
        rfl
    · rw [List.getElem?_set_ne hi, wipeS_get (vs := vs)]
      have e : (i ∈ v :: vs) ↔ i ∈ vs := ⟨fun h => (List.mem_cons.mp h).elim (fun z => absurd z.symm hi) id, List.mem_cons_of_mem _⟩
      simp only [e]
theorem wipe_eq {σ τ : L2.St} {vs : List Nat} (hl : σ.length = τ.length) (h : ∀ i, i ∉ vs → σ[i]? = τ[i]?) : wipe σ vs = wipe τ vs := by
  apply List.ext_getElem?
  intro i
  rw [wipe_get, wipe_get]
  by_cases hi : i ∈ vs
  · rw [if_pos hi, if_pos hi]
    by_cases hv : i < σ.length
    · rw [List.getElem?_eq_getElem hv, List.getElem?_eq_getElem (by rw [← hl]; exact hv)]
      rfl
    · rw [List.getElem?_eq_none (by omega), List.getElem?_eq_none (by omega)]
  · rw [if_neg hi, if_neg hi]
    exact h i hi
theorem wipe_wipe {σ : L2.St} {us vs : List Nat} (h : ∀ i ∈ us, i ∈ vs) : wipe (wipe σ us) vs = wipe σ vs := by
  refine wipe_eq (wipe_length σ us) fun i hi => ?_
  rw [wipe_get, if_neg fun z => hi (h i z)]
theorem wipeS_wipeS {sl : List Sl} {us vs : List Nat} (h : ∀ i ∈ us, i ∈ vs) : wipeS (wipeS sl us) vs = wipeS sl vs := by
  apply List.ext_getElem?
  intro i
  rw [wipeS_get, wipeS_get, wipeS_get]
  by_cases hi : i ∈ vs
  · rw [if_pos hi, if_pos hi]
    by_cases hu : i ∈ us
    · rw [if_pos hu]
      cases sl[i]? <;> rfl
    · rw [if_neg hu]
  · rw [if_neg hi, if_neg hi, if_neg fun z => hi (h i z)]
theorem REn.wipe (R : REn K mg G g H σ en) (vs : List Nat) : REn K mg G g H (wipe σ vs) { en with sl := wipeS en.sl vs } := by
  have ow : ∀ {i : Nat} {d : D}, (wipeS en.sl vs)[i]? = some (.ow d) → i ∉ vs ∧ en.sl[i]? = some (.ow d) := fun {i d} e => by
    rw [wipeS_get] at e
    by_cases hi : i ∈ vs
    · rw [if_pos hi] at e
      cases h : en.sl[i]? <;> rw [h] at e <;> cases e
    · rw [if_neg hi] at e
      exact ⟨hi, e⟩
  refine ⟨R.fh, R.oh, R.gh, R.fo, R.fg, by rw [wipeS_length, wipe_length]; exact R.len, fun i s e => ?_, fun i j d1 d2 u e1 e2 e3 e4 => ?_, R.ob⟩
  · have e : (wipeS en.sl vs)[i]? = some s := e
    rw [wipeS_get] at e
    by_cases hi : i ∈ vs
    · rw [if_pos hi] at e
      cases h : en.sl[i]? with
      | none => rw [h] at e; cases e
      | some x => rw [h] at e; cases e; trivial
    · rw [if_neg hi] at e
      have z := R.sl i s e
      cases s with
      | un => trivial
      | fz d => obtain ⟨u, e1, r⟩ := z; exact ⟨u, by rw [wipe_get, if_neg hi]; exact e1, r⟩
      | ow d => obtain ⟨p, o, e1, r⟩ := z; exact ⟨p, o, by rw [wipe_get, if_neg hi]; exact e1, r⟩
  · obtain ⟨n1, e1⟩ := ow e1
    obtain ⟨n2, e2⟩ := ow e2
    rw [wipe_get, if_neg n1] at e3
    rw [wipe_get, if_neg n2] at e4
    exact R.inj i j d1 d2 u e1 e2 e3 e4
/-- the names of a block held for good -/
theorem REn.frzOwn (R : REn K mg G g H σ en) : ∀ (own : List Nat), ∃ g', REn K mg G g' H σ { en with sl := frzOwn own en.sl } ∧ Ext g g' ∧ ∀ i ∈ own, ∀ d, (frzOwn own en.sl)[i]? ≠ some (.ow d)
  | [] => ⟨g, R, .refl g, fun i hi => absurd hi (by simp)⟩
  | v :: vs => by
    obtain ⟨g1, R1, e1, h1⟩ := R.frzOwn vs
    unfold Tk.frzOwn
    split
    · rename_i d e
      obtain ⟨g2, R2, e2, _⟩ := R1.freeze e
      refine ⟨g2, R2, e1.trans e2, fun i hi d' e' => ?_⟩
      by_cases hv : v = i
      · subst hv
        rw [List.getElem?_set_self (List.getElem?_eq_some_iff.mp e).1] at e'
        cases e'
      · rw [List.getElem?_set_ne hv] at e'
        exact h1 i ((List.mem_cons.mp hi).elim (fun z => absurd z.symm hv) id) d' e'
    · rename_i hn
      refine ⟨g1, R1, e1, fun i hi d' e' => ?_⟩
      rcases List.mem_cons.mp hi with z | z
      · subst z
        exact hn d' e'
      · exact h1 i z d' e'
theorem restS_length (outer inner : List Sl) : ∀ vs : List Nat, (restS outer inner vs).length = inner.length
  | [] => rfl
  | v :: vs => by unfold restS; rw [List.length_set, restS_length outer inner vs]
theorem restS_get {outer inner : List Sl} {i : Nat} (hl : outer.length = inner.length) : ∀ {vs : List Nat}, (restS outer inner vs)[i]? = if i ∈ vs then outer[i]? else inner[i]?
  | [] => by simp [restS]
  | v :: vs => by
    unfold restS
    by_cases hi : v = i
    · subst hi
      rw [if_pos List.mem_cons_self]
      by_cases hv : v < (restS outer inner vs).length
      · rw [List.getElem?_set_self hv]
        rw [restS_length, ← hl] at hv
        rw [List.getElem?_eq_getElem hv, List.getD_eq_getElem?_getD, List.getElem?_eq_getElem hv]
        rfl
      · rw [restS_length] at hv
        rw [List.getElem?_eq_none (by rw [List.length_set, restS_length]; omega), List.getElem?_eq_none (by omega)]
    · rw [List.getElem?_set_ne hi, restS_get hl (vs := vs)]
      have e : (i ∈ v :: vs) ↔ i ∈ vs := ⟨fun h => (List.mem_cons.mp h).elim (fun z => absurd z.symm hi) id, List.mem_cons_of_mem _⟩
      simp only [e]
/-- behind the block -/
theorem REn.rest {H2 : Hp} {en2 : En} {g2 : Gh} {G2 : Hp} {own : List Nat} (R2 : REn K mg G2 g2 H2 σ en2) (ho : ∀ i ∈ own, ∀ d, en2.sl[i]? ≠ some (.ow d)) (R : REn K mg G g H (L2.wipe σ own) { en with sl := wipeS en.sl own }) (x : Ext g2 g) :
    REn K mg G g H σ { en with sl := restS en2.sl en.sl own } := by
  have L1 : (wipeS en.sl own).length = (L2.wipe σ own).length := R.len
  rw [wipeS_length, wipe_length] at L1
  have L2' : en2.sl.length = en.sl.length := by rw [L1]; exact R2.len
  have ow : ∀ {i : Nat} {d : D}, (restS en2.sl en.sl own)[i]? = some (.ow d) → i ∉ own ∧ (wipeS en.sl own)[i]? = some (.ow d) := fun {i d} e => by
    rw [restS_get L2'] at e
    by_cases hi : i ∈ own
    · rw [if_pos hi] at e
      exact absurd e (ho i hi d)
    · rw [if_neg hi] at e
      exact ⟨hi, by rw [wipeS_get, if_neg hi]; exact e⟩
  refine ⟨R.fh, R.oh, R.gh, R.fo, R.fg, by rw [restS_length]; exact L1, fun i s e => ?_, fun i j d1 d2 u e1 e2 e3 e4 => ?_, R.ob⟩
  · have e : (restS en2.sl en.sl own)[i]? = some s := e
    rw [restS_get L2'] at e
    by_cases hi : i ∈ own
    · rw [if_pos hi] at e
      have z := R2.sl i s e
      cases s with
      | un => trivial
      | fz d => obtain ⟨u, e1, r⟩ := z; exact ⟨u, e1, Rep.mono x.F x.am _ _ r⟩
      | ow d => exact absurd e (ho i hi d)
    · rw [if_neg hi] at e
      have z := R.sl i s (by show (wipeS en.sl own)[i]? = some s; rw [wipeS_get, if_neg hi]; exact e)
      cases s with
      | un => trivial
      | fz d => obtain ⟨u, e1, r⟩ := z; rw [wipe_get, if_neg hi] at e1; exact ⟨u, e1, r⟩
      | ow d => obtain ⟨p, o, e1, r⟩ := z; rw [wipe_get, if_neg hi] at e1; exact ⟨p, o, e1, r⟩
  · obtain ⟨n1, e1⟩ := ow e1
    obtain ⟨n2, e2⟩ := ow e2
    exact R.inj i j d1 d2 u e1 e2 (by rw [wipe_get, if_neg n1]; exact e3) (by rw [wipe_get, if_neg n2]; exact e4)
/-! ### the list that a comprehension fills -/
theorem StOk.guard {G' : Hp} {ob : List Ob} (S : StOk K mg G g H ob) (hG : ∀ a ∈ g.am, G' a = none) (hH : ∀ a ∈ g.am, H' a = H a) : StOk K mg G' g H' ob :=
  ⟨S.len, S.nd, fun a ha => ⟨(S.fr a ha).1, (S.fr a ha).2.1, hG a ha⟩, fun n a x e1 e2 => by
    have z := S.at_ n a x e1 e2
    cases x with
    | con d => obtain ⟨o, e, c⟩ := z; exact ⟨o, by rw [hH a (List.mem_of_getElem? e2)]; exact e, c⟩
    | ins c fs => exact z.elim⟩
theorem REn.guardSet {D0 : Addr} {o o' : HO} (R : REn K mg (upd G D0 o) g H σ en) : REn K mg (upd G D0 o') g (upd H D0 o') σ en := by
  obtain ⟨f1, f2⟩ := R.fg D0 o upd_same
  have am : D0 ∉ g.am := fun h => by
    have z := (R.ob.fr D0 h).2.2
    rw [upd_same] at z
    cases z
  have gg : ∀ {b x}, upd G D0 o' b = some x → b ≠ D0 → upd G D0 o b = some x := fun {b x} e hb => by
    rw [upd_ne hb] at e ⊢
    exact e
  have hm : ∀ a ∈ g.am, a ≠ D0 := fun a ha z => am (z ▸ ha)
  refine ⟨fun b x e => ?_, fun b x e => ?_, fun b x e => ?_, R.fo, fun b x e => ?_, R.len, R.sl, R.inj, R.ob.guard (fun a ha => ?_) fun a ha => upd_ne (hm a ha)⟩
  · have hb : b ≠ D0 := fun z => by subst z; rw [f1] at e; cases e
    rw [upd_ne hb]
    exact R.fh b x e
  · have hb : b ≠ D0 := fun z => by subst z; rw [f2] at e; cases e
    rw [upd_ne hb]
    exact R.oh b x e
  · by_cases hb : b = D0
    · subst hb
      rw [upd_same] at e ⊢
      exact e
    · rw [upd_ne hb]
      exact R.gh b x (gg e hb)
  · by_cases hb : b = D0
    · subst hb
      exact ⟨f1, f2⟩
    · exact R.fg b x (gg e hb)
  · have z := (R.ob.fr a ha).2.2
    rw [upd_ne (hm a ha)] at z ⊢
    exact z
theorem REn.guardNew {D0 : Addr} {o : HO} (R : REn K mg G g H σ en) (hD : H D0 = none) : REn K mg (upd G D0 o) g (upd H D0 o) σ en := by
  obtain ⟨f1, f2, f3, am⟩ := R.free hD
  have hm : ∀ a ∈ g.am, a ≠ D0 := fun a ha z => am (z ▸ ha)
  have sm : Same H (upd H D0 o) := same_new hD
  refine ⟨R.fh.trans sm, R.oh.trans sm, fun b x e => ?_, R.fo, fun b x e => ?_, R.len, R.sl, R.inj, R.ob.guard (fun a ha => ?_) fun a ha => upd_ne (hm a ha)⟩
  · by_cases hb : b = D0
    · subst hb
      rw [upd_same] at e ⊢
      exact e
    · rw [upd_ne hb] at e ⊢
      exact R.gh b x e
  · by_cases hb : b = D0
    · subst hb
      exact ⟨f1, f2⟩
    · rw [upd_ne hb] at e
      exact R.fg b x e
  · rw [upd_ne (hm a ha)]
    exact (R.ob.fr a ha).2.2
theorem REn.guardIn {D0 : Addr} {o : HO} (R : REn K mg G g H σ en) (hD : H D0 = some o) (f1 : g.F D0 = none) (f2 : g.O D0 = none) (am : D0 ∉ g.am) : REn K mg (upd G D0 o) g H σ en := by
  have hm : ∀ a ∈ g.am, a ≠ D0 := fun a ha z => am (z ▸ ha)
  refine ⟨R.fh, R.oh, fun b x e => ?_, R.fo, fun b x e => ?_, R.len, R.sl, R.inj, R.ob.guard (fun a ha => ?_) fun a ha => rfl⟩
  · by_cases hb : b = D0
    · subst hb
      rw [upd_same] at e
      cases e
      exact hD
    · rw [upd_ne hb] at e
      exact R.gh b x e
  · by_cases hb : b = D0
    · subst hb
      exact ⟨f1, f2⟩
    · rw [upd_ne hb] at e
      exact R.fg b x e
  · rw [upd_ne (hm a ha)]
    exact (R.ob.fr a ha).2.2
theorem REn.guardDrop {D0 : Addr} {o : HO} (R : REn K mg (upd G D0 o) g H σ en) (hG : G D0 = none) : REn K mg G g H σ en := by
  have gg : ∀ {b x}, G b = some x → upd G D0 o b = some x := fun {b x} e => by
    rw [upd_ne (ne_of_none e hG)]
    exact e
  refine ⟨R.fh, R.oh, fun b x e => R.gh b x (gg e), R.fo, fun b x e => R.fg b x (gg e), R.len, R.sl, R.inj, R.ob.guard (fun a ha => ?_) fun a ha => rfl⟩
  have z := (R.ob.fr a ha).2.2
  by_cases hb : a = D0
  · subst hb
    exact hG
  · rw [upd_ne hb] at z
    exact z
end

section
variable {C : Cfg} {k : Nat} {X : Cx} {cc : CC}
/-! ### targets -/
def rdG (K : PySem.W.Frag) (mg : Str → Option Value) (t : Tg) : TG := fun v σ H Q => ∃ (G : Hp) (g : Gh) (en : En) (d : D) (sl : List Sl), REn K mg G g H σ en ∧ Rep K mg g.am g.F d v ∧ t.put d en.sl = some sl ∧
  ∀ (σ' : L2.St), REn K mg G g H σ' { en with sl := sl } → σ'.length = σ.length → (∀ i, i ∉ t.all → σ'[i]? = σ[i]?) → Q σ' H
def rdGs (K : PySem.W.Frag) (mg : Str → Option Value) (is : List Nat) : TGs := fun vs σ H Q => ∃ (G : Hp) (g : Gh) (en : En) (ds : List D) (sl : List Sl), REn K mg G g H σ en ∧ Reps K mg g.am g.F ds vs ∧ setAll en.sl is ds = some sl ∧
  ∀ (σ' : L2.St), REn K mg G g H σ' { en with sl := sl } → σ'.length = σ.length → (∀ i, i ∉ is → σ'[i]? = σ[i]?) → Q σ' H
theorem _root_.L2.PG.imp {e : Expr} {t t' : TG} (h : PG X e t) (i : ∀ v σ H Q, t' v σ H Q → t v σ H Q) : PG X e t' := ⟨fun pins s σ H v u Q I r q => h.run pins s σ H v u Q I r (i v σ H Q q)⟩
theorem _root_.L2.PGs.imp {es : List Expr} {t t' : TGs} (h : PGs X es t) (i : ∀ v σ H Q, t' v σ H Q → t v σ H Q) : PGs X es t' := ⟨fun pins s σ H vs us Q I r q => h.run pins s σ H vs us Q I r (i vs σ H Q q)⟩
theorem loc_of (O : Ok8 C k X cc) {x : Str} {i : Nat} (h : cLoc cc x = some i) : X.N[i]? = some x ∧ Loc X.env.scope x ∧ X.env.scope.names.lookup x = some .local := by
  obtain ⟨_, h2, h3⟩ := cLoc_of h
  rw [O.N, O.sc]
  exact ⟨h2, .inl h3, h3⟩
theorem sto_of (O : Ok8 C k X cc) {x : Str} {i : Nat} (h : cSto cc x = some i) : X.N[i]? = some x ∧ Loc X.env.scope x ∧ (X.fn x = true ∨ X.env.scope.names.lookup x = some .local) := by
  obtain ⟨_, h2, h3⟩ := cSto_of h
  rw [O.N, O.sc]
  rcases h3 with h3 | ⟨h3, ht⟩
  · exact ⟨h2, .inl h3, .inr h3⟩
  · exact ⟨h2, .inr h3, .inl (O.fnc ht x)⟩
theorem set_out {σ : L2.St} {i j : Nat} {v : Option V} (h : j ≠ i) : (σ.set i v)[j]? = σ[j]? := List.getElem?_set_ne (Ne.symm h)
theorem pgN (O : Ok8 C k X cc) {x : Str} {i : Nat} {p : Pos} (h : cSto cc x = some i) : PG X (.Name x p) (rdG X.K X.mg (.n i)) := by
  obtain ⟨h1, h2, h3⟩ := sto_of O h
  refine (pg_name (i := i) O.nd h1 h2 h3).imp fun v σ H Q ⟨G, g, en, d, sl, R, r, e, q⟩ => ?_
  cases e
  exact q _ (R.put i r) (List.length_set ..) fun j hj => set_out fun z => hj (by rw [z]; exact List.mem_singleton.mpr rfl)
theorem pgsN (O : Ok8 C k X cc) : ∀ {es : List Expr} {is : List Nat}, cStos cc es = some is → PGs X es (rdGs X.K X.mg is) ∧ (∀ e ∈ es, ∃ x p, e = .Name x p) ∧ is.length = es.length
  | [], is, h => by
    cases h
    refine ⟨pgs_nil.imp fun vs σ H Q ⟨G, g, en, ds, sl, R, r, e, q⟩ => ?_, fun e he => absurd he (by simp), rfl⟩
    cases ds with
    | nil => cases e; exact ⟨r, q σ R rfl fun _ _ => rfl⟩
    | cons d ds => cases e
  | e :: es, is, h => by
    match e, h with
    | .Name x p, h =>
      obtain ⟨i, h1, h⟩ := Option.bind_eq_some_iff.mp h
      obtain ⟨is', h2, h⟩ := Option.map_eq_some_iff.mp h
      subst h
      obtain ⟨a1, a2, a3⟩ := sto_of O h1
      obtain ⟨b1, b2, b3⟩ := pgsN O h2
      refine ⟨(pgs_cons (pg_name (i := i) O.nd a1 a2 a3) b1).imp fun vs σ H Q ⟨G, g, en, ds, sl, R, r, e, q⟩ => ?_, fun y hy => (List.mem_cons.mp hy).elim (fun z => ⟨x, p, z⟩) (b2 y), by rw [List.length_cons, List.length_cons, b3]⟩
      cases ds with
      | nil => cases e
      | cons d ds =>
        obtain ⟨v, vr, rfl, r1, r2⟩ := r
        refine ⟨v, vr, rfl, G, g, _, ds, sl, R.put i r1, r2, e, fun σ' R' l' o' => q σ' R' (by rw [l', List.length_set]) fun j hj => ?_⟩
        rw [o' j fun z => hj (List.mem_cons_of_mem _ z)]
        exact set_out fun z => hj (by rw [z]; exact List.mem_cons_self)
theorem assignNames {env : Env} : ∀ {es : List Expr}, (∀ e ∈ es, ∃ x p, e = .Name x p) → (assignEach es env).length = es.length ∧ (assignEach es env).findIdx? (·.1) = none
  | [], _ => ⟨rfl, rfl⟩
  | e :: es, h => by
    obtain ⟨x, p, rfl⟩ := h e List.mem_cons_self
    obtain ⟨h1, h2⟩ := assignNames (env := env) fun y hy => h y (List.mem_cons_of_mem _ hy)
    refine ⟨?_, ?_⟩
    · show (_ :: assignEach es env).length = _
      rw [List.length_cons, List.length_cons, h1]
    · show ((false, assign (.Name x p) env) :: assignEach es env).findIdx? (·.1) = none
      rw [List.findIdx?_cons, h2]
      rfl
theorem pgT (O : Ok8 C k X cc) {tg : Expr} {t : Tg} (h : cTg cc tg = some t) : PG X tg (rdG X.K X.mg t) := by
  match tg, h with
  | .Name x p, h =>
    obtain ⟨i, h1, rfl⟩ := Option.map_eq_some_iff.mp h
    exact pgN O h1
  | .Tuple es n p, h =>
    obtain ⟨is, h1, rfl⟩ := Option.map_eq_some_iff.mp h
    obtain ⟨b1, b2, b3⟩ := pgsN O h1
    obtain ⟨c1, c2⟩ := assignNames (env := X.env) b2
    refine (pg_tup O.calm b1 c1 c2).imp fun v σ H Q ⟨G, g, en, d, sl, R, r, e, q⟩ => ?_
    cases d with
    | tup ds =>
      obtain ⟨a, vs, rfl, sq, rs⟩ := r
      have hl : ∀ {is : List Nat} {ds : List D} {s sl : List Sl}, setAll s is ds = some sl → is.length = ds.length := by
        intro is
        induction is with
        | nil => intro ds s sl e; cases ds with | nil => rfl | cons d ds => cases e
        | cons i is ih => intro ds s sl e; cases ds with | nil => cases e | cons d ds => rw [List.length_cons, List.length_cons, ih e]
      exact ⟨a, vs, rfl, Same.seqT R.fh sq, by rw [rs.length, ← b3]; exact (hl e).symm, G, g, en, ds, sl, R, rs, e, q⟩
    | _ => cases e
def rdC (K : PySem.W.Frag) (mg : Str → Option Value) (C : Cfg) (c : Option IE) : TT := fun σ H Q => ∃ (G : Hp) (g : Gh) (en : En) (Q0 : Bool → En → Prop), REn K mg G g H σ en ∧ wC C c en Q0 XF ∧
  ∀ (b : Bool) (g' : Gh) (H' : Hp) (en' : En), REn K mg G g' H' σ en' → Ext g g' → Q0 b en' → Q b H'
theorem _root_.L2.PTs.imp {es : List Expr} {t t' : TT} (h : PTs X es t) (i : ∀ σ H Q, t' σ H Q → t σ H Q) : PTs X es t' := ⟨fun pins s σ H Q I q => h.run pins s σ H Q I (i σ H Q q)⟩
theorem ptsN : PTs X [] (rdC X.K X.mg C none) := pts_nil.imp fun σ H Q ⟨G, g, en, Q0, R, w, q⟩ => q true g H en R (.refl g) w
theorem ptsS {e : Expr} {ir : IE} (h : PT X e (rdT X.K X.mg C ir)) : PTs X [e] (rdC X.K X.mg C (some ir)) := pts_one h
/-! ### a clause's turns -/
section
variable (K : PySem.W.Frag) (mg : Str → Option Value) (C : Cfg)
/-- the list at D0 holds acc -/
def CSt (G : Hp) (D0 : Addr) (g : Gh) (H : Hp) (σ : L2.St) (en : En) (acc : List D) : Prop := ∃ vs, REn K mg (upd G D0 (.lst vs)) g H σ en ∧ Reps K mg g.am g.F acc vs
def stepG (t : Tg) (cond : Option IE) (own : List Nat) (inn : List D → (List D → En → Prop) → En → Prop) : D → List D → (List D → En → Prop) → En → Prop := fun x acc Kk en1 =>
  the (t.put x (wipeS en1.sl own)) fun sl' => wC C cond { en1 with sl := sl' } (fun b en2 => if b = true then inn acc Kk en2 else Kk acc en2) XF
def WSt (G : Hp) (D0 : Addr) (g0 : Gh) (σ : L2.St) (t : Tg) (cond : Option IE) (own : List Nat) (inn : List D → (List D → En → Prop) → En → Prop) (fin : List D → En → Prop) (xs : List D) (i m : Nat) (H : Hp) : Prop :=
  ∃ (g : Gh) (en : En) (acc : List D), m = xs.length - i ∧ i ≤ xs.length ∧ Ext g0 g ∧ CSt K mg G D0 g H (wipe σ own) { en with sl := wipeS en.sl own } acc ∧ loopA (stepG C t cond own inn) (xs.drop i) acc fin en
end
theorem loop_gen {K : PySem.W.Frag} {mg : Str → Option Value} {G : Hp} {D0 : Addr} {g0 : Gh} {σ : L2.St} {t : Tg} {cond : Option IE} {own : List Nat} {inn : List D → (List D → En → Prop) → En → Prop} {fin : List D → En → Prop} {xs : List D} {J : It}
    (Inner : L2.St → Hp → (Hp → Prop) → Prop) (End : Hp → Prop) (wk : Wk K mg g0 J xs) (ht : ∀ i ∈ t.all, i ∈ own)
    (hIn : ∀ (σ2 : L2.St) (H : Hp) (g : Gh) (en : En) (acc : List D) (Kk : List D → En → Prop) (Nx : Hp → Prop), wipe σ2 own = wipe σ own → Ext g0 g → CSt K mg G D0 g H σ2 en acc → inn acc Kk en →
      (∀ (g' : Gh) (H' : Hp) (en' : En) (acc' : List D), CSt K mg G D0 g' H' (wipe σ2 own) { en' with sl := wipeS en'.sl own } acc' → Ext g g' → Kk acc' en' → Nx H') → Inner σ2 H Nx)
    (hEnd : ∀ (g : Gh) (H : Hp) (en : En) (acc : List D), Ext g0 g → CSt K mg G D0 g H (wipe σ own) { en with sl := wipeS en.sl own } acc → fin acc en → End H)
    (i m : Nat) (H : Hp) (hW : WSt K mg C G D0 g0 σ t cond own inn fin xs i m H) :
    (J.stop i H ∧ End H) ∨ (J.go i H ∧ ∃ Nx : Hp → Prop, (∀ H', Nx H' → ∃ m', m' < m ∧ WSt K mg C G D0 g0 σ t cond own inn fin xs (i + 1) m' H') ∧ ∀ x H', J.yld i H x H' →
      rdG K mg t x (wipe σ own) H' fun σ2 H2 => wipe σ2 own = wipe σ own ∧ rdC K mg C cond σ2 H2 fun b H3 => if b = true then Inner σ2 H3 Nx else Nx H3) := by
  obtain ⟨g, en, acc, rfl, hi, e0, ⟨vs, R, rs⟩, w⟩ := hW
  by_cases hlt : i < xs.length
  · have hx : xs[i]? = some xs[i] := List.getElem?_eq_getElem hlt
    rw [List.drop_eq_getElem_cons hlt] at w
    have w : the (t.put xs[i] (wipeS en.sl own)) (fun sl' => wC C cond { en with sl := sl' } (fun b en2 => if b = true then inn acc (fun b' en' => loopA (stepG C t cond own inn) (xs.drop (i + 1)) b' fin en') en2 else loopA (stepG C t cond own inn) (xs.drop (i + 1)) acc fin en2) XF) := w
    obtain ⟨sl', et, w⟩ := the_some w
    have nxt : ∀ (g' : Gh) (H' : Hp) (en' : En) (acc' : List D), CSt K mg G D0 g' H' (wipe σ own) { en' with sl := wipeS en'.sl own } acc' → Ext g0 g' → loopA (stepG C t cond own inn) (xs.drop (i + 1)) acc' fin en' →
        ∃ m', m' < xs.length - i ∧ WSt K mg C G D0 g0 σ t cond own inn fin xs (i + 1) m' H' := fun g' H' en' acc' c e w' => ⟨xs.length - (i + 1), by omega, g', en', acc', rfl, hlt, e, c, w'⟩
    refine .inr ⟨wk.go i H (e0.F.trans R.fh) hlt, fun H' => ∃ m', m' < xs.length - i ∧ WSt K mg C G D0 g0 σ t cond own inn fin xs (i + 1) m' H', fun H' h => h, fun x H' y => ?_⟩
    obtain ⟨g3, R3, e3, r3⟩ := wk.yld i xs[i] _ _ _ _ _ x H' hx R e0.F e0.am y
    refine ⟨_, g3, _, _, sl', R3, r3, et, fun σ2 R4 l4 o4 => ?_⟩
    have wq : wipe σ2 own = wipe σ own := by
      have z : wipe σ2 own = wipe (wipe σ own) own := wipe_eq l4 fun j hj => o4 j fun h => hj (ht j h)
      rw [z, wipe_wipe fun _ h => h]
    refine ⟨wq, _, g3, _, _, R4, w, fun b g5 H5 en5 R5 e5 w5 => ?_⟩
    have c5 : CSt K mg G D0 g5 H5 σ2 en5 acc := ⟨vs, R5, Reps.mono (e3.trans e5).F (e3.trans e5).am _ _ rs⟩
    have eE := e0.trans (e3.trans e5)
    cases b with
    | true =>
      refine hIn σ2 H5 g5 en5 acc _ _ wq eE c5 w5 fun g' H' en' acc' c' e' w' => ?_
      rw [wq] at c'
      exact nxt g' H' en' acc' c' (eE.trans e') w'
    | false =>
      refine nxt g5 H5 en5 acc ?_ eE w5
      rw [← wq]
      exact ⟨vs, R5.wipe own, Reps.mono (e3.trans e5).F (e3.trans e5).am _ _ rs⟩
  · have ee : i = xs.length := by omega
    subst ee
    rw [List.drop_length] at w
    exact .inl ⟨wk.stop _ H (e0.F.trans R.fh) rfl, hEnd g H en acc e0 ⟨vs, R, rs⟩ w⟩
end
end Tk

/-! Tk, part 14: comprehensions. -/
namespace Tk
open PySem PySem.Spec PyProof.Rows L2

section
variable {K : PySem.W.Frag} {mg : Str → Option Value} {C : Cfg}
theorem rdE.comp {own : List Nat} {t : Tg} {s : Src} {es : List IE} {cond : Option IE} {elt : IE} {σ : L2.St} {H : Hp} {Q : VK} (ht : ∀ i ∈ t.all, i ∈ own) (h : rdE K mg C (.comp own t s es cond elt) σ H Q) :
    tLc (rdI K mg C s es) (rdG K mg t) (rdC K mg C cond) (rdE K mg C elt) own σ H Q := by
  obtain ⟨G, g, en, Q0, R0, w, q⟩ := h
  refine ⟨G, g, en, _, R0, w, fun J g1 H1 xs en1 R1 e1 wk w1 D0 hD => ?_⟩
  have hG : G D0 = none := free_sub R1.gh hD
  obtain ⟨g2, R2, e2, ho⟩ := R1.frzOwn own
  have R3 := (R2.guardNew (o := .lst []) hD)
  have wk2 : Wk K mg g2 J xs := ⟨fun i H sm => wk.go i H (e2.F.trans sm), fun i H sm => wk.stop i H (e2.F.trans sm), fun i d G' g' H' σ' en' x H'' ee R sF sa => wk.yld i d G' g' H' σ' en' x H'' ee R (e2.F.trans sF) (e2.am.trans sa)⟩
  refine ⟨WSt K mg C G D0 g2 σ t cond own (fun acc Kk en2 => wE C elt en2 (fun r en3 => acc.length < big ∧ Kk (acc ++ [r.d]) (en3.frz r)) XF) (fun acc en2 => Q0 (.ow (.lst acc)) { en2 with sl := restS (frzOwn own en1.sl) en2.sl own }) xs, ⟨_, g2, { en1 with sl := frzOwn own en1.sl }, [], rfl, Nat.zero_le _, .refl _, ⟨[], R3.wipe own, rfl⟩, w1⟩, ?_⟩
  refine fun i m H' hW => loop_gen (fun σ2 H3 Nx => rdE K mg C elt σ2 H3 fun y H4 => ∃ acc, H4 D0 = some (.lst acc) ∧ acc.length < sizeLine ∧ Nx (upd H4 D0 (.lst (acc ++ [y])))) (Q (.ref D0)) wk2 ht ?_ ?_ i m H' hW
  · intro σ2 H3 g3 en3 acc Kk Nx wq ex c w3 nx
    obtain ⟨vs, R, rs⟩ := c
    refine ⟨_, g3, en3, _, R, w3, fun y g4 H4 r en4 R4 e4 rr ⟨hl, w4⟩ => ?_⟩
    obtain ⟨g5, R5, e5, held⟩ := rr.esc R4
    refine ⟨vs, R4.gh D0 _ upd_same, by rw [rs.length, ← big_line]; exact hl, nx g5 _ (en4.frz r) (acc ++ [r.d]) ⟨vs ++ [y], (R5.guardSet (o' := .lst (vs ++ [y]))).wipe own, ?_⟩ (e4.trans e5) w4⟩
    exact (Reps.mono (e4.trans e5).F (e4.trans e5).am _ _ rs).append ⟨y, [], rfl, held, rfl⟩
  · intro g3 H3 en3 acc ex c w3
    obtain ⟨vs, R, rs⟩ := c
    have am : D0 ∉ g3.am := fun h => by
      have z := (R.ob.fr D0 h).2.2
      rw [upd_same] at z
      cases z
    obtain ⟨f1, f2⟩ := R.fg D0 _ upd_same
    have Rb := (R2.rest ho R ex).guardDrop hG
    exact q (.ref D0) g3 H3 (.ow (.lst acc)) _ Rb (e1.trans (e2.trans ex)) ⟨D0, .lst vs, rfl, R.gh D0 _ upd_same, ⟨vs, rfl, rs⟩, f1, f2, hG, am⟩ w3
theorem rdE.comp2 {own own1 : List Nat} {t t1 : Tg} {s s1 : Src} {es es1 : List IE} {cond cond1 : Option IE} {elt : IE} {σ : L2.St} {H : Hp} {Q : VK} (ht : ∀ i ∈ t.all, i ∈ own) (ht1 : ∀ i ∈ t1.all, i ∈ own1) (h1 : ∀ i ∈ own1, i ∈ own) (h : rdE K mg C (.comp2 own own1 t s es cond t1 s1 es1 cond1 elt) σ H Q) :
    tLc2 (rdI K mg C s es) (rdG K mg t) (rdC K mg C cond) (rdI K mg C s1 es1) (rdG K mg t1) (rdC K mg C cond1) (rdE K mg C elt) own own1 σ H Q := by
  obtain ⟨G, g, en, Q0, R0, w, q⟩ := h
  refine ⟨G, g, en, _, R0, w, fun J g1 H1 xs en1 R1 e1 wk w1 D0 hD => ?_⟩
  have hG : G D0 = none := free_sub R1.gh hD
  obtain ⟨g2, R2, e2, ho⟩ := R1.frzOwn own
  have R3 := (R2.guardNew (o := .lst []) hD)
  have wk2 : Wk K mg g2 J xs := ⟨fun i H sm => wk.go i H (e2.F.trans sm), fun i H sm => wk.stop i H (e2.F.trans sm), fun i d G' g' H' σ' en' x H'' ee R sF sa => wk.yld i d G' g' H' σ' en' x H'' ee R (e2.F.trans sF) (e2.am.trans sa)⟩
  let inn1 : List D → (List D → En → Prop) → En → Prop := fun acc Kk en2 => wE C elt en2 (fun r en3 => acc.length < big ∧ Kk (acc ++ [r.d]) (en3.frz r)) XF
  refine ⟨WSt K mg C G D0 g2 σ t cond own (fun acc Kk en2 => wX C es1 en2 (fun ds1 en3 => the (walk s1 ds1) fun xs1 => loopA (stepG C t1 cond1 own1 inn1) xs1 acc Kk en3) XF)
    (fun acc en2 => Q0 (.ow (.lst acc)) { en2 with sl := restS (frzOwn own en1.sl) en2.sl own }) xs, ⟨_, g2, { en1 with sl := frzOwn own en1.sl }, [], rfl, Nat.zero_le _, .refl _, ⟨[], R3.wipe own, rfl⟩, w1⟩, ?_⟩
  refine fun i m H' hW => loop_gen (fun σ2 H3 Nx => rdI K mg C s1 es1 σ2 H3 fun J1 H4 => ∃ W1 : Nat → Nat → Hp → Prop, (∃ m, W1 0 m H4) ∧ ∀ j k H, W1 j k H →
      (J1.stop j H ∧ Nx H) ∨ (J1.go j H ∧ ∃ Nx1 : Hp → Prop, (∀ H', Nx1 H' → ∃ k', k' < k ∧ W1 (j + 1) k' H') ∧ ∀ x H', J1.yld j H x H' → rdG K mg t1 x (wipe σ2 own1) H' fun σ3 H5 => wipe σ3 own1 = wipe σ2 own1 ∧ rdC K mg C cond1 σ3 H5 fun b H6 =>
        if b = true then rdE K mg C elt σ3 H6 fun y H7 => ∃ acc, H7 D0 = some (.lst acc) ∧ acc.length < sizeLine ∧ Nx1 (upd H7 D0 (.lst (acc ++ [y]))) else Nx1 H6)) (Q (.ref D0)) wk2 ht ?_ ?_ i m H' hW
  · intro σ2 H3 g3 en3 acc Kk Nx wq ex c w3 nx
    obtain ⟨vs, R, rs⟩ := c
    refine ⟨_, g3, en3, _, R, w3, fun J1 g4 H4 xs1 en4 R4 e4 wkJ w4 => ?_⟩
    refine ⟨WSt K mg C G D0 g4 σ2 t1 cond1 own1 inn1 Kk xs1, ⟨_, g4, en4, acc, rfl, Nat.zero_le _, .refl _, ⟨vs, R4.wipe own1, Reps.mono e4.F e4.am _ _ rs⟩, w4⟩, ?_⟩
    refine fun j kk H5 hW1 => loop_gen (fun σ3 H6 Nx1 => rdE K mg C elt σ3 H6 fun y H7 => ∃ acc, H7 D0 = some (.lst acc) ∧ acc.length < sizeLine ∧ Nx1 (upd H7 D0 (.lst (acc ++ [y])))) Nx wkJ ht1 ?_ ?_ j kk H5 hW1
    · intro σ3 H6 g5 en5 acc5 Kk5 Nx5 wq5 ex5 c5 w5 nx5
      obtain ⟨vs5, R5, rs5⟩ := c5
      refine ⟨_, g5, en5, _, R5, w5, fun y g6 H7 r en6 R6 e6 rr ⟨hl, w6⟩ => ?_⟩
      obtain ⟨g7, R7, e7, held⟩ := rr.esc R6
      refine ⟨vs5, R6.gh D0 _ upd_same, by rw [rs5.length, ← big_line]; exact hl, nx5 g7 _ (en6.frz r) (acc5 ++ [r.d]) ⟨vs5 ++ [y], (R7.guardSet (o' := .lst (vs5 ++ [y]))).wipe own1, ?_⟩ (e6.trans e7) w6⟩
      exact (Reps.mono (e6.trans e7).F (e6.trans e7).am _ _ rs5).append ⟨y, [], rfl, held, rfl⟩
    · intro g5 H5 en5 acc5 ex5 c5 w5
      obtain ⟨vs5, R5, rs5⟩ := c5
      refine nx g5 H5 en5 acc5 ⟨vs5, ?_, rs5⟩ (e4.trans ex5) w5
      have z := R5.wipe own
      rw [wipe_wipe h1] at z
      have z2 : wipeS (wipeS en5.sl own1) own = wipeS en5.sl own := wipeS_wipeS h1
      simp only [z2] at z
      exact z
  · intro g3 H3 en3 acc ex c w3
    obtain ⟨vs, R, rs⟩ := c
    have am : D0 ∉ g3.am := fun h => by
      have z := (R.ob.fr D0 h).2.2
      rw [upd_same] at z
      cases z
    obtain ⟨f1, f2⟩ := R.fg D0 _ upd_same
    have Rb := (R2.rest ho R ex).guardDrop hG
    exact q (.ref D0) g3 H3 (.ow (.lst acc)) _ Rb (e1.trans (e2.trans ex)) ⟨D0, .lst vs, rfl, R.gh D0 _ upd_same, ⟨vs, rfl, rs⟩, f1, f2, hG, am⟩ w3
end
section
variable {C : Cfg} {k : Nat} {X : Cx} {cc : CC}
theorem Ok8.blk (O : Ok8 C k X cc) (s : Shared) (H : Hp) (scope : Scope) (cl : List (Str × Addr)) (c : Addr) (fp : List Addr) : Ok8 C k (X.blk s H scope (compEnvC scope cl c X.env) fp) ⟨cc.N, relS scope cc.sc, cc.fs, cc.sh, false⟩ :=
  ⟨O.N, O.nd, by rw [← O.sc]; rfl, O.calm, fun z => (by cases z), O.gd, O.hu, O.blt, O.gl, O.mono, O.cal, O.room⟩
end
end Tk

/-! Tk, part 15: every expression that is carried. -/
namespace Tk
open PySem PySem.Spec PyProof.Rows L2

section
variable {C : Cfg}
theorem unstar_of : ∀ {es : List Expr}, (∀ e ∈ es, isStar e = false) → es.map unStar = es
  | [], _ => rfl
  | e :: es, h => by
    rw [List.map_cons, unstar_of fun x hx => h x (List.mem_cons_of_mem _ hx)]
    have z := h e List.mem_cons_self
    cases e <;> first | rfl | (cases z; done)
theorem folded_ok {e : Expr} {env : Env} (h : ∀ es n p, e ≠ .Set es n p) (x : Value) : foldedSetIterable e env x = pure x := by
  cases e <;> first | rfl | exact absurd rfl (h _ _ _)
/-- what is known of an expression that is carried -/
structure EOk (C : Cfg) (X : Cx) (e : Expr) (ir : IE) : Prop where
  pe : PE X e (rdE X.K X.mg C ir)
  pt : PT X e (rdT X.K X.mg C ir)
  ns : isStar e = false
  nset : ∀ es n p, e ≠ .Set es n p
  nsl : isSlice e = false
inductive EOks (C : Cfg) (X : Cx) : List Expr → List IE → Prop where
  | nil : EOks C X [] []
  | cons {e : Expr} {es : List Expr} {ir : IE} {irs : List IE} (h : EOk C X e ir) (t : EOks C X es irs) : EOks C X (e :: es) (ir :: irs)
theorem EOks.ns {X : Cx} : ∀ {es : List Expr} {irs : List IE}, EOks C X es irs → ∀ e ∈ es, isStar e = false
  | _, _, .cons h t, e, he => (List.mem_cons.mp he).elim (fun z => z ▸ h.ns) (t.ns e)
theorem EOks.paA {X : Cx} : ∀ {es : List Expr} {irs : List IE}, EOks C X es irs → PA X es (rdA X.K X.mg C irs)
  | _, _, .nil => paA_nil
  | _, _, .cons h t => paA_cons h.ns h.pe t.paA
theorem EOks.paX {X : Cx} : ∀ {es : List Expr} {irs : List IE}, EOks C X es irs → PA X es (rdX X.K X.mg C irs)
  | _, _, .nil => paX_nil
  | _, _, .cons h t => paX_cons h.ns h.pe t.paX
/-- a display's items, starred or not -/
theorem paD_of {X : Cx} : ∀ {es : List Expr} {irs : List IE}, EOks C X (es.map unStar) irs → PA X es (rdD X.K X.mg C (es.map isStar) irs)
  | [], _, .nil => paD_nil
  | e :: es, _, .cons h t => by
    cases hs : isStar e with
    | false =>
      have z : unStar e = e := by cases e <;> first | rfl | (cases hs; done)
      rw [List.map_cons, hs]
      exact paD_cons hs (z ▸ h.pe) (paD_of t)
    | true =>
      cases e <;> first | (cases hs; done) | exact paD_star h.pe (paD_of t)
theorem EOks.one {X : Cx} {e : Expr} {irs : List IE} (h : EOks C X [e] irs) : ∃ ir, irs = [ir] ∧ EOk C X e ir := by
  cases h with
  | cons h t => cases t; exact ⟨_, rfl, h⟩
/-- and, or -/
structure BOk (C : Cfg) (X : Cx) (op : BoolOp) (es : List Expr) (ir : IE) : Prop where
  pe : ∀ pos, PE X (.BoolOp op es pos) (rdE X.K X.mg C ir)
  pw : ∀ pos, PW X (.BoolOp op es pos) (rdT X.K X.mg C ir)
theorem BOk.last {X : Cx} {op : BoolOp} {e : Expr} {ir : IE} (h : EOk C X e ir) : BOk C X op [e] ir :=
  ⟨fun _ => pe_one h.pe, fun _ => match op with | .And => pw_and1 h.pt | .Or => pw_or1 h.pt⟩
theorem BOk.and {X : Cx} {e b : Expr} {es : List Expr} {ir ir' : IE} (h : EOk C X e ir) (t : BOk C X .And (b :: es) ir') : BOk C X .And (e :: b :: es) (.and ir ir') := ⟨fun p => peAnd h.pe (t.pe p), fun p => pwAnd h.pt (t.pw p)⟩
theorem BOk.or {X : Cx} {e b : Expr} {es : List Expr} {ir ir' : IE} (h : EOk C X e ir) (t : BOk C X .Or (b :: es) ir') : BOk C X .Or (e :: b :: es) (.or ir ir') := ⟨fun p => peOr h.pe (t.pe p), fun p => pwOr h.pt (t.pw p)⟩
end
section
variable {C : Cfg} {k : Nat}
abbrev GoE (C : Cfg) (k n : Nat) : Prop := ∀ (X : Cx) (cc : CC), Ok8 C k X cc → ∀ e ir, cE cc n e = some ir → EOk C X e ir
abbrev GoEs (C : Cfg) (k n : Nat) : Prop := ∀ (X : Cx) (cc : CC), Ok8 C k X cc → ∀ es irs, cEs cc n es = some irs → EOks C X es irs
abbrev GoB (C : Cfg) (k n : Nat) : Prop := ∀ (X : Cx) (cc : CC), Ok8 C k X cc → ∀ op es ir, cBool cc n op es = some ir → BOk C X op es ir
abbrev GoS (C : Cfg) (k n : Nat) : Prop := ∀ (X : Cx) (cc : CC), Ok8 C k X cc → ∀ tg e s, cSrc cc n (isTupE tg) e = some s → PI X tg e (rdI X.K X.mg C s.1 s.2) ∧ ∀ es n p, e ≠ .Set es n p
abbrev GoI (C : Cfg) (k n : Nat) : Prop := ∀ (X : Cx) (cc : CC), Ok8 C k X cc → ∀ es c, cIf cc n es = some c → PTs X es (rdC X.K X.mg C c)
theorem eOk_mk {X : Cx} {e : Expr} {ir : IE} (hm : CalMono C.cal) (pe : PE X e (rdE X.K X.mg C ir)) (pt : PT X e (rdT X.K X.mg C ir)) (ns : isStar e = false := by rfl) (nset : ∀ es n p, e ≠ .Set es n p := by intro _ _ _ z; cases z) (nsl : isSlice e = false := by rfl) : EOk C X e ir := ⟨pe, pt, ns, nset, nsl⟩
theorem eOk_pl {X : Cx} {e : Expr} {ir : IE} (hm : CalMono C.cal) (pe : PE X e (rdE X.K X.mg C ir)) (he : ∀ whole, isTrue e X.env whole = (do let v ← whole; standAt e.pos; holding [v] (truthy v)) := by intro _; rfl) (ns : isStar e = false := by rfl) (nset : ∀ es n p, e ≠ .Set es n p := by intro _ _ _ z; cases z) (nsl : isSlice e = false := by rfl) : EOk C X e ir :=
  ⟨pe, ptOf (fun en Q0 w => wT_wE hm ir en Q0 w) he pe, ns, nset, nsl⟩
theorem cE_slice {cc : CC} {n : Nat} {lo hi st : Option Expr} {p : Pos} : cE cc n (.Slice lo hi st p) = none := by cases n <;> rfl
theorem cE_not {X : Cx} {a : Expr} {ia : IE} {pos : Pos} (hm : CalMono C.cal) (h : EOk C X a ia) : EOk C X (.UnaryOp .Not a pos) (.not ia) :=
  eOk_mk hm (peNot h.pe fun en Q0 w => wT_wE hm ia en Q0 w) (ptNot h.pt)
/-- a built-in's call, an own def's -/
theorem cE_call {n : Nat} (hn : GoE C k n) (hns : GoEs C k n) {X : Cx} {cc : CC} (O : Ok8 C k X cc) {f : Str} {es : List Expr} {p pos : Pos} {ir : IE} (h : cE cc (n + 1) (.Call (.Name f p) es [] pos) = some ir) : EOk C X (.Call (.Name f p) es [] pos) ir := by
  simp only [cE] at h
  split at h
  · cases h
  rename_i hg
  have hg : cGlob cc f = true := by simpa using hg
  split at h
  · rename_i hf
    cases eq_of_beq hf
    split at h
    · rename_i a t pt
      split at h
      · rename_i ht
        obtain ⟨t', e1, h⟩ := Option.bind_eq_some_iff.mp h
        obtain ⟨ia, e2, h⟩ := Option.map_eq_some_iff.mp h
        subst h
        have z := hn X cc O a ia e2
        exact eOk_pl O.mono (peIsi O hg ht e1 z.ns z.pe)
      · cases h
    · cases h
  split at h
  · rename_i hc
    rw [Bool.and_eq_true] at hc
    obtain ⟨c1, c2⟩ := hc
    cases eq_of_beq c1
    unfold isSetCall at c2
    split at c2
    · rename_i g p1 a p2
      simp only [Bool.and_eq_true, Bool.not_eq_true'] at c2
      obtain ⟨⟨c2, c3⟩, c4⟩ := c2
      cases eq_of_beq c2
      obtain ⟨ia, e2, h⟩ := Option.map_eq_some_iff.mp h
      subst h
      have z := hn X cc O a ia e2
      exact eOk_pl O.mono (peSet O hg c3 c4 (EOks.cons z .nil).paA)
    · cases c2
  split at h
  · rename_i o kd lo hi e1
    split at h
    · obtain ⟨irs, e2, h⟩ := Option.map_eq_some_iff.mp h
      subst h
      have z := hns X cc O es irs e2
      cases es with
      | nil =>
        rename_i hh
        cases hh
      | cons a es => exact eOk_pl O.mono (peBlt O e1 hg z.ns z.paA)
    · cases h
  · split at h
    · cases h
    rename_i hh
    have hf : f ∈ cc.fs := by simpa using hh
    obtain ⟨irs, e2, h⟩ := Option.map_eq_some_iff.mp h
    subst h
    have z := hns X cc O es irs e2
    cases es with
    | nil =>
      cases z
      exact eOk_pl O.mono (peOwn0 O hf hg)
    | cons a es => exact eOk_pl O.mono (peOwn O hf hg z.ns z.paX)
theorem cE_get {n : Nat} (hn : GoE C k n) {X : Cx} {cc : CC} (O : Ok8 C k X cc) {x m : Str} {a b : Expr} {px ap p : Pos} {ir : IE} (h : (if m == "get" && (ap.endLine == p.line) then (cVar cc x).bind fun i => (cE cc n a).bind fun a' => (cE cc n b).map fun b' => IE.dget (.v i) a' b' else none) = some ir) :
    EOk C X (.Call (.Attribute (.Name x px) m ap) [a, b] [] p) ir := by
  split at h
  · rename_i hm
    rw [Bool.and_eq_true] at hm
    obtain ⟨i, e1, h⟩ := Option.bind_eq_some_iff.mp h
    obtain ⟨ia, e2, h⟩ := Option.bind_eq_some_iff.mp h
    obtain ⟨ib, e3, h⟩ := Option.map_eq_some_iff.mp h
    subst h
    obtain ⟨m1, m2⟩ := hm
    cases eq_of_beq m1
    have y := hn X cc O a ia e2
    have x := hn X cc O b ib e3
    exact eOk_mk O.mono (peDget O e1 m2 y.ns x.ns y.pe x.pe) (ptNo fun en Q0 w => by simp only [wT] at w)
  · cases h
theorem cE_sub {cc : CC} {n : Nat} {a i : Expr} {p : Pos} (hi : isSlice i = false) : cE cc (n + 1) (.Subscript a i p) = (cE cc n a).bind fun a' => (cE cc n i).map fun i' => .op .ix [a', i'] := by
  cases i <;> first | rfl | (cases hi; done)
theorem cIf_go {n : Nat} (hn : GoE C k n) : GoI C k (n + 1) := fun X cc O es c h => by
  match es, h with
  | [], h => cases h; exact ptsN
  | [e], h =>
    obtain ⟨ir, e1, h⟩ := Option.map_eq_some_iff.mp h
    subst h
    exact ptsS (hn X cc O e ir e1).pt
  | _ :: _ :: _, h => cases h
theorem cEs_go {n : Nat} (hn : GoE C k n) (hns : GoEs C k n) : GoEs C k (n + 1) := fun X cc O es irs h => by
  match es, h with
  | [], h => cases h; exact .nil
  | e :: es, h =>
    obtain ⟨ir, e1, h⟩ := Option.bind_eq_some_iff.mp h
    obtain ⟨irs', e2, h⟩ := Option.map_eq_some_iff.mp h
    subst h
    exact .cons (hn X cc O e ir e1) (hns X cc O es irs' e2)
theorem cBool_go {n : Nat} (hn : GoE C k n) (hb : GoB C k n) : GoB C k (n + 1) := fun X cc O op es ir h => by
  match es, h with
  | [], h => cases op <;> cases h
  | [e], h => exact .last (hn X cc O e ir h)
  | e :: b :: es, h =>
    obtain ⟨ia, e1, h⟩ := Option.bind_eq_some_iff.mp h
    obtain ⟨ib, e2, h⟩ := Option.map_eq_some_iff.mp h
    subst h
    have z := hn X cc O e ia e1
    have y := hb X cc O op (b :: es) ib e2
    cases op with
    | And => exact .and z y
    | Or => exact .or z y
theorem cSrc_go {n : Nat} (hn : GoE C k n) : GoS C k (n + 1) := fun X cc O tg e s h => by
  have itc : ∀ {e : Expr}, (cE cc n e).map (fun e' => (Src.it, [e'])) = some s → PI X tg e (rdI X.K X.mg C s.1 s.2) ∧ ∀ es n p, e ≠ .Set es n p := fun {e} h => by
    obtain ⟨ir, e1, h⟩ := Option.map_eq_some_iff.mp h
    subst h
    have z := hn X cc O e ir e1
    exact ⟨piIt z.pe, z.nset⟩
  cases e with
  | Call f es kws pos =>
    cases f with
    | Name f p =>
      cases kws with
      | nil =>
        simp only [cSrc] at h
        split at h
        · rename_i hf
          rw [Bool.and_eq_true] at hf
          cases eq_of_beq hf.2
          refine ⟨?_, fun _ _ _ z => by cases z⟩
          split at h
          · rename_i a
            obtain ⟨ia, e1, h⟩ := Option.map_eq_some_iff.mp h
            subst h
            have z := hn X cc O a ia e1
            exact piRng1 O hf.1 z.ns (EOks.cons z .nil).paX
          · rename_i a b
            obtain ⟨ia, e1, h⟩ := Option.bind_eq_some_iff.mp h
            obtain ⟨ib, e2, h⟩ := Option.map_eq_some_iff.mp h
            subst h
            have z := hn X cc O a ia e1
            have y := hn X cc O b ib e2
            exact piRng2 O hf.1 z.ns y.ns (EOks.cons z (.cons y .nil)).paX
          · cases h
        split at h
        · rename_i hf
          rw [Bool.and_eq_true] at hf
          cases eq_of_beq hf.2
          refine ⟨?_, fun _ _ _ z => by cases z⟩
          split at h
          · rename_i a
            split at h
            · rename_i ht
              obtain ⟨ia, e1, h⟩ := Option.map_eq_some_iff.mp h
              subst h
              have z := hn X cc O a ia e1
              cases tg with
              | Tuple ts kk tp => exact piEnum O hf.1 z.ns (EOks.cons z .nil).paX
              | _ => cases ht
            · cases h
          · cases h
        · exact itc h
      | cons kw kws => exact itc h
    | _ => exact itc h
  | _ => exact itc h
theorem mem_all {is own : List Nat} (h : (is.all fun i => own.contains i) = true) : ∀ i ∈ is, i ∈ own := fun i hi => by
  rw [List.all_eq_true] at h
  simpa using h i hi
/-- what a comprehension's clauses ask -/
structure ClOk (C : Cfg) (X : Cx) (cc : CC) (scope : Scope) (elt t it : Expr) (ifs : List Expr) (s : Src × List IE) (t' : Tg) (c : Option IE) (ie : IE) : Prop where
  ok : BlkOk X.N X.env.scope scope (cOwn cc scope)
  pi : PI X t it (rdI X.K X.mg C s.1 s.2)
  hs : ∀ x, foldedSetIterable it X.env x = pure x
  pg : ∀ (s : Shared) (H : Hp) (c : Addr) (cl : List (Str × Addr)) (fp : List Addr), PG (X.blk s H scope (compEnvC scope cl c X.env) fp) t (rdG X.K X.mg t')
  pc : ∀ (s : Shared) (H : Hp) (a : Addr) (cl : List (Str × Addr)) (fp : List Addr), PTs (X.blk s H scope (compEnvC scope cl a X.env) fp) ifs (rdC X.K X.mg C c)
  pe : ∀ (s : Shared) (H : Hp) (c : Addr) (cl : List (Str × Addr)) (fp : List Addr), PE (X.blk s H scope (compEnvC scope cl c X.env) fp) elt (rdE X.K X.mg C ie)
  ht : ∀ i ∈ t'.all, i ∈ (cOwn cc scope).map (·.2)
structure ClOk1 (C : Cfg) (X : Cx) (cc : CC) (scope : Scope) (t it : Expr) (ifs : List Expr) (s : Src × List IE) (t' : Tg) (c : Option IE) : Prop where
  pi : ∀ (s0 : Shared) (H : Hp) (c : Addr) (cl : List (Str × Addr)) (fp : List Addr), PI (X.blk s0 H scope (compEnvC scope cl c X.env) fp) t it (rdI X.K X.mg C s.1 s.2)
  hs : ∀ env x, foldedSetIterable it env x = pure x
  pg : ∀ (s : Shared) (H : Hp) (c : Addr) (cl : List (Str × Addr)) (fp : List Addr), PG (X.blk s H scope (compEnvC scope cl c X.env) fp) t (rdG X.K X.mg t')
  pc : ∀ (s : Shared) (H : Hp) (a : Addr) (cl : List (Str × Addr)) (fp : List Addr), PTs (X.blk s H scope (compEnvC scope cl a X.env) fp) ifs (rdC X.K X.mg C c)
  ht : ∀ i ∈ t'.all, i ∈ (cOwn cc scope).map (·.2)
theorem cComp {n : Nat} (hn : GoE C k n) (hs : GoS C k n) (hi : GoI C k n) {X : Cx} {cc : CC} (O : Ok8 C k X cc) {elt t it : Expr} {ifs : List Expr} {scope : Scope} {pos : Pos} {ir : IE} (h : cE cc (n + 1) (.ListComp elt [⟨t, it, ifs, 0⟩] scope pos) = some ir) :
    ∃ s t' c ie, ir = .comp ((cOwn cc scope).map (·.2)) t' s.1 s.2 c ie ∧ ClOk C X cc scope elt t it ifs s t' c ie := by
  simp only [cE] at h
  split at h
  · rename_i hb
    obtain ⟨s, e1, h⟩ := Option.bind_eq_some_iff.mp h
    obtain ⟨t', e2, h⟩ := Option.bind_eq_some_iff.mp h
    obtain ⟨c', e3, h⟩ := Option.bind_eq_some_iff.mp h
    obtain ⟨ie, e4, h⟩ := Option.bind_eq_some_iff.mp h
    split at h
    · rename_i ht
      cases h
      obtain ⟨p1, p2⟩ := hs X cc O t it s e1
      exact ⟨s, t', c', ie, rfl, ⟨by rw [O.N, O.sc]; exact blkOk_by hb, p1, folded_ok p2, fun s H c cl fp => pgT (O.blk s H scope cl c fp) e2, fun s H c cl fp => hi _ _ (O.blk s H scope cl c fp) ifs c' e3, fun s H c cl fp => (hn _ _ (O.blk s H scope cl c fp) elt ie e4).pe, mem_all ht⟩⟩
    · cases h
  · cases h
theorem cComp2 {n : Nat} (hn : GoE C k n) (hs : GoS C k n) (hi : GoI C k n) {X : Cx} {cc : CC} (O : Ok8 C k X cc) {elt t it t1 it1 : Expr} {ifs ifs1 : List Expr} {scope : Scope} {pos : Pos} {ir : IE} (h : cE cc (n + 1) (.ListComp elt [⟨t, it, ifs, 0⟩, ⟨t1, it1, ifs1, 0⟩] scope pos) = some ir) :
    ∃ s t' c ie s1 t1' c1, ir = .comp2 ((cOwn cc scope).map (·.2)) t1'.all t' s.1 s.2 c t1' s1.1 s1.2 c1 ie ∧ ClOk C X cc scope elt t it ifs s t' c ie ∧ ClOk1 C X cc scope t1 it1 ifs1 s1 t1' c1 := by
  simp only [cE] at h
  split at h
  · rename_i hb
    obtain ⟨s, e1, h⟩ := Option.bind_eq_some_iff.mp h
    obtain ⟨t', e2, h⟩ := Option.bind_eq_some_iff.mp h
    obtain ⟨c', e3, h⟩ := Option.bind_eq_some_iff.mp h
    obtain ⟨s1, e5, h⟩ := Option.bind_eq_some_iff.mp h
    obtain ⟨t1', e6, h⟩ := Option.bind_eq_some_iff.mp h
    obtain ⟨c1', e7, h⟩ := Option.bind_eq_some_iff.mp h
    obtain ⟨ie, e4, h⟩ := Option.bind_eq_some_iff.mp h
    split at h
    · rename_i ht
      rw [Bool.and_eq_true] at ht
      cases h
      obtain ⟨p1, p2⟩ := hs X cc O t it s e1
      refine ⟨s, t', c', ie, s1, t1', c1', rfl, ⟨by rw [O.N, O.sc]; exact blkOk_by hb, p1, folded_ok p2, fun s H c cl fp => pgT (O.blk s H scope cl c fp) e2, fun s H c cl fp => hi _ _ (O.blk s H scope cl c fp) ifs c' e3, fun s H c cl fp => (hn _ _ (O.blk s H scope cl c fp) elt ie e4).pe, mem_all ht.1⟩,
        ⟨fun s H c cl fp => (hs _ _ (O.blk s H scope cl c fp) t1 it1 s1 e5).1, fun env x => ?_, fun s H c cl fp => pgT (O.blk s H scope cl c fp) e6, fun s H c cl fp => hi _ _ (O.blk s H scope cl c fp) ifs1 c1' e7, mem_all ht.2⟩⟩
      exact folded_ok (hs _ _ (O.blk X.s_0 X.H_0 scope [] 0 []) t1 it1 s1 e5).2 x
    · cases h
  · cases h
theorem ClOk.peC {X : Cx} {cc : CC} (O : Ok8 C k X cc) {elt t it : Expr} {ifs : List Expr} {scope : Scope} {pos : Pos} {s : Src × List IE} {t' : Tg} {c : Option IE} {ie : IE} (h : ClOk C X cc scope elt t it ifs s t' c ie) :
    PE X (.ListComp elt [⟨t, it, ifs, 0⟩] scope pos) (rdE X.K X.mg C (.comp ((cOwn cc scope).map (·.2)) t' s.1 s.2 c ie)) :=
  (pe_lc O.calm O.nd h.pi h.ok h.pg h.pc h.pe h.hs).imp fun σ H Q q => rdE.comp h.ht q
theorem ClOk.peC2 {X : Cx} {cc : CC} (O : Ok8 C k X cc) {elt t it t1 it1 : Expr} {ifs ifs1 : List Expr} {scope : Scope} {pos : Pos} {s s1 : Src × List IE} {t' t1' : Tg} {c c1 : Option IE} {ie : IE} (h : ClOk C X cc scope elt t it ifs s t' c ie) (h1 : ClOk1 C X cc scope t1 it1 ifs1 s1 t1' c1) :
    PE X (.ListComp elt [⟨t, it, ifs, 0⟩, ⟨t1, it1, ifs1, 0⟩] scope pos) (rdE X.K X.mg C (.comp2 ((cOwn cc scope).map (·.2)) t1'.all t' s.1 s.2 c t1' s1.1 s1.2 c1 ie)) :=
  (pe_lc2 O.calm O.nd h.pi h.ok h1.ht h.pg h.pc h1.pi h1.pg h1.pc h.pe h.hs h1.hs).imp fun σ H Q q => rdE.comp2 h.ht (fun _ z => z) h1.ht q
theorem cE_go {n : Nat} (hn : GoE C k n) (hns : GoEs C k n) (hb : GoB C k n) (hs : GoS C k n) (hi : GoI C k n) : GoE C k (n + 1) := fun X cc O e ir h => by
  match e, h with
  | .Constant c j p, h =>
    obtain ⟨d, e1, h⟩ := Option.map_eq_some_iff.mp (show (cConst c).map IE.c = some ir from h)
    subst h
    exact eOk_pl O.mono (peC e1)
  | .Name x p, h =>
    have h : (if cGlob cc x then some (IE.g x) else (cVar cc x).map .v) = some ir := h
    split at h
    · rename_i hg
      cases h
      exact eOk_pl O.mono (peG O hg)
    · obtain ⟨i, e1, h⟩ := Option.map_eq_some_iff.mp h
      subst h
      exact eOk_pl O.mono (peV O e1)
  | .BinOp a op b p, h =>
    obtain ⟨o, e1, h⟩ := Option.bind_eq_some_iff.mp (show ((cBin op).bind fun o => (cE cc n a).bind fun a' => (cE cc n b).map fun b' => IE.op o [a', b']) = some ir from h)
    obtain ⟨ia, e2, h⟩ := Option.bind_eq_some_iff.mp h
    obtain ⟨ib, e3, h⟩ := Option.map_eq_some_iff.mp h
    subst h
    exact eOk_pl O.mono (peB O e1 (hn X cc O a ia e2).pe (hn X cc O b ib e3).pe)
  | .UnaryOp op a p, h =>
    cases op with
    | USub =>
      obtain ⟨ia, e2, h⟩ := Option.map_eq_some_iff.mp (show ((cE cc n a).map fun a' => IE.op .neg [a']) = some ir from h)
      subst h
      exact eOk_pl O.mono (peN O (hn X cc O a ia e2).pe)
    | Not =>
      obtain ⟨ia, e2, h⟩ := Option.map_eq_some_iff.mp (show ((cE cc n a).map IE.not) = some ir from h)
      subst h
      exact cE_not O.mono (hn X cc O a ia e2)
    | _ => cases h
  | .BoolOp op es p, h =>
    have z := hb X cc O op es ir h
    exact eOk_mk O.mono (z.pe p) (z.pw p).pt
  | .IfExp t a b p, h =>
    obtain ⟨it, e1, h⟩ := Option.bind_eq_some_iff.mp (show ((cE cc n t).bind fun t' => (cE cc n a).bind fun a' => (cE cc n b).map fun b' => IE.ite t' a' b') = some ir from h)
    obtain ⟨ia, e2, h⟩ := Option.bind_eq_some_iff.mp h
    obtain ⟨ib, e3, h⟩ := Option.map_eq_some_iff.mp h
    subst h
    have z := hn X cc O t it e1
    have y := hn X cc O a ia e2
    have x := hn X cc O b ib e3
    exact eOk_mk O.mono (peIte z.pt y.pe x.pe) (ptIte z.pt y.pt x.pt)
  | .Compare a ops cs p, h =>
    match ops, cs, h with
    | [o], [b], h =>
      have h : (if okCmp o b then (cE cc n a).bind fun a' => (cE cc n b).map fun b' => IE.op (cCmp o) [a', b'] else none) = some ir := h
      split at h
      · obtain ⟨ia, e2, h⟩ := Option.bind_eq_some_iff.mp h
        obtain ⟨ib, e3, h⟩ := Option.map_eq_some_iff.mp h
        subst h
        have y := hn X cc O a ia e2
        have x := hn X cc O b ib e3
        exact eOk_mk O.mono (peCmp O x.nset y.pe x.pe) (ptCmp O x.nset y.pe x.pe)
      · cases h
    | [o1, o2], [b, c], h =>
      have h : (if okCmp o1 b && okCmp o2 c then (cE cc n a).bind fun a' => (cE cc n b).bind fun b' => (cE cc n c).map fun c' => IE.ch (cCmp o1) (cCmp o2) a' b' c' else none) = some ir := h
      split at h
      · obtain ⟨ia, e2, h⟩ := Option.bind_eq_some_iff.mp h
        obtain ⟨ib, e3, h⟩ := Option.bind_eq_some_iff.mp h
        obtain ⟨ic, e4, h⟩ := Option.map_eq_some_iff.mp h
        subst h
        have y := hn X cc O a ia e2
        have x := hn X cc O b ib e3
        have w := hn X cc O c ic e4
        exact eOk_mk O.mono (peCh O w.nset y.pe x.pe w.pe) (ptCh O w.nset y.pe x.pe w.pe)
      · cases h
    | [o1, o2, o3], [b, c, d], h =>
      have h : (if okCmp o1 b && okCmp o2 c && okCmp o3 d then (cE cc n a).bind fun a' => (cE cc n b).bind fun b' => (cE cc n c).bind fun c' => (cE cc n d).map fun d' => IE.ch3 (cCmp o1) (cCmp o2) (cCmp o3) a' b' c' d' else none) = some ir := h
      split at h
      · obtain ⟨ia, e2, h⟩ := Option.bind_eq_some_iff.mp h
        obtain ⟨ib, e3, h⟩ := Option.bind_eq_some_iff.mp h
        obtain ⟨ic, e4, h⟩ := Option.bind_eq_some_iff.mp h
        obtain ⟨id, e5, h⟩ := Option.map_eq_some_iff.mp h
        subst h
        have y := hn X cc O a ia e2
        have x := hn X cc O b ib e3
        have w := hn X cc O c ic e4
        have v := hn X cc O d id e5
        exact eOk_mk O.mono (peCh3 O v.nset y.pe x.pe w.pe v.pe) (ptCh3 O v.nset y.pe x.pe w.pe v.pe)
      · cases h
    | [], _, h => cases h
    | [_], [], h => cases h
    | [_], _ :: _ :: _, h => cases h
    | [_, _], [], h => cases h
    | [_, _], [_], h => cases h
    | [_, _], _ :: _ :: _ :: _, h => cases h
    | [_, _, _], [], h => cases h
    | [_, _, _], [_], h => cases h
    | [_, _, _], [_, _], h => cases h
    | [_, _, _], _ :: _ :: _ :: _ :: _, h => cases h
    | _ :: _ :: _ :: _ :: _, _, h => cases h
  | .Tuple es m p, h =>
    obtain ⟨irs, e1, h⟩ := Option.map_eq_some_iff.mp (show ((cEs cc n (es.map unStar)).map fun es' => IE.disp true (es.map isStar) es') = some ir from h)
    subst h
    exact eOk_mk O.mono (peTup (paD_of (hns X cc O _ irs e1))) (ptNo fun en Q0 w => by simp only [wT] at w)
  | .List es p, h =>
    obtain ⟨irs, e1, h⟩ := Option.map_eq_some_iff.mp (show ((cEs cc n (es.map unStar)).map fun es' => IE.disp false (es.map isStar) es') = some ir from h)
    subst h
    exact eOk_mk O.mono (peLst (paD_of (hns X cc O _ irs e1))) (ptNo fun en Q0 w => by simp only [wT] at w)
  | .Subscript a i p, h =>
    cases hsl : isSlice i with
    | false =>
      rw [cE_sub hsl] at h
      obtain ⟨ia, e2, h⟩ := Option.bind_eq_some_iff.mp h
      obtain ⟨ib, e3, h⟩ := Option.map_eq_some_iff.mp h
      subst h
      exact eOk_pl O.mono (peIx O hsl (hn X cc O a ia e2).pe (hn X cc O i ib e3).pe)
    | true =>
      match i, hsl, h with
      | .Slice lo hi none p2, _, h =>
        simp only [cE] at h
        obtain ⟨ia, e2, h⟩ := Option.bind_eq_some_iff.mp h
        have z := (hn X cc O a ia e2).pe
        match lo, hi, h with
        | none, none, h => cases h; exact eOk_pl O.mono (peSl0 z)
        | some l, none, h =>
          obtain ⟨ib, e3, h⟩ := Option.map_eq_some_iff.mp h
          subst h
          exact eOk_pl O.mono (peSlL z (hn X cc O l ib e3).pe)
        | none, some u, h =>
          obtain ⟨ib, e3, h⟩ := Option.map_eq_some_iff.mp h
          subst h
          exact eOk_pl O.mono (peSlH z (hn X cc O u ib e3).pe)
        | some l, some u, h =>
          obtain ⟨ib, e3, h⟩ := Option.bind_eq_some_iff.mp h
          obtain ⟨ic, e4, h⟩ := Option.map_eq_some_iff.mp h
          subst h
          exact eOk_pl O.mono (peSlLH z (hn X cc O l ib e3).pe (hn X cc O u ic e4).pe)
      | .Slice lo hi (some st) p2, _, h => cases h
  | .Call f es kws p, h =>
    cases f with
    | Name f fp =>
      cases kws with
      | nil => exact cE_call hn hns O h
      | cons kw kws => cases h
    | Attribute o m ap =>
      cases o with
      | Name x px =>
        match es, kws, h with
        | [a, b], [], h => exact cE_get hn O h
        | [], [], h => cases h
        | [_], [], h => cases h
        | _ :: _ :: _ :: _, [], h => cases h
        | [], _ :: _, h => cases h
        | [_], _ :: _, h => cases h
        | [_, _], _ :: _, h => cases h
        | _ :: _ :: _ :: _, _ :: _, h => cases h
      | _ => cases h
    | _ => cases h
  | .Dict ks vs p, h =>
    match ks, vs, h with
    | [], [], h =>
      cases (show some (IE.op .dnew []) = some ir from h)
      exact eOk_pl O.mono peDnew
    | [], _ :: _, h => cases h
    | _ :: _, _, h => cases h
  | .ListComp elt gens scope p, h =>
    match gens, h with
    | [⟨t, it, ifs, 0⟩], h =>
      obtain ⟨s, t', c, ie, rfl, z⟩ := cComp hn hs hi O h
      exact eOk_mk O.mono (z.peC O) (ptNo fun en Q0 w => by simp only [wT] at w)
    | [⟨t, it, ifs, 0⟩, ⟨t1, it1, ifs1, 0⟩], h =>
      obtain ⟨s, t', c, ie, s1, t1', c1, rfl, z, z1⟩ := cComp2 hn hs hi O h
      exact eOk_mk O.mono (z.peC2 O z1) (ptNo fun en Q0 w => by simp only [wT] at w)
theorem all_go (C : Cfg) (k : Nat) : ∀ n, GoE C k n ∧ GoEs C k n ∧ GoB C k n ∧ GoS C k n ∧ GoI C k n
  | 0 => ⟨fun X cc O e ir h => (by cases h), fun X cc O es irs h => (by cases h), fun X cc O op es ir h => (by cases h), fun X cc O tg e s h => (by cases h), fun X cc O es c h => (by cases h)⟩
  | n + 1 => by
    obtain ⟨h1, h2, h3, h4, h5⟩ := all_go C k n
    exact ⟨cE_go h1 h2 h3 h4 h5, cEs_go h1 h2, cBool_go h1 h3, cSrc_go h1, cIf_go h1⟩
end
end Tk

/-! Tk, part 16: statements: readings. -/
namespace Tk
open PySem PySem.Spec PyProof.Rows L2

section
variable {K : PySem.W.Frag} {mg : Str → Option Value} {G : Hp} {g g' g0 : Gh} {H H' : Hp} {σ τ : L2.St} {en : En} {d : D} {v : V} {r : R}
/-- what is wanted behind, told of the model -/
structure Fin (K : PySem.W.Frag) (mg : Str → Option Value) (G : Hp) (g : Gh) (P : Po) (D0 : Ends) : Prop where
  nx : ∀ σ' g' H' en', REn K mg G g' H' σ' en' → Ext0 g g' → P.nx en' → D0.nx σ' H'
  bk : ∀ σ' g' H' en', REn K mg G g' H' σ' en' → Ext0 g g' → P.bk en' → D0.bk σ' H'
  ct : ∀ σ' g' H' en', REn K mg G g' H' σ' en' → Ext0 g g' → P.ct en' → D0.ct σ' H'
  rt : ∀ v F' am' H' r ob', REn K mg G ⟨F', noO, am'⟩ H' [] ⟨[], ob'⟩ → Same g.F F' → g.am <+: am' → RRes K mg G ⟨F', noO, am'⟩ H' [] ⟨[], ob'⟩ v r → P.rt r ob' → D0.rt v H'
theorem Fin.ext {P : Po} {D0 : Ends} (f : Fin K mg G g P D0) (x : Ext0 g g') : Fin K mg G g' P D0 :=
  ⟨fun σ' g1 H' en' R e => f.nx σ' g1 H' en' R (x.trans e), fun σ' g1 H' en' R e => f.bk σ' g1 H' en' R (x.trans e), fun σ' g1 H' en' R e => f.ct σ' g1 H' en' R (x.trans e), fun v F' am' H' r ob' R s a => f.rt v F' am' H' r ob' R (x.F.trans s) (x.am.trans a)⟩
/-- a new container goes to a name -/
theorem REn.putOw (R : REn K mg G g H σ en) (i : Nat) {p : Addr} {o : HO} (hp : H p = some o) (c : Con K mg g.am g.F p d o) (hF : g.F p = none) (hO : g.O p = none) (hG : G p = none) (hA : p ∉ g.am) :
    REn K mg G ⟨g.F, upd g.O p o, g.am⟩ H (σ.set i (some (.ref p))) { en with sl := en.sl.set i (.ow d) } := by
  have L := R.len
  have lt : ∀ {j : Nat} {s s' : Sl}, (en.sl.set i s)[j]? = some s' → j < en.sl.length := fun {j s s'} e => by
    have z := (List.getElem?_eq_some_iff.mp e).1
    rw [List.length_set] at z
    exact z
  have oth : ∀ {q : Addr} {x : HO}, g.O q = some x → upd g.O p o q = some x := fun {q x} e => by
    rw [upd_ne (ne_of_none e hO)]
    exact e
  have inO : ∀ {j : Nat} {d' : D} {u : V}, en.sl[j]? = some (.ow d') → σ[j]? = some (some u) → u ≠ .ref p := fun {j d' u} e1 e2 z => by
    obtain ⟨q, x, e3, e4, _⟩ := R.ownAt e1
    rw [e2] at e3
    cases e3
    cases z
    rw [hO] at e4
    cases e4
  refine ⟨R.fh, fun b x e => ?_, R.gh, fun b x e => ?_, fun b x e => ?_, by simp only [List.length_set]; exact L, fun j s e => ?_, fun j k d1 d2 u e1 e2 e3 e4 => ?_, ⟨R.ob.len, R.ob.nd, fun a ha => ?_, fun n a x e1 e2 => ?_⟩⟩
  · by_cases hb : b = p
    · subst hb
      have e : some o = some x := upd_same.symm.trans e
      cases e
      exact hp
    · exact R.oh b x ((upd_ne hb).symm.trans e)
  · by_cases hb : b = p
    · subst hb
      exact hF
    · exact R.fo b x ((upd_ne hb).symm.trans e)
  · have hb : b ≠ p := fun z => by subst z; rw [hG] at e; cases e
    exact ⟨(R.fg b x e).1, (upd_ne hb).trans (R.fg b x e).2⟩
  · have e : (en.sl.set i (.ow d))[j]? = some s := e
    by_cases hj : i = j
    · subst hj
      have hi := lt e
      rw [List.getElem?_set_self hi] at e
      cases e
      exact ⟨p, o, List.getElem?_set_self (by rw [← L]; exact hi), upd_same, c⟩
    · rw [List.getElem?_set_ne hj] at e
      have z := R.sl j s e
      cases s with
      | un => trivial
      | fz d => obtain ⟨u, e1, r⟩ := z; exact ⟨u, by rw [List.getElem?_set_ne hj]; exact e1, r⟩
      | ow d => obtain ⟨q, x, e1, e2, c2⟩ := z; exact ⟨q, x, by rw [List.getElem?_set_ne hj]; exact e1, oth e2, c2⟩
  · have e1 : (en.sl.set i (.ow d))[j]? = some (.ow d1) := e1
    have e2 : (en.sl.set i (.ow d))[k]? = some (.ow d2) := e2
    have l1 := lt e1
    have l2 := lt e2
    by_cases hj : i = j
    · by_cases hk : i = k
      · rw [← hj, ← hk]
      · subst hj
        rw [List.getElem?_set_self (by rw [← L]; exact l1)] at e3
        rw [List.getElem?_set_ne hk] at e2 e4
        cases e3
        exact absurd rfl (inO e2 e4)
    · by_cases hk : i = k
      · subst hk
        rw [List.getElem?_set_self (by rw [← L]; exact l2)] at e4
        rw [List.getElem?_set_ne hj] at e1 e3
        cases e4
        exact absurd rfl (inO e1 e3)
      · rw [List.getElem?_set_ne hj] at e1 e3
        rw [List.getElem?_set_ne hk] at e2 e4
        exact R.inj j k d1 d2 u e1 e2 e3 e4
  · have hb : a ≠ p := fun z => hA (z ▸ ha)
    exact ⟨(R.ob.fr a ha).1, (upd_ne hb).trans (R.ob.fr a ha).2.1, (R.ob.fr a ha).2.2⟩
  · have z := R.ob.at_ n a x e1 e2
    cases x with
    | con d => exact z
    | ins c fs => exact z.elim
/-- a result goes to a name -/
theorem RRes.store (R0 : REn K mg G g H σ en) (i : Nat) (h : RRes K mg G g H σ en v r) : ∃ g', REn K mg G g' H (σ.set i (some v)) { en with sl := (frzS r en.sl).set i (toSl r) } ∧ Ext0 g g' := by
  cases r with
  | fz d => exact ⟨g, R0.put i h, .refl g⟩
  | ow d =>
    obtain ⟨p, o, rfl, hp, c, h1, h2, h3, h4⟩ := h
    exact ⟨_, R0.putOw i hp c h1 h2 h3 h4, ⟨Same.refl _, List.prefix_rfl⟩⟩
  | rf j d =>
    obtain ⟨g', R1, x, q⟩ := R0.freeze h.1
    exact ⟨g', R1.put i (q v h.2), x.to0⟩
/-- the frame is left -/
theorem REn.leave (R : REn K mg G g H σ en) : REn K mg G ⟨g.F, noO, g.am⟩ H [] ⟨[], en.ob⟩ := by
  refine ⟨R.fh, fun b o e => (by cases e), R.gh, fun b o e => (by cases e), fun b o e => ⟨(R.fg b o e).1, rfl⟩, rfl, fun i s e => (by simp at e), fun i j d d' v e => (by simp at e), ⟨R.ob.len, R.ob.nd, fun a ha => ⟨(R.ob.fr a ha).1, rfl, (R.ob.fr a ha).2.2⟩, fun n a x e1 e2 => ?_⟩⟩
  have z := R.ob.at_ n a x e1 e2
  cases x with
  | con d => exact z
  | ins c fs => exact z.elim
theorem RRes.out (R0 : REn K mg G g H σ en) (h : RRes K mg G g H σ en v r) : RRes K mg G ⟨g.F, noO, g.am⟩ H [] ⟨[], en.ob⟩ v r.out := by
  cases r with
  | fz d => exact h
  | ow d =>
    obtain ⟨p, o, rfl, hp, c, h1, h2, h3, h4⟩ := h
    exact ⟨p, o, rfl, hp, c, h1, rfl, h3, h4⟩
  | rf i d =>
    obtain ⟨p, o, e1, e2, c⟩ := R0.ownAt h.1
    rw [h.2] at e1
    cases e1
    refine ⟨p, o, rfl, R0.oh _ _ e2, c, R0.fo _ _ e2, rfl, ?_, fun hm => ?_⟩
    · cases hG : G p with
      | none => rfl
      | some x =>
        have z := (R0.fg p x hG).2
        rw [e2] at z
        cases z
    · have z := (R0.ob.fr p hm).2.1
      rw [e2] at z
      cases z
/-! ### a container changes in place -/
theorem nodup_at {α : Type} : ∀ {l : List α} {i j : Nat} {a : α}, l.Nodup → l[i]? = some a → l[j]? = some a → i = j
  | [], i, j, a, _, h, _ => by simp at h
  | x :: l, 0, 0, a, _, _, _ => rfl
  | x :: l, 0, j + 1, a, hn, h, h' => by
    cases h
    exact absurd (List.mem_of_getElem? (show l[j]? = some _ from h')) (List.nodup_cons.mp hn).1
  | x :: l, i + 1, 0, a, hn, h, h' => by
    cases h'
    exact absurd (List.mem_of_getElem? (show l[i]? = some _ from h)) (List.nodup_cons.mp hn).1
  | x :: l, i + 1, j + 1, a, hn, h, h' => by rw [nodup_at (l := l) (List.nodup_cons.mp hn).2 h h']
theorem set_same {α : Type} {l : List α} {i : Nat} {a b x : α} (e : l[i]? = some a) (h : (l.set i b)[i]? = some x) : x = b := by
  rw [List.getElem?_set_self (List.getElem?_eq_some_iff.mp e).1] at h
  cases h
  rfl
theorem REn.chgO (R : REn K mg G g H σ en) {i : Nat} {p : Addr} {o o' : HO} {d' : D} (e : en.sl[i]? = some (.ow d)) (ev : σ[i]? = some (some (.ref p))) (hO : g.O p = some o) (c : Con K mg g.am g.F p d' o') :
    REn K mg G ⟨g.F, upd g.O p o', g.am⟩ (upd H p o') σ { en with sl := en.sl.set i (.ow d') } := by
  have hF : g.F p = none := R.fo p o hO
  have hG : G p = none := by
    cases hG : G p with
    | none => rfl
    | some x =>
      have z := (R.fg p x hG).2
      rw [hO] at z
      cases z
  have hm : ∀ a ∈ g.am, a ≠ p := fun a ha z => by
    subst z
    have z := (R.ob.fr a ha).2.1
    rw [hO] at z
    cases z
  refine ⟨fun b x q => ?_, fun b x q => ?_, fun b x q => ?_, fun b x q => ?_, fun b x q => ?_, by simp only [List.length_set]; exact R.len, fun j s q => ?_, fun j k d1 d2 u q1 q2 q3 q4 => ?_, ⟨R.ob.len, R.ob.nd, fun a ha => ?_, fun n a x e1 e2 => ?_⟩⟩
  · rw [upd_ne (ne_of_none q hF)]
    exact R.fh b x q
  · by_cases hb : b = p
    · subst hb
      have q : some o' = some x := upd_same.symm.trans q
      cases q
      exact upd_same
    · rw [upd_ne hb]
      exact R.oh b x ((upd_ne hb).symm.trans q)
  · rw [upd_ne (ne_of_none q hG)]
    exact R.gh b x q
  · by_cases hb : b = p
    · subst hb
      exact hF
    · exact R.fo b x ((upd_ne hb).symm.trans q)
  · have hb : b ≠ p := ne_of_none q hG
    exact ⟨(R.fg b x q).1, (upd_ne hb).trans (R.fg b x q).2⟩
  · have q : (en.sl.set i (.ow d'))[j]? = some s := q
    by_cases hj : i = j
    · subst hj
      rw [set_same e q]
      exact ⟨p, o', ev, upd_same, c⟩
    · rw [List.getElem?_set_ne hj] at q
      have z := R.sl j s q
      cases s with
      | un => trivial
      | fz d => exact z
      | ow d2 =>
        obtain ⟨p2, o2, e1, e2, c2⟩ := z
        have hp : p2 ≠ p := fun z => hj (by subst z; exact R.inj i j d d2 _ e q ev e1)
        exact ⟨p2, o2, e1, (upd_ne hp).trans e2, c2⟩
  · have ne : ∀ {j : Nat} {d0 : D}, (en.sl.set i (.ow d'))[j]? = some (.ow d0) → ∃ d1, en.sl[j]? = some (.ow d1) := fun {j d0} q => by
      by_cases hj : i = j
      · subst hj
        exact ⟨d, e⟩
      · rw [List.getElem?_set_ne hj] at q
        exact ⟨d0, q⟩
    obtain ⟨d3, q1⟩ := ne q1
    obtain ⟨d4, q2⟩ := ne q2
    exact R.inj j k d3 d4 u q1 q2 q3 q4
  · exact ⟨(R.ob.fr a ha).1, (upd_ne (hm a ha)).trans (R.ob.fr a ha).2.1, (R.ob.fr a ha).2.2⟩
  · have z := R.ob.at_ n a x e1 e2
    cases x with
    | con d =>
      obtain ⟨o3, e3, c3⟩ := z
      exact ⟨o3, (upd_ne (hm a (List.mem_of_getElem? e2))).trans e3, c3⟩
    | ins c fs => exact z.elim
theorem REn.chgB (R : REn K mg G g H σ en) {n : Nat} {a : Addr} {o' : HO} {d' : D} (e : en.ob[n]? = some (.con d)) (ea : g.am[n]? = some a) (c : Con K mg g.am g.F a d' o') :
    REn K mg G g (upd H a o') σ { en with ob := en.ob.set n (.con d') } := by
  have ha : a ∈ g.am := List.mem_of_getElem? ea
  obtain ⟨hF, hO, hG⟩ := R.ob.fr a ha
  refine ⟨fun b x q => ?_, fun b x q => ?_, fun b x q => ?_, R.fo, R.fg, R.len, R.sl, R.inj, ⟨by rw [List.length_set]; exact R.ob.len, R.ob.nd, R.ob.fr, fun m b x e1 e2 => ?_⟩⟩
  · rw [upd_ne (ne_of_none q hF)]
    exact R.fh b x q
  · rw [upd_ne (ne_of_none q hO)]
    exact R.oh b x q
  · rw [upd_ne (ne_of_none q hG)]
    exact R.gh b x q
  · by_cases hm : n = m
    · subst hm
      rw [set_same e e1]
      rw [ea] at e2
      cases e2
      exact ⟨o', upd_same, c⟩
    · rw [List.getElem?_set_ne hm] at e1
      have hb : b ≠ a := fun z => hm (by
        subst z
        exact nodup_at R.ob.nd ea e2)
      have z := R.ob.at_ m b x e1 e2
      cases x with
      | con d =>
        obtain ⟨o3, e3, c3⟩ := z
        exact ⟨o3, (upd_ne hb).trans e3, c3⟩
      | ins c fs => exact z.elim
/-- the list that a name holds, changed: where it is, what it holds, what stands behind the change -/
theorem REn.chgL (R : REn K mg G g H σ en) {i : Nat} {f : D → Option D} {en' : En} (h : en.chg i f = some en') (hf : ∀ x y, f x = some y → ∃ xs ys, x = .lst xs ∧ y = .lst ys) :
    ∃ p vs xs ys, σ[i]? = some (some (.ref p)) ∧ H p = some (.lst vs) ∧ f (.lst xs) = some (.lst ys) ∧ Reps K mg g.am g.F xs vs ∧
      ∀ ws, Reps K mg g.am g.F ys ws → ∃ g', REn K mg G g' (upd H p (.lst ws)) σ en' ∧ Ext0 g g' := by
  unfold En.chg at h
  split at h
  · rename_i d e
    obtain ⟨y, e1, h⟩ := Option.map_eq_some_iff.mp h
    subst h
    obtain ⟨xs, ys, rfl, rfl⟩ := hf _ _ e1
    obtain ⟨p, o, e2, e3, vs, rfl, rs⟩ := R.ownAt e
    exact ⟨p, vs, xs, ys, e2, R.oh _ _ e3, e1, rs, fun ws hw => ⟨_, R.chgO e e2 e3 ⟨ws, rfl, hw⟩, ⟨Same.refl _, List.prefix_rfl⟩⟩⟩
  · rename_i n e
    split at h
    · rename_i d e4
      obtain ⟨y, e1, h⟩ := Option.map_eq_some_iff.mp h
      subst h
      obtain ⟨xs, ys, rfl, rfl⟩ := hf _ _ e1
      obtain ⟨v, e2, a, ea, rfl⟩ := R.sl i _ e
      obtain ⟨o, e3, vs, rfl, rs⟩ := R.ob.at_ n a _ e4 ea
      exact ⟨a, vs, xs, ys, e2, e3, e1, rs, fun ws hw => ⟨g, R.chgB e4 ea ⟨ws, rfl, hw⟩, .refl g⟩⟩
    · cases h
  · cases h
theorem REn.isC (R : REn K mg G g H σ en) {i : Nat} (h : en.isC i = true) : ∃ p, σ[i]? = some (some (.ref p)) := by
  unfold En.isC at h
  split at h
  · rename_i xs e
    obtain ⟨p, o, e2, _⟩ := R.ownAt e
    exact ⟨p, e2⟩
  · rename_i xs e
    obtain ⟨p, o, e2, _⟩ := R.ownAt e
    exact ⟨p, e2⟩
  · rename_i n e
    obtain ⟨v, e2, a, ea, rfl⟩ := R.sl i _ e
    exact ⟨a, e2⟩
  · cases h
/-- the container that a name holds, changed -/
theorem REn.chgC (R : REn K mg G g H σ en) {i : Nat} {f : D → Option D} {en' : En} (h : en.chg i f = some en') :
    ∃ p ho x y, σ[i]? = some (some (.ref p)) ∧ H p = some ho ∧ Con K mg g.am g.F p x ho ∧ f x = some y ∧
      ∀ ho', Con K mg g.am g.F p y ho' → ∃ g', REn K mg G g' (upd H p ho') σ en' ∧ Ext0 g g' := by
  unfold En.chg at h
  split at h
  · rename_i d e
    obtain ⟨y, e1, h⟩ := Option.map_eq_some_iff.mp h
    subst h
    obtain ⟨p, o, e2, e3, c⟩ := R.ownAt e
    exact ⟨p, o, d, y, e2, R.oh _ _ e3, c, e1, fun ho' hc => ⟨_, R.chgO e e2 e3 hc, ⟨Same.refl _, List.prefix_rfl⟩⟩⟩
  · rename_i n e
    split at h
    · rename_i d e4
      obtain ⟨y, e1, h⟩ := Option.map_eq_some_iff.mp h
      subst h
      obtain ⟨v, e2, a, ea, rfl⟩ := R.sl i _ e
      obtain ⟨o, e3, c⟩ := R.ob.at_ n a _ e4 ea
      exact ⟨a, o, d, y, e2, e3, c, e1, fun ho' hc => ⟨g, R.chgB e4 ea hc, .refl g⟩⟩
    · cases h
  · cases h
theorem REn.isL (R : REn K mg G g H σ en) {i : Nat} (h : en.isL i = true) : ∃ p vs, σ[i]? = some (some (.ref p)) ∧ H p = some (.lst vs) := by
  unfold En.isL at h
  split at h
  · rename_i xs e
    obtain ⟨p, o, e2, e3, vs, rfl, rs⟩ := R.ownAt e
    exact ⟨p, vs, e2, R.oh _ _ e3⟩
  · rename_i n e
    split at h
    · rename_i xs e4
      obtain ⟨v, e2, a, ea, rfl⟩ := R.sl i _ e
      obtain ⟨o, e3, vs, rfl, rs⟩ := R.ob.at_ n a _ e4 ea
      exact ⟨a, vs, e2, e3⟩
    · cases h
  · cases h
end
section
variable {C : Cfg} {k : Nat} {X : Cx} {cc : CC}
def rdS (K : PySem.W.Frag) (mg : Str → Option Value) (C : Cfg) (ir : IS) : TS := fun D0 σ H => ∃ (G : Hp) (g : Gh) (en : En) (P : Po), REn K mg G g H σ en ∧ wS C ir en P XF ∧ Fin K mg G g P D0
def rdSs (K : PySem.W.Frag) (mg : Str → Option Value) (C : Cfg) (irs : List IS) : TS := fun D0 σ H => ∃ (G : Hp) (g : Gh) (en : En) (P : Po), REn K mg G g H σ en ∧ wSs C irs en P XF ∧ Fin K mg G g P D0
theorem _root_.L2.PS.imp {s : Stmt} {t t' : TS} (h : PS X s t) (i : ∀ D0 σ H, t' D0 σ H → t D0 σ H) : PS X s t' := ⟨fun pins s σ H D0 I q => h.run pins s σ H D0 I (i D0 σ H q)⟩
theorem _root_.L2.PSs.imp {s : List Stmt} {t t' : TS} (h : PSs X s t) (i : ∀ D0 σ H, t' D0 σ H → t D0 σ H) : PSs X s t' := ⟨fun pins s σ H D0 I q => h.run pins s σ H D0 I (i D0 σ H q)⟩
theorem psNil : PSs X [] (rdSs X.K X.mg C []) := pss_nil.imp fun D0 σ H ⟨G, g, en, P, R, w, f⟩ => f.nx σ g H en R (.refl g) w
theorem psCons {s : Stmt} {ss : List Stmt} {i : IS} {is : List IS} (h1 : PS X s (rdS X.K X.mg C i)) (h2 : PSs X ss (rdSs X.K X.mg C is)) : PSs X (s :: ss) (rdSs X.K X.mg C (i :: is)) :=
  (pss_cons h1 h2).imp fun D0 σ H ⟨G, g, en, P, R, w, f⟩ => ⟨G, g, en, { P with nx := fun en' => wSs C is en' P XF }, R, w, ⟨fun σ' g' H' en' R' e w' => ⟨G, g', en', P, R', w', f.ext e⟩, f.bk, f.ct, f.rt⟩⟩
theorem sw_none {e : Expr} {o : Option Expr} {l : Nat} {env : Env} (h : isComp e = false) : swapsWith e o l env = pure false := by
  cases e <;> first | rfl | (cases h; done)
theorem sw_sole {e t : Expr} {l : Nat} {env : Env} (h : isComp e = false) : swapsWithSole [t] e l env = pure false := sw_none h
theorem psExpr {e : Expr} {ir : IE} {p : Pos} (hc : isComp e = false) (he : PE X e (rdE X.K X.mg C ir)) : PS X (.Expr e p) (rdS X.K X.mg C (.expr ir)) :=
  (ps_expr he (sw_none hc)).imp fun D0 σ H ⟨G, g, en, P, R, w, f⟩ => ⟨G, g, en, _, R, w, fun v g' H' r en' R' e' rr w' => f.nx σ g' H' en' R' e'.to0 w'⟩
theorem psRet {e : Expr} {ir : IE} {p : Pos} (he : PE X e (rdE X.K X.mg C ir)) : PS X (.Return (some e) p) (rdS X.K X.mg C (.ret ir)) :=
  (ps_ret he).imp fun D0 σ H ⟨G, g, en, P, R, w, f⟩ => ⟨G, g, en, _, R, w, fun v g' H' r en' R' e' rr w' => f.rt v g'.F g'.am H' r.out en'.ob R'.leave e'.F e'.am (rr.out R') w'⟩
theorem psRetN {p : Pos} : PS X (.Return none p) (rdS X.K X.mg C (.ret (.c .non))) :=
  ps_retN.imp fun D0 σ H ⟨G, g, en, P, R, w, f⟩ => f.rt .non g.F g.am H (.fz .non) en.ob R.leave (Same.refl _) List.prefix_rfl rfl w
theorem psIf {t : Expr} {a b : List Stmt} {it : IE} {ia ib : List IS} {p : Pos} (ht : PT X t (rdT X.K X.mg C it)) (ha : PSs X a (rdSs X.K X.mg C ia)) (hb : PSs X b (rdSs X.K X.mg C ib)) : PS X (.If t a b p) (rdS X.K X.mg C (.ite it ia ib)) := by
  refine (ps_if ht ha hb).imp fun D0 σ H ⟨G, g, en, P, R, w, f⟩ => ⟨G, g, en, _, R, w, fun c g' H' en' R' e' w' => ?_⟩
  cases c with
  | true => exact ⟨G, g', en', P, R', w', f.ext e'.to0⟩
  | false => exact ⟨G, g', en', P, R', w', f.ext e'.to0⟩
theorem psBrk {p : Pos} : PS X (.Break p) (rdS X.K X.mg C .brk) := ps_break.imp fun D0 σ H ⟨G, g, en, P, R, w, f⟩ => f.bk σ g H en R (.refl g) w
theorem psCont {p : Pos} : PS X (.Continue p) (rdS X.K X.mg C .cont) := ps_continue.imp fun D0 σ H ⟨G, g, en, P, R, w, f⟩ => f.ct σ g H en R (.refl g) w
theorem psPass {p : Pos} : PS X (.Pass p) (rdS X.K X.mg C .pass) := ps_pass.imp fun D0 σ H ⟨G, g, en, P, R, w, f⟩ => f.nx σ g H en R (.refl g) w
theorem psStuck {s : Stmt} : PS X s (rdS X.K X.mg C .stuck) := ⟨fun pins s σ H D0 I ⟨G, g, en, P, R, w, f⟩ => w.elim⟩
/-! ### stores -/
theorem asg_of {i : Nat} {ir : IE} {D0 : Ends} {σ : L2.St} {H : Hp} (h : rdS X.K X.mg C (.set i ir) D0 σ H) : tAsg (rdE X.K X.mg C ir) (gName i) D0 σ H := by
  obtain ⟨G, g, en, P, R, w, f⟩ := h
  refine ⟨G, g, en, _, R, w, fun v g' H' r en' R' e' rr w' => ?_⟩
  obtain ⟨g2, R2, e2⟩ := rr.store R' i
  exact f.nx _ g2 H' _ R2 (e'.to0.trans e2) w'
theorem psSet (O : Ok8 C k X cc) {x : Str} {i : Nat} {e : Expr} {ir : IE} {px p : Pos} (h : cSto cc x = some i) (hc : swapsWith e (some (.Name x px)) p.line X.env = pure false) (he : PE X e (rdE X.K X.mg C ir)) : PS X (.Assign [.Name x px] e p) (rdS X.K X.mg C (.set i ir)) := by
  obtain ⟨h1, h2, h3⟩ := sto_of O h
  exact (ps_set O.nd h1 h2 he hc h3).imp fun D0 σ H q => asg_of q
theorem REn.share {K : PySem.W.Frag} {mg : Str → Option Value} {G : Hp} {g : Gh} {H : Hp} {σ : L2.St} {en : En} {d : D} (R : REn K mg G g H σ en) (i : Nat) {p : Addr} {o : HO} (hp : H p = some o) (c : Con K mg g.am g.F p d o) (hF : g.F p = none) (hO : g.O p = none) (hG : G p = none) (hA : p ∉ g.am) :
    REn K mg G ⟨g.F, g.O, g.am ++ [p]⟩ H (σ.set i (some (.ref p))) { en with sl := en.sl.set i (.fz (.obj en.ob.length)), ob := en.ob ++ [.con d] } := by
  have pre : g.am <+: g.am ++ [p] := ⟨[p], rfl⟩
  have R1 : REn K mg G ⟨g.F, g.O, g.am ++ [p]⟩ H σ { en with ob := en.ob ++ [.con d] } := by
    refine ⟨R.fh, R.oh, R.gh, R.fo, R.fg, R.len, fun j s e => SlOk.mono (g := g) (g' := ⟨g.F, g.O, g.am ++ [p]⟩) (Same.refl g.F) pre (fun _ _ _ _ _ q => q) (R.sl j s e), R.inj, ⟨?_, ?_, fun a ha => ?_, fun n a x e1 e2 => ?_⟩⟩
    · rw [List.length_append, List.length_append, R.ob.len]
      rfl
    · exact List.nodup_append.mpr ⟨R.ob.nd, by simp, fun a ha b hb z => hA (by rw [List.mem_singleton.mp hb] at z; exact z ▸ ha)⟩
    · rcases List.mem_append.mp ha with z | z
      · exact R.ob.fr a z
      · rw [List.mem_singleton.mp z]
        exact ⟨hF, hO, hG⟩
    · by_cases hn : n < en.ob.length
      · rw [List.getElem?_append_left hn] at e1
        have e2 : (g.am ++ [p])[n]? = some a := e2
        rw [List.getElem?_append_left (by rw [← R.ob.len]; exact hn)] at e2
        exact ObOk.mono (g := g) (g' := ⟨g.F, g.O, g.am ++ [p]⟩) (Same.refl g.F) pre (R.ob.at_ n a x e1 e2)
      · have hn2 : n = en.ob.length := by
          have z := (List.getElem?_eq_some_iff.mp e1).1
          rw [List.length_append, List.length_singleton] at z
          omega
        subst hn2
        have e2 : (g.am ++ [p])[en.ob.length]? = some a := e2
        rw [List.getElem?_append_right (Nat.le_refl _), Nat.sub_self] at e1
        rw [R.ob.len, List.getElem?_append_right (Nat.le_refl _), Nat.sub_self] at e2
        cases e1
        cases e2
        exact ⟨o, hp, c.mono (Same.refl _) pre⟩
  exact R1.put i (d := .obj en.ob.length) ⟨p, by show (g.am ++ [p])[en.ob.length]? = some p; rw [R.ob.len, List.getElem?_append_right (Nat.le_refl _), Nat.sub_self]; rfl, rfl⟩
theorem psSetO (O : Ok8 C k X cc) {x : Str} {i : Nat} {e : Expr} {ir : IE} {px p : Pos} (h : cSto cc x = some i) (hc : isComp e = false) (he : PE X e (rdE X.K X.mg C ir)) : PS X (.Assign [.Name x px] e p) (rdS X.K X.mg C (.setO i ir)) := by
  obtain ⟨h1, h2, h3⟩ := sto_of O h
  refine (ps_set O.nd h1 h2 he (sw_none hc) h3).imp fun D0 σ H ⟨G, g, en, P, R, w, f⟩ => ?_
  refine ⟨G, g, en, _, R, w, fun v g' H' r en' R' e' rr w' => ?_⟩
  cases r with
  | ow d =>
    obtain ⟨p, o, rfl, hp, c, h1, h2, h3, h4⟩ := rr
    exact f.nx _ _ H' _ (R'.share i hp c h1 h2 h3 h4) (e'.to0.trans ⟨Same.refl _, ⟨[p], rfl⟩⟩) w'
  | _ => exact w'.elim
theorem set_of {is : List Nat} {ir : IE} {D0 : Ends} {σ : L2.St} {H : Hp} (h : rdS X.K X.mg C (.tset is ir) D0 σ H) : tAsg (rdE X.K X.mg C ir) (rdG X.K X.mg (.t is)) D0 σ H := by
  obtain ⟨G, g, en, P, R, w, f⟩ := h
  refine ⟨G, g, en, _, R, w, fun v g' H' r en' R' e' rr w' => ?_⟩
  obtain ⟨g2, R2, e2, held⟩ := rr.esc R'
  obtain ⟨sl, es, w'⟩ := the_some w'
  exact ⟨G, g2, en'.frz r, r.d, sl, R2, held, es, fun σ' R3 _ _ => f.nx σ' g2 H' _ R3 (e'.trans e2).to0 w'⟩
theorem psTset (O : Ok8 C k X cc) {ts : List Expr} {is : List Nat} {e : Expr} {ir : IE} {n : Nat} {pt p : Pos} (h : cStos cc ts = some is) (hc : isComp e = false) (hw : swappedStores [.Tuple ts n pt] e X.env = pure none) (he : PE X e (rdE X.K X.mg C ir)) :
    PS X (.Assign [.Tuple ts n pt] e p) (rdS X.K X.mg C (.tset is ir)) :=
  (ps_asg he (pgT O (tg := .Tuple ts n pt) (t := .t is) (show (cStos cc ts).map Tg.t = some (.t is) by rw [h]; rfl)) (sw_sole hc) hw rfl).imp fun D0 σ H q => set_of q
theorem cLocs_cons {t : Expr} {ts : List Expr} {is : List Nat} (h : cLocs cc (t :: ts) = some is) : ∃ x p i is', t = .Name x p ∧ cLoc cc x = some i ∧ cLocs cc ts = some is' ∧ is = i :: is' := by
  cases t <;> first | (cases h; done) | skip
  obtain ⟨i, e1, h⟩ := Option.bind_eq_some_iff.mp h
  obtain ⟨is', h, e⟩ := Option.map_eq_some_iff.mp h
  exact ⟨_, _, i, is', rfl, e1, h, e.symm⟩
/-- two results, kept apart while they are made, go to two names -/
theorem par_of {ia ib : IE} {i j : Nat} {D0 : Ends} {σ : L2.St} {H : Hp} (h : rdS X.K X.mg C (.par i j ia ib) D0 σ H) : tCons (rdE X.K X.mg C ia) (tCons (rdE X.K X.mg C ib) tNil) σ H fun vs H1 => ∃ v w, vs = [v, w] ∧ D0.nx ((σ.set i (some v)).set j (some w)) H1 := by
  obtain ⟨G, g, en, P, R, w, f⟩ := h
  refine ⟨G, g, en, _, R, w, fun v g1 H1 r en1 R1 e1 rr w1 => ?_⟩
  have held : (∀ d, r ≠ .ow d) → ∃ g2, REn X.K X.mg G g2 H1 σ (en1.frz r) ∧ Ext g1 g2 ∧ Rep X.K X.mg g2.am g2.F r.d v := fun _ => rr.esc R1
  have two : ∀ (G' : Hp) (g2 g3 : Gh) (H3 : Hp) (en3 : En) (w' : V) (s : Tk.R), REn X.K X.mg G' g3 H3 σ en3 → Ext g2 g3 → RRes X.K X.mg G' g3 H3 σ en3 w' s → ∃ g4, REn X.K X.mg G' g4 H3 σ { en3 with sl := frzS s en3.sl } ∧ Ext g2 g4 ∧
      ((toSl s = .fz s.d ∧ Rep X.K X.mg g4.am g4.F s.d w') ∨ ∃ p o, toSl s = .ow s.d ∧ w' = .ref p ∧ H3 p = some o ∧ Con X.K X.mg g4.am g4.F p s.d o ∧ g4.F p = none ∧ g4.O p = none ∧ G' p = none ∧ p ∉ g4.am) := fun G' g2 g3 H3 en3 w' s R3 e3 rr3 => by
    cases s with
    | fz d => exact ⟨g3, R3, e3, .inl ⟨rfl, rr3⟩⟩
    | ow d =>
      obtain ⟨p, o, rfl, hp, c, h1, h2, h3, h4⟩ := rr3
      exact ⟨g3, R3, e3, .inr ⟨p, o, rfl, rfl, hp, c, h1, h2, h3, h4⟩⟩
    | rf k d =>
      obtain ⟨g4, R4, e4, q⟩ := R3.freeze rr3.1
      exact ⟨g4, R4, e3.trans e4, .inl ⟨rfl, q _ rr3.2⟩⟩
  by_cases hr : ∃ d, r = .ow d
  · obtain ⟨d, rfl⟩ := hr
    obtain ⟨p, o, rfl, hp, c, h1, h2, h3, h4⟩ := rr
    have Rg : REn X.K X.mg (upd G p o) g1 H1 σ en1 := by
      have z := R1.guardIn hp h1 h2 h4
      exact z
    refine ⟨upd G p o, g1, en1, _, Rg, w1, fun w' g3 H3 s en3 R3 e3 rr3 w3 => ⟨_, _, rfl, ?_⟩⟩
    obtain ⟨g4, R4, e4, hs⟩ := two _ g1 g3 H3 en3 w' s R3 e3 rr3
    have hp4 : H3 p = some o := R4.gh p o upd_same
    obtain ⟨f1, f2⟩ := R4.fg p o upd_same
    have am : p ∉ g4.am := fun h => by
      have z := (R4.ob.fr p h).2.2
      rw [upd_same] at z
      cases z
    have R5 := (R4.guardDrop h3).putOw i hp4 (c.mono e4.F e4.am) f1 f2 h3 am
    have eE : Ext0 g ⟨g4.F, upd g4.O p o, g4.am⟩ := e1.to0.trans (e4.to0.trans ⟨Same.refl _, List.prefix_rfl⟩)
    rcases hs with ⟨hs, rp⟩ | ⟨p2, o2, hs, rfl, hp2, c2, a1, a2, a3, a4⟩
    · exact f.nx _ _ H3 _ (R5.put j rp) eE (by rw [hs] at w3; exact w3)
    · have ne : p2 ≠ p := fun z => by subst z; rw [upd_same] at a3; cases a3
      exact f.nx _ _ H3 _ (R5.putOw j hp2 c2 a1 ((upd_ne ne).trans a2) ((upd_ne ne).symm.trans a3) a4) (eE.trans ⟨Same.refl _, List.prefix_rfl⟩) (by rw [hs] at w3; exact w3)
  · obtain ⟨g2, R2, e2, rp1⟩ := held fun d z => hr ⟨d, z⟩
    refine ⟨G, g2, en1.frz r, _, R2, w1, fun w' g3 H3 s en3 R3 e3 rr3 w3 => ⟨_, _, rfl, ?_⟩⟩
    obtain ⟨g4, R4, e4, hs⟩ := two _ g2 g3 H3 en3 w' s R3 e3 rr3
    have R5 := R4.put i (Rep.mono e4.F e4.am _ _ rp1)
    have ts : toSl r = .fz r.d := by
      cases r with
      | ow d => exact absurd ⟨d, rfl⟩ hr
      | _ => rfl
    rw [ts] at w3
    have eE : Ext0 g g4 := e1.to0.trans (e2.to0.trans e4.to0)
    rcases hs with ⟨hs, rp⟩ | ⟨p2, o2, hs, rfl, hp2, c2, a1, a2, a3, a4⟩
    · exact f.nx _ _ H3 _ (R5.put j rp) eE (by rw [hs] at w3; exact w3)
    · exact f.nx _ _ H3 _ (R5.putOw j hp2 c2 a1 a2 a3 a4) (eE.trans ⟨Same.refl _, List.prefix_rfl⟩) (by rw [hs] at w3; exact w3)
theorem psPar (O : Ok8 C k X cc) {ts : List Expr} {a b : Expr} {i j : Nat} {ia ib : IE} {n m : Nat} {pt pv p : Pos} (h : cLocs cc ts = some [i, j]) (hnd : [i, j].Nodup) (hp : isPar ts [a, b] = true) (ns : isStar a = false ∧ isStar b = false) (ha : PE X a (rdE X.K X.mg C ia)) (hb : PE X b (rdE X.K X.mg C ib)) :
    PS X (.Assign [.Tuple ts n pt] (.Tuple [a, b] m pv) p) (rdS X.K X.mg C (.par i j ia ib)) := by
  unfold isPar at hp
  simp only [Bool.and_eq_true, beq_iff_eq, Bool.not_eq_true'] at hp
  obtain ⟨⟨⟨⟨⟨h1, h2⟩, h3⟩, h4⟩, h5⟩, h6⟩ := hp
  match ts, h1 with
  | [t1, t2], _ =>
    obtain ⟨x, px, i', is', rfl, e1, h7, e7⟩ := cLocs_cons h
    obtain ⟨y, py, j', is'', rfl, e2, h8, e8⟩ := cLocs_cons h7
    cases h8
    cases e8
    cases e7
    · skip
      obtain ⟨x1, x2, x3⟩ := loc_of O e1
      obtain ⟨y1, y2, y3⟩ := loc_of O e2
      have hij : i ≠ j := fun z => by subst z; simp at hnd
      have hxy : x ≠ y := fun z => hij (by subst z; rw [e1] at e2; exact Option.some.inj e2)
      have kx : X.env.kindOf x = some .local := x3
      have ky : X.env.kindOf y = some .local := y3
      have ln : py.line = px.line := by
        simp only [List.all_cons, List.all_nil, Bool.and_true, Bool.and_eq_true, beq_iff_eq] at h4
        exact h4.2
      have eds : [x, y].eraseDups.length = 2 := by
        have hb : (y == x) = false := by
          rw [beq_eq_false_iff_ne]
          exact fun z => hxy z.symm
        simp [List.eraseDups_cons, hb]
      refine ⟨fun pins s σ H D0 I ⟨G, g, en, P, R, w, f⟩ => ?_⟩
      have hbk : X.env.blockKind = .function := by
        unfold Env.blockKind
        rw [I.ok.kind]
        rfl
      have hw : swappedStores [.Tuple [.Name x px, .Name y py] n pt] (.Tuple [a, b] m pv) X.env = pure (some [x, y]) := by
        unfold swappedStores
        have s4 : ∀ e : Expr, (match e with | .Starred .. => true | _ => false) = isStar e := fun e => by cases e <;> rfl
        have s3 : isStar a = false ∧ isStar b = false := by
          simp only [List.any_cons, List.any_nil, Bool.or_false, Bool.or_eq_false_iff] at h3
          exact h3
        simp only [List.length_cons, List.length_nil, hbk, kx, ky, ln, List.filterMap_cons, List.filterMap_nil, List.head?_cons, Option.map_some, Option.getD_some, Expr.pos, h5, h6, List.any_cons, List.any_nil, s4, s3.1, s3.2]
        simp [eds]
        intro h
        exfalso
        rcases h with h | h
        · have z := s3.1
          cases a <;> first | (cases z; done) | (cases h; done)
        · have z := s3.2
          cases b <;> first | (cases z; done) | (cases h; done)
      exact (ps_par (i := i) (j := j) (X := X) (pt2 := pv) (k2 := m) (kt := n) (pt := pt) (px := px) (py := py) O.calm O.nd x1 y1 hij x3 y3 (pa_cons ha (pa_cons hb pa_nil (star_of ns.2)) (star_of ns.1)) hw (sw_sole rfl)).run pins s σ H D0 I (par_of ⟨G, g, en, P, R, w, f⟩)
theorem ps_parC {X : Cx} {pos : Pos} {i j : Nat} {x y : Str} {a b : Expr} {ta : TA} {px py pt : Pos} {kt k2 pt2} (hc : X.calm = true) (hN : X.N.Nodup) (hi : X.N[i]? = some x) (hj : X.N[j]? = some y)
    (hx : Loc X.env.scope x) (hy : Loc X.env.scope y) (fx : X.fn x = true ∨ X.env.scope.names.lookup x = some .local) (fy : X.fn y = true ∨ X.env.scope.names.lookup y = some .local) (ha : PA X [a, b] ta)
    (hw : swappedStores [.Tuple [.Name x px, .Name y py] kt pt] (.Tuple [a, b] k2 pt2) X.env = pure none)
    (hs : swapsWithSole [.Tuple [.Name x px, .Name y py] kt pt] (.Tuple [a, b] k2 pt2) pos.line X.env = pure false := by rfl) :
    PS X (.Assign [.Tuple [.Name x px, .Name y py] kt pt] (.Tuple [a, b] k2 pt2) pos) (tPar i j ta) := by
  refine ⟨fun pins s σ H D I h => ?_⟩
  refine wpAny_Assign_stores (Tuple_ (thn (ha.run _ pins s σ H _ I h) fun us s1 ⟨vs, H1, I1, r1, q1⟩ => ?_)) hs hw
  obtain ⟨v, w, e1, q1⟩ := q1
  subst e1
  obtain ⟨u1, u2, rfl, rv, rw'⟩ : ∃ u1 u2, us = [u1, u2] ∧ RelV v u1 ∧ RelV w u2 := by
    cases r1 with
    | cons p q =>
      cases q with
      | cons p' q' =>
        cases q'
        exact ⟨_, _, rfl, p, p'⟩
  refine wpAny_newObj_type ?_ (by show 2 ≤ sizeLine; decide)
  have I2 : Inv X pins σ H1 { s1 with heap := s1.heap.push { cls := .type "tuple", data := .seq [u1, u2].toArray } } := I1.kept (t' := s1.toks) fun b o e => Heap.get?_push_of_some _ e
  show wpAny (model X.prog X.w) X.A (assign (.Tuple [.Name x px, .Name y py] kt pt) X.env (.ref s1.heap.objs.size)) _ _ _
  refine assign_Tuple_tuple (items := #[u1, u2]) (I.ok.hd hc) (IsTup.new s1.heap _) rfl rfl fun h' hx' => ?_
  have I3 := I2.kept (h' := h') (t' := s1.toks) fun b o e => hx' b o (Nat.ne_of_lt (Heap.lt_size e)) e
  exact (pgs_cons (pg_name (pos := px) hN hi hx fx) (pgs_cons (pg_name (pos := py) hN hj hy fy) pgs_nil)).run pins _ σ H1 [v, w] [u1, u2] _ I3 (.cons rv (.cons rw' .nil)) ⟨v, [w], rfl, w, [], rfl, rfl, q1⟩
theorem cStos_cons {t : Expr} {ts : List Expr} {is : List Nat} (h : cStos cc (t :: ts) = some is) : ∃ x p i is', t = .Name x p ∧ cSto cc x = some i ∧ cStos cc ts = some is' ∧ is = i :: is' := by
  cases t <;> first | (cases h; done) | skip
  obtain ⟨i, e1, h⟩ := Option.bind_eq_some_iff.mp h
  obtain ⟨is', h, e⟩ := Option.map_eq_some_iff.mp h
  exact ⟨_, _, i, is', rfl, e1, h, e.symm⟩
theorem psParC (O : Ok8 C k X cc) {ts : List Expr} {a b : Expr} {i j : Nat} {ia ib : IE} {n m : Nat} {pt pv p : Pos} (h : cStos cc ts = some [i, j]) (hnd : [i, j].Nodup) (hp : isParC cc ts [a, b] = true) (ns : isStar a = false ∧ isStar b = false) (ha : PE X a (rdE X.K X.mg C ia)) (hb : PE X b (rdE X.K X.mg C ib)) :
    PS X (.Assign [.Tuple ts n pt] (.Tuple [a, b] m pv) p) (rdS X.K X.mg C (.par i j ia ib)) := by
  unfold isParC at hp
  simp only [Bool.and_eq_true, beq_iff_eq, Bool.not_eq_true'] at hp
  obtain ⟨⟨⟨h1, h2⟩, h3⟩, h4⟩ := hp
  match ts, h1 with
  | [t1, t2], _ =>
    obtain ⟨x, px, i', is', rfl, e1, h7, e7⟩ := cStos_cons h
    obtain ⟨y, py, j', is'', rfl, e2, h8, e8⟩ := cStos_cons h7
    cases h8
    cases e8
    cases e7
    obtain ⟨x1, x2, x3⟩ := sto_of O e1
    obtain ⟨y1, y2, y3⟩ := sto_of O e2
    refine ⟨fun pins s σ H D0 I ⟨G, g, en, P, R, w, f⟩ => ?_⟩
    have kk : X.env.kindOf x = some .cell ∨ X.env.kindOf y = some .cell := by
      simp only [List.any_cons, List.any_nil, Bool.or_false, Bool.or_eq_true] at h4
      have ck : ∀ z pz, isCell cc (.Name z pz) = true → X.env.kindOf z = some .cell := fun z pz hz => by
        show X.env.scope.names.lookup z = _
        rw [O.sc]
        have hz : (match cc.kind z with | some .cell => true | _ => false) = true := hz
        split at hz
        · assumption
        · cases hz
      exact h4.imp (ck _ _) (ck _ _)
    have hw : swappedStores [.Tuple [.Name x px, .Name y py] n pt] (.Tuple [a, b] m pv) X.env = pure none := by
      have fl : ∀ z pz line, X.env.kindOf z = some .cell → (if X.env.kindOf z == some .local && Pos.line pz == line then some z else none) = none := fun z pz line hz => by rw [hz]; rfl
      have nl : ∀ line, ([Expr.Name x px, .Name y py].filterMap fun | .Name id pos => if X.env.kindOf id == some .local && pos.line == line then some id else none | _ => none).length ≠ 2 := fun line => by
        rcases kk with kz | kz
        · simp only [List.filterMap_cons, fl _ _ _ kz, List.filterMap_nil]
          split <;> simp
        · simp only [List.filterMap_cons, fl _ _ _ kz, List.filterMap_nil]
          split <;> simp
      unfold swappedStores
      simp only []
      split
      · rfl
      split
      · rfl
      rw [if_pos]
      rw [Bool.or_eq_true]
      exact .inl (bne_iff_ne.mpr (nl _))
    exact (ps_parC (i := i) (j := j) (X := X) (pt2 := pv) (k2 := m) (kt := n) (pt := pt) (px := px) (py := py) O.calm O.nd x1 y1 x2 y2 x3 y3 (pa_cons ha (pa_cons hb pa_nil (star_of ns.2)) (star_of ns.1)) hw (sw_sole rfl)).run pins s σ H D0 I (par_of ⟨G, g, en, P, R, w, f⟩)
theorem psAug (O : Ok8 C k X cc) {x : Str} {i : Nat} {o : Op} {op : Operator} {e : Expr} {ir : IE} {px p : Pos} (h : cSto cc x = some i) (ho : (op = .Add ∧ o = .add) ∨ (op = .Sub ∧ o = .sub)) (he : PE X e (rdE X.K X.mg C ir)) : PS X (.AugAssign (.Name x px) op e p) (rdS X.K X.mg C (.aug i o ir)) := by
  obtain ⟨h1, h2, h3⟩ := sto_of O h
  have go : ∀ (f : Int → Int → Int), (∀ a b, augI o a b = f a b) → PIp X op (ipI f) → PS X (.AugAssign (.Name x px) op e p) (rdS X.K X.mg C (.aug i o ir)) := fun f hf hp => by
    refine (ps_aug O.nd h1 h2 he hp h3).imp fun D0 σ H ⟨G, g, en, P, R, w, fn⟩ => ?_
    simp only [wS] at w
    split at w
    · rename_i k0 ek
      obtain ⟨v, ev, rv⟩ := R.sl i _ ek
      refine ⟨v, ev, G, g, en, _, R, w, fun y g' H' r en' R' e' rr w' => ?_⟩
      split at w'
      · rename_i j ej
        obtain ⟨g2, R2, e2, op⟩ := rr.op R'
        rw [ej] at op
        refine ⟨k0, j, rv, op.int, fn.nx _ g2 H' _ (R2.put i (d := .int (f k0 j)) rfl) (e'.trans e2).to0 ?_⟩
        rw [hf] at w'
        exact w'
      · exact w'.elim
    · exact w.elim
  rcases ho with ⟨rfl, rfl⟩ | ⟨rfl, rfl⟩
  · exact go _ (fun _ _ => rfl) ip_add
  · exact go _ (fun _ _ => rfl) ip_sub
theorem mut_lst {m : Mu} {z x y : D} (e : mutD m x z = some y) : ∃ xs ys, x = .lst xs ∧ y = .lst ys := by
  cases m with
  | append =>
    cases x <;> first | (cases e; done) | skip
    obtain ⟨_, e⟩ := guardO_some e
    cases e
    exact ⟨_, _, rfl, rfl⟩
  | extend =>
    cases x <;> first | (cases e; done) | skip
    cases z <;> first | (cases e; done) | skip
    obtain ⟨_, e⟩ := guardO_some e
    cases e
    exact ⟨_, _, rfl, rfl⟩
theorem var_of (O : Ok8 C k X cc) {x : Str} {i : Nat} {px : Pos} (h : cVar cc x = some i) : PE X (.Name x px) (tVar i) := by
  obtain ⟨h1, h2, h3⟩ := cVar_of h
  obtain ⟨d1, d2⟩ := isDbg_of h1
  exact pe_var (i := i) (x := x) (by rw [O.N]; exact h2) (by unfold Vis; rw [O.sc]; exact h3) d1 d2
theorem psApp (O : Ok8 C k X cc) {x : Str} {i : Nat} {e : Expr} {ir : IE} {px ap cp p : Pos} (h : cVar cc x = some i) (hl : (ap.endLine == cp.line) = true) (hs : isStar e = false) (he : PE X e (rdE X.K X.mg C ir)) : PS X (.Expr (.Call (.Attribute (.Name x px) "append" ap) [e] [] cp) p) (rdS X.K X.mg C (.mut i .append ir)) := by
  have st : starEach [e] X.env = (false, eval e X.env) :: starEach [] X.env := star_of hs
  have z := pe_bm (cpos := cp) PySem.F.plainAttrs_list PySem.F.slot_list_append PySem.F.type_list_append mt_append (var_of O (px := px) h) (pa_cons he pa_nil st) rfl (by rw [st]; rfl) hl st rfl
  refine (ps_expr z rfl).imp fun D0 σ H ⟨G, g, en, P, R, w, f⟩ => ?_
  obtain ⟨w0, w⟩ := w
  obtain ⟨q, us, eq, hq⟩ := R.isL w0
  refine ⟨.ref q, eq, .inl ⟨rfl, us, SqL.of hq⟩, G, g, en, _, R, w, fun y g1 H1 r en1 R1 e1 rr w1 => ?_⟩
  obtain ⟨g2, R2, e2, held⟩ := rr.esc R1
  obtain ⟨en3, e3, w3⟩ := the_some w1
  obtain ⟨p', vs, xs, ys, a1, a2, a3, a4, a5⟩ := R2.chgL e3 fun x y e => mut_lst e
  rw [eq] at a1
  cases a1
  obtain ⟨hz, a3⟩ := guardO_some (show guardO (decide (xs.length < big)) (some (D.lst (xs ++ [r.d]))) = some (.lst ys) from a3)
  cases a3
  obtain ⟨g4, R4, e4⟩ := a5 (vs ++ [y]) (a4.append ⟨y, [], rfl, held, rfl⟩)
  exact ⟨q, vs, y, rfl, rfl, a2, by rw [a4.length, ← big_line]; exact of_decide_eq_true hz, f.nx _ g4 _ _ R4 ((e1.trans e2).to0.trans e4) w3⟩
theorem psExt (O : Ok8 C k X cc) {x : Str} {i : Nat} {e : Expr} {ir : IE} {px ap cp p : Pos} (h : cVar cc x = some i) (hl : (ap.endLine == cp.line) = true) (hs : isStar e = false) (he : PE X e (rdE X.K X.mg C ir)) : PS X (.Expr (.Call (.Attribute (.Name x px) "extend" ap) [e] [] cp) p) (rdS X.K X.mg C (.mut i .extend ir)) := by
  have st : starEach [e] X.env = (false, eval e X.env) :: starEach [] X.env := star_of hs
  have z := pe_bm (cpos := cp) PySem.F.plainAttrs_list PySem.F.slot_list_extend PySem.F.type_list_extend mt_extend (var_of O (px := px) h) (pa_cons he pa_nil st) rfl (by rw [st]; rfl) hl st rfl
  refine (ps_expr z rfl).imp fun D0 σ H ⟨G, g, en, P, R, w, f⟩ => ?_
  obtain ⟨w0, w⟩ := w
  obtain ⟨q, us, eq, hq⟩ := R.isL w0
  refine ⟨.ref q, eq, .inl ⟨rfl, us, SqL.of hq⟩, G, g, en, _, R, w, fun y g1 H1 r en1 R1 e1 rr w1 => ?_⟩
  obtain ⟨g2, R2, e2, held⟩ := rr.esc R1
  obtain ⟨en3, e3, w3⟩ := the_some w1
  obtain ⟨p', vs, xs, ys, a1, a2, a3, a4, a5⟩ := R2.chgL e3 fun x y e => mut_lst e
  rw [eq] at a1
  cases a1
  cases hd : r.d with
  | lst zs =>
    rw [hd] at a3 held
    obtain ⟨hz, a3⟩ := guardO_some (show guardO (decide (xs.length + zs.length ≤ big)) (some (D.lst (xs ++ zs))) = some (.lst ys) from a3)
    cases a3
    obtain ⟨b, ws, rfl, b1, b2⟩ := held
    obtain ⟨g4, R4, e4⟩ := a5 (vs ++ ws) (a4.append b2)
    exact ⟨q, b, vs, ws, rfl, rfl, a2, R2.fh _ _ b1, by rw [a4.length, b2.length, ← big_line]; exact of_decide_eq_true hz, f.nx _ g4 _ _ R4 ((e1.trans e2).to0.trans e4) w3⟩
  | _ => rw [hd] at a3; cases a3
theorem put_some {z x y k0 : D} (e : putD x k0 z = some y) : (∃ xs ys j, x = .lst xs ∧ y = .lst ys ∧ k0 = .int j) ∨ ∃ kvs, x = .dic kvs ∧ y = .dic (putKD kvs k0 z) ∧ isKey k0 = true ∧ kvs.length < big := by
  unfold putD at e
  split at e
  · obtain ⟨k1, _, e⟩ := Option.map_eq_some_iff.mp e
    exact .inl ⟨_, _, _, rfl, e.symm, rfl⟩
  · obtain ⟨h, e⟩ := guardO_some e
    rw [Bool.and_eq_true, decide_eq_true_eq] at h
    cases e
    exact .inr ⟨_, rfl, rfl, h.1, h.2⟩
  · cases e
theorem psPut (O : Ok8 C k X cc) {x : Str} {i : Nat} {e kx : Expr} {ir ik : IE} {px ps p : Pos} (h : cVar cc x = some i) (hc : isComp e = false) (hsl : isSlice kx = false) (hk : PE X kx (rdE X.K X.mg C ik)) (he : PE X e (rdE X.K X.mg C ir)) :
    PS X (.Assign [.Subscript (.Name x px) kx ps] e p) (rdS X.K X.mg C (.put i ik ir)) := by
  have hg : PG X (.Subscript (.Name x px) kx ps) (gSub (tVar i) (rdE X.K X.mg C ik) (fun o i v H Q => rSetL o i v H Q ∨ rSetD X o i v H Q)) := pg_sub (var_of O h) hk (set_or set_list (set_dic O.hu)) fun v => by cases kx <;> first | rfl | (cases hsl; done)
  refine (ps_asg he hg (sw_sole hc) rfl rfl).imp fun D0 σ H ⟨G, g, en, P, R, ⟨w0, w⟩, f⟩ => ?_
  obtain ⟨q, hu⟩ := R.isC w0
  refine ⟨G, g, en, _, R, w, fun v g1 H1 r en1 R1 e1 rr w1 => ?_⟩
  obtain ⟨g2, R2, e2, held⟩ := rr.esc R1
  have w1 : wE C ik (en1.frz r) (fun r2 en2 => the (en2.chg i fun d => putD d r2.d r.d) P.nx) XF := w1
  refine ⟨.ref q, hu, G, g2, _, _, R2, w1, fun v2 g3 H3 r2 en3 R3 e3 rr2 w3 => ?_⟩
  obtain ⟨g4, R4, e4, held4⟩ := rr2.op R3
  obtain ⟨en5, ee, w5⟩ := the_some w3
  obtain ⟨p', ho, x0, y0, a1, a2, a3, a4, a5⟩ := R4.chgC ee
  rw [hu] at a1
  cases a1
  have held := Rep.mono (e3.trans e4).F (e3.trans e4).am _ _ held
  rcases put_some a4 with ⟨xs, ys, j, rfl, rfl, hd⟩ | ⟨kvs, rfl, rfl, hk0, hz⟩
  · rw [hd] at a4 held4
    obtain ⟨vs, rfl, rs⟩ := a3
    obtain ⟨n, en0, a6⟩ := Option.map_eq_some_iff.mp (show (ixN xs.length j).map (fun k => D.lst (xs.set k r.d)) = some (.lst ys) from a4)
    cases a6
    obtain ⟨g6, R6, e6⟩ := a5 (.lst (vs.set n v)) ⟨_, rfl, Reps.set n rs held⟩
    exact .inl ⟨_, vs, j, n, rfl, held4.int, a2, by rw [rs.length]; exact ixN_lt en0, f.nx _ g6 _ _ R6 ((e1.trans (e2.trans (e3.trans e4))).to0.trans e6) w5⟩
  · obtain ⟨o, xs, rfl, B, rs⟩ := a3
    obtain ⟨ks, hks, _, _⟩ := isKey_of hk0
    have held5 : OpV X.K X.mg g4 H3 v2 (.tup ks) := by
      rw [hks] at held4
      exact held4
    have hkr : Rep X.K X.mg g4.am g4.F r2.d v2 := by
      rw [hks]
      exact held5.rep fun xs z => by cases z
    obtain ⟨b, hv2⟩ : ∃ b, v2 = .ref b := by
      rw [hks] at hkr
      obtain ⟨b, _, e, _⟩ := hkr
      exact ⟨b, e⟩
    subst hv2
    refine .inr ⟨q, o, xs, kvs, r2.d, r.d, b, g4.am, g4.F, rfl, rfl, a2, B, R4.fh, rs, hk0, hkr, held, by rw [← big_line]; exact hz, fun o' xs' B' r' => ?_⟩
    obtain ⟨g6, R6, e6⟩ := a5 (AtO q o') ⟨o', xs', rfl, B', r'⟩
    exact f.nx _ g6 _ _ R6 ((e1.trans (e2.trans (e3.trans e4))).to0.trans e6) w5
end
end Tk

/-! Tk, part 17: for, while; every statement that is carried. -/
namespace Tk
open PySem PySem.Spec PyProof.Rows L2

section
variable {C : Cfg} {k : Nat} {X : Cx} {cc : CC}
def LSt (K : PySem.W.Frag) (mg : Str → Option Value) (G : Hp) (g0 : Gh) (step : D → (En → Prop) → En → Prop) (Q : En → Prop) (xs : List D) (i m : Nat) (σ : L2.St) (H : Hp) : Prop :=
  ∃ (g : Gh) (en : En), m = xs.length - i ∧ i ≤ xs.length ∧ Ext0 g0 g ∧ REn K mg G g H σ en ∧ loopW step (xs.drop i) Q en
theorem psFor (O : Ok8 C k X cc) (hp : PassesOwn (model X.prog X.w) X.A X.env X.xe) {tg it : Expr} {body : List Stmt} {t : Tg} {s : Src × List IE} {ib : List IS} {p : Pos} (hi : PI X tg it (rdI X.K X.mg C s.1 s.2)) (hs : ∀ es n p, it ≠ .Set es n p) (hg : PG X tg (rdG X.K X.mg t)) (hb : PSs X body (rdSs X.K X.mg C ib)) :
    PS X (.For tg it body [] p) (rdS X.K X.mg C (.for_ t s.1 s.2 ib)) := by
  refine (ps_for hp O.calm hi hg hb (folded_ok hs)).imp fun D0 σ H ⟨G, g, en, P, R, w, f⟩ => ?_
  let step : D → (En → Prop) → En → Prop := fun x Kk en1 => the (t.put x en1.sl) fun sl' => wSs C ib { en1 with sl := sl' } { P with nx := Kk, ct := Kk, bk := P.nx } XF
  refine ⟨G, g, en, fun xs en' => loopW step xs P.nx en', R, w, fun J g1 H1 xs en1 R1 e1 wk w1 => ?_⟩
  refine ⟨LSt X.K X.mg G g1 step P.nx xs, ⟨_, g1, en1, rfl, Nat.zero_le _, .refl _, R1, w1⟩, fun i m σ2 H2 hW => ?_⟩
  obtain ⟨g2, en2, rfl, hle, e2, R2, w2⟩ := hW
  by_cases hlt : i < xs.length
  · have hx : xs[i]? = some xs[i] := List.getElem?_eq_getElem hlt
    rw [List.drop_eq_getElem_cons hlt] at w2
    have w2 : the (t.put xs[i] en2.sl) (fun sl' => wSs C ib { en2 with sl := sl' } { P with nx := loopW step (xs.drop (i + 1)) P.nx, ct := loopW step (xs.drop (i + 1)) P.nx, bk := P.nx } XF) := w2
    obtain ⟨sl', et, w2⟩ := the_some w2
    refine .inr ⟨wk.go i H2 (e2.F.trans R2.fh) hlt, fun σ' H' => ∃ m', m' < xs.length - i ∧ LSt X.K X.mg G g1 step P.nx xs (i + 1) m' σ' H', fun σ' H' h => h, fun x H' y => ?_⟩
    obtain ⟨g3, R3, e3, r3⟩ := wk.yld i xs[i] _ _ _ _ _ x H' hx R2 e2.F e2.am y
    refine ⟨G, g3, en2, xs[i], sl', R3, r3, et, fun σ4 R4 _ _ => ⟨G, g3, _, _, R4, w2, ?_⟩⟩
    have e13 : Ext0 g1 g3 := e2.trans e3.to0
    have nxt : ∀ σ' g' H' en', REn X.K X.mg G g' H' σ' en' → Ext0 g3 g' → loopW step (xs.drop (i + 1)) P.nx en' → ∃ m', m' < xs.length - i ∧ LSt X.K X.mg G g1 step P.nx xs (i + 1) m' σ' H' := fun σ' g' H' en' R' e' w' =>
      ⟨xs.length - (i + 1), by omega, g', en', rfl, hlt, e13.trans e', R', w'⟩
    exact ⟨nxt, fun σ' g' H' en' R' e' w' => f.nx σ' g' H' en' R' (e1.to0.trans (e13.trans e')) w', nxt, fun v F' am' H' r ob' R' sF sa rr w' => f.rt v F' am' H' r ob' R' ((e1.to0.trans e13).F.trans sF) ((e1.to0.trans e13).am.trans sa) rr w'⟩
  · have ee : i = xs.length := by omega
    subst ee
    rw [List.drop_length] at w2
    exact .inl ⟨wk.stop _ H2 (e2.F.trans R2.fh) rfl, f.nx σ2 g2 H2 en2 R2 (e1.to0.trans e2) w2⟩
theorem psWhile (hp : PassesOwn (model X.prog X.w) X.A X.env X.xe) {t : Expr} {body : List Stmt} {it : IE} {ib : List IS} {p : Pos} (ht : PT X t (rdT X.K X.mg C it)) (hb : PSs X body (rdSs X.K X.mg C ib)) : PS X (.While t body [] p) (rdS X.K X.mg C (.whl it ib)) := by
  refine (ps_while hp ht hb).imp fun D0 σ H ⟨G, g, en, P, R, w, f⟩ => ?_
  obtain ⟨n, w⟩ := w
  let test : (Bool → En → Prop) → En → Prop := fun Q en1 => wT C it en1 Q XF
  let bd : (En → Prop) → En → Prop := fun Kk en1 => wSs C ib en1 { P with nx := Kk, ct := Kk, bk := P.nx } XF
  refine ⟨fun m σ H => ∃ g' en', Ext0 g g' ∧ REn X.K X.mg G g' H σ en' ∧ whileW test bd m P.nx en', ⟨n, g, en, .refl g, R, w⟩, fun m σ2 H2 hW => ?_⟩
  obtain ⟨g2, en2, e2, R2, w2⟩ := hW
  cases m with
  | zero => exact w2.elim
  | succ m =>
    refine ⟨G, g2, en2, _, R2, w2, fun b g3 H3 en3 R3 e3 w3 => ?_⟩
    have e23 : Ext0 g g3 := e2.trans e3.to0
    cases b with
    | true =>
      refine ⟨fun σ' H' => ∃ m', m' < m + 1 ∧ ∃ g' en', Ext0 g g' ∧ REn X.K X.mg G g' H' σ' en' ∧ whileW test bd m' P.nx en', fun σ' H' h => h, G, g3, en3, _, R3, w3, ?_⟩
      have nxt : ∀ σ' g' H' en', REn X.K X.mg G g' H' σ' en' → Ext0 g3 g' → whileW test bd m P.nx en' → ∃ m', m' < m + 1 ∧ ∃ g' en', Ext0 g g' ∧ REn X.K X.mg G g' H' σ' en' ∧ whileW test bd m' P.nx en' := fun σ' g' H' en' R' e' w' => ⟨m, Nat.lt_succ_self m, g', en', e23.trans e', R', w'⟩
      exact ⟨nxt, fun σ' g' H' en' R' e' w' => f.nx σ' g' H' en' R' (e23.trans e') w', nxt, fun v F' am' H' r ob' R' sF sa rr w' => f.rt v F' am' H' r ob' R' (e23.F.trans sF) (e23.am.trans sa) rr w'⟩
    | false => exact f.nx σ2 g3 H3 en3 R3 e23 w3
/-! ### every statement -/
theorem cS_expr {n : Nat} {e : Expr} {p : Pos} {i : IS} (h : cS cc (n + 1) (.Expr e p) = some i) : (isComp e = false ∧ ∃ ir, cE cc n e = some ir ∧ i = .expr ir) ∨
    ∃ x px m ap a cp j ia, e = .Call (.Attribute (.Name x px) m ap) [a] [] cp ∧ (ap.endLine == cp.line) = true ∧ cVar cc x = some j ∧ cE cc n a = some ia ∧ ((m = "append" ∧ i = .mut j .append ia) ∨ (m = "extend" ∧ i = .mut j .extend ia)) := by
  have gen : ∀ {e : Expr}, (if isComp e then none else (cE cc n e).map IS.expr) = some i → (isComp e = false ∧ ∃ ir, cE cc n e = some ir ∧ i = .expr ir) := fun {e} h => by
    split at h
    · cases h
    · rename_i hc
      obtain ⟨ir, e1, h⟩ := Option.map_eq_some_iff.mp h
      exact ⟨by simpa using hc, ir, e1, h.symm⟩
  cases e with
  | Call f es kws cp =>
    cases f with
    | Attribute o m ap =>
      cases o with
      | Name x px =>
        rcases es with _ | ⟨a, _ | ⟨b, es⟩⟩
        · exact .inl (gen h)
        · cases kws with
          | nil =>
            simp only [cS] at h
            split at h
            · cases h
            rename_i hl
            have hl : (ap.endLine == cp.line) = true := by simpa using hl
            split at h
            · rename_i hm
              obtain ⟨j, e1, h⟩ := Option.bind_eq_some_iff.mp h
              obtain ⟨ia, e2, h⟩ := Option.map_eq_some_iff.mp h
              exact .inr ⟨x, px, m, ap, a, cp, j, ia, rfl, hl, e1, e2, .inl ⟨eq_of_beq hm, h.symm⟩⟩
            split at h
            · rename_i hm
              obtain ⟨j, e1, h⟩ := Option.bind_eq_some_iff.mp h
              obtain ⟨ia, e2, h⟩ := Option.map_eq_some_iff.mp h
              exact .inr ⟨x, px, m, ap, a, cp, j, ia, rfl, hl, e1, e2, .inr ⟨eq_of_beq hm, h.symm⟩⟩
            · cases h
          | cons kw kws => exact .inl (gen h)
        · exact .inl (gen h)
      | _ => exact .inl (gen h)
    | _ => exact .inl (gen h)
  | _ => exact .inl (gen h)
theorem cS_asgT {n : Nat} {ts : List Expr} {kt : Nat} {pt p : Pos} {e : Expr} {i : IS} (h : cS cc (n + 1) (.Assign [.Tuple ts kt pt] e p) = some i) :
    (∃ a b kv pv j k ia ib, e = .Tuple [a, b] kv pv ∧ ((isPar ts [a, b] = true ∧ cLocs cc ts = some [j, k]) ∨ (isParC cc ts [a, b] = true ∧ cStos cc ts = some [j, k])) ∧ [j, k].Nodup ∧ cE cc n a = some ia ∧ cE cc n b = some ib ∧ i = .par j k ia ib) ∨
    (∃ is vs kv pv ir, cStos cc ts = some is ∧ e = .Tuple vs kv pv ∧ vs.all (foldedForSure 8) = true ∧ cE cc n e = some ir ∧ i = .tset is ir) ∨
      ∃ is, cStos cc ts = some is ∧ isComp e = false ∧ (∀ vs kv pv, e ≠ .Tuple vs kv pv) ∧ ∃ ir, cE cc n e = some ir ∧ i = .tset is ir := by
  have gen : ∀ {e : Expr}, (∀ vs kv pv, e ≠ .Tuple vs kv pv) → (if isComp e then none else (cStos cc ts).bind fun is => (cE cc n e).map fun e' => IS.tset is e') = some i → ∃ is, cStos cc ts = some is ∧ isComp e = false ∧ (∀ vs kv pv, e ≠ .Tuple vs kv pv) ∧ ∃ ir, cE cc n e = some ir ∧ i = .tset is ir := fun {e} ht h => by
    split at h
    · cases h
    · rename_i hc
      obtain ⟨is, e0, h⟩ := Option.bind_eq_some_iff.mp h
      obtain ⟨ir, e1, h⟩ := Option.map_eq_some_iff.mp h
      exact ⟨is, e0, by simpa using hc, ht, ir, e1, h.symm⟩
  cases e with
  | Tuple vs kv pv =>
    have h : (if isParC cc ts vs then (cStos cc ts).bind fun is => if decide is.Nodup then cPar cc n is vs else none
          else if isPar ts vs then (cLocs cc ts).bind fun is => if decide is.Nodup then cPar cc n is vs else none
          else if vs.all (foldedForSure 8) then (cStos cc ts).bind fun is => (cE cc n (.Tuple vs kv pv)).map fun e' => IS.tset is e' else none) = some i := h
    split at h
    · rename_i hp
      obtain ⟨is, e0, h⟩ := Option.bind_eq_some_iff.mp h
      split at h
      · rename_i hn
        unfold cPar at h
        split at h
        · rename_i j k a b _ _
          obtain ⟨ia, e2, h⟩ := Option.bind_eq_some_iff.mp h
          obtain ⟨ib, e3, h⟩ := Option.map_eq_some_iff.mp h
          exact .inl ⟨a, b, kv, pv, j, k, ia, ib, rfl, .inr ⟨hp, e0⟩, of_decide_eq_true hn, e2, e3, h.symm⟩
        · cases h
      · cases h
    split at h
    · rename_i hnp hp
      obtain ⟨is, e0, h⟩ := Option.bind_eq_some_iff.mp h
      split at h
      · rename_i hn
        unfold cPar at h
        split at h
        · rename_i j k a b _ _
          obtain ⟨ia, e2, h⟩ := Option.bind_eq_some_iff.mp h
          obtain ⟨ib, e3, h⟩ := Option.map_eq_some_iff.mp h
          exact .inl ⟨a, b, kv, pv, j, k, ia, ib, rfl, .inl ⟨hp, e0⟩, of_decide_eq_true hn, e2, e3, h.symm⟩
        · cases h
      · cases h
    split at h
    · rename_i hp
      obtain ⟨is, e0, h⟩ := Option.bind_eq_some_iff.mp h
      obtain ⟨ir, e2, h⟩ := Option.map_eq_some_iff.mp h
      exact .inr (.inl ⟨is, vs, kv, pv, ir, e0, rfl, hp, e2, h.symm⟩)
    · cases h
  | _ => exact .inr (.inr (gen (fun _ _ _ z => by cases z) h))
theorem sw_fold {ts vs : List Expr} {n m : Nat} {p q : Pos} {env : Env} (h : vs.all (foldedForSure 8) = true) : swappedStores [.Tuple ts n p] (.Tuple vs m q) env = pure none := by
  unfold swappedStores
  simp only [h]
  split <;> first | rfl | skip
  split <;> first | rfl | skip
  split <;> first | rfl | skip
theorem sw_plain {ts : List Expr} {n : Nat} {p : Pos} {e : Expr} {env : Env} (h : ∀ vs kv pv, e ≠ .Tuple vs kv pv) : swappedStores [.Tuple ts n p] e env = pure none := by
  cases e <;> first | rfl | exact absurd rfl (h _ _ _)
/-- name = [..] on one line -/
theorem psSetC (O : Ok8 C k X cc) {x : Str} {i : Nat} {elt t it : Expr} {ifs : List Expr} {scope : Scope} {s : Src × List IE} {t' : Tg} {c : Option IE} {ie : IE} {px pc p : Pos} (h : cLoc cc x = some i) (hk : X.env.scope.kind = .function) (hc : compSet cc x px (.ListComp elt [⟨t, it, ifs, 0⟩] scope pc) = true) (z : ClOk C X cc scope elt t it ifs s t' c ie) :
    PS X (.Assign [.Name x px] (.ListComp elt [⟨t, it, ifs, 0⟩] scope pc) p) (rdS X.K X.mg C (.set i (.comp ((cOwn cc scope).map (·.2)) t' s.1 s.2 c ie))) := by
  obtain ⟨h1, h2, h3⟩ := loc_of O h
  unfold compSet at hc
  rw [Bool.and_eq_true, Bool.and_eq_true, Bool.not_eq_true'] at hc
  refine (ps_setLc O.calm O.nd h1 h3 (sw_true hk h3 hc.1.2 hc.2) z.pi z.ok z.pg z.pc z.pe z.hs).imp fun D0 σ H q => ?_
  obtain ⟨G, g, en, P, R, w, f⟩ := q
  have w : wE C _ en (fun r en' => P.nx { en' with sl := (frzS r en'.sl).set i (toSl r) }) XF := w
  exact rdE.comp z.ht ⟨G, g, en, _, R, w, fun v g' H' r en' R' e' rr w' => by
    obtain ⟨g2, R2, e2⟩ := rr.store R' i
    exact f.nx _ g2 H' _ R2 (e'.to0.trans e2) w'⟩
theorem psSetC2 (O : Ok8 C k X cc) {x : Str} {i : Nat} {elt t it t1 it1 : Expr} {ifs ifs1 : List Expr} {scope : Scope} {s s1 : Src × List IE} {t' t1' : Tg} {c c1 : Option IE} {ie : IE} {px pc p : Pos} (h : cLoc cc x = some i) (hk : X.env.scope.kind = .function)
    (hc : compSet cc x px (.ListComp elt [⟨t, it, ifs, 0⟩, ⟨t1, it1, ifs1, 0⟩] scope pc) = true) (z : ClOk C X cc scope elt t it ifs s t' c ie) (z1 : ClOk1 C X cc scope t1 it1 ifs1 s1 t1' c1) :
    PS X (.Assign [.Name x px] (.ListComp elt [⟨t, it, ifs, 0⟩, ⟨t1, it1, ifs1, 0⟩] scope pc) p) (rdS X.K X.mg C (.set i (.comp2 ((cOwn cc scope).map (·.2)) t1'.all t' s.1 s.2 c t1' s1.1 s1.2 c1 ie))) := by
  obtain ⟨h1, h2, h3⟩ := loc_of O h
  unfold compSet at hc
  rw [Bool.and_eq_true, Bool.and_eq_true, Bool.not_eq_true'] at hc
  refine (ps_setLc2 O.calm O.nd h1 h3 (sw_true hk h3 hc.1.2 hc.2) z.pi z.ok z1.ht z.pg z.pc z1.pi z1.pg z1.pc z.pe z.hs z1.hs).imp fun D0 σ H q => ?_
  obtain ⟨G, g, en, P, R, w, f⟩ := q
  have w : wE C _ en (fun r en' => P.nx { en' with sl := (frzS r en'.sl).set i (toSl r) }) XF := w
  exact rdE.comp2 z.ht (fun _ y => y) z1.ht ⟨G, g, en, _, R, w, fun v g' H' r en' R' e' rr w' => by
    obtain ⟨g2, R2, e2⟩ := rr.store R' i
    exact f.nx _ g2 H' _ R2 (e'.to0.trans e2) w'⟩
abbrev GoSt (C : Cfg) (k n : Nat) : Prop := ∀ (X : Cx) (cc : CC), Ok8 C k X cc → X.env.scope.kind = .function → PassesOwn (model X.prog X.w) X.A X.env X.xe → ∀ s i, cS cc n s = some i → PS X s (rdS X.K X.mg C i)
abbrev GoSs (C : Cfg) (k n : Nat) : Prop := ∀ (X : Cx) (cc : CC), Ok8 C k X cc → X.env.scope.kind = .function → PassesOwn (model X.prog X.w) X.A X.env X.xe → ∀ s i, cSs cc n s = some i → PSs X s (rdSs X.K X.mg C i)
theorem cSs_go {n : Nat} (h1 : GoSt C k n) (h2 : GoSs C k n) : GoSs C k (n + 1) := fun X cc O hk hp s i h => by
  match s, h with
  | [], h => cases h; exact psNil
  | s :: ss, h =>
    obtain ⟨i1, e1, h⟩ := Option.bind_eq_some_iff.mp h
    obtain ⟨i2, e2, h⟩ := Option.map_eq_some_iff.mp h
    subst h
    exact psCons (h1 X cc O hk hp s i1 e1) (h2 X cc O hk hp ss i2 e2)
theorem cS_asgN {n : Nat} {X : Cx} {cc : CC} (O : Ok8 C k X cc) (hk : X.env.scope.kind = .function) {x : Str} {px p : Pos} {e : Expr} {i : IS} (h : cS cc (n + 1) (.Assign [.Name x px] e p) = some i) : PS X (.Assign [.Name x px] e p) (rdS X.K X.mg C i) := by
  obtain ⟨j, e1, h⟩ := Option.bind_eq_some_iff.mp (show ((cSto cc x).bind fun i => if isComp e && !(compSet cc x px e || compCell cc x e) then none else if cc.sh.contains x && !isComp e then (cE cc n e).map fun e' => IS.setO i e' else (cE cc n e).map fun e' => IS.set i e') = some i from h)
  split at h
  · cases h
  rename_i hc
  split at h
  · rename_i hsh
    rw [Bool.and_eq_true, Bool.not_eq_true'] at hsh
    obtain ⟨ir, e2, h⟩ := Option.map_eq_some_iff.mp h
    subst h
    exact psSetO O e1 hsh.2 ((all_go C k n).1 X cc O e ir e2).pe
  obtain ⟨ir, e2, h⟩ := Option.map_eq_some_iff.mp h
  subst h
  cases hcp : isComp e with
  | false => exact psSet O e1 (sw_none hcp) ((all_go C k n).1 X cc O e ir e2).pe
  | true =>
    rw [hcp] at hc
    have hc : compSet cc x px e = true ∨ compCell cc x e = true := by
      cases h1 : compSet cc x px e with
      | true => exact .inl rfl
      | false =>
        cases h2 : compCell cc x e with
        | true => exact .inr rfl
        | false => rw [h1, h2] at hc; exact absurd rfl hc
    rcases hc with hc | hc
    · cases n with
      | zero => cases e2
      | succ n =>
        obtain ⟨g1, g2, g3, g4, g5⟩ := all_go C k n
        cases e with
        | ListComp elt gens scope pc =>
          have hl : cLoc cc x = some j := by
            have z : ((cLoc cc x).isSome && (px.line == pc.line) && !(scope.names.any fun y => y.1 == x && (y.2 == .local || y.2 == .cell))) = true := hc
            rw [Bool.and_eq_true, Bool.and_eq_true] at z
            obtain ⟨m, hm⟩ := Option.isSome_iff_exists.mp z.1.1
            obtain ⟨_, a1, _⟩ := cLoc_of hm
            obtain ⟨_, a2, _⟩ := cSto_of e1
            have nd : cc.N.Nodup := O.N ▸ O.nd
            rw [hm, nodup_at nd a1 a2]
          match gens, e2, hc with
          | [⟨t, it, ifs, 0⟩], e2, hc =>
            obtain ⟨s, t', c, ie, rfl, z⟩ := cComp g1 g4 g5 O e2
            exact psSetC O hl hk hc z
          | [⟨t, it, ifs, 0⟩, ⟨t1, it1, ifs1, 0⟩], e2, hc =>
            obtain ⟨s, t', c, ie, s1, t1', c1, rfl, z, z1⟩ := cComp2 g1 g4 g5 O e2
            exact psSetC2 O hl hk hc z z1
        | _ => first | (cases hcp; done) | (cases hc; done)
    · refine psSet O e1 ?_ ((all_go C k n).1 X cc O e ir e2).pe
      cases e with
      | ListComp elt gens scope pc =>
        have hc : (match cc.kind x with | some .cell => true | _ => false) = true := hc
        have kx : X.env.kindOf x = some .cell := by
          show X.env.scope.names.lookup x = _
          rw [O.sc]
          split at hc
          · assumption
          · cases hc
        unfold swapsWith
        simp only [kx]
        have z : (some NameKind.cell == some NameKind.local) = false := rfl
        rw [z, Bool.and_false]
        rfl
      | _ => first | (cases hcp; done) | (cases hc; done)
theorem cS_go {n : Nat} (h2 : GoSs C k n) : GoSt C k (n + 1) := fun X cc O hk hp s i h => by
  obtain ⟨g1, g2, g3, g4, g5⟩ := all_go C k n
  cases s with
  | Expr e p =>
    rcases cS_expr h with ⟨hc, ir, e1, rfl⟩ | ⟨x, px, m, ap, a, cp, j, ia, rfl, hl, e1, e2, h⟩
    · exact psExpr hc (g1 X cc O e ir e1).pe
    · have z := g1 X cc O a ia e2
      rcases h with ⟨rfl, rfl⟩ | ⟨rfl, rfl⟩
      · exact psApp O e1 hl z.ns z.pe
      · exact psExt O e1 hl z.ns z.pe
  | Assign ts e p =>
    rcases ts with _ | ⟨t, _ | ⟨t2, ts⟩⟩
    · cases h
    · cases t with
      | Name x px => exact cS_asgN O hk h
      | Tuple ts kt pt =>
        rcases cS_asgT h with ⟨a, b, kv, pv, j, k, ia, ib, rfl, hp, hn, e2, e3, rfl⟩ | ⟨is, vs, kv, pv, ir, e1, rfl, hf, e2, rfl⟩ | ⟨is, e1, hc, ht, ir, e2, rfl⟩
        · rcases hp with ⟨hp, e1⟩ | ⟨hp, e1⟩
          · exact psPar O e1 hn hp ⟨(g1 X cc O a ia e2).ns, (g1 X cc O b ib e3).ns⟩ (g1 X cc O a ia e2).pe (g1 X cc O b ib e3).pe
          exact psParC O e1 hn hp ⟨(g1 X cc O a ia e2).ns, (g1 X cc O b ib e3).ns⟩ (g1 X cc O a ia e2).pe (g1 X cc O b ib e3).pe
        · exact psTset O e1 rfl (sw_fold hf) (g1 X cc O _ ir e2).pe
        · exact psTset O e1 hc (sw_plain ht) (g1 X cc O e ir e2).pe
      | Subscript o kx ps =>
        cases o with
        | Name x px =>
          have h : (if isSlice kx || isComp e then none else (cVar cc x).bind fun i => (cE cc n kx).bind fun k' => (cE cc n e).map fun e' => IS.put i k' e') = some i := h
          split at h
          · cases h
          rename_i hc
          simp only [Bool.or_eq_true, not_or, Bool.not_eq_true] at hc
          obtain ⟨j, e1, h⟩ := Option.bind_eq_some_iff.mp h
          obtain ⟨ik, e2, h⟩ := Option.bind_eq_some_iff.mp h
          obtain ⟨ie, e3, h⟩ := Option.map_eq_some_iff.mp h
          subst h
          exact psPut O e1 hc.2 hc.1 (g1 X cc O kx ik e2).pe (g1 X cc O e ie e3).pe
        | _ => cases h
      | _ => cases h
    · cases t with
      | Subscript o kx ps => cases o <;> cases h
      | _ => cases h
  | AugAssign t op e p =>
    cases t with
    | Name x px =>
      obtain ⟨j, e1, h⟩ := Option.bind_eq_some_iff.mp (show ((cSto cc x).bind fun i => (cAug op).bind fun o => (cE cc n e).map fun e' => IS.aug i o e') = some i from h)
      obtain ⟨o, e2, h⟩ := Option.bind_eq_some_iff.mp h
      obtain ⟨ie, e3, h⟩ := Option.map_eq_some_iff.mp h
      subst h
      refine psAug O e1 ?_ (g1 X cc O e ie e3).pe
      cases op <;> first | (cases e2; done) | (cases e2; exact .inl ⟨rfl, rfl⟩) | (cases e2; exact .inr ⟨rfl, rfl⟩)
    | _ => cases h
  | Return e p =>
    cases e with
    | some e =>
      obtain ⟨ie, e3, h⟩ := Option.map_eq_some_iff.mp (show (cE cc n e).map IS.ret = some i from h)
      subst h
      exact psRet (g1 X cc O e ie e3).pe
    | none =>
      cases (show some (IS.ret (.c .non)) = some i from h)
      exact psRetN
  | If t a b p =>
    obtain ⟨it, e1, h⟩ := Option.bind_eq_some_iff.mp (show ((cE cc n t).bind fun t' => (cSs cc n a).bind fun a' => (cSs cc n b).map fun b' => IS.ite t' a' b') = some i from h)
    obtain ⟨ia, e2, h⟩ := Option.bind_eq_some_iff.mp h
    obtain ⟨ib, e3, h⟩ := Option.map_eq_some_iff.mp h
    subst h
    exact psIf (g1 X cc O t it e1).pt (h2 X cc O hk hp a ia e2) (h2 X cc O hk hp b ib e3)
  | For t it body orelse p =>
    cases orelse with
    | nil =>
      obtain ⟨t', e1, h⟩ := Option.bind_eq_some_iff.mp (show ((cTg cc t).bind fun t' => (cSrc cc n (isTupE t) it).bind fun s => (cSs cc n body).map fun b' => IS.for_ t' s.1 s.2 b') = some i from h)
      obtain ⟨s, e2, h⟩ := Option.bind_eq_some_iff.mp h
      obtain ⟨ib, e3, h⟩ := Option.map_eq_some_iff.mp h
      subst h
      obtain ⟨p1, p2⟩ := g4 X cc O t it s e2
      exact psFor O hp p1 p2 (pgT O e1) (h2 X cc O hk hp body ib e3)
    | cons s ss => cases h
  | While t body orelse p =>
    cases orelse with
    | nil =>
      obtain ⟨it, e1, h⟩ := Option.bind_eq_some_iff.mp (show ((cE cc n t).bind fun t' => (cSs cc n body).map fun b' => IS.whl t' b') = some i from h)
      obtain ⟨ib, e3, h⟩ := Option.map_eq_some_iff.mp h
      subst h
      exact psWhile hp (g1 X cc O t it e1).pt (h2 X cc O hk hp body ib e3)
    | cons s ss => cases h
  | Break p => cases (show some IS.brk = some i from h); exact psBrk
  | Continue p => cases (show some IS.cont = some i from h); exact psCont
  | Pass p => cases (show some IS.pass = some i from h); exact psPass
  | Raise a b p => cases (show some IS.stuck = some i from h); exact psStuck
  | _ => cases h
theorem st_go (C : Cfg) (k : Nat) : ∀ n, GoSt C k n ∧ GoSs C k n
  | 0 => ⟨fun X cc O hk hp s i h => (by cases h), fun X cc O hk hp s i h => (by cases h)⟩
  | n + 1 => ⟨cS_go (st_go C k n).2, cSs_go (st_go C k n).1 (st_go C k n).2⟩
end
end Tk

/-! Tk, part 18: a def of the text keeps the promise of the small language; the law's call. -/
namespace Tk
open PySem PySem.Spec PyProof.Rows L2

section
variable {P : Program} {w : World} {K : PySem.W.Frag} {mg : Str → Option Value} {base : Heap}
/-- a def by its body -/
theorem fnG_of {x qual : Str} {params : Arguments} {body : List Stmt} {scope : Scope} {dvs : List V} {kws : List (Str × V)} {f : Addr} {fd : FuncData} {N ps : List Str} {k : Nat} {sp : Sp} (F : FunD K x qual params body scope dvs kws f fd) (S : FnScope N ps scope) (len : ∀ vs H Q E, sp vs H Q E → vs.length = ps.length)
    (hb : ∀ (cdv : Value) (A : Around) (outer : List Env) (s : Shared) (H : Hp) (vs : List V) (Q : VK) (E : XK), Room k (A.deeper (envOfC qual scope s.heap.objs.size f cdv)) → A.guards = some [] → sp vs H Q E →
      ∃ t, PSs (cxOf CX0 P w K mg base N qual scope f cdv A outer s H E) body t ∧ t { nx := fun _ H' => Q .non H', rt := Q } (start N vs) H) : FnG P w K mg base (k + 1) f fd ps sp := by
  obtain ⟨oc, od, dV, kV, doc, pm, an, cdv, ct, osl, rfl, lk, hcd, _, _⟩ := F.ex
  constructor
  · exact len
  intro A outer s H args us vs Q E room gd e0 bind rel hsp
  have inK : K.In s.heap := e0.mod.kin.keeps fun b o z => (e0.bs b o z).1
  have noL : s.heap.NoLimit := e0.mod.nolimit.keeps fun b o z => (e0.bs b o z).1
  have kinds : ∀ y ∈ ps.zip us, scope.names.lookup y.1 = some .local ∨ (scope.names.lookup y.1 = some .cell ∧ ((cellsFrom (s.heap.objs.size + 1) scope.names []).lookup y.1).isSome = true) := by
    rintro ⟨n, v⟩ hy
    rcases S.par n (List.of_mem_zip hy).1 with z | z
    · exact Or.inl z
    · exact Or.inr ⟨z, PySem.W.cellsFrom_some _ _ _ (Or.inl z)⟩
  apply codeAny_call_function room.depth (inK _ _ lk) rfl S.co S.gen rfl (PySem.W.codeRec_of inK hcd)
  apply bind
  apply wpAny_newFunctionEnv_cells S.kind kinds
  rintro env rfl s1 ic
  refine ⟨noL.keeps ic.toInCall.keep, codeAny_func ?_⟩
  obtain ⟨t, pt, q⟩ := hb cdv A outer s H vs Q E (room.deeper _) gd hsp
  have inv := inv_start (E := E) (CX := CX0) (P := P) (w := w) (cd := cdv) (qual := qual) (f := f) S room.hd e0 (len _ _ _ _ hsp) rel ic
  refine wpAny_mono (pt.run [] s1 _ H _ inv q) (fun fl s' hs => ?_) fun e s' hs => hs
  match fl, hs with
  | .ret u, ⟨v, σ', H', J, rv, q⟩ => exact ⟨v, H', J.os, J.bare, J.base, J.hok, rv, q⟩
  | .next, ⟨σ', H', J, q⟩ => exact ⟨V.non, H', J.os, J.bare, J.base, J.hok, rfl, q⟩
  | .brk, ⟨_, _, _, q⟩ => exact q.elim
  | .cont, ⟨_, _, _, q⟩ => exact q.elim
/-- the module's plain values -/
def GlOk (K : PySem.W.Frag) (mg : Str → Option Value) (gl : Str → Option D) : Prop := ∀ (x : Str) (d : D), gl x = some d → ∃ (u : Value) (v : V), mg x = some u ∧ RelV v u ∧ ∀ (am : List Addr) (F : Hp), Rep K mg am F d v
/-- a def of the table: its names, its text, what the text is in the small language -/
structure Ent where
  d : He.DefD
  N : List Str
  ps : List Str
  fn : Fn
structure EntOk (fs sh : List Str) (e : Ent) : Prop where
  at_ : e.d.at_ = (e.d.name, none)
  qual : e.d.qual = e.d.name
  dfl : e.d.dfl = []
  sc : C8.scC e.N e.ps e.d.scope = true
  bind : ∀ (kV doc pm : Value) (an : Option Addr) (cdv ct : Value) (us : List Value), us.length = e.ps.length → bindArgs (PySem.W.fnOf e.d.name e.d.name e.d.params e.d.body e.d.scope .none kV doc pm an cdv ct) ⟨us, []⟩ = pure (e.ps.zip us)
  np : e.fn.np = e.ps.length
  ns : e.fn.ns = e.N.length
  body : ∃ n, cSs ⟨e.N, e.d.scope, fs, sh, true⟩ n e.d.body = some e.fn.body
theorem REn.start {G F : Hp} {am : List Addr} {H : Hp} {ob : List Ob} {ds : List D} {vs : List V} {N : List Str} (R : REn K mg G ⟨F, noO, am⟩ H [] ⟨[], ob⟩) (h : Reps K mg am F ds vs) (hl : ds.length ≤ N.length) :
    REn K mg G ⟨F, noO, am⟩ H (L2.start N vs) ⟨ds.map Sl.fz ++ List.replicate (N.length - ds.length) .un, ob⟩ := by
  have hv := h.length
  have st : L2.start N vs = vs.map some ++ List.replicate (N.length - vs.length) none := by
    unfold L2.start
    rfl
  have ow : ∀ {i : Nat} {d : D}, (ds.map Sl.fz ++ List.replicate (N.length - ds.length) Sl.un)[i]? ≠ some (.ow d) := fun {i d} e => by
    rcases List.mem_append.mp (List.mem_of_getElem? e) with z | z
    · obtain ⟨_, _, z⟩ := List.mem_map.mp z
      cases z
    · cases (List.mem_replicate.mp z).2
  refine ⟨R.fh, R.oh, R.gh, R.fo, R.fg, ?_, fun i s e => ?_, fun i j d d' v e => absurd e ow, R.ob⟩
  · rw [st]
    simp only [List.length_append, List.length_map, List.length_replicate]
    omega
  · have e : (ds.map Sl.fz ++ List.replicate (N.length - ds.length) Sl.un)[i]? = some s := e
    by_cases hi : i < ds.length
    · rw [List.getElem?_append_left (by simpa using hi), List.getElem?_map, List.getElem?_eq_getElem hi] at e
      cases e
      obtain ⟨v, e1, r1⟩ := reps_at h (List.getElem?_eq_getElem hi)
      refine ⟨v, ?_, r1⟩
      rw [st, List.getElem?_append_left (by rw [List.length_map, hv]; exact hi), List.getElem?_map, e1]
      rfl
    · rw [List.getElem?_append_right (by simpa using hi)] at e
      cases (List.mem_replicate.mp (List.mem_of_getElem? e)).2
      trivial
/-- the promise, by the depth of the calls -/
theorem cal_of {fs sh : List Str} {tbl : Str → Option Fn} {gl : Str → Option D} (blt : ∀ x ∈ bltNames, mg x = none) (hgl : GlOk K mg gl)
    (T : ∀ f ∈ fs, ∃ e : Ent, e.d.name = f ∧ EntOk fs sh e ∧ tbl f = some e.fn ∧ mg f = some (.ref (He.fAd K e.d.at_)) ∧ ∃ fd, FunD K e.d.name e.d.qual e.d.params e.d.body e.d.scope (e.d.dvs K) (e.d.kws K) (He.fAd K e.d.at_) fd) :
    ∀ n, CalOk P w K mg base n (runF tbl gl n) fs
  | 0 => fun f hf => by
    obtain ⟨e, rfl, ok, ht, hm, fd, F⟩ := T f hf
    rw [ok.qual, show e.d.dvs K = [] by unfold He.DefD.dvs; rw [ok.dfl]; rfl] at F
    exact ⟨_, fd, e.ps, hm, F.kp, F.bindsN ok.bind, fun ds ob Q E w => w.elim, ⟨fun vs H Q E ⟨G, F, am, ob, ds, Q0, hl, R, rs, w, _⟩ => w.elim, fun A outer s H args us vs Q E _ _ _ _ _ ⟨G, F, am, ob, ds, Q0, hl, R, rs, w, _⟩ => w.elim⟩⟩
  | n + 1 => fun f hf => by
    obtain ⟨e, rfl, ok, ht, hm, fd, F⟩ := T f hf
    rw [ok.qual, show e.d.dvs K = [] by unfold He.DefD.dvs; rw [ok.dfl]; rfl] at F
    have S := C8.fnScope_by ok.sc
    have dl : ∀ ds ob Q E, runF tbl gl (n + 1) e.d.name ds ob Q E → ds.length = e.ps.length := fun ds ob Q E w => by
      obtain ⟨fn, e1, w1, _⟩ := the_some w
      rw [ht] at e1
      cases e1
      rw [w1, ok.np]
    have hpl : e.ps.length ≤ e.N.length := by
      have z := congrArg List.length S.pre
      rw [List.length_take] at z
      omega
    refine ⟨_, fd, e.ps, hm, F.kp, F.bindsN ok.bind, dl, fnG_of F S (fun vs H Q E ⟨G, F, am, ob, ds, Q0, hl, R, rs, w, _⟩ => by rw [rs.length, hl]) fun cdv A outer s H vs Q E room gd hsp => ?_⟩
    obtain ⟨G, F0, am, ob, ds, Q0, hl, R, rs, w1, q⟩ := hsp
    obtain ⟨fn, e1, w2, w3⟩ := the_some w1
    rw [ht] at e1
    cases e1
    obtain ⟨m, hc⟩ := ok.body
    have un : (A.deeper (envOfC e.d.name e.d.scope s.heap.objs.size (He.fAd K e.d.at_) cdv)).units + 200 < cLine := by
      have z := room.un
      omega
    have O : Ok8 ⟨runF tbl gl n, gl⟩ n (cxOf CX0 P w K mg base e.N e.d.name e.d.scope (He.fAd K e.d.at_) cdv A outer s H E).nox ⟨e.N, e.d.scope, fs, sh, true⟩ := ⟨rfl, S.nd, rfl, rfl, fun _ _ => rfl, gd, un, blt, hgl, runF_mono tbl gl n, cal_of blt hgl T n, room⟩
    refine ⟨_, PSs.nox ((st_go ⟨runF tbl gl n, gl⟩ n m).2 _ _ O S.kind PassesOwn.never e.d.body e.fn.body hc), ?_⟩
    · rw [ok.ns, ok.np, ← hl] at w3
      refine ⟨G, ⟨F0, noO, am⟩, _, _, R.start (N := e.N) rs (by rw [hl]; exact hpl), w3, ⟨fun σ' g' H' en' R' x w' => ?_, fun _ _ _ _ _ _ z => z, fun _ _ _ _ _ _ z => z, fun v F' am' H' r ob' R' sF sa rr w' => q v F' am' H' r ob' R' sF sa rr w'⟩⟩
      exact q .non g'.F g'.am H' (.fz .non) en'.ob R'.leave x.F x.am rfl w'
/-! ### the law's call -/
/-- the script as the law's def meets it -/
structure AtLaw (K : PySem.W.Frag) (s : Shared) (a : Addr) (ns : List Int) (P : Program) (w : World) (H : Hp) : Prop where
  only : Only H
  sql : SqL K H a (ns.map V.int)
  hok : HOk P w H s.heap
  one : ∀ b, H b ≠ none → b = a
  out : H a ≠ none → K.lookup a = none
theorem atLaw {s : Shared} {a : Addr} {vs : List Value} {ns : List Int} (inK : K.In s.heap) (ha : s.heap.get? a = some { cls := .type "list", data := .seq vs.toArray }) (hi : IntsAre vs ns) (hl : ns.length ≤ sizeLine) : ∃ H, AtLaw K s a ns P w H := by
  have rv := vals_ints hi
  have lv := hi.length
  cases hk : K.lookup a with
  | some o =>
    have z := inK a o hk
    rw [ha] at z
    cases z
    exact ⟨fun _ => none, fun _ => .inl rfl, .inr ⟨_, vs.toArray, _, hk, rfl, rfl, rfl, by rw [List.size_toArray, lv]; exact hl, by simpa using rv⟩, fun b u z => (by cases z), fun b z => absurd rfl z, fun z => absurd rfl z⟩
  | none =>
    let o : Obj := { cls := .type "list", data := .seq vs.toArray }
    have at_ : ∀ b u, (if b = a then some (HO.frz o (.lst (ns.map V.int))) else none) = some u → b = a ∧ u = .frz o (.lst (ns.map V.int)) := fun b u z => by
      split at z
      · rename_i e
        cases z
        exact ⟨e, rfl⟩
      · cases z
    refine ⟨fun b => if b = a then some (.frz o (.lst (ns.map V.int))) else none, fun b => ?_, .inl (.inr ⟨o, if_pos rfl⟩), fun b u z => ?_, fun b z => ?_, fun _ => hk⟩
    · by_cases hb : b = a
      · exact .inr ⟨_, _, if_pos hb⟩
      · exact .inl (if_neg hb)
    · obtain ⟨rfl, rfl⟩ := at_ b u z
      exact ⟨ha, by rw [List.length_map]; exact hl, vs, _, rv, ha⟩
    · cases hq : (if b = a then some (HO.frz o (.lst (ns.map V.int))) else none) with
      | none => exact absurd hq z
      | some u => exact (at_ b u hq).1
theorem law_go {mb : Str → Option Value} {k : Nat} {fa a : Addr} {nm : Str} {cal : Cal} {fs : List Str} {s : Shared} {vs : List Value} {ns : List Int} (inK : K.In s.heap) (nG : s.heap.Ns mainGlobals mg) (nB : s.heap.Ns builtinsNs mb) (hB : ∀ x : Str, x ≠ "__name__" → mb x = bootBuiltins x) (noL : s.heap.NoLimit) (gens : s.gens = #[])
    (ha : s.heap.get? a = some { cls := .type "list", data := .seq vs.toArray }) (hi : IntsAre vs ns) (hl : ns.length ≤ sizeLine) (room : Room k callerA) (hm : mg nm = some (.ref fa)) (hf : nm ∈ fs) (C : ∀ base : Heap, K.In base → base.Ns mainGlobals mg → CalOk P w K mg base k cal fs)
    (hc : cal nm [.frl (ns.map D.int)] [] (fun r _ => r = .fz (.bl true)) (fun _ _ => False)) :
    codeAny (model P w) callerA (.call (.ref fa) ⟨[.ref a], []⟩) (fun r s' => r = .ok (.ret (.bool true)) ∧ OldK s.heap s'.heap ∧ s'.os = s.os ∧ AllBare s'.gens) s := by
  obtain ⟨H, L⟩ := atLaw (P := P) (w := w) inK ha hi hl
  have un : ∀ {b : Addr} {o : Obj}, s.heap.get? b = some o → (∀ its n, o.data ≠ .seq its n) → H b = none := fun {b o} z hn => by
    cases hq : H b with
    | none => rfl
    | some u =>
      have e : b = a := L.one b (by rw [hq]; simp)
      subst e
      rw [ha] at z
      cases z
      exact absurd rfl (hn _ _)
  have low : ∀ {b : Addr} {m : Str → Option Value}, s.heap.Ns b m → (hidT s.heap H).Ns b m := fun {b m} ⟨o, es, ep, z, d, r⟩ => ⟨o, es, ep, hidT_get z (un z fun its n q => by rw [d] at q; cases q), d, r⟩
  have inB : K.In (hidT s.heap H) := fun b o z => by
    refine hidT_get (inK b o z) ?_
    cases hq : H b with
    | none => rfl
    | some u =>
      have e : b = a := L.one b (by rw [hq]; simp)
      subst e
      rw [L.out (by rw [hq]; simp)] at z
      cases z
  have md : Mod K mg (hidT s.heap H) := ⟨inB, low nG, ⟨mb, low nB, hB⟩, let ⟨mc, h1, h2⟩ := noL; ⟨mc, low h1, h2⟩⟩
  have e0 : Env0 P w K mg (hidT s.heap H) callerA [] s H := ⟨rfl, md, fun b o z => of_hidT z, Nat.le_of_eq (hidT_size _ _), trivial, fun b hb => (by cases hb), L.hok, .of_eq gens⟩
  obtain ⟨fa', fd, ps, hm', _, bind, dl, F⟩ := C _ inB (low nG) nm hf
  rw [hm] at hm'
  cases hm'
  have l1 : 1 = ps.length := dl _ _ _ _ hc
  have ri : ∀ (ns : List Int) (am : List Addr) (F : Hp), Reps K mg am F (ns.map D.int) (ns.map V.int) := fun ns am F => by
    induction ns with
    | nil => rfl
    | cons i ns ih => exact ⟨_, _, rfl, rfl, ih⟩
  have hsp : spF K mg cal nm ps.length [.ref a] H (fun v _ => v = .bl true) (fun _ _ _ => False) := by
    refine ⟨noO, H, [], [], [.frl (ns.map D.int)], fun r _ => r = .fz (.bl true), l1, ?_, ⟨_, _, rfl, ⟨a, _, rfl, L.sql, ri ns [] H⟩, rfl⟩, hc, fun v F' am' H' r ob' R' sF sa rr q => ?_⟩
    · exact ⟨Same.refl _, fun b o e => (by cases e), fun b o e => (by cases e), fun b o e => (by cases e), fun b o e => (by cases e), rfl, fun i s e => (by simp at e), fun i j d d' v e => (by simp at e), ⟨rfl, .nil, fun a h => (by cases h), fun n a x e => (by simp at e)⟩⟩
    · subst q
      exact rr
  have bd := bind s [.ref a] inK (by rw [← l1]; rfl)
  rw [List.append_nil] at bd
  have go := F.run callerA [] s H ⟨[.ref a], []⟩ [.ref a] [.ref a] _ _ room rfl e0 bd (.cons rfl .nil) hsp
  refine codeAny_mono go fun r s' h => ?_
  match r, h with
  | .error e, h => exact h.elim
  | .ok .next, h => exact h.elim
  | .ok .brk, h => exact h.elim
  | .ok .cont, h => exact h.elim
  | .ok (.ret u), ⟨v, H', os, bare, uu, hok', r', q⟩ =>
    have q : v = .bl true := q
    subst q
    obtain rfl : u = Value.bool true := r'
    refine ⟨rfl, OldK.of_keep fun b o z => ?_, os, bare⟩
    cases hq : H b with
    | none => exact uu.keep b o z hq (fun m => by cases m) (by simp)
    | some t =>
      rcases L.only b with y | ⟨ob, xs, y⟩
      · rw [hq] at y
        cases y
      · obtain ⟨e1, _⟩ := L.hok b _ y
        obtain ⟨e2, _⟩ := hok' b _ (uu.frzs b ob _ y)
        rw [z] at e1
        cases e1
        exact e2
end
/-- the law over a head by facts -/
theorem walk_tk {l : PySem.W.OpenLaw} {n k : Nat} {q : Program} {loose : List Str} {XP : (Str → Option Value) → Heap → Prop} {YP : World → Heap → Prop} {d : DefRec} (hn : l.most = some n) (hn2 : n ≤ sizeLine) (hdf : d.params.defaults = []) (hr : Room k callerA)
    (F : ∀ (w : World) (mg : Str → Option Value) (h : Heap), YP w h → h.Ns mainGlobals mg → ∃ (K : PySem.W.Frag) (cal : Cal) (fs : List Str), K.In h ∧ d.name ∈ fs ∧
        (∀ ns : List Int, ns.length ≤ n → cal d.name [.frl (ns.map D.int)] [] (fun r _ => r = .fz (.bl true)) (fun _ _ => False)) ∧
        ∀ base : Heap, K.In base → base.Ns mainGlobals mg → CalOk l.prog w K mg base k cal fs) :
    PySem.W.WalkO q loose XP YP l.row.toRowW d [] (fun f vs => PySem.call f vs) := by
  refine Att.attach_call hn hdf fun w s₀ s₁ mg mb fa o pm cd doc a vs ns G Y ho hd hcd hmg hobj hints hlen hg => ?_
  obtain ⟨K, cal, fs, KX, hf, hc, hF⟩ := F w mg _ Y G.T.g
  exact law_go KX G.T.g G.T.b G.T.builtins G.T.nolimit hg hobj hints (Nat.le_trans hlen hn2) hr hmg hf hF (hc ns hlen)
end Tk

/-! Tk, part 19: how one reasons in the small language. -/
namespace Tk
open PySem
/-! ### expressions that only look: their values -/
mutual
def pv (gl : Str → Option D) : IE → En → Option R
  | .c d, _ => some (.fz d)
  | .v i, en => (match en.sl[i]? with
    | some (.fz d) => some (.fz d)
    | some (.ow d) => some (.rf i d)
    | _ => none)
  | .g x, _ => (gl x).map .fz
  | .op o es, en => (pvs gl es en).bind fun ds => app o (ds.map (view en.ob))
  | .disp tup st es, en => (pvd gl st es en).bind fun xs => if xs.length ≤ big then (if tup then some (.fz (.tup xs)) else some (.ow (.lst xs))) else none
  | .and a b, en => (pv gl a en).bind fun r => (truthD (view en.ob r.d)).bind fun t => if t then pv gl b en else some r
  | .or a b, en => (pv gl a en).bind fun r => (truthD (view en.ob r.d)).bind fun t => if t then some r else pv gl b en
  | .not a, en => (pt gl a en).map fun t => .fz (.bl (!t))
  | .ite t a b, en => (pt gl t en).bind fun k => if k then pv gl a en else pv gl b en
  | .ch o1 o2 a b c, en => (pv gl a en).bind fun r => (pv gl b en).bind fun s => (app o1 [view en.ob r.d, view en.ob s.d]).bind fun k => (boolD k.d).bind fun t => if t then (pv gl c en).bind fun u => app o2 [view en.ob s.d, view en.ob u.d] else some (.fz (.bl false))
  | _, _ => none
def pt (gl : Str → Option D) : IE → En → Option Bool
  | .and a b, en => (pt gl a en).bind fun t => if t then pt gl b en else some false
  | .or a b, en => (pt gl a en).bind fun t => if t then some true else pt gl b en
  | .not a, en => (pt gl a en).map fun t => !t
  | .ite t a b, en => (pt gl t en).bind fun k => if k then pt gl a en else pt gl b en
  | .c d, en => truthD (view en.ob d)
  | .v i, en => (match en.sl[i]? with
    | some (.fz d) => truthD (view en.ob d)
    | some (.ow d) => truthD (view en.ob d)
    | _ => none)
  | .g x, en => (gl x).bind fun d => truthD (view en.ob d)
  | .op o es, en => (pvs gl es en).bind fun ds => (app o (ds.map (view en.ob))).bind fun r => truthD (view en.ob r.d)
  | .ch o1 o2 a b c, en => (pv gl a en).bind fun r => (pv gl b en).bind fun s => (app o1 [view en.ob r.d, view en.ob s.d]).bind fun k => (boolD k.d).bind fun t => if t then (pv gl c en).bind fun u => (app o2 [view en.ob s.d, view en.ob u.d]).bind fun z => boolD z.d else some false
  | .ch3 o1 o2 o3 a b c d, en => (pv gl a en).bind fun r => (pv gl b en).bind fun s => (app o1 [view en.ob r.d, view en.ob s.d]).bind fun k => (boolD k.d).bind fun t => if t then (pv gl c en).bind fun u => (app o2 [view en.ob s.d, view en.ob u.d]).bind fun z => (boolD z.d).bind fun t2 => if t2 then (pv gl d en).bind fun y => (app o3 [view en.ob u.d, view en.ob y.d]).bind fun z2 => boolD z2.d else some false else some false
  | _, _ => none
def pvs (gl : Str → Option D) : List IE → En → Option (List D)
  | [], _ => some []
  | e :: es, en => (pv gl e en).bind fun r => (pvs gl es en).map (r.d :: ·)
def pvd (gl : Str → Option D) : List Bool → List IE → En → Option (List D)
  | [], [], _ => some []
  | false :: bs, e :: es, en => (pv gl e en).bind fun r => (match r with
    | .rf _ _ => none
    | r => (pvd gl bs es en).map (r.d :: ·))
  | true :: bs, e :: es, en => (pv gl e en).bind fun r => (spliceD [true] [view en.ob r.d]).bind fun xs => (pvd gl bs es en).map (xs ++ ·)
  | _, _, _ => none
end
section
variable {C : Cfg} {X : XP}
theorem the_of {α : Type} {o : Option α} {Q : α → Prop} {a : α} (h : o = some a) (q : Q a) : the o Q := by rw [h]; exact q
mutual
theorem pv_ok : ∀ (e : IE) (en : En) (r : R) (Q : QR), pv C.gl e en = some r → Q r en → wE C e en Q X
  | .c d, en, r, Q, h, q => by
    simp only [pv, Option.some.injEq] at h
    subst h
    exact q
  | .v i, en, r, Q, h, q => by
    simp only [pv] at h
    simp only [wE]
    split at h
    · rename_i d e; cases h; first | (rw [e]; exact q) | exact q
    · rename_i d e; cases h; first | (rw [e]; exact q) | exact q
    · cases h
  | .g x, en, r, Q, h, q => by
    simp only [pv] at h
    obtain ⟨d, e, h⟩ := Option.map_eq_some_iff.mp h
    subst h
    exact the_of e q
  | .op o es, en, r, Q, h, q => by
    simp only [pv] at h
    obtain ⟨ds, e, h⟩ := Option.bind_eq_some_iff.mp h
    simp only [wE]
    exact pvs_ok es en ds _ e (the_of h q)
  | .disp t st es, en, r, Q, h, q => by
    simp only [pv] at h
    obtain ⟨xs, e, h⟩ := Option.bind_eq_some_iff.mp h
    simp only [wE]
    refine pvd_ok st es en xs _ e ?_
    split at h
    · rename_i hl
      refine ⟨hl, ?_⟩
      split at h
      · rename_i ht; rw [if_pos ht]; cases h; exact q
      · rename_i ht; rw [if_neg ht]; cases h; exact q
    · cases h
  | .and a b, en, r, Q, h, q => by
    simp only [pv] at h
    obtain ⟨s, e, h⟩ := Option.bind_eq_some_iff.mp h
    obtain ⟨t, e1, h⟩ := Option.bind_eq_some_iff.mp h
    simp only [wE]
    refine pv_ok a en s _ e (the_of e1 ?_)
    cases t with
    | true => exact pv_ok b en r Q h q
    | false => cases h; exact q
  | .or a b, en, r, Q, h, q => by
    simp only [pv] at h
    obtain ⟨s, e, h⟩ := Option.bind_eq_some_iff.mp h
    obtain ⟨t, e1, h⟩ := Option.bind_eq_some_iff.mp h
    simp only [wE]
    refine pv_ok a en s _ e (the_of e1 ?_)
    cases t with
    | false => exact pv_ok b en r Q h q
    | true => cases h; exact q
  | .not a, en, r, Q, h, q => by
    simp only [pv] at h
    obtain ⟨t, e, h⟩ := Option.map_eq_some_iff.mp h
    subst h
    simp only [wE]
    exact pt_ok a en t _ e q
  | .ite t a b, en, r, Q, h, q => by
    simp only [pv] at h
    obtain ⟨k, e, h⟩ := Option.bind_eq_some_iff.mp h
    simp only [wE]
    refine pt_ok t en k _ e ?_
    cases k with
    | true => exact pv_ok a en r Q h q
    | false => exact pv_ok b en r Q h q
  | .ch o1 o2 a b c, en, r, Q, h, q => by
    simp only [pv] at h
    obtain ⟨r1, e1, h⟩ := Option.bind_eq_some_iff.mp h
    obtain ⟨r2, e2, h⟩ := Option.bind_eq_some_iff.mp h
    obtain ⟨k, e3, h⟩ := Option.bind_eq_some_iff.mp h
    obtain ⟨t, e4, h⟩ := Option.bind_eq_some_iff.mp h
    simp only [wE]
    refine pv_ok a en r1 _ e1 (pv_ok b en r2 _ e2 (the_of e3 (the_of e4 ?_)))
    cases t with
    | true =>
      obtain ⟨u, e5, h⟩ := Option.bind_eq_some_iff.mp h
      exact pv_ok c en u _ e5 (the_of h q)
    | false => cases h; exact q
  | .ch3 o1 o2 o3 a b c d, en, r, Q, h, q => by simp only [pv] at h; cases h
  | .call f es, en, r, Q, h, q => by simp only [pv] at h; cases h
  | .comp own t s es c elt, en, r, Q, h, q => by simp only [pv] at h; cases h
  | .dget d k x, en, r, Q, h, q => by simp only [pv] at h; cases h
  | .comp2 own own1 t s es c t1 s1 es1 c1 elt, en, r, Q, h, q => by simp only [pv] at h; cases h
theorem pt_ok : ∀ (e : IE) (en : En) (r : Bool) (Q : Bool → En → Prop), pt C.gl e en = some r → Q r en → wT C e en Q X
  | .c d, en, r, Q, h, q => by
    simp only [pt] at h
    simp only [wT]
    exact the_of h q
  | .v i, en, r, Q, h, q => by
    simp only [pt] at h
    simp only [wT]
    split at h
    · rename_i d e; first | (rw [e]; exact the_of h q) | exact the_of h q
    · rename_i d e; first | (rw [e]; exact the_of h q) | exact the_of h q
    · cases h
  | .g x, en, r, Q, h, q => by
    simp only [pt] at h
    obtain ⟨d, e, h⟩ := Option.bind_eq_some_iff.mp h
    simp only [wT]
    exact the_of e (the_of h q)
  | .op o es, en, r, Q, h, q => by
    simp only [pt] at h
    obtain ⟨ds, e, h⟩ := Option.bind_eq_some_iff.mp h
    obtain ⟨z, e2, h⟩ := Option.bind_eq_some_iff.mp h
    simp only [wT]
    exact pvs_ok es en ds _ e (the_of e2 (the_of h q))
  | .and a b, en, r, Q, h, q => by
    simp only [pt] at h
    obtain ⟨t, e, h⟩ := Option.bind_eq_some_iff.mp h
    simp only [wT]
    refine pt_ok a en t _ e ?_
    cases t with
    | true => exact pt_ok b en r Q h q
    | false => cases h; exact q
  | .or a b, en, r, Q, h, q => by
    simp only [pt] at h
    obtain ⟨t, e, h⟩ := Option.bind_eq_some_iff.mp h
    simp only [wT]
    refine pt_ok a en t _ e ?_
    cases t with
    | false => exact pt_ok b en r Q h q
    | true => cases h; exact q
  | .not a, en, r, Q, h, q => by
    simp only [pt] at h
    obtain ⟨t, e, h⟩ := Option.map_eq_some_iff.mp h
    subst h
    simp only [wT]
    exact pt_ok a en t _ e q
  | .ite t a b, en, r, Q, h, q => by
    simp only [pt] at h
    obtain ⟨k, e, h⟩ := Option.bind_eq_some_iff.mp h
    simp only [wT]
    refine pt_ok t en k _ e ?_
    cases k with
    | true => exact pt_ok a en r Q h q
    | false => exact pt_ok b en r Q h q
  | .ch o1 o2 a b c, en, r, Q, h, q => by
    simp only [pt] at h
    obtain ⟨r1, e1, h⟩ := Option.bind_eq_some_iff.mp h
    obtain ⟨r2, e2, h⟩ := Option.bind_eq_some_iff.mp h
    obtain ⟨k, e3, h⟩ := Option.bind_eq_some_iff.mp h
    obtain ⟨t, e4, h⟩ := Option.bind_eq_some_iff.mp h
    simp only [wT]
    refine pv_ok a en r1 _ e1 (pv_ok b en r2 _ e2 (the_of e3 (the_of e4 ?_)))
    cases t with
    | true =>
      obtain ⟨u, e5, h⟩ := Option.bind_eq_some_iff.mp h
      obtain ⟨z, e6, h⟩ := Option.bind_eq_some_iff.mp h
      exact pv_ok c en u _ e5 (the_of e6 (the_of h q))
    | false => cases h; exact q
  | .ch3 o1 o2 o3 a b c d, en, r, Q, h, q => by
    simp only [pt] at h
    obtain ⟨r1, e1, h⟩ := Option.bind_eq_some_iff.mp h
    obtain ⟨r2, e2, h⟩ := Option.bind_eq_some_iff.mp h
    obtain ⟨k, e3, h⟩ := Option.bind_eq_some_iff.mp h
    obtain ⟨t, e4, h⟩ := Option.bind_eq_some_iff.mp h
    simp only [wT]
    refine pv_ok a en r1 _ e1 (pv_ok b en r2 _ e2 (the_of e3 (the_of e4 ?_)))
    cases t with
    | true =>
      obtain ⟨u, e5, h⟩ := Option.bind_eq_some_iff.mp h
      obtain ⟨z, e6, h⟩ := Option.bind_eq_some_iff.mp h
      obtain ⟨t2, e7, h⟩ := Option.bind_eq_some_iff.mp h
      refine pv_ok c en u _ e5 (the_of e6 (the_of e7 ?_))
      cases t2 with
      | true =>
        obtain ⟨y, e8, h⟩ := Option.bind_eq_some_iff.mp h
        obtain ⟨z2, e9, h⟩ := Option.bind_eq_some_iff.mp h
        exact pv_ok d en y _ e8 (the_of e9 (the_of h q))
      | false => cases h; exact q
    | false => cases h; exact q
  | .disp t st es, en, r, Q, h, q => by simp only [pt] at h; cases h
  | .call f es, en, r, Q, h, q => by simp only [pt] at h; cases h
  | .comp own t s es c elt, en, r, Q, h, q => by simp only [pt] at h; cases h
  | .dget d k x, en, r, Q, h, q => by simp only [pt] at h; cases h
  | .comp2 own own1 t s es c t1 s1 es1 c1 elt, en, r, Q, h, q => by simp only [pt] at h; cases h
theorem pvs_ok : ∀ (es : List IE) (en : En) (ds : List D) (Q : List D → En → Prop), pvs C.gl es en = some ds → Q ds en → wA C es en Q X
  | [], en, ds, Q, h, q => by
    simp only [pvs, Option.some.injEq] at h
    subst h
    exact q
  | e :: es, en, ds, Q, h, q => by
    simp only [pvs] at h
    obtain ⟨r, e1, h⟩ := Option.bind_eq_some_iff.mp h
    obtain ⟨l, e2, h⟩ := Option.map_eq_some_iff.mp h
    subst h
    simp only [wA]
    exact pv_ok e en r _ e1 (pvs_ok es en l _ e2 q)
theorem pvd_ok : ∀ (st : List Bool) (es : List IE) (en : En) (ds : List D) (Q : List D → En → Prop), pvd C.gl st es en = some ds → Q ds en → wD C st es en Q X
  | [], [], en, ds, Q, h, q => by
    simp only [pvd, Option.some.injEq] at h
    subst h
    exact q
  | false :: bs, e :: es, en, ds, Q, h, q => by
    simp only [pvd] at h
    obtain ⟨r, e1, h⟩ := Option.bind_eq_some_iff.mp h
    simp only [wD]
    refine pv_ok e en r _ e1 ?_
    cases r with
    | rf i d => cases h
    | fz d =>
      obtain ⟨l, e2, h⟩ := Option.map_eq_some_iff.mp h
      subst h
      exact pvd_ok bs es en l _ e2 q
    | ow d =>
      obtain ⟨l, e2, h⟩ := Option.map_eq_some_iff.mp h
      subst h
      exact pvd_ok bs es en l _ e2 q
  | true :: bs, e :: es, en, ds, Q, h, q => by
    simp only [pvd] at h
    obtain ⟨r, e1, h⟩ := Option.bind_eq_some_iff.mp h
    obtain ⟨xs, e3, h⟩ := Option.bind_eq_some_iff.mp h
    obtain ⟨l, e2, h⟩ := Option.map_eq_some_iff.mp h
    subst h
    simp only [wD]
    exact pv_ok e en r _ e1 (the_of e3 (pvd_ok bs es en l _ e2 q))
  | [], e :: es, en, ds, Q, h, q => by simp only [pvd] at h; cases h
  | b :: bs, [], en, ds, Q, h, q => by cases b <;> (simp only [pvd] at h; cases h)
end
end
/-! ### statements -/
section
variable {C : Cfg} {X : XP} {P : Po} {en : En} {ss : List IS}
theorem go_set {i : Nat} {e : IE} (r : R) (h : pv C.gl e en = some r) (k : wSs C ss { en with sl := (frzS r en.sl).set i (toSl r) } P X) : wSs C (.set i e :: ss) en P X := by
  simp only [wSs, wS]
  exact pv_ok e en r _ h k
theorem go_ret {e : IE} (r : R) (h : pv C.gl e en = some r) (k : P.rt r.out en.ob) : wSs C (.ret e :: ss) en P X := by
  simp only [wSs, wS]
  exact pv_ok e en r _ h k
theorem go_ite {t : IE} {a b : List IS} (c : Bool) (h : pt C.gl t en = some c) (k : wSs C (if c = true then a else b) en { P with nx := fun en' => wSs C ss en' P X } X) : wSs C (.ite t a b :: ss) en P X := by
  simp only [wSs, wS]
  refine pt_ok t en c _ h ?_
  cases c with
  | true => exact k
  | false => exact k
end
/-- a call of a def of the table, kept closed -/
structure Run (tbl : Str → Option Fn) (gl : Str → Option D) (n : Nat) (f : Str) (ds : List D) (ob : List Ob) (Q : R → List Ob → Prop) (X : Ex → List Ob → Prop) : Prop where
  go : runF tbl gl n f ds ob Q X
theorem go_call {tbl : Str → Option Fn} {gl : Str → Option D} {n : Nat} {f : Str} {fn : Fn} {ds : List D} {ob : List Ob} {Q : R → List Ob → Prop} {X : Ex → List Ob → Prop} (ht : tbl f = some fn) (hl : ds.length = fn.np)
    (h : wSs ⟨runF tbl gl n, gl⟩ fn.body ⟨ds.map Sl.fz ++ List.replicate (fn.ns - fn.np) .un, ob⟩ { nx := fun en => Q (.fz .non) en.ob, rt := Q } (fun e en => X e en.ob)) : Run tbl gl (n + 1) f ds ob Q X := by
  constructor
  show the (tbl f) _
  rw [ht]
  exact ⟨hl, h⟩
theorem Run.mono {tbl : Str → Option Fn} {gl : Str → Option D} {n : Nat} {f : Str} {ds : List D} {ob : List Ob} {Q Q' : R → List Ob → Prop} {X : Ex → List Ob → Prop} (r : Run tbl gl n f ds ob Q X) (h : ∀ r o, Q r o → Q' r o) : Run tbl gl n f ds ob Q' X := ⟨runF_mono tbl gl n f ds ob Q Q' X X h (fun _ _ x => x) r.go⟩
theorem wE_run {tbl : Str → Option Fn} {gl : Str → Option D} {n : Nat} {X : XP} {en : En} {f : Str} {es : List IE} {Q : QR} (h : wX ⟨runF tbl gl n, gl⟩ es en (fun ds en' => Run tbl gl n f ds en'.ob (fun r ob => Q r { en' with ob := ob }) (fun e ob => X e { en' with ob := ob })) X) : wE ⟨runF tbl gl n, gl⟩ (.call f es) en Q X := by
  simp only [wE]
  exact wX_mono (runF_mono tbl gl n) (fun _ _ x => x) es en _ _ (fun ds e w => w.go) h
/-! ### ints -/
theorem log_lt {i : Int} (h : i.natAbs < 10 ^ 40) : i.natAbs.log2 < 200 := by
  by_cases h0 : i.natAbs = 0
  · rw [h0]; decide
  · exact (Nat.log2_lt h0).mpr (Nat.lt_trans h (by decide))
theorem guardO_of {α : Type} {b : Bool} {o : Option α} (h : b = true) : guardO b o = o := by rw [h]; rfl
theorem mul_go {i j : Int} (h1 : i.natAbs < 10 ^ 40) (h2 : j.natAbs < 10 ^ 40) : mulD (.int i) (.int j) = some (.fz (.int (i * j))) :=
  guardO_of (decide_eq_true (by have a := log_lt h1; have b := log_lt h2; omega))
theorem mod_go {i j : Int} (h : 0 < j) : modD (.int i) (.int j) = some (.fz (.int (i % j))) := guardO_of (decide_eq_true h)
theorem fdiv_go {i j : Int} (h : 0 < j) (h2 : j.natAbs < 10 ^ 40) : fdivD (.int i) (.int j) = some (.fz (.int (i / j))) := guardO_of (by rw [Bool.and_eq_true]; exact ⟨decide_eq_true h, decide_eq_true (by have a := log_lt h2; omega)⟩)
theorem pow_go {i : Int} {k : Nat} (h : i.natAbs < 10 ^ 40) (hk : k ≤ 1000) : powD (.int i) (.int k) = some (.fz (.int (i ^ k))) := guardO_of (by
  rw [Bool.and_eq_true, Bool.and_eq_true]
  exact ⟨⟨decide_eq_true (Int.natCast_nonneg k), decide_eq_true (by omega)⟩, decide_eq_true (by have a := log_lt h; omega)⟩)
theorem mul_le' {x y a b : Int} (h0 : 0 ≤ x) (h1 : x ≤ a) (h2 : 0 ≤ y) (h3 : y ≤ b) : 0 ≤ x * y ∧ x * y ≤ a * b :=
  ⟨Int.mul_nonneg h0 h2, Int.mul_le_mul h1 h3 h2 (Int.le_trans h0 h1)⟩
/-! ### values of ints, by rules -/
section
variable {gl : Str → Option D} {en : En} {a b : IE} {i j : Int}
abbrev IV (gl : Str → Option D) (en : En) (e : IE) (i : Int) : Prop := pv gl e en = some (.fz (.int i))
abbrev TV (gl : Str → Option D) (en : En) (e : IE) (t : Bool) : Prop := pt gl e en = some t
theorem IV.c : IV gl en (.c (.int i)) i := rfl
theorem IV.v {k : Nat} (h : en.sl[k]? = some (.fz (.int i)) := by rfl) : IV gl en (.v k) i := by
  show pv gl (.v k) en = _
  simp only [pv, h]
theorem pv_op2 {o : Op} {r s z : R} (ha : pv gl a en = some r) (hb : pv gl b en = some s) (h : app2 o (view en.ob r.d) (view en.ob s.d) = some z) : pv gl (.op o [a, b]) en = some z := by
  simp only [pv, pvs, ha, hb, Option.bind_some, Option.map_some, List.map]
  exact h
theorem pv_op1 {o : Op} {r z : R} (ha : pv gl a en = some r) (h : app1 o (view en.ob r.d) = some z) : pv gl (.op o [a]) en = some z := by
  simp only [pv, pvs, ha, Option.bind_some, Option.map_some, List.map]
  exact h
theorem pt_op2 {o : Op} {r s z : R} {t : Bool} (ha : pv gl a en = some r) (hb : pv gl b en = some s) (h : app2 o (view en.ob r.d) (view en.ob s.d) = some z) (ht : truthD (view en.ob z.d) = some t) : pt gl (.op o [a, b]) en = some t := by
  simp only [pt, pvs, ha, hb, Option.bind_some, Option.map_some, List.map]
  have h : app o [view en.ob r.d, view en.ob s.d] = some z := h
  rw [h]
  exact ht
theorem IV.add (ha : IV gl en a i) (hb : IV gl en b j) : IV gl en (.op .add [a, b]) (i + j) := pv_op2 ha hb rfl
theorem IV.sub (ha : IV gl en a i) (hb : IV gl en b j) : IV gl en (.op .sub [a, b]) (i - j) := pv_op2 ha hb rfl
theorem IV.mul (ha : IV gl en a i) (hb : IV gl en b j) (h1 : i.natAbs < 10 ^ 40) (h2 : j.natAbs < 10 ^ 40) : IV gl en (.op .mul [a, b]) (i * j) := pv_op2 ha hb (mul_go h1 h2)
theorem IV.mod (ha : IV gl en a i) (hb : IV gl en b j) (h : 0 < j) : IV gl en (.op .mod [a, b]) (i % j) := pv_op2 ha hb (mod_go h)
theorem IV.fdiv (ha : IV gl en a i) (hb : IV gl en b j) (h : 0 < j) (h2 : j.natAbs < 10 ^ 40) : IV gl en (.op .fdiv [a, b]) (i / j) := pv_op2 ha hb (fdiv_go h h2)
theorem IV.pow {k : Nat} (ha : IV gl en a i) (h : i.natAbs < 10 ^ 40) (hk : k ≤ 1000) : IV gl en (.op .pow [a, .c (.int k)]) (i ^ k) := pv_op2 (s := .fz (.int k)) ha rfl (pow_go h hk)
theorem IV.int (ha : IV gl en a i) : IV gl en (.op .int [a]) i := pv_op1 ha rfl
theorem TV.lt (ha : IV gl en a i) (hb : IV gl en b j) : TV gl en (.op .lt [a, b]) (decide (i < j)) := pt_op2 ha hb rfl rfl
theorem TV.le (ha : IV gl en a i) (hb : IV gl en b j) : TV gl en (.op .le [a, b]) (decide (i ≤ j)) := pt_op2 ha hb rfl rfl
theorem TV.gt (ha : IV gl en a i) (hb : IV gl en b j) : TV gl en (.op .gt [a, b]) (decide (j < i)) := pt_op2 ha hb rfl rfl
theorem TV.ge (ha : IV gl en a i) (hb : IV gl en b j) : TV gl en (.op .ge [a, b]) (decide (j ≤ i)) := pt_op2 ha hb rfl rfl
theorem pvV {k : Nat} {d : D} (h : en.sl[k]? = some (.fz d) := by rfl) : pv gl (.v k) en = some (.fz d) := by simp only [pv, h]
theorem pvW {k : Nat} {d : D} (h : en.sl[k]? = some (.ow d) := by rfl) : pv gl (.v k) en = some (.rf k d) := by simp only [pv, h]
theorem ix_go {xs : List D} {k : Int} {d : D} (h0 : 0 ≤ k) (h1 : xs[k.toNat]? = some d) : ixD (.lst xs) (.int k) = some (.fz d) := by
  have hl : k.toNat < xs.length := (List.getElem?_eq_some_iff.mp h1).1
  show (ixN xs.length k).bind _ = _
  unfold ixN
  rw [if_pos h0, if_pos (by omega)]
  simp only [Option.bind_some, h1]
  rfl
end
/-! ### calls, stores -/
section
variable {C : Cfg} {X : XP} {P : Po} {en : En} {ss : List IS}
theorem wE_pv {e : IE} {Q : QR} (r : R) (h : pv C.gl e en = some r) (q : Q r en) : wE C e en Q X := pv_ok e en r Q h q
theorem wE_op2 {o : Op} {a b : IE} {Q : QR} (h : wE C a en (fun r en1 => wE C b en1 (fun s en2 => the (app2 o (view en2.ob r.d) (view en2.ob s.d)) fun z => Q z en2) X) X) : wE C (.op o [a, b]) en Q X := h
theorem wE_op1 {o : Op} {a : IE} {Q : QR} (h : wE C a en (fun r en1 => the (app1 o (view en1.ob r.d)) fun z => Q z en1) X) : wE C (.op o [a]) en Q X := h
/-- an argument that is no name's own container -/
theorem wX_cons {e : IE} {es : List IE} {Q : List D → En → Prop} (r : R) (h : pv C.gl e en = some r) (hf : r.free = true) (k : wX C es en (fun ds en' => Q (r.d :: ds) en') X) : wX C (e :: es) en Q X := by
  show wE C e en _ X
  refine pv_ok e en r _ h ?_
  cases r with
  | rf i d => cases hf
  | fz d => exact k
  | ow d => exact k
theorem wX_rf {e : IE} {es : List IE} {Q : List D → En → Prop} (i : Nat) (d : D) (h : pv C.gl e en = some (.rf i d)) (k : wX C es { en with sl := en.sl.set i (.fz d) } (fun ds en' => Q (d :: ds) en') X) : wX C (e :: es) en Q X := by
  show wE C e en _ X
  exact pv_ok e en (.rf i d) _ h k
theorem wE_call {f : Str} {es : List IE} {Q : QR} (h : wX C es en (fun ds en' => C.cal f ds en'.ob (fun r ob => Q r { en' with ob := ob }) (fun e ob => X e { en' with ob := ob })) X) : wE C (.call f es) en Q X := h
theorem go_put {i : Nat} {k e : IE} {en' : En} (r s : R) (hl : en.isC i = true) (he : pv C.gl e en = some r) (hk : pv C.gl k (en.frz r) = some s) (hc : (en.frz r).chg i (fun d => putD d s.d r.d) = some en') (h : wSs C ss en' P X) : wSs C (.put i k e :: ss) en P X := by
  refine ⟨hl, pv_ok e en r _ he ?_⟩
  show wE C k (en.frz r) _ X
  exact pv_ok k _ s _ hk (the_of hc h)
theorem go_setw {i : Nat} {e : IE} (h : wE C e en (fun r en' => wSs C ss { en' with sl := (frzS r en'.sl).set i (toSl r) } P X) X) : wSs C (.set i e :: ss) en P X := h
theorem go_retw {e : IE} (h : wE C e en (fun r en' => P.rt r.out en'.ob) X) : wSs C (.ret e :: ss) en P X := h
theorem go_nil (h : P.nx en) : wSs C [] en P X := h
theorem go_mut {i : Nat} {m : Mu} {e : IE} {en' : En} (r : R) (hl : en.isL i = true) (he : pv C.gl e en = some r) (hc : (en.frz r).chg i (fun d => mutD m d r.d) = some en') (h : wSs C ss en' P X) : wSs C (.mut i m e :: ss) en P X := ⟨hl, pv_ok e en r _ he (the_of hc h)⟩
end
section
variable {C : Cfg} {X : XP} {P : Po} {en : En} {ss : List IS}
theorem wT_op2 {o : Op} {a b : IE} {Q : Bool → En → Prop} (h : wE C a en (fun r en1 => wE C b en1 (fun s en2 => the (app2 o (view en2.ob r.d) (view en2.ob s.d)) fun z => the (truthD (view en2.ob z.d)) fun t => Q t en2) X) X) : wT C (.op o [a, b]) en Q X := h
theorem go_itew {t : IE} {a b : List IS} (h : wT C t en (fun k en' => if k = true then wSs C a en' { P with nx := fun en' => wSs C ss en' P X } X else wSs C b en' { P with nx := fun en' => wSs C ss en' P X } X) X) : wSs C (.ite t a b :: ss) en P X := h
theorem wT_pv {e : IE} {Q : Bool → En → Prop} (t : Bool) (h : pt C.gl e en = some t) (q : Q t en) : wT C e en Q X := pt_ok e en t Q h q
end
/-! ### loops -/
theorem loopW_inv {α : Type} {step : α → (En → Prop) → En → Prop} {Q : En → Prop} (I : Nat → En → Prop) (mono : ∀ a en (Q Q' : En → Prop), (∀ e, Q e → Q' e) → step a Q en → step a Q' en) :
    ∀ (xs : List α) (i : Nat) (en : En), I i en → (∀ k x e, xs[k]? = some x → I (i + k) e → step x (I (i + k + 1)) e) → (∀ e, I (i + xs.length) e → Q e) → loopW step xs Q en
  | [], i, en, h, _, hd => hd en h
  | x :: xs, i, en, h, hs, hd => by
    have z := hs 0 x en rfl h
    refine mono x en _ _ (fun e he => ?_) z
    refine loopW_inv I mono xs (i + 1) e he (fun k y e' hk h' => ?_) fun e' h' => hd e' (by
      have q : i + 1 + xs.length = i + (x :: xs).length := by rw [List.length_cons]; omega
      rw [q] at h'
      exact h')
    have q : i + 1 + k = i + (k + 1) := by omega
    rw [q] at h' ⊢
    exact hs (k + 1) y e' hk h'
theorem loopA_inv {α β : Type} {step : α → β → (β → En → Prop) → En → Prop} {Q : β → En → Prop} (I : Nat → β → En → Prop) (mono : ∀ a b en (Q Q' : β → En → Prop), (∀ b e, Q b e → Q' b e) → step a b Q en → step a b Q' en) :
    ∀ (xs : List α) (i : Nat) (b : β) (en : En), I i b en → (∀ k x b e, xs[k]? = some x → I (i + k) b e → step x b (I (i + k + 1)) e) → (∀ b e, I (i + xs.length) b e → Q b e) → loopA step xs b Q en
  | [], i, b, en, h, _, hd => hd b en h
  | x :: xs, i, b, en, h, hs, hd => by
    have z := hs 0 x b en rfl h
    refine mono x b en _ _ (fun b' e he => ?_) z
    refine loopA_inv I mono xs (i + 1) b' e he (fun k y b2 e' hk h' => ?_) fun b2 e' h' => hd b2 e' (by
      have q : i + 1 + xs.length = i + (x :: xs).length := by rw [List.length_cons]; omega
      rw [q] at h'
      exact h')
    have q : i + 1 + k = i + (k + 1) := by omega
    rw [q] at h' ⊢
    exact hs (k + 1) y b2 e' hk h'
section
variable {tbl : Str → Option Fn} {gl : Str → Option D} {n : Nat} {X : XP} {P : Po} {en : En} {ss : List IS}
theorem go_for {t : Tg} {s : Src} {es : List IE} {body : List IS} (xs : List D) (I : Nat → En → Prop) (hx : wX ⟨runF tbl gl n, gl⟩ es en (fun ds en' => walk s ds = some xs ∧ I 0 en') X)
    (hs : ∀ k x e, xs[k]? = some x → I k e → ∃ sl', t.put x e.sl = some sl' ∧ wSs ⟨runF tbl gl n, gl⟩ body { e with sl := sl' } { nx := I (k + 1), rt := P.rt, bk := fun e => wSs ⟨runF tbl gl n, gl⟩ ss e P X, ct := I (k + 1) } X)
    (hd : ∀ e, I xs.length e → wSs ⟨runF tbl gl n, gl⟩ ss e P X) : wSs ⟨runF tbl gl n, gl⟩ (.for_ t s es body :: ss) en P X := by
  have hm : CalMono (Cfg.cal ⟨runF tbl gl n, gl⟩) := runF_mono tbl gl n
  simp only [wSs, wS]
  refine wX_mono hm (fun _ _ x => x) es en _ _ (fun ds e w => the_of w.1 ?_) hx
  refine loopW_inv I ?_ xs 0 e w.2 (fun k x e' hk h => ?_) (fun e' h => hd e' (by rw [Nat.zero_add] at h; exact h))
  · intro x e Q Q' h w
    refine the_mono (fun sl _ w => ?_) w
    exact wSs_mono hm (fun _ _ x => x) body _ { nx := Q, rt := P.rt, bk := fun e => wSs ⟨runF tbl gl n, gl⟩ ss e P X, ct := Q } { nx := Q', rt := P.rt, bk := fun e => wSs ⟨runF tbl gl n, gl⟩ ss e P X, ct := Q' } ⟨h, fun _ _ x => x, fun _ x => x, h⟩ w
  · rw [Nat.zero_add] at h ⊢
    obtain ⟨sl', h1, h2⟩ := hs k x e' hk h
    exact the_of h1 h2
/-- the same in two steps: the source, then the turns -/
theorem go_forw {t : Tg} {s : Src} {es : List IE} {body : List IS} (hx : wX ⟨runF tbl gl n, gl⟩ es en (fun ds en' => ∃ xs : List D, walk s ds = some xs ∧
    loopW (fun x K en1 => the (t.put x en1.sl) fun sl' => wSs ⟨runF tbl gl n, gl⟩ body { en1 with sl := sl' } { nx := K, rt := P.rt, bk := fun e => wSs ⟨runF tbl gl n, gl⟩ ss e P X, ct := K } X) xs (fun e => wSs ⟨runF tbl gl n, gl⟩ ss e P X) en') X) : wSs ⟨runF tbl gl n, gl⟩ (.for_ t s es body :: ss) en P X := by
  have hm : CalMono (Cfg.cal ⟨runF tbl gl n, gl⟩) := runF_mono tbl gl n
  simp only [wSs, wS]
  exact wX_mono hm (fun _ _ x => x) es en _ _ (fun ds e ⟨xs, w1, w2⟩ => the_of w1 w2) hx
theorem go_loop {t : Tg} {body : List IS} {xs : List D} (I : Nat → En → Prop) (h0 : I 0 en)
    (hs : ∀ k x e, xs[k]? = some x → I k e → ∃ sl', t.put x e.sl = some sl' ∧ wSs ⟨runF tbl gl n, gl⟩ body { e with sl := sl' } { nx := I (k + 1), rt := P.rt, bk := fun e => wSs ⟨runF tbl gl n, gl⟩ ss e P X, ct := I (k + 1) } X)
    (hd : ∀ e, I xs.length e → wSs ⟨runF tbl gl n, gl⟩ ss e P X) : loopW (fun x K en1 => the (t.put x en1.sl) fun sl' => wSs ⟨runF tbl gl n, gl⟩ body { en1 with sl := sl' } { nx := K, rt := P.rt, bk := fun e => wSs ⟨runF tbl gl n, gl⟩ ss e P X, ct := K } X) xs (fun e => wSs ⟨runF tbl gl n, gl⟩ ss e P X) en := by
  have hm : CalMono (Cfg.cal ⟨runF tbl gl n, gl⟩) := runF_mono tbl gl n
  refine loopW_inv I ?_ xs 0 en h0 (fun k x e' hk h => ?_) (fun e' h => hd e' (by rw [Nat.zero_add] at h; exact h))
  · intro x e Q Q' h w
    refine the_mono (fun sl _ w => ?_) w
    exact wSs_mono hm (fun _ _ x => x) body _ { nx := Q, rt := P.rt, bk := fun e => wSs ⟨runF tbl gl n, gl⟩ ss e P X, ct := Q } { nx := Q', rt := P.rt, bk := fun e => wSs ⟨runF tbl gl n, gl⟩ ss e P X, ct := Q' } ⟨h, fun _ _ x => x, fun _ x => x, h⟩ w
  · rw [Nat.zero_add] at h ⊢
    obtain ⟨sl', h1, h2⟩ := hs k x e' hk h
    exact the_of h1 h2
theorem wE_comp {own : List Nat} {t : Tg} {s : Src} {es : List IE} {cond : Option IE} {elt : IE} {Q : QR} (xs : List D) (I : Nat → List D → En → Prop)
    (hx : wX ⟨runF tbl gl n, gl⟩ es en (fun ds en' => walk s ds = some xs ∧ I 0 [] { en' with sl := frzOwn own en'.sl } ∧ ∀ acc e, I xs.length acc e → Q (.ow (.lst acc)) { e with sl := restS (frzOwn own en'.sl) e.sl own }) X)
    (hs : ∀ k x acc e, xs[k]? = some x → I k acc e → ∃ sl', t.put x (wipeS e.sl own) = some sl' ∧ wC ⟨runF tbl gl n, gl⟩ cond { e with sl := sl' } (fun b e2 => if b = true then wE ⟨runF tbl gl n, gl⟩ elt e2 (fun r e3 => acc.length < big ∧ I (k + 1) (acc ++ [r.d]) (e3.frz r)) X else I (k + 1) acc e2) X) :
    wE ⟨runF tbl gl n, gl⟩ (.comp own t s es cond elt) en Q X := by
  have hm : CalMono (Cfg.cal ⟨runF tbl gl n, gl⟩) := runF_mono tbl gl n
  simp only [wE]
  refine wX_mono hm (fun _ _ x => x) es en _ _ (fun ds e w => the_of w.1 ?_) hx
  refine loopA_inv I ?_ xs 0 [] _ w.2.1 (fun k x b e' hk h => ?_) (fun b e' h => w.2.2 b e' (by rw [Nat.zero_add] at h; exact h))
  · intro x b e Q Q' h w
    refine the_mono (fun sl _ w => wC_mono hm (fun _ _ x => x) cond _ _ _ (fun k e2 w => ?_) w) w
    cases k with
    | true => exact wE_mono hm (fun _ _ x => x) elt e2 _ _ (fun r e3 w => ⟨w.1, h _ _ w.2⟩) w
    | false => exact h _ _ w
  · rw [Nat.zero_add] at h ⊢
    obtain ⟨sl', h1, h2⟩ := hs k x b e' hk h
    exact the_of h1 h2
end
section
variable {tbl : Str → Option Fn} {gl : Str → Option D} {n : Nat} {X : XP} {en : En}
/-- two clauses: I behind the outer turns, J within one of them -/
theorem wE_comp2 {own own1 : List Nat} {t t1 : Tg} {s s1 : Src} {es es1 : List IE} {elt : IE} {Q : QR} (xs : List D) (I : Nat → List D → En → Prop)
    (hx : wX ⟨runF tbl gl n, gl⟩ es en (fun ds en' => walk s ds = some xs ∧ I 0 [] { en' with sl := frzOwn own en'.sl } ∧ ∀ acc e, I xs.length acc e → Q (.ow (.lst acc)) { e with sl := restS (frzOwn own en'.sl) e.sl own }) X)
    (hs : ∀ k x acc e, xs[k]? = some x → I k acc e → ∃ sl', t.put x (wipeS e.sl own) = some sl' ∧ wX ⟨runF tbl gl n, gl⟩ es1 { e with sl := sl' } (fun ds1 e3 => ∃ (xs1 : List D) (J : Nat → List D → En → Prop), walk s1 ds1 = some xs1 ∧ J 0 acc e3 ∧ (∀ acc e, J xs1.length acc e → I (k + 1) acc e) ∧
      ∀ k1 x1 acc1 e4, xs1[k1]? = some x1 → J k1 acc1 e4 → ∃ sl1, t1.put x1 (wipeS e4.sl own1) = some sl1 ∧ wE ⟨runF tbl gl n, gl⟩ elt { e4 with sl := sl1 } (fun r e6 => acc1.length < big ∧ J (k1 + 1) (acc1 ++ [r.d]) (e6.frz r)) X) X) :
    wE ⟨runF tbl gl n, gl⟩ (.comp2 own own1 t s es none t1 s1 es1 none elt) en Q X := by
  have hm : CalMono (Cfg.cal ⟨runF tbl gl n, gl⟩) := runF_mono tbl gl n
  simp only [wE]
  refine wX_mono hm (fun _ _ x => x) es en _ _ (fun ds e w => the_of w.1 ?_) hx
  refine loopA_inv I ?_ xs 0 [] _ w.2.1 (fun k x b e' hk h => ?_) (fun b e' h => w.2.2 b e' (by rw [Nat.zero_add] at h; exact h))
  · intro x b e Q Q' h w
    refine the_mono (fun sl _ w => wC_mono hm (fun _ _ x => x) none _ _ _ (fun k e2 w => ?_) w) w
    cases k with
    | false => exact h _ _ w
    | true =>
      refine wX_mono hm (fun _ _ x => x) es1 e2 _ _ (fun ds1 e3 w => the_mono (fun xs1 _ w => loopA_mono (fun x1 acc1 e4 K1 K1' hK1 w => the_mono (fun sl1 _ w => wC_mono hm (fun _ _ x => x) none _ _ _ (fun k1 e5 w => ?_) w) w) xs1 _ _ _ _ h w) w) w
      cases k1 with
      | true => exact wE_mono hm (fun _ _ x => x) elt e5 _ _ (fun r e3 w => ⟨w.1, hK1 _ _ w.2⟩) w
      | false => exact hK1 _ _ w
  · rw [Nat.zero_add] at h ⊢
    obtain ⟨sl', h1, h2⟩ := hs k x b e' hk h
    refine the_of h1 ?_
    show wX _ es1 _ _ _
    refine wX_mono hm (fun _ _ x => x) es1 _ _ _ (fun ds1 e3 ⟨xs1, J, q1, q2, q3, q4⟩ => the_of q1 ?_) h2
    refine loopA_inv J ?_ xs1 0 b _ q2 (fun k1 x1 b1 e4 hk1 hJ => ?_) (fun b1 e4 hJ => q3 b1 e4 (by rw [Nat.zero_add] at hJ; exact hJ))
    · intro x1 acc1 e4 K1 K1' hK1 w
      refine the_mono (fun sl1 _ w => wC_mono hm (fun _ _ x => x) none _ _ _ (fun k1 e5 w => ?_) w) w
      cases k1 with
      | true => exact wE_mono hm (fun _ _ x => x) elt e5 _ _ (fun r e3 w => ⟨w.1, hK1 _ _ w.2⟩) w
      | false => exact hK1 _ _ w
    · rw [Nat.zero_add] at hJ ⊢
      obtain ⟨sl1, r1, r2⟩ := q4 k1 x1 b1 e4 hk1 hJ
      exact the_of r1 r2
end
theorem range_at {i : Int} {m k : Nat} {x : D} (h : ((List.range m).map fun k : Nat => D.int (i + k))[k]? = some x) : k < m ∧ x = .int (i + k) := by
  rw [List.getElem?_map] at h
  obtain ⟨a, h1, rfl⟩ := Option.map_eq_some_iff.mp h
  have hk : k < m := by
    have z := (List.getElem?_eq_some_iff.mp h1).1
    rwa [List.length_range] at z
  rw [List.getElem?_range hk] at h1
  cases h1
  exact ⟨hk, rfl⟩
theorem range_at0 {m k : Nat} {x : D} (h : ((List.range m).map fun k : Nat => D.int k)[k]? = some x) : k < m ∧ x = .int k := by
  rw [List.getElem?_map] at h
  obtain ⟨a, h1, rfl⟩ := Option.map_eq_some_iff.mp h
  have hk : k < m := by
    have z := (List.getElem?_eq_some_iff.mp h1).1
    rwa [List.length_range] at z
  rw [List.getElem?_range hk] at h1
  cases h1
  exact ⟨hk, rfl⟩
theorem walk_rng {m : Int} (h0 : 0 ≤ m) (h : m < 2 ^ 62) : walk .range [.int m] = some ((List.range m.toNat).map fun k : Nat => D.int k) := guardO_of (by unfold smallI; rw [Bool.and_eq_true]; exact ⟨decide_eq_true (by omega), decide_eq_true h⟩)
theorem walk_rng2 {l m : Int} (h0 : 0 ≤ l) (h0' : l < 2 ^ 62) (h1 : 0 ≤ m) (h : m < 2 ^ 62) : walk .range2 [.int l, .int m] = some ((List.range (m - l).toNat).map fun k : Nat => D.int (l + k)) := guardO_of (by
  unfold smallI
  rw [Bool.and_eq_true, Bool.and_eq_true, Bool.and_eq_true]
  exact ⟨⟨decide_eq_true (by omega), decide_eq_true h0'⟩, ⟨decide_eq_true (by omega), decide_eq_true h⟩⟩)
/-! ### the pen -/
def pen (c : List Int) (a r : Int) : D := .lst [.lst (c.map D.int), .int a, .int r]
end Tk

/-! Tk, part 20: the texts that repr gives are short; more rules. -/
namespace Tk
open PySem
mutual
/-- a bound of the text's length, ints below 10^40 -/
def sz : D → Nat
  | .non => 4
  | .bl _ => 5
  | .int _ => 41
  | .str x => (reprText x).length
  | .tup xs => szs xs + 4
  | .lst xs => szs xs + 4
  | _ => 4
def szs : List D → Nat
  | [] => 0
  | x :: xs => sz x + 2 + szs xs
end
mutual
def ok40 : D → Bool
  | .int i => decide (i.natAbs < 10 ^ 40)
  | .str x => PyData.strOk x
  | .tup xs => ok40s xs
  | .lst xs => ok40s xs
  | .non => true
  | .bl _ => true
  | _ => false
def ok40s : List D → Bool
  | [] => true
  | x :: xs => ok40 x && ok40s xs
end
theorem textFrom_le : ∀ (ts : List Str) (k : Nat) (acc : Str), (textFrom k acc ts).length ≤ acc.length + piled ts
  | [], k, acc => Nat.le_add_right _ _
  | t :: r, k, acc => by
    have ih := textFrom_le r (k + 1) (acc ++ (if k > 0 then ", " else "" : String) ++ t)
    have e : (acc ++ ((if k > 0 then ", " else "" : String) : Str) ++ t).length ≤ acc.length + 2 + t.length := by
      rw [strLen_append, strLen_append]
      have : (((if k > 0 then ", " else "" : String) : Str)).length ≤ 2 := by split <;> decide
      omega
    rw [piled_cons]
    show (textFrom (k + 1) _ r).length ≤ _
    omega
theorem listText_le (ts : List Str) : (listText ts).length ≤ piled ts + 2 := by
  unfold listText
  rw [strLen_append]
  have h := textFrom_le ts 0 "["
  have e1 : ((("[" : String) : Str)).length = 1 := rfl
  have e2 : ((("]" : String) : Str)).length = 1 := rfl
  omega
theorem tupleText_le (ts : List Str) : (tupleText ts).length ≤ piled ts + 3 := by
  unfold tupleText
  rw [strLen_append, strLen_append]
  have e1 : ((("(" : String) : Str)).length = 1 := rfl
  have e3 : (((if ts.length == 1 then ",)" else ")" : String) : Str)).length ≤ 2 := by split <;> decide
  by_cases h : ts = []
  · subst h
    have e4 : (Str.join ", " []).length = 0 := rfl
    omega
  · have := join_length_add ts h
    omega
mutual
theorem shown_le : ∀ d : D, ok40 d = true → (shown d).length ≤ sz d
  | .non, _ => by unfold shown; simp only [toPy, PyData.shown, sz]; decide
  | .bl b, _ => by unfold shown; simp only [toPy, PyData.shown, sz]; cases b <;> decide
  | .int i, h => by
    unfold shown
    simp only [toPy, PyData.shown, sz]
    have h : i.natAbs < 10 ^ 40 := of_decide_eq_true h
    have e := int_text_length_le10 (k := 40) (by decide) h
    rw [ofString_length]
    exact e
  | .str x, _ => by unfold shown; simp only [toPy, PyData.shown, sz]; exact Nat.le_refl _
  | .tup xs, h => by
    have z := shown_les xs h
    unfold shown
    simp only [toPy, PyData.shown, sz]
    have := tupleText_le (PyData.shownAll (toPys xs))
    omega
  | .lst xs, h => by
    have z := shown_les xs h
    unfold shown
    simp only [toPy, PyData.shown, sz]
    have := listText_le (PyData.shownAll (toPys xs))
    omega
  | .dic _, h => by cases h
  | .set _, h => by cases h
  | .obj _, h => by cases h
  | .fn _, h => by cases h
  | .frl _, h => by cases h
theorem shown_les : ∀ xs : List D, ok40s xs = true → piled (PyData.shownAll (toPys xs)) ≤ szs xs
  | [], _ => by simp only [toPys, PyData.shownAll, szs, piled_nil]; exact Nat.le_refl _
  | x :: xs, h => by
    have h : (ok40 x && ok40s xs) = true := h
    rw [Bool.and_eq_true] at h
    have h1 := shown_le x h.1
    have h2 := shown_les xs h.2
    unfold shown at h1
    simp only [toPys, PyData.shownAll, szs, piled_cons]
    omega
end
mutual
theorem plain_40 : ∀ d : D, ok40 d = true → plain d = true ∧ shows d = true
  | .non, _ => ⟨rfl, rfl⟩
  | .bl _, _ => ⟨rfl, rfl⟩
  | .int i, h => ⟨rfl, by
    have h : i.natAbs < 10 ^ 40 := of_decide_eq_true h
    have := log_lt h
    exact decide_eq_true (by omega)⟩
  | .str x, h => ⟨h, rfl⟩
  | .tup xs, h => plains_40 xs h
  | .lst xs, h => plains_40 xs h
  | .dic _, h => by cases h
  | .set _, h => by cases h
  | .obj _, h => by cases h
  | .fn _, h => by cases h
  | .frl _, h => by cases h
theorem plains_40 : ∀ xs : List D, ok40s xs = true → plains xs = true ∧ showss xs = true
  | [], _ => ⟨rfl, rfl⟩
  | x :: xs, h => by
    have h : (ok40 x && ok40s xs) = true := h
    rw [Bool.and_eq_true] at h
    obtain ⟨a1, a2⟩ := plain_40 x h.1
    obtain ⟨b1, b2⟩ := plains_40 xs h.2
    exact ⟨by show (plain x && plains xs) = true; rw [a1, b1]; rfl, by show (shows x && showss xs) = true; rw [a2, b2]; rfl⟩
end
theorem repr_go {d : D} (h : ok40 d = true) (hd : depth d ≤ 60) (hs : sz d ≤ 16777216) : app1 .repr d = some (.fz (.str (shown d))) := by
  obtain ⟨h1, h2⟩ := plain_40 d h
  show (reprD d).bind _ = _
  unfold reprD
  rw [h1, h2, decide_eq_true hd, decide_eq_true (Nat.le_trans (shown_le d h) hs : (shown d).length ≤ big)]
  rfl
theorem ok40s_of : ∀ {xs : List D}, (∀ x ∈ xs, ok40 x = true) → ok40s xs = true
  | [], _ => rfl
  | x :: xs, h => by
    show (ok40 x && ok40s xs) = true
    rw [h x List.mem_cons_self, ok40s_of fun y hy => h y (List.mem_cons_of_mem _ hy)]
    rfl
theorem szs_le {k : Nat} : ∀ {xs : List D}, (∀ x ∈ xs, sz x ≤ k) → szs xs ≤ xs.length * (k + 2)
  | [], _ => Nat.zero_le _
  | x :: xs, h => by
    have h1 := h x List.mem_cons_self
    have h2 := szs_le fun y hy => h y (List.mem_cons_of_mem _ hy)
    have e : szs (x :: xs) = sz x + 2 + szs xs := by rw [szs]
    rw [e, List.length_cons, Nat.add_mul]
    omega
theorem depths_le {k : Nat} : ∀ {xs : List D}, (∀ x ∈ xs, depth x ≤ k) → depths xs ≤ k
  | [], _ => Nat.zero_le _
  | x :: xs, h => by
    have e : depths (x :: xs) = max (depth x) (depths xs) := by rw [depths]
    rw [e]
    exact Nat.max_le.mpr ⟨h x List.mem_cons_self, depths_le fun y hy => h y (List.mem_cons_of_mem _ hy)⟩
section
variable {tbl : Str → Option Fn} {gl : Str → Option D} {n : Nat} {X : XP} {P : Po} {en : En} {ss : List IS}
theorem wT_run {f : Str} {es : List IE} {Q : Bool → En → Prop} (h : wX ⟨runF tbl gl n, gl⟩ es en (fun ds en' => Run tbl gl n f ds en'.ob (fun r ob => the (truthD (view ob r.d)) fun t => Q t { en' with ob := ob }) (fun e ob => X e { en' with ob := ob })) X) : wT ⟨runF tbl gl n, gl⟩ (.call f es) en Q X := by
  simp only [wT]
  exact wX_mono (runF_mono tbl gl n) (fun _ _ x => x) es en _ _ (fun ds e w => w.go) h
end
section
variable {C : Cfg} {X : XP} {P : Po} {en : En} {ss : List IS}
theorem go_tset {is : List Nat} {e : IE} {sl : List Sl} (r : R) (h : pv C.gl e en = some r) (hp : Tg.put (.t is) r.d (frzS r en.sl) = some sl) (k : wSs C ss { en with sl := sl } P X) : wSs C (.tset is e :: ss) en P X := by
  simp only [wSs, wS]
  exact pv_ok e en r _ h (the_of hp k)
theorem go_exprw {e : IE} (h : wE C e en (fun _ en' => wSs C ss en' P X) X) : wSs C (.expr e :: ss) en P X := h
theorem go_setO {i : Nat} {e : IE} (h : wE C e en (fun r en' => match r with | .ow d => wSs C ss { en' with sl := en'.sl.set i (.fz (.obj en'.ob.length)), ob := en'.ob ++ [.con d] } P X | _ => False) X) : wSs C (.setO i e :: ss) en P X := h
theorem go_par {i j : Nat} {a b : IE} (h : wE C a en (fun r en1 => wE C b (en1.frz r) (fun s en2 => wSs C ss { en2 with sl := ((frzS s en2.sl).set i (toSl r)).set j (toSl s) } P X) X) X) : wSs C (.par i j a b :: ss) en P X := h
theorem go_mutw {i : Nat} {m : Mu} {e : IE} (hl : en.isL i = true) (h : wE C e en (fun r en' => the ((en'.frz r).chg i fun d => mutD m d r.d) fun en2 => wSs C ss en2 P X) X) : wSs C (.mut i m e :: ss) en P X := ⟨hl, h⟩
theorem wE_and {a b : IE} {Q : QR} (h : wE C a en (fun r en' => the (truthD (view en'.ob r.d)) fun t => if t = true then wE C b en' Q X else Q r en') X) : wE C (.and a b) en Q X := h
theorem wE_or {a b : IE} {Q : QR} (h : wE C a en (fun r en' => the (truthD (view en'.ob r.d)) fun t => if t = true then Q r en' else wE C b en' Q X) X) : wE C (.or a b) en Q X := h
theorem wE_disp2 {a b : IE} {Q : QR} (h : wE C a en (fun r en1 => wE C b (en1.frz r) (fun s en2 => Q (.fz (.tup [r.d, s.d])) (en2.frz s)) X) X) (hm : CalMono C.cal) : wE C (.disp true [false, false] [a, b]) en Q X := by
  simp only [wE, wD]
  refine wE_mono hm (fun _ _ x => x) a en _ _ (fun r e w => wE_mono hm (fun _ _ x => x) b _ _ _ (fun s e2 w => ⟨(show 2 ≤ big by decide), ?_⟩) w) h
  exact w
theorem wT_and {a b : IE} {Q : Bool → En → Prop} (h : wT C a en (fun t en' => if t = true then wT C b en' Q X else Q false en') X) : wT C (.and a b) en Q X := h
theorem wT_or {a b : IE} {Q : Bool → En → Prop} (h : wT C a en (fun t en' => if t = true then Q true en' else wT C b en' Q X) X) : wT C (.or a b) en Q X := h
theorem wT_not {a : IE} {Q : Bool → En → Prop} (h : wT C a en (fun t en' => Q (!t) en') X) : wT C (.not a) en Q X := h
theorem pv_g {gl : Str → Option D} {x : Str} {d : D} (h : gl x = some d) : pv gl (.g x) en = some (.fz d) := by
  simp only [pv, h]
  rfl
end
section
variable {gl : Str → Option D} {en : En} {e : IE} {es : List IE} {bs : List Bool}
theorem pvd_nil : pvd gl [] [] en = some [] := rfl
theorem pvd_star {r : R} {xs l : List D} (h : pv gl e en = some r) (hs : spliceD [true] [view en.ob r.d] = some xs) (k : pvd gl bs es en = some l) : pvd gl (true :: bs) (e :: es) en = some (xs ++ l) := by
  simp only [pvd, h, hs, k, Option.bind_some, Option.map_some]
theorem pvd_fz {d : D} {l : List D} (h : pv gl e en = some (.fz d)) (k : pvd gl bs es en = some l) : pvd gl (false :: bs) (e :: es) en = some (d :: l) := by
  simp only [pvd, h, k, Option.bind_some, Option.map_some]
theorem pvd_ow {d : D} {l : List D} (h : pv gl e en = some (.ow d)) (k : pvd gl bs es en = some l) : pvd gl (false :: bs) (e :: es) en = some (d :: l) := by
  simp only [pvd, h, k, Option.bind_some, Option.map_some]
theorem pv_lst {xs : List D} (h : pvd gl bs es en = some xs) (hl : xs.length ≤ big) : pv gl (.disp false bs es) en = some (.ow (.lst xs)) := by
  simp only [pv, h, Option.bind_some, if_pos hl]
  rfl
theorem pv_tup {xs : List D} (h : pvd gl bs es en = some xs) (hl : xs.length ≤ big) : pv gl (.disp true bs es) en = some (.fz (.tup xs)) := by
  simp only [pv, h, Option.bind_some, if_pos hl]
  rfl
theorem splice_lst {zs : List D} : spliceD [true] [.lst zs] = some zs := by
  show some (zs ++ []) = some zs
  rw [List.append_nil]
theorem splice_tup {zs : List D} : spliceD [true] [.tup zs] = some zs := by
  show some (zs ++ []) = some zs
  rw [List.append_nil]
end
theorem repL_one {v : D} : ∀ k, repL [v] k = List.replicate k v
  | 0 => rfl
  | k + 1 => by rw [repL, repL_one k]; rfl
theorem all_true : ∀ n, (List.replicate n true).all id = true
  | 0 => rfl
  | n + 1 => all_true n
theorem boolsOf_rep : ∀ n, boolsOf (List.replicate n (D.bl true)) = some (List.replicate n true)
  | 0 => rfl
  | n + 1 => by
    show (boolsOf (List.replicate n (D.bl true))).map _ = _
    rw [boolsOf_rep n]
    rfl
theorem all_rep {n : Nat} : app1 .all (.lst (List.replicate n (D.bl true))) = some (.fz (.bl true)) := by
  show (boolsOf (List.replicate n (D.bl true))).bind _ = _
  rw [boolsOf_rep]
  show fz (.bl ((List.replicate n true).all id)) = _
  rw [all_true]
  rfl
theorem small_of {i : Int} (h0 : 0 ≤ i) (h1 : i ≤ 1000000000000) : smallI i = true := by
  unfold smallI
  rw [Bool.and_eq_true]
  exact ⟨decide_eq_true (by omega), decide_eq_true (by omega)⟩
theorem slc_hi {xs : List D} {s : Int} (h0 : 0 ≤ s) (h1 : s ≤ 1000000000000) : slcD false true [.lst xs, .int s] = some (.ow (.lst (xs.take s.toNat))) := by
  have z := small_of h0 h1
  have e : cutL xs none (some s) = xs.take s.toNat := by
    show (xs.take (cutN xs.length s)).drop 0 = _
    rw [List.drop_zero]
    unfold cutN
    rw [if_pos h0]
    by_cases hl : s.toNat ≤ xs.length
    · rw [Nat.min_eq_left hl]
    · rw [Nat.min_eq_right (by omega), List.take_length, List.take_of_length_le (by omega)]
  show (guardO (smallI s) (some (some s, ([] : List D)))).bind _ = _
  rw [z]
  show guardO true (ow (.lst (cutL xs none (some s)))) = _
  rw [e]
  rfl
theorem slc_lo {xs : List D} {s : Int} (h0 : 0 ≤ s) (h1 : s ≤ 1000000000000) : slcD true false [.lst xs, .int s] = some (.ow (.lst (xs.drop s.toNat))) := by
  have z := small_of h0 h1
  have e : cutL xs (some s) none = xs.drop s.toNat := by
    show (xs.take xs.length).drop (cutN xs.length s) = _
    rw [List.take_length]
    unfold cutN
    rw [if_pos h0]
    by_cases hl : s.toNat ≤ xs.length
    · rw [Nat.min_eq_left hl]
    · rw [Nat.min_eq_right (by omega), List.drop_length, List.drop_of_length_le (by omega)]
  show ((guardO (smallI s) (some (some s, ([] : List D)))).bind _) = _
  rw [z]
  show guardO true (ow (.lst (cutL xs (some s) none))) = _
  rw [e]
  rfl
theorem mul_one {v : D} {k : Int} (h0 : 0 ≤ k) (h1 : k ≤ 1000) : mulD (.lst [v]) (.int k) = some (.ow (.lst (List.replicate k.toNat v))) := by
  show guardO (smallI k && decide ([v].length * k.toNat ≤ big)) (ow (.lst (repL [v] k.toNat))) = _
  rw [small_of h0 (by omega), decide_eq_true (by show 1 * k.toNat ≤ 16777216; omega), repL_one]
  rfl
/-- a part overlaid -/
def paint (xs : List D) (v : D) (s j : Nat) : List D := xs.take s ++ (List.replicate j v ++ xs.drop (s + j))
theorem paint_length {xs : List D} {v : D} {s j : Nat} (h : s + j ≤ xs.length) : (paint xs v s j).length = xs.length := by
  unfold paint
  rw [List.length_append, List.length_append, List.length_take, List.length_replicate, List.length_drop]
  omega
theorem paint_zero {xs : List D} {v : D} {s : Nat} : paint xs v s 0 = xs := by
  unfold paint
  rw [Nat.add_zero]
  exact List.take_append_drop s xs
theorem paint_step {xs : List D} {v : D} {s j : Nat} (h : s + j < xs.length) : (paint xs v s j).set (s + j) v = paint xs v s (j + 1) := by
  unfold paint
  have l1 : (xs.take s).length = s := by rw [List.length_take]; omega
  rw [List.set_append_right _ _ (by omega), l1, Nat.add_sub_cancel_left, List.set_append_right _ _ (by rw [List.length_replicate]; exact Nat.le_refl _), List.length_replicate, Nat.sub_self, List.drop_eq_getElem_cons h, List.set_cons_zero]
  rw [List.replicate_succ', List.append_assoc]
  rfl
theorem isi_go {t : Ty} {d : D} {b : Bool} (h : plain d = true) (hb : isTy t d = b) : app1 (.isi [t]) d = some (.fz (.bl b)) := by
  show guardO (plain d) (fz (.bl ([t].any fun t => isTy t d))) = _
  rw [h]
  show some (R.fz (.bl (isTy t d || false))) = _
  rw [Bool.or_false, hb]
theorem ge_go {i j : Int} (h : j ≤ i) : app2 .ge (.int i) (.int j) = some (.fz (.bl true)) := by
  show fz (.bl (decide (j ≤ i))) = _
  rw [decide_eq_true h]
  rfl
theorem lt_go {i j : Int} (h : i < j) : app2 .lt (.int i) (.int j) = some (.fz (.bl true)) := by
  show fz (.bl (decide (i < j))) = _
  rw [decide_eq_true h]
  rfl
theorem eq_int {i j : Int} {b : Bool} (h : (i == j) = b) : app2 .eq (.int i) (.int j) = some (.fz (.bl b)) := by
  show some (R.fz (.bl (i == j))) = _
  rw [h]
theorem ne_int {i j : Int} {b : Bool} (h : (i == j) = b) : app2 .ne (.int i) (.int j) = some (.fz (.bl (!b))) := by
  show some (R.fz (.bl (!(i == j)))) = _
  rw [h]
theorem le_le {gl : Str → Option D} {en : En} {a b c : IE} {i j k : Int} (ha : IV gl en a i) (hb : IV gl en b j) (hc : IV gl en c k) (h1 : i ≤ j) (h2 : j ≤ k) : pv gl (.ch .le .le a b c) en = some (.fz (.bl true)) := by
  have z1 : app .le [.int i, .int j] = some (.fz (.bl true)) := by
    show fz (.bl (decide (i ≤ j))) = _
    rw [decide_eq_true h1]
    rfl
  have z2 : app .le [.int j, .int k] = some (.fz (.bl true)) := by
    show fz (.bl (decide (j ≤ k))) = _
    rw [decide_eq_true h2]
    rfl
  simp only [pv, ha, hb, hc, Option.bind_some, view, z1, z2, boolD]
  rfl
theorem ne_str {x : Str} : app2 .ne (.str x) (.str x) = some (.fz (.bl false)) := by
  have e : okEq (.str x) (.str x) = true := by
    unfold okEq
    rw [show isStr (.str x) = true from rfl]
    simp
  show guardO (okEq (.str x) (.str x)) (fz (.bl (!(eqD (.str x) (.str x))))) = _
  have e2 : eqD (.str x) (.str x) = true := by
    simp only [eqD]
    exact beq_self_eq_true x
  rw [e, e2]
  rfl
theorem wX_one {C : Cfg} {X : XP} {en : En} {e : IE} {Q : List D → En → Prop} (h : wE C e en (fun r en' => Q [r.d] (en'.frz r)) X) : wX C [e] en Q X := h
theorem paint_mem {xs : List D} {v x : D} {s j : Nat} (h : x ∈ paint xs v s j) : x ∈ xs ∨ x = v := by
  unfold paint at h
  rcases List.mem_append.mp h with h | h
  · exact .inl (List.mem_of_mem_take h)
  · rcases List.mem_append.mp h with h | h
    · exact .inr (List.eq_of_mem_replicate h)
    · exact .inl (List.mem_of_mem_drop h)
theorem ixT_go {xs : List D} {k : Int} {d : D} (h0 : 0 ≤ k) (h1 : xs[k.toNat]? = some d) : ixD (.tup xs) (.int k) = some (.fz d) := by
  have hl : k.toNat < xs.length := (List.getElem?_eq_some_iff.mp h1).1
  show (ixN xs.length k).bind _ = _
  unfold ixN
  rw [if_pos h0, if_pos (by omega)]
  simp only [Option.bind_some, h1]
  rfl
end Tk

/-! Tk, part 21: a run of the small language as a function; what it gives holds of the meaning by predicates. -/
namespace Tk
open PySem
/-- an expression's end -/
inductive Rs (α : Type) where
  | ok (a : α) (en : En) | ex (x : Ex) (en : En) | no
/-- a call's end -/
inductive Rc where
  | ok (r : R) (ob : List Ob) | ex (x : Ex) (ob : List Ob) | no
/-- a statement's end -/
inductive Ou where
  | nx (en : En) | rt (r : R) (ob : List Ob) | bk (en : En) | ct (en : En) | ex (x : Ex) (en : En) | no
def Rs.sat {α : Type} : Rs α → (α → En → Prop) → XP → Prop
  | .ok a en, Q, _ => Q a en
  | .ex x en, _, X => X x en
  | .no, _, _ => False
def Rc.sat : Rc → (R → List Ob → Prop) → (Ex → List Ob → Prop) → Prop
  | .ok r ob, Q, _ => Q r ob
  | .ex x ob, _, X => X x ob
  | .no, _, _ => False
def Ou.sat : Ou → Po → XP → Prop
  | .nx en, P, _ => P.nx en
  | .rt r ob, P, _ => P.rt r ob
  | .bk en, P, _ => P.bk en
  | .ct en, P, _ => P.ct en
  | .ex x en, _, X => X x en
  | .no, _, _ => False
def Rs.bind {α β : Type} (x : Rs α) (f : α → En → Rs β) : Rs β := match x with
  | .ok a en => f a en
  | .ex x en => .ex x en
  | .no => .no
def Rs.ofO {α : Type} (o : Option α) (en : En) : Rs α := match o with
  | some a => .ok a en
  | none => .no
def Rs.ou {α : Type} (x : Rs α) (f : α → En → Ou) : Ou := match x with
  | .ok a en => f a en
  | .ex x en => .ex x en
  | .no => .no
def Rc.rs (x : Rc) (en : En) : Rs R := match x with
  | .ok r ob => .ok r { en with ob := ob }
  | .ex x ob => .ex x { en with ob := ob }
  | .no => .no
def Ou.seq (o : Ou) (f : En → Ou) : Ou := match o with
  | .nx en => f en
  | o => o
/-- a turn of a loop, the rest -/
def Ou.turn (o : Ou) (f : En → Ou) : Ou := match o with
  | .nx en => f en
  | .ct en => f en
  | .bk en => .nx en
  | o => o
def evLoop (step : D → List D → En → Rs (List D)) : List D → List D → En → Rs (List D)
  | [], acc, en => .ok acc en
  | x :: xs, acc, en => (step x acc en).bind fun acc' en' => evLoop step xs acc' en'
def evFor (body : En → Ou) (t : Tg) : List D → En → Ou
  | [], en => .nx en
  | x :: xs, en => (match t.put x en.sl with
    | some sl => (body { en with sl := sl }).turn (evFor body t xs)
    | none => .no)
def evWhl (test : En → Rs Bool) (body : En → Ou) : Nat → En → Ou
  | 0, _ => .no
  | n + 1, en => (test en).ou fun b en' => if b = true then (body en').turn (evWhl test body n) else .nx en'
structure Ec where
  cal : Str → List D → List Ob → Rc
  gl : Str → Option D
mutual
def evE (C : Ec) : IE → En → Rs R
  | .c d, en => .ok (.fz d) en
  | .v i, en => (match en.sl[i]? with
    | some (.fz d) => .ok (.fz d) en
    | some (.ow d) => .ok (.rf i d) en
    | _ => .no)
  | .g x, en => .ofO ((C.gl x).map .fz) en
  | .op o es, en => (evA C es en).bind fun ds en' => .ofO (app o (ds.map (view en'.ob))) en'
  | .disp tup st es, en => (evD C st es en).bind fun xs en' => if xs.length ≤ big then (if tup = true then .ok (.fz (.tup xs)) en' else .ok (.ow (.lst xs)) en') else .no
  | .and a b, en => (evE C a en).bind fun r en' => (Rs.ofO (truthD (view en'.ob r.d)) en').bind fun t en' => if t = true then evE C b en' else .ok r en'
  | .or a b, en => (evE C a en).bind fun r en' => (Rs.ofO (truthD (view en'.ob r.d)) en').bind fun t en' => if t = true then .ok r en' else evE C b en'
  | .not a, en => (evT C a en).bind fun t en' => .ok (.fz (.bl (!t))) en'
  | .ite t a b, en => (evT C t en).bind fun k en' => if k = true then evE C a en' else evE C b en'
  | .ch o1 o2 a b c, en => (evE C a en).bind fun r en1 => (evE C b en1).bind fun s en2 => (Rs.ofO (app o1 [view en2.ob r.d, view en2.ob s.d]) en2).bind fun k en2 => (Rs.ofO (boolD k.d) en2).bind fun t en2 =>
      if t = true then (evE C c en2).bind fun u en3 => .ofO (app o2 [view en3.ob s.d, view en3.ob u.d]) en3 else .ok (.fz (.bl false)) en2
  | .ch3 o1 o2 o3 a b c d, en => (evE C a en).bind fun r en1 => (evE C b en1).bind fun s en2 => (Rs.ofO (app o1 [view en2.ob r.d, view en2.ob s.d]) en2).bind fun k en2 => (Rs.ofO (boolD k.d) en2).bind fun t en2 =>
      if t = true then (evE C c en2).bind fun u en3 => (Rs.ofO (app o2 [view en3.ob s.d, view en3.ob u.d]) en3).bind fun k' en3 => (Rs.ofO (boolD k'.d) en3).bind fun t' en3 =>
        if t' = true then (evE C d en3).bind fun y en4 => .ofO (app o3 [view en4.ob u.d, view en4.ob y.d]) en4 else .ok (.fz (.bl false)) en3 else .ok (.fz (.bl false)) en2
  | .call f es, en => (evX C es en).bind fun ds en' => (C.cal f ds en'.ob).rs en'
  | .dget d k x, en => (evE C d en).bind fun r en1 => (Rs.ofO (dicOf (view en1.ob r.d)) en1).bind fun _ en1 => (evE C k en1).bind fun r2 en2 => (evE C x en2).bind fun r3 en3 => if r3.free = true then Rs.ofO (dgetD (view en3.ob r.d) r2.d r3.d) en3 else .no
  | .comp own t s es cond elt, en => (evX C es en).bind fun ds en' => (Rs.ofO (walk s ds) en').bind fun xs en' =>
      (evLoop (fun x acc en1 => (Rs.ofO (t.put x (wipeS en1.sl own)) en1).bind fun sl' en1 => (evC C cond { en1 with sl := sl' }).bind fun k en2 =>
        if k = true then (evE C elt en2).bind fun r en3 => if acc.length < big then .ok (acc ++ [r.d]) (en3.frz r) else .no else .ok acc en2) xs [] { en' with sl := frzOwn own en'.sl }).bind
        fun acc en1 => .ok (.ow (.lst acc)) { en1 with sl := restS (frzOwn own en'.sl) en1.sl own }
  | .comp2 own own1 t s es cond t1 s1 es1 cond1 elt, en => (evX C es en).bind fun ds en' => (Rs.ofO (walk s ds) en').bind fun xs en' =>
      (evLoop (fun x acc en1 => (Rs.ofO (t.put x (wipeS en1.sl own)) en1).bind fun sl' en1 => (evC C cond { en1 with sl := sl' }).bind fun k en2 =>
        if k = true then (evX C es1 en2).bind fun ds1 en3 => (Rs.ofO (walk s1 ds1) en3).bind fun xs1 en3 =>
          evLoop (fun x1 acc1 en4 => (Rs.ofO (t1.put x1 (wipeS en4.sl own1)) en4).bind fun sl1 en4 => (evC C cond1 { en4 with sl := sl1 }).bind fun k1 en5 =>
            if k1 = true then (evE C elt en5).bind fun r en6 => if acc1.length < big then .ok (acc1 ++ [r.d]) (en6.frz r) else .no else .ok acc1 en5) xs1 acc en3
        else .ok acc en2) xs [] { en' with sl := frzOwn own en'.sl }).bind
        fun acc en1 => .ok (.ow (.lst acc)) { en1 with sl := restS (frzOwn own en'.sl) en1.sl own }
def evT (C : Ec) : IE → En → Rs Bool
  | .and a b, en => (evT C a en).bind fun t en' => if t = true then evT C b en' else .ok false en'
  | .or a b, en => (evT C a en).bind fun t en' => if t = true then .ok true en' else evT C b en'
  | .not a, en => (evT C a en).bind fun t en' => .ok (!t) en'
  | .ite t a b, en => (evT C t en).bind fun k en' => if k = true then evT C a en' else evT C b en'
  | .c d, en => .ofO (truthD (view en.ob d)) en
  | .v i, en => (match en.sl[i]? with
    | some (.fz d) => .ofO (truthD (view en.ob d)) en
    | some (.ow d) => .ofO (truthD (view en.ob d)) en
    | _ => .no)
  | .g x, en => .ofO ((C.gl x).bind fun d => truthD (view en.ob d)) en
  | .op o es, en => (evA C es en).bind fun ds en' => .ofO ((app o (ds.map (view en'.ob))).bind fun r => truthD (view en'.ob r.d)) en'
  | .ch o1 o2 a b c, en => (evE C a en).bind fun r en1 => (evE C b en1).bind fun s en2 => (Rs.ofO (app o1 [view en2.ob r.d, view en2.ob s.d]) en2).bind fun k en2 => (Rs.ofO (boolD k.d) en2).bind fun t en2 =>
      if t = true then (evE C c en2).bind fun u en3 => .ofO ((app o2 [view en3.ob s.d, view en3.ob u.d]).bind fun z => boolD z.d) en3 else .ok false en2
  | .ch3 o1 o2 o3 a b c d, en => (evE C a en).bind fun r en1 => (evE C b en1).bind fun s en2 => (Rs.ofO (app o1 [view en2.ob r.d, view en2.ob s.d]) en2).bind fun k en2 => (Rs.ofO (boolD k.d) en2).bind fun t en2 =>
      if t = true then (evE C c en2).bind fun u en3 => (Rs.ofO (app o2 [view en3.ob s.d, view en3.ob u.d]) en3).bind fun k' en3 => (Rs.ofO (boolD k'.d) en3).bind fun t' en3 =>
        if t' = true then (evE C d en3).bind fun y en4 => .ofO ((app o3 [view en4.ob u.d, view en4.ob y.d]).bind fun z => boolD z.d) en4 else .ok false en3 else .ok false en2
  | .call f es, en => (evX C es en).bind fun ds en' => ((C.cal f ds en'.ob).rs en').bind fun r en' => .ofO (truthD (view en'.ob r.d)) en'
  | _, _ => .no
def evC (C : Ec) : Option IE → En → Rs Bool
  | none, en => .ok true en
  | some e, en => evT C e en
def evA (C : Ec) : List IE → En → Rs (List D)
  | [], en => .ok [] en
  | e :: es, en => (evE C e en).bind fun r en' => (evA C es en').bind fun ds en'' => .ok (r.d :: ds) en''
def evX (C : Ec) : List IE → En → Rs (List D)
  | [], en => .ok [] en
  | e :: es, en => (evE C e en).bind fun r en' => (evX C es (en'.frz r)).bind fun ds en'' => .ok (r.d :: ds) en''
def evD (C : Ec) : List Bool → List IE → En → Rs (List D)
  | [], [], en => .ok [] en
  | false :: bs, e :: es, en => (evE C e en).bind fun r en' => (evD C bs es (en'.frz r)).bind fun ds en'' => .ok (r.d :: ds) en''
  | true :: bs, e :: es, en => (evE C e en).bind fun r en' => (Rs.ofO (spliceD [true] [view en'.ob r.d]) en').bind fun xs en' => (evD C bs es en').bind fun ds en'' => .ok (xs ++ ds) en''
  | _, _, _ => .no
end
/-- how many turns a while may take -/
def whlMax : Nat := 4000
mutual
def evS (C : Ec) : IS → En → Ou
  | .set i e, en => (evE C e en).ou fun r en' => .nx { en' with sl := (frzS r en'.sl).set i (toSl r) }
  | .par i j a b, en => (evE C a en).ou fun r en1 => (evE C b (en1.frz r)).ou fun s en2 => .nx { en2 with sl := ((frzS s en2.sl).set i (toSl r)).set j (toSl s) }
  | .setO i e, en => (evE C e en).ou fun r en' => match r with | .ow d => .nx { en' with sl := en'.sl.set i (.fz (.obj en'.ob.length)), ob := en'.ob ++ [.con d] } | _ => .no
  | .tset is e, en => (evE C e en).ou fun r en' => (Rs.ofO (Tg.put (.t is) r.d (frzS r en'.sl)) en').ou fun sl en' => .nx { en' with sl := sl }
  | .aug i o e, en => (match en.sl[i]? with
    | some (.fz (.int k)) => (evE C e en).ou fun r en' => match r.d with | .int j => .nx { en' with sl := en'.sl.set i (.fz (.int (augI o k j))) } | _ => .no
    | _ => .no)
  | .put i k e, en => if en.isC i = true then (evE C e en).ou fun r en1 => (evA C [k] (en1.frz r)).ou fun ks en2 => (Rs.ofO (en2.chg i fun d => putD d (ks.headD .non) r.d) en2).ou fun en3 _ => .nx en3 else .no
  | .mut i m e, en => if en.isL i = true then (evE C e en).ou fun r en1 => (Rs.ofO ((en1.frz r).chg i fun d => mutD m d r.d) en1).ou fun en3 _ => .nx en3 else .no
  | .expr e, en => (evE C e en).ou fun _ en' => .nx en'
  | .ret e, en => (evE C e en).ou fun r en' => .rt r.out en'.ob
  | .ite t a b, en => (evT C t en).ou fun k en' => if k = true then evSs C a en' else evSs C b en'
  | .for_ t s es body, en => (evX C es en).ou fun ds en' => (Rs.ofO (walk s ds) en').ou fun xs en' => evFor (evSs C body) t xs en'
  | .whl t body, en => evWhl (evT C t) (evSs C body) whlMax en
  | .brk, en => .bk en
  | .cont, en => .ct en
  | .pass, en => .nx en
  | .stuck, _ => .no
def evSs (C : Ec) : List IS → En → Ou
  | [], en => .nx en
  | s :: ss, en => (evS C s en).seq (evSs C ss)
end
def Ou.rc (o : Ou) : Rc := match o with
  | .nx en => .ok (.fz .non) en.ob
  | .rt r ob => .ok r ob
  | .ex x en => .ex x en.ob
  | _ => .no
def evF (tbl : Str → Option Fn) (gl : Str → Option D) : Nat → Str → List D → List Ob → Rc
  | 0, _, _, _ => .no
  | n + 1, f, ds, ob => (match tbl f with
    | some fn => if ds.length = fn.np then (evSs ⟨evF tbl gl n, gl⟩ fn.body ⟨ds.map Sl.fz ++ List.replicate (fn.ns - fn.np) .un, ob⟩).rc else .no
    | none => .no)
/-! ### the meaning -/
theorem Rs.sat_bind {α β : Type} {x : Rs α} {f : α → En → Rs β} {Q : β → En → Prop} {X : XP} : (x.bind f).sat Q X = x.sat (fun a en => (f a en).sat Q X) X := by cases x <;> rfl
theorem Rs.sat_ofO {α : Type} {o : Option α} {en : En} {Q : α → En → Prop} {X : XP} : (Rs.ofO o en).sat Q X = the o fun a => Q a en := by cases o <;> rfl
theorem Rs.sat_ou {α : Type} {x : Rs α} {f : α → En → Ou} {P : Po} {X : XP} : (x.ou f).sat P X = x.sat (fun a en => (f a en).sat P X) X := by cases x <;> rfl
theorem Rc.sat_rs {x : Rc} {en : En} {Q : R → En → Prop} {X : XP} : (x.rs en).sat Q X = x.sat (fun r ob => Q r { en with ob := ob }) (fun e ob => X e { en with ob := ob }) := by cases x <;> rfl
theorem Ou.sat_seq {o : Ou} {f : En → Ou} {P : Po} {X : XP} (h : (o.seq f).sat P X) : o.sat { P with nx := fun en => (f en).sat P X } X := by cases o <;> exact h
theorem Ou.sat_turn {o : Ou} {f : En → Ou} {P : Po} {X : XP} (h : (o.turn f).sat P X) : o.sat { P with nx := fun en => (f en).sat P X, ct := fun en => (f en).sat P X, bk := P.nx } X := by cases o <;> exact h
theorem evLoop_ok {step : D → List D → En → Rs (List D)} {step' : D → List D → (List D → En → Prop) → En → Prop} {X : XP} (hs : ∀ x acc en K, (step x acc en).sat K X → step' x acc K en) :
    ∀ (xs acc : List D) (en : En) (Q : List D → En → Prop), (evLoop step xs acc en).sat Q X → loopA step' xs acc Q en
  | [], acc, en, Q, h => h
  | x :: xs, acc, en, Q, h => by
    have h : ((step x acc en).bind fun acc' en' => evLoop step xs acc' en').sat Q X := h
    rw [Rs.sat_bind] at h
    refine hs x acc en _ ?_
    cases e : step x acc en with
    | ok a en' => rw [e] at h; exact evLoop_ok hs xs a en' Q h
    | ex x' en' => rw [e] at h; exact h
    | no => rw [e] at h; exact h
theorem evFor_ok {body : En → Ou} {body' : Po → En → Prop} {t : Tg} {X : XP} {P : Po} (hb : ∀ en P, (body en).sat P X → body' P en)  :
    ∀ (xs : List D) (en : En), (evFor body t xs en).sat P X → loopW (fun x K en1 => the (t.put x en1.sl) fun sl' => body' { P with nx := K, ct := K, bk := P.nx } { en1 with sl := sl' }) xs P.nx en
  | [], en, h => h
  | x :: xs, en, h => by
    show the (t.put x en.sl) _
    have h : (match t.put x en.sl with | some sl => (body { en with sl := sl }).turn (evFor body t xs) | none => .no).sat P X := h
    cases e : t.put x en.sl with
    | none => rw [e] at h; exact h
    | some sl =>
      rw [e] at h
      refine hb _ _ ?_
      have z := Ou.sat_turn h
      cases e2 : body { en with sl := sl } with
      | nx e3 => rw [e2] at z; exact evFor_ok hb xs e3 z
      | ct e3 => rw [e2] at z; exact evFor_ok hb xs e3 z
      | bk e3 => rw [e2] at z; exact z
      | rt r ob => rw [e2] at z; exact z
      | ex x' e3 => rw [e2] at z; exact z
      | no => rw [e2] at z; exact z
theorem evWhl_ok {test : En → Rs Bool} {body : En → Ou} {test' : (Bool → En → Prop) → En → Prop} {body' : Po → En → Prop} {X : XP} {P : Po} (ht : ∀ en Q, (test en).sat Q X → test' Q en) (hb : ∀ en P, (body en).sat P X → body' P en) :
    ∀ (n : Nat) (en : En), (evWhl test body n en).sat P X → whileW test' (fun K en1 => body' { P with nx := K, ct := K, bk := P.nx } en1) n P.nx en
  | 0, en, h => h
  | n + 1, en, h => by
    refine ht en _ ?_
    have h : ((test en).ou fun b en' => if b = true then (body en').turn (evWhl test body n) else .nx en').sat P X := h
    cases e : test en with
    | ex x' e3 => rw [e] at h; exact h
    | no => rw [e] at h; exact h
    | ok b en' =>
      rw [e] at h
      cases b with
      | false => exact h
      | true =>
        refine hb _ _ ?_
        have z := Ou.sat_turn (o := body en') (f := evWhl test body n) h
        cases e2 : body en' with
        | nx e3 => rw [e2] at z; exact evWhl_ok ht hb n e3 z
        | ct e3 => rw [e2] at z; exact evWhl_ok ht hb n e3 z
        | bk e3 => rw [e2] at z; exact z
        | rt r ob => rw [e2] at z; exact z
        | ex x' e3 => rw [e2] at z; exact z
        | no => rw [e2] at z; exact z
section
variable {C : Ec} {c : Cal} (hm : CalMono c) (hc : ∀ f ds ob Q X, (C.cal f ds ob).sat Q X → c f ds ob Q X)
include hm hc
theorem if_app {α : Type} {k : Bool} {x y : α} {P : α → Prop} (h : P (if k = true then x else y)) : if k = true then P x else P y := by cases k <;> exact h
mutual
theorem evE_ok : ∀ (e : IE) (en : En) (Q : QR) (X : XP), (evE C e en).sat Q X → wE ⟨c, C.gl⟩ e en Q X
  | .c d, en, Q, X, h => h
  | .v i, en, Q, X, h => by
    simp only [evE] at h
    split at h
    · rename_i d e
      simp only [wE, e]
      exact h
    · rename_i d e
      simp only [wE, e]
      exact h
    · exact h.elim
  | .g x, en, Q, X, h => by
    simp only [evE, Rs.sat_ofO] at h
    simp only [wE]
    cases e : C.gl x with
    | none => rw [e] at h; exact h
    | some d => rw [e] at h; exact h
  | .op o es, en, Q, X, h => by
    simp only [evE, Rs.sat_bind, Rs.sat_ofO] at h
    simp only [wE]
    exact evA_ok es en _ X h
  | .disp tup st es, en, Q, X, h => by
    simp only [evE, Rs.sat_bind] at h
    simp only [wE]
    refine wD_mono hm (fun _ _ x => x) st es en _ _ (fun xs e w => ?_) (evD_ok st es en _ X h)
    split at w
    · rename_i hl
      refine ⟨hl, ?_⟩
      cases tup <;> exact w
    · exact w.elim
  | .and a b, en, Q, X, h => by
    simp only [evE, Rs.sat_bind, Rs.sat_ofO] at h
    simp only [wE]
    refine wE_mono hm (fun _ _ x => x) a en _ _ (fun r e w => the_mono (fun t _ w => ?_) w) (evE_ok a en _ X h)
    cases t with
    | true => exact evE_ok b e Q X w
    | false => exact w
  | .or a b, en, Q, X, h => by
    simp only [evE, Rs.sat_bind, Rs.sat_ofO] at h
    simp only [wE]
    refine wE_mono hm (fun _ _ x => x) a en _ _ (fun r e w => the_mono (fun t _ w => ?_) w) (evE_ok a en _ X h)
    cases t with
    | true => exact w
    | false => exact evE_ok b e Q X w
  | .not a, en, Q, X, h => by
    simp only [evE, Rs.sat_bind] at h
    simp only [wE]
    exact evT_ok a en _ X h
  | .ite t a b, en, Q, X, h => by
    simp only [evE, Rs.sat_bind] at h
    simp only [wE]
    refine wT_mono hm (fun _ _ x => x) t en _ _ (fun k e w => ?_) (evT_ok t en _ X h)
    cases k with
    | true => exact evE_ok a e Q X w
    | false => exact evE_ok b e Q X w
  | .ch o1 o2 a b c', en, Q, X, h => by
    simp only [evE, Rs.sat_bind, Rs.sat_ofO] at h
    simp only [wE]
    refine wE_mono hm (fun _ _ x => x) a en _ _ (fun r e1 w => wE_mono hm (fun _ _ x => x) b e1 _ _ (fun s e2 w => the_mono (fun k _ w => the_mono (fun t _ w => ?_) w) w) (evE_ok b e1 _ X w)) (evE_ok a en _ X h)
    cases t with
    | true =>
      have w : ((evE C c' e2).bind fun u en3 => Rs.ofO (app o2 [view en3.ob s.d, view en3.ob u.d]) en3).sat Q X := w
      simp only [Rs.sat_bind, Rs.sat_ofO] at w
      exact evE_ok c' e2 _ X w
    | false => exact w
  | .ch3 o1 o2 o3 a b c' d, en, Q, X, h => by
    simp only [evE, Rs.sat_bind, Rs.sat_ofO] at h
    simp only [wE]
    refine wE_mono hm (fun _ _ x => x) a en _ _ (fun r e1 w => wE_mono hm (fun _ _ x => x) b e1 _ _ (fun s e2 w => the_mono (fun k _ w => the_mono (fun t _ w => ?_) w) w) (evE_ok b e1 _ X w)) (evE_ok a en _ X h)
    cases t with
    | true =>
      rw [if_pos rfl, Rs.sat_bind] at w
      simp only [Rs.sat_bind, Rs.sat_ofO] at w
      refine wE_mono hm (fun _ _ x => x) c' e2 _ _ (fun u e3 w => the_mono (fun k _ w => the_mono (fun t _ w => ?_) w) w) (evE_ok c' e2 _ X w)
      cases t with
      | true =>
        rw [if_pos rfl, Rs.sat_bind] at w
        simp only [Rs.sat_bind, Rs.sat_ofO] at w
        exact evE_ok d e3 _ X w
      | false => exact w
    | false => exact w
  | .call f es, en, Q, X, h => by
    simp only [evE, Rs.sat_bind, Rc.sat_rs] at h
    simp only [wE]
    exact wX_mono hm (fun _ _ x => x) es en _ _ (fun ds e w => hc _ _ _ _ _ w) (evX_ok es en _ X h)
  | .dget d k x, en, Q, X, h => by
    simp only [evE, Rs.sat_bind, Rs.sat_ofO] at h
    simp only [wE]
    refine wE_mono hm (fun _ _ x => x) d en _ _ (fun r e1 w => the_mono (fun _ _ w => wE_mono hm (fun _ _ x => x) k e1 _ _ (fun r2 e2 w => wE_mono hm (fun _ _ x => x) x e2 _ _ (fun r3 e3 w => ?_) (evE_ok x e2 _ X w)) (evE_ok k e1 _ X w)) w) (evE_ok d en _ X h)
    split at w
    · rename_i hf
      exact ⟨hf, by simpa only [Rs.sat_ofO] using w⟩
    · exact w.elim
  | .comp own t s es cond elt, en, Q, X, h => by
    simp only [evE, Rs.sat_bind, Rs.sat_ofO] at h
    simp only [wE]
    refine wX_mono hm (fun _ _ x => x) es en _ _ (fun ds e w => the_mono (fun xs _ w => ?_) w) (evX_ok es en _ X h)
    refine evLoop_ok (fun x acc en1 K w => ?_) xs [] _ _ w
    simp only [Rs.sat_bind, Rs.sat_ofO] at w
    refine the_mono (fun sl _ w => ?_) w
    refine wC_mono hm (fun _ _ x => x) cond _ _ _ (fun k e2 w => ?_) (evC_ok cond _ _ X w)
    cases k with
    | true =>
      rw [if_pos rfl, Rs.sat_bind] at w
      refine wE_mono hm (fun _ _ x => x) elt e2 _ _ (fun r e3 w => ?_) (evE_ok elt e2 _ X w)
      split at w
      · rename_i hl
        exact ⟨hl, w⟩
      · exact w.elim
    | false => exact w
  | .comp2 own own1 t s es cond t1 s1 es1 cond1 elt, en, Q, X, h => by
    simp only [evE, Rs.sat_bind, Rs.sat_ofO] at h
    simp only [wE]
    refine wX_mono hm (fun _ _ x => x) es en _ _ (fun ds e w => the_mono (fun xs _ w => ?_) w) (evX_ok es en _ X h)
    refine evLoop_ok (fun x acc en1 K w => ?_) xs [] _ _ w
    simp only [Rs.sat_bind, Rs.sat_ofO] at w
    refine the_mono (fun sl _ w => ?_) w
    refine wC_mono hm (fun _ _ x => x) cond _ _ _ (fun k e2 w => ?_) (evC_ok cond _ _ X w)
    cases k with
    | true =>
      rw [if_pos rfl] at w
      simp only [Rs.sat_bind, Rs.sat_ofO] at w
      refine wX_mono hm (fun _ _ x => x) es1 e2 _ _ (fun ds1 e3 w => the_mono (fun xs1 _ w => ?_) w) (evX_ok es1 e2 _ X w)
      refine evLoop_ok (fun x1 acc1 en4 K1 w => ?_) xs1 acc _ _ w
      simp only [Rs.sat_bind, Rs.sat_ofO] at w
      refine the_mono (fun sl1 _ w => ?_) w
      refine wC_mono hm (fun _ _ x => x) cond1 _ _ _ (fun k1 e5 w => ?_) (evC_ok cond1 _ _ X w)
      cases k1 with
      | true =>
        rw [if_pos rfl, Rs.sat_bind] at w
        refine wE_mono hm (fun _ _ x => x) elt e5 _ _ (fun r e6 w => ?_) (evE_ok elt e5 _ X w)
        split at w
        · rename_i hl
          exact ⟨hl, w⟩
        · exact w.elim
      | false => exact w
    | false => exact w
theorem evT_ok : ∀ (e : IE) (en : En) (Q : Bool → En → Prop) (X : XP), (evT C e en).sat Q X → wT ⟨c, C.gl⟩ e en Q X
  | .and a b, en, Q, X, h => by
    simp only [evT, Rs.sat_bind] at h
    simp only [wT]
    refine wT_mono hm (fun _ _ x => x) a en _ _ (fun t e w => ?_) (evT_ok a en _ X h)
    cases t with
    | true => exact evT_ok b e Q X w
    | false => exact w
  | .or a b, en, Q, X, h => by
    simp only [evT, Rs.sat_bind] at h
    simp only [wT]
    refine wT_mono hm (fun _ _ x => x) a en _ _ (fun t e w => ?_) (evT_ok a en _ X h)
    cases t with
    | true => exact w
    | false => exact evT_ok b e Q X w
  | .not a, en, Q, X, h => by
    simp only [evT, Rs.sat_bind] at h
    simp only [wT]
    exact evT_ok a en _ X h
  | .ite t a b, en, Q, X, h => by
    simp only [evT, Rs.sat_bind] at h
    simp only [wT]
    refine wT_mono hm (fun _ _ x => x) t en _ _ (fun k e w => ?_) (evT_ok t en _ X h)
    cases k with
    | true => exact evT_ok a e Q X w
    | false => exact evT_ok b e Q X w
  | .c d, en, Q, X, h => by
    simp only [evT, Rs.sat_ofO] at h
    exact h
  | .v i, en, Q, X, h => by
    simp only [evT] at h
    split at h
    · rename_i d e
      rw [Rs.sat_ofO] at h
      simp only [wT, e]
      exact h
    · rename_i d e
      rw [Rs.sat_ofO] at h
      simp only [wT, e]
      exact h
    · exact h.elim
  | .g x, en, Q, X, h => by
    simp only [evT, Rs.sat_ofO] at h
    simp only [wT]
    cases e : C.gl x with
    | none => rw [e] at h; exact h
    | some d => rw [e] at h; exact h
  | .op o es, en, Q, X, h => by
    simp only [evT, Rs.sat_bind, Rs.sat_ofO] at h
    simp only [wT]
    refine wA_mono hm (fun _ _ x => x) es en _ _ (fun ds e w => ?_) (evA_ok es en _ X h)
    cases e2 : app o (ds.map (view e.ob)) with
    | none => rw [e2] at w; exact w
    | some r => rw [e2] at w; exact w
  | .ch o1 o2 a b c', en, Q, X, h => by
    simp only [evT, Rs.sat_bind, Rs.sat_ofO] at h
    simp only [wT]
    refine wE_mono hm (fun _ _ x => x) a en _ _ (fun r e1 w => wE_mono hm (fun _ _ x => x) b e1 _ _ (fun s e2 w => the_mono (fun k _ w => the_mono (fun t _ w => ?_) w) w) (evE_ok b e1 _ X w)) (evE_ok a en _ X h)
    cases t with
    | true =>
      rw [if_pos rfl] at w
      simp only [Rs.sat_bind, Rs.sat_ofO] at w
      refine wE_mono hm (fun _ _ x => x) c' e2 _ _ (fun u e3 w => ?_) (evE_ok c' e2 _ X w)
      cases e4 : app o2 [view e3.ob s.d, view e3.ob u.d] with
      | none => rw [e4] at w; exact w
      | some z => rw [e4] at w; exact w
    | false => exact w
  | .ch3 o1 o2 o3 a b c' d, en, Q, X, h => by
    simp only [evT, Rs.sat_bind, Rs.sat_ofO] at h
    simp only [wT]
    refine wE_mono hm (fun _ _ x => x) a en _ _ (fun r e1 w => wE_mono hm (fun _ _ x => x) b e1 _ _ (fun s e2 w => the_mono (fun k _ w => the_mono (fun t _ w => ?_) w) w) (evE_ok b e1 _ X w)) (evE_ok a en _ X h)
    cases t with
    | true =>
      rw [if_pos rfl] at w
      simp only [Rs.sat_bind, Rs.sat_ofO] at w
      refine wE_mono hm (fun _ _ x => x) c' e2 _ _ (fun u e3 w => the_mono (fun k _ w => the_mono (fun t _ w => ?_) w) w) (evE_ok c' e2 _ X w)
      cases t with
      | true =>
        rw [if_pos rfl] at w
        simp only [Rs.sat_bind, Rs.sat_ofO] at w
        refine wE_mono hm (fun _ _ x => x) d e3 _ _ (fun y e4 w => ?_) (evE_ok d e3 _ X w)
        cases e5 : app o3 [view e4.ob u.d, view e4.ob y.d] with
        | none => rw [e5] at w; exact w
        | some z => rw [e5] at w; exact w
      | false => exact w
    | false => exact w
  | .call f es, en, Q, X, h => by
    simp only [evT, Rs.sat_bind, Rc.sat_rs, Rs.sat_ofO] at h
    simp only [wT]
    exact wX_mono hm (fun _ _ x => x) es en _ _ (fun ds e w => hc _ _ _ _ _ w) (evX_ok es en _ X h)
  | .disp _ _ _, en, Q, X, h => h.elim
  | .comp _ _ _ _ _ _, en, Q, X, h => h.elim
  | .dget _ _ _, en, Q, X, h => h.elim
  | .comp2 _ _ _ _ _ _ _ _ _ _ _, en, Q, X, h => h.elim
theorem evC_ok : ∀ (e : Option IE) (en : En) (Q : Bool → En → Prop) (X : XP), (evC C e en).sat Q X → wC ⟨c, C.gl⟩ e en Q X
  | none, en, Q, X, h => h
  | some e, en, Q, X, h => by
    simp only [evC] at h
    simp only [wC]
    exact evT_ok e en Q X h
theorem evA_ok : ∀ (es : List IE) (en : En) (Q : List D → En → Prop) (X : XP), (evA C es en).sat Q X → wA ⟨c, C.gl⟩ es en Q X
  | [], en, Q, X, h => h
  | e :: es, en, Q, X, h => by
    simp only [evA, Rs.sat_bind] at h
    simp only [wA]
    exact wE_mono hm (fun _ _ x => x) e en _ _ (fun r e' w => evA_ok es e' _ X w) (evE_ok e en _ X h)
theorem evX_ok : ∀ (es : List IE) (en : En) (Q : List D → En → Prop) (X : XP), (evX C es en).sat Q X → wX ⟨c, C.gl⟩ es en Q X
  | [], en, Q, X, h => h
  | e :: es, en, Q, X, h => by
    simp only [evX, Rs.sat_bind] at h
    simp only [wX]
    exact wE_mono hm (fun _ _ x => x) e en _ _ (fun r e' w => evX_ok es _ _ X w) (evE_ok e en _ X h)
theorem evD_ok : ∀ (st : List Bool) (es : List IE) (en : En) (Q : List D → En → Prop) (X : XP), (evD C st es en).sat Q X → wD ⟨c, C.gl⟩ st es en Q X
  | [], [], en, Q, X, h => h
  | false :: bs, e :: es, en, Q, X, h => by
    simp only [evD, Rs.sat_bind] at h
    simp only [wD]
    exact wE_mono hm (fun _ _ x => x) e en _ _ (fun r e' w => evD_ok bs es _ _ X w) (evE_ok e en _ X h)
  | true :: bs, e :: es, en, Q, X, h => by
    simp only [evD, Rs.sat_bind, Rs.sat_ofO] at h
    simp only [wD]
    exact wE_mono hm (fun _ _ x => x) e en _ _ (fun r e' w => the_mono (fun xs _ w => evD_ok bs es _ _ X w) w) (evE_ok e en _ X h)
  | [], _ :: _, en, Q, X, h => h.elim
  | true :: _, [], en, Q, X, h => h.elim
  | false :: _, [], en, Q, X, h => h.elim
end
mutual
theorem evS_ok : ∀ (s : IS) (en : En) (P : Po) (X : XP), (evS C s en).sat P X → wS ⟨c, C.gl⟩ s en P X
  | .set i e, en, P, X, h => by
    simp only [evS, Rs.sat_ou] at h
    simp only [wS]
    exact evE_ok hm hc e en _ X h
  | .par i j a b, en, P, X, h => by
    simp only [evS, Rs.sat_ou] at h
    simp only [wS]
    exact wE_mono hm (fun _ _ x => x) a en _ _ (fun r e w => evE_ok hm hc b _ _ X w) (evE_ok hm hc a en _ X h)
  | .setO i e, en, P, X, h => by
    simp only [evS, Rs.sat_ou] at h
    simp only [wS]
    refine wE_mono hm (fun _ _ x => x) e en _ _ (fun r e w => ?_) (evE_ok hm hc e en _ X h)
    cases r <;> exact w
  | .tset is e, en, P, X, h => by
    simp only [evS, Rs.sat_ou, Rs.sat_ofO] at h
    simp only [wS]
    exact evE_ok hm hc e en _ X h
  | .aug i o e, en, P, X, h => by
    simp only [evS] at h
    split at h
    · rename_i k q
      simp only [wS, q]
      simp only [Rs.sat_ou] at h
      refine wE_mono hm (fun _ _ x => x) e en _ _ (fun r e w => ?_) (evE_ok hm hc e en _ X h)
      split at w
      · rename_i j q2
        first | exact w | (simp only [q2]; exact w)
      · exact w.elim
    · exact h.elim
  | .put i k e, en, P, X, h => by
    simp only [evS] at h
    simp only [wS]
    split at h
    · rename_i hl
      refine ⟨hl, ?_⟩
      simp only [Rs.sat_ou, Rs.sat_ofO] at h
      exact wE_mono hm (fun _ _ x => x) e en _ _ (fun r e w => evA_ok hm hc [k] _ _ X w) (evE_ok hm hc e en _ X h)
    · exact h.elim
  | .mut i m e, en, P, X, h => by
    simp only [evS] at h
    simp only [wS]
    split at h
    · rename_i hl
      refine ⟨hl, ?_⟩
      simp only [Rs.sat_ou, Rs.sat_ofO] at h
      exact evE_ok hm hc e en _ X h
    · exact h.elim
  | .expr e, en, P, X, h => by
    simp only [evS, Rs.sat_ou] at h
    simp only [wS]
    exact evE_ok hm hc e en _ X h
  | .ret e, en, P, X, h => by
    simp only [evS, Rs.sat_ou] at h
    simp only [wS]
    exact evE_ok hm hc e en _ X h
  | .ite t a b, en, P, X, h => by
    simp only [evS, Rs.sat_ou] at h
    simp only [wS]
    refine wT_mono hm (fun _ _ x => x) t en _ _ (fun k e w => ?_) (evT_ok hm hc t en _ X h)
    cases k with
    | true => exact evSs_ok a e P X w
    | false => exact evSs_ok b e P X w
  | .for_ t s es body, en, P, X, h => by
    simp only [evS, Rs.sat_ou, Rs.sat_ofO] at h
    simp only [wS]
    refine wX_mono hm (fun _ _ x => x) es en _ _ (fun ds e w => the_mono (fun xs _ w => ?_) w) (evX_ok hm hc es en _ X h)
    exact evFor_ok (body' := fun P en => wSs ⟨c, C.gl⟩ body en P X) (fun en P h => evSs_ok body en P X h) xs e w
  | .whl t body, en, P, X, h => by
    simp only [wS]
    exact ⟨whlMax, evWhl_ok (test' := fun Q en1 => wT ⟨c, C.gl⟩ t en1 Q X) (body' := fun P en => wSs ⟨c, C.gl⟩ body en P X) (fun en Q h => evT_ok hm hc t en Q X h) (fun en P h => evSs_ok body en P X h) whlMax en h⟩
  | .brk, en, P, X, h => h
  | .cont, en, P, X, h => h
  | .pass, en, P, X, h => h
  | .stuck, en, P, X, h => h
theorem evSs_ok : ∀ (ss : List IS) (en : En) (P : Po) (X : XP), (evSs C ss en).sat P X → wSs ⟨c, C.gl⟩ ss en P X
  | [], en, P, X, h => h
  | s :: ss, en, P, X, h => by
    simp only [evSs] at h
    simp only [wSs]
    refine evS_ok s en _ X ?_
    have z := Ou.sat_seq h
    cases e : evS C s en with
    | nx e3 => rw [e] at z; exact evSs_ok ss e3 P X z
    | ct e3 => rw [e] at z; exact z
    | bk e3 => rw [e] at z; exact z
    | rt r ob => rw [e] at z; exact z
    | ex x' e3 => rw [e] at z; exact z
    | no => rw [e] at z; exact z
end
end
theorem Ou.sat_rc {o : Ou} {Q : R → List Ob → Prop} {X : Ex → List Ob → Prop} (h : o.rc.sat Q X) : o.sat { nx := fun en => Q (.fz .non) en.ob, rt := Q } (fun e en => X e en.ob) := by
  cases o <;> first | exact h | exact h.elim
theorem evF_ok (tbl : Str → Option Fn) (gl : Str → Option D) : ∀ (n : Nat) (f : Str) (ds : List D) (ob : List Ob) (Q : R → List Ob → Prop) (X : Ex → List Ob → Prop), (evF tbl gl n f ds ob).sat Q X → runF tbl gl n f ds ob Q X
  | 0, f, ds, ob, Q, X, h => h
  | n + 1, f, ds, ob, Q, X, h => by
    simp only [evF] at h
    show the (tbl f) _
    cases e : tbl f with
    | none => rw [e] at h; exact h
    | some fn =>
      rw [e] at h
      dsimp only at h
      split at h
      · rename_i hl
        exact ⟨hl, evSs_ok (C := ⟨evF tbl gl n, gl⟩) (runF_mono tbl gl n) (evF_ok tbl gl n) fn.body _ _ _ (Ou.sat_rc h)⟩
      · exact h.elim
end Tk

/-! Tk, part 22: running the small language by rewriting: what is still to be done is a name, not a function's body. -/
namespace Tk
open PySem
section
variable (C : Ec)
def opK (o : Op) : Rs (List D) → Rs R
  | .ok ds en => .ofO (app o (ds.map (view en.ob))) en
  | .ex x en => .ex x en
  | .no => .no
def topK (o : Op) : Rs (List D) → Rs Bool
  | .ok ds en => .ofO ((app o (ds.map (view en.ob))).bind fun r => truthD (view en.ob r.d)) en
  | .ex x en => .ex x en
  | .no => .no
def consK (d : D) : Rs (List D) → Rs (List D)
  | .ok ds en => .ok (d :: ds) en
  | .ex x en => .ex x en
  | .no => .no
def appK (xs : List D) : Rs (List D) → Rs (List D)
  | .ok ds en => .ok (xs ++ ds) en
  | .ex x en => .ex x en
  | .no => .no
def argK (es : List IE) : Rs R → Rs (List D)
  | .ok r en => consK r.d (evA C es en)
  | .ex x en => .ex x en
  | .no => .no
def xrgK (es : List IE) : Rs R → Rs (List D)
  | .ok r en => consK r.d (evX C es (en.frz r))
  | .ex x en => .ex x en
  | .no => .no
def dspK (bs : List Bool) (es : List IE) : Rs R → Rs (List D)
  | .ok r en => consK r.d (evD C bs es (en.frz r))
  | .ex x en => .ex x en
  | .no => .no
def starK (bs : List Bool) (es : List IE) (en : En) : Option (List D) → Rs (List D)
  | some xs => appK xs (evD C bs es en)
  | none => .no
def dssK (bs : List Bool) (es : List IE) : Rs R → Rs (List D)
  | .ok r en => starK C bs es en (spliceD [true] [view en.ob r.d])
  | .ex x en => .ex x en
  | .no => .no
def dispK (tup : Bool) : Rs (List D) → Rs R
  | .ok xs en => if xs.length ≤ 16777216 then (if tup = true then .ok (.fz (.tup xs)) en else .ok (.ow (.lst xs)) en) else .no
  | .ex x en => .ex x en
  | .no => .no
def andB (b : IE) (r : R) (en : En) : Option Bool → Rs R
  | some t => if t = true then evE C b en else .ok r en
  | none => .no
def orB (b : IE) (r : R) (en : En) : Option Bool → Rs R
  | some t => if t = true then .ok r en else evE C b en
  | none => .no
def andK (b : IE) : Rs R → Rs R
  | .ok r en => andB C b r en (truthD (view en.ob r.d))
  | .ex x en => .ex x en
  | .no => .no
def orK (b : IE) : Rs R → Rs R
  | .ok r en => orB C b r en (truthD (view en.ob r.d))
  | .ex x en => .ex x en
  | .no => .no
def notK  : Rs Bool → Rs R
  | .ok t en => .ok (.fz (.bl (!t))) en
  | .ex x en => .ex x en
  | .no => .no
def iteEK (a : IE) (b : IE) : Rs Bool → Rs R
  | .ok t en => if t = true then evE C a en else evE C b en
  | .ex x en => .ex x en
  | .no => .no
def chL (o2 : Op) (s : R) : Rs R → Rs R
  | .ok u en => .ofO (app o2 [view en.ob s.d, view en.ob u.d]) en
  | .ex x en => .ex x en
  | .no => .no
def chB (o2 : Op) (c : IE) (s : R) (en : En) : Option Bool → Rs R
  | some t => if t = true then chL o2 s (evE C c en) else .ok (.fz (.bl false)) en
  | none => .no
def tchL (o2 : Op) (s : R) : Rs R → Rs Bool
  | .ok u en => .ofO ((app o2 [view en.ob s.d, view en.ob u.d]).bind fun z => boolD z.d) en
  | .ex x en => .ex x en
  | .no => .no
def tchB (o2 : Op) (c : IE) (s : R) (en : En) : Option Bool → Rs Bool
  | some t => if t = true then tchL o2 s (evE C c en) else .ok false en
  | none => .no
def chK2 (o1 : Op) (o2 : Op) (c : IE) (r : R) : Rs R → Rs R
  | .ok s en => chB C o2 c s en ((app o1 [view en.ob r.d, view en.ob s.d]).bind fun k => boolD k.d)
  | .ex x en => .ex x en
  | .no => .no
def chK1 (o1 : Op) (o2 : Op) (b : IE) (c : IE) : Rs R → Rs R
  | .ok r en => chK2 C o1 o2 c r (evE C b en)
  | .ex x en => .ex x en
  | .no => .no
def tchK2 (o1 : Op) (o2 : Op) (c : IE) (r : R) : Rs R → Rs Bool
  | .ok s en => tchB C o2 c s en ((app o1 [view en.ob r.d, view en.ob s.d]).bind fun k => boolD k.d)
  | .ex x en => .ex x en
  | .no => .no
def tchK1 (o1 : Op) (o2 : Op) (b : IE) (c : IE) : Rs R → Rs Bool
  | .ok r en => tchK2 C o1 o2 c r (evE C b en)
  | .ex x en => .ex x en
  | .no => .no
def ch3B2 (o3 : Op) (d : IE) (u : R) (en : En) : Option Bool → Rs R
  | some t => if t = true then chL o3 u (evE C d en) else .ok (.fz (.bl false)) en
  | none => .no
def ch3K3 (o2 o3 : Op) (d : IE) (s : R) : Rs R → Rs R
  | .ok u en => ch3B2 C o3 d u en ((app o2 [view en.ob s.d, view en.ob u.d]).bind fun k => boolD k.d)
  | .ex x en => .ex x en
  | .no => .no
def ch3B1 (o2 o3 : Op) (c d : IE) (s : R) (en : En) : Option Bool → Rs R
  | some t => if t = true then ch3K3 C o2 o3 d s (evE C c en) else .ok (.fz (.bl false)) en
  | none => .no
def tch3B2 (o3 : Op) (d : IE) (u : R) (en : En) : Option Bool → Rs Bool
  | some t => if t = true then tchL o3 u (evE C d en) else .ok false en
  | none => .no
def tch3K3 (o2 o3 : Op) (d : IE) (s : R) : Rs R → Rs Bool
  | .ok u en => tch3B2 C o3 d u en ((app o2 [view en.ob s.d, view en.ob u.d]).bind fun k => boolD k.d)
  | .ex x en => .ex x en
  | .no => .no
def tch3B1 (o2 o3 : Op) (c d : IE) (s : R) (en : En) : Option Bool → Rs Bool
  | some t => if t = true then tch3K3 C o2 o3 d s (evE C c en) else .ok false en
  | none => .no
def ch3K2 (o1 : Op) (o2 : Op) (o3 : Op) (c : IE) (d : IE) (r : R) : Rs R → Rs R
  | .ok s en => ch3B1 C o2 o3 c d s en ((app o1 [view en.ob r.d, view en.ob s.d]).bind fun k => boolD k.d)
  | .ex x en => .ex x en
  | .no => .no
def ch3K1 (o1 : Op) (o2 : Op) (o3 : Op) (b : IE) (c : IE) (d : IE) : Rs R → Rs R
  | .ok r en => ch3K2 C o1 o2 o3 c d r (evE C b en)
  | .ex x en => .ex x en
  | .no => .no
def tch3K2 (o1 : Op) (o2 : Op) (o3 : Op) (c : IE) (d : IE) (r : R) : Rs R → Rs Bool
  | .ok s en => tch3B1 C o2 o3 c d s en ((app o1 [view en.ob r.d, view en.ob s.d]).bind fun k => boolD k.d)
  | .ex x en => .ex x en
  | .no => .no
def tch3K1 (o1 : Op) (o2 : Op) (o3 : Op) (b : IE) (c : IE) (d : IE) : Rs R → Rs Bool
  | .ok r en => tch3K2 C o1 o2 o3 c d r (evE C b en)
  | .ex x en => .ex x en
  | .no => .no
def callK (f : Str) : Rs (List D) → Rs R
  | .ok ds en => (C.cal f ds en.ob).rs en
  | .ex x en => .ex x en
  | .no => .no
def truK  : Rs R → Rs Bool
  | .ok r en => .ofO (truthD (view en.ob r.d)) en
  | .ex x en => .ex x en
  | .no => .no
def tandK (b : IE) : Rs Bool → Rs Bool
  | .ok t en => if t = true then evT C b en else .ok false en
  | .ex x en => .ex x en
  | .no => .no
def torK (b : IE) : Rs Bool → Rs Bool
  | .ok t en => if t = true then .ok true en else evT C b en
  | .ex x en => .ex x en
  | .no => .no
def tnotK  : Rs Bool → Rs Bool
  | .ok t en => .ok (!t) en
  | .ex x en => .ex x en
  | .no => .no
def titeK (a : IE) (b : IE) : Rs Bool → Rs Bool
  | .ok t en => if t = true then evT C a en else evT C b en
  | .ex x en => .ex x en
  | .no => .no
def setK (i : Nat) : Rs R → Ou
  | .ok r en => .nx ⟨(frzS r en.sl).set i (toSl r), en.ob⟩
  | .ex x en => .ex x en
  | .no => .no
def parK2 (i : Nat) (j : Nat) (r : R) : Rs R → Ou
  | .ok s en => .nx ⟨((frzS s en.sl).set i (toSl r)).set j (toSl s), en.ob⟩
  | .ex x en => .ex x en
  | .no => .no
def parK1 (i : Nat) (j : Nat) (b : IE) : Rs R → Ou
  | .ok r en => parK2 i j r (evE C b (en.frz r))
  | .ex x en => .ex x en
  | .no => .no
def setOK (i : Nat) : Rs R → Ou
  | .ok r en => match r with | .ow d => .nx ⟨en.sl.set i (.fz (.obj en.ob.length)), en.ob ++ [.con d]⟩ | _ => .no
  | .ex x en => .ex x en
  | .no => .no
def slK (en : En) : Option (List Sl) → Ou
  | some sl => .nx ⟨sl, en.ob⟩
  | none => .no
def enK : Option En → Ou
  | some en => .nx en
  | none => .no
def tsetK (is : List Nat) : Rs R → Ou
  | .ok r en => slK en (Tg.put (.t is) r.d (frzS r en.sl))
  | .ex x en => .ex x en
  | .no => .no
def augK (i : Nat) (o : Op) (k : Int) : Rs R → Ou
  | .ok r en => match r.d with | .int j => .nx ⟨en.sl.set i (.fz (.int (augI o k j))), en.ob⟩ | _ => .no
  | .ex x en => .ex x en
  | .no => .no
def putK2 (i : Nat) (r : R) : Rs (List D) → Ou
  | .ok ks en => enK (en.chg i fun d => putD d (ks.headD .non) r.d)
  | .ex x en => .ex x en
  | .no => .no
def putK1 (i : Nat) (k : IE) : Rs R → Ou
  | .ok r en => putK2 i r (evA C [k] (en.frz r))
  | .ex x en => .ex x en
  | .no => .no
def mutK (i : Nat) (m : Mu) : Rs R → Ou
  | .ok r en => enK ((en.frz r).chg i fun d => mutD m d r.d)
  | .ex x en => .ex x en
  | .no => .no
def exprK  : Rs R → Ou
  | .ok r en => .nx en
  | .ex x en => .ex x en
  | .no => .no
def retK  : Rs R → Ou
  | .ok r en => .rt r.out en.ob
  | .ex x en => .ex x en
  | .no => .no
def iteK (a : List IS) (b : List IS) : Rs Bool → Ou
  | .ok t en => if t = true then evSs C a en else evSs C b en
  | .ex x en => .ex x en
  | .no => .no
def bodyOf (body : List IS) : En → Ou := evSs C body
def walkK (t : Tg) (body : List IS) (en : En) : Option (List D) → Ou
  | some xs => evFor (bodyOf C body) t xs en
  | none => .no
def forK (t : Tg) (s : Src) (body : List IS) : Rs (List D) → Ou
  | .ok ds en => walkK C t body en (walk s ds)
  | .ex x en => .ex x en
  | .no => .no
def seqS (ss : List IS) : Ou → Ou
  | .nx en => evSs C ss en
  | o => o
def seqI : List IS → Ou → Ou
  | [], o => o
  | ss, o => seqS C ss o
end
section
variable {C : Ec} {en : En} {a b c d e : IE} {es : List IE} {bs : List Bool} {o o1 o2 o3 : Op} {i j : Nat} {x : Rs R}
theorem r_c {d : D} : evE C (.c d) en = .ok (.fz d) en := rfl
theorem r_v : evE C (.v i) en = (match en.sl[i]? with | some (.fz d) => .ok (.fz d) en | some (.ow d) => .ok (.rf i d) en | _ => .no) := rfl
theorem r_g {y : Str} : evE C (.g y) en = .ofO ((C.gl y).map .fz) en := rfl
theorem t_v : evT C (.v i) en = (match en.sl[i]? with | some (.fz d) => .ofO (truthD (view en.ob d)) en | some (.ow d) => .ofO (truthD (view en.ob d)) en | _ => .no) := rfl
theorem t_c {d : D} : evT C (.c d) en = .ofO (truthD (view en.ob d)) en := rfl
theorem a_nil : evA C [] en = .ok [] en := rfl
theorem x_nil : evX C [] en = .ok [] en := rfl
theorem d_nil : evD C [] [] en = .ok [] en := rfl
theorem c_none : evC C none en = .ok true en := rfl
theorem c_some : evC C (some e) en = evT C e en := rfl
theorem ss_nil : evSs C [] en = .nx en := rfl
theorem r_op : evE C (.op o es) en = opK o (evA C es en) := by
  simp only [evE]
  cases evA C es en <;> rfl
theorem t_op : evT C (.op o es) en = topK o (evA C es en) := by
  simp only [evT]
  cases evA C es en <;> rfl
theorem a_cons : evA C (e :: es) en = argK C es (evE C e en) := by
  simp only [evA]
  cases evE C e en with
  | ok r en => simp only [argK]; show (evA C es en).bind _ = _; cases evA C es en <;> rfl
  | _ => rfl
theorem x_cons : evX C (e :: es) en = xrgK C es (evE C e en) := by
  simp only [evX]
  cases evE C e en with
  | ok r en => simp only [xrgK]; show (evX C es (en.frz r)).bind _ = _; cases evX C es (en.frz r) <;> rfl
  | _ => rfl
theorem d_cons : evD C (false :: bs) (e :: es) en = dspK C bs es (evE C e en) := by
  simp only [evD]
  cases evE C e en with
  | ok r en => simp only [dspK]; show (evD C bs es (en.frz r)).bind _ = _; cases evD C bs es (en.frz r) <;> rfl
  | _ => rfl
theorem d_star : evD C (true :: bs) (e :: es) en = dssK C bs es (evE C e en) := by
  simp only [evD]
  cases evE C e en with
  | ok r en =>
    simp only [dssK]
    show (Rs.ofO (spliceD [true] [view en.ob r.d]) en).bind _ = _
    cases spliceD [true] [view en.ob r.d] with
    | none => rfl
    | some xs => show (evD C bs es en).bind _ = appK xs (evD C bs es en); cases evD C bs es en <;> rfl
  | _ => rfl
theorem r_disp {t : Bool} : evE C (.disp t bs es) en = dispK t (evD C bs es en) := by
  simp only [evE]
  cases evD C bs es en <;> rfl
theorem r_and : evE C (.and a b) en = andK C b (evE C a en) := by
  simp only [evE]
  cases evE C a en with
  | ok r en => simp only [andK]; show (Rs.ofO (truthD (view en.ob r.d)) en).bind _ = _; cases truthD (view en.ob r.d) <;> rfl
  | _ => rfl
theorem r_or : evE C (.or a b) en = orK C b (evE C a en) := by
  simp only [evE]
  cases evE C a en with
  | ok r en => simp only [orK]; show (Rs.ofO (truthD (view en.ob r.d)) en).bind _ = _; cases truthD (view en.ob r.d) <;> rfl
  | _ => rfl
theorem r_not : evE C (.not a) en = notK (evT C a en) := by
  simp only [evE]
  cases evT C a en <;> rfl
theorem r_ite : evE C (.ite c a b) en = iteEK C a b (evT C c en) := by
  simp only [evE]
  cases evT C c en <;> rfl
theorem r_ch : evE C (.ch o1 o2 a b c) en = chK1 C o1 o2 b c (evE C a en) := by
  simp only [evE]
  cases evE C a en with
  | ok r en1 =>
    simp only [chK1]
    show (evE C b en1).bind _ = _
    cases evE C b en1 with
    | ok s en2 =>
      simp only [chK2]
      show (Rs.ofO (app o1 [view en2.ob r.d, view en2.ob s.d]) en2).bind _ = _
      cases app o1 [view en2.ob r.d, view en2.ob s.d] with
      | none => rfl
      | some k =>
        show (Rs.ofO (boolD k.d) en2).bind _ = chB C o2 c s en2 (boolD k.d)
        cases boolD k.d with
        | none => rfl
        | some t =>
          cases t with
          | false => rfl
          | true => show (evE C c en2).bind _ = chL o2 s (evE C c en2); cases evE C c en2 <;> rfl
    | _ => rfl
  | _ => rfl
theorem r_ch3 : evE C (.ch3 o1 o2 o3 a b c d) en = ch3K1 C o1 o2 o3 b c d (evE C a en) := by
  simp only [evE]
  cases evE C a en with
  | ok r en1 =>
    simp only [ch3K1]
    show (evE C b en1).bind _ = _
    cases evE C b en1 with
    | ok s en2 =>
      simp only [ch3K2]
      show (Rs.ofO (app o1 [view en2.ob r.d, view en2.ob s.d]) en2).bind _ = _
      cases app o1 [view en2.ob r.d, view en2.ob s.d] with
      | none => rfl
      | some k =>
        show (Rs.ofO (boolD k.d) en2).bind _ = ch3B1 C o2 o3 c d s en2 (boolD k.d)
        cases boolD k.d with
        | none => rfl
        | some t =>
          cases t with
          | false => rfl
          | true =>
            show (evE C c en2).bind _ = ch3K3 C o2 o3 d s (evE C c en2)
            cases evE C c en2 with
            | ok u en3 =>
              simp only [ch3K3]
              show (Rs.ofO (app o2 [view en3.ob s.d, view en3.ob u.d]) en3).bind _ = _
              cases app o2 [view en3.ob s.d, view en3.ob u.d] with
              | none => rfl
              | some k2 =>
                show (Rs.ofO (boolD k2.d) en3).bind _ = ch3B2 C o3 d u en3 (boolD k2.d)
                cases boolD k2.d with
                | none => rfl
                | some t2 =>
                  cases t2 with
                  | false => rfl
                  | true => show (evE C d en3).bind _ = chL o3 u (evE C d en3); cases evE C d en3 <;> rfl
            | _ => rfl
    | _ => rfl
  | _ => rfl
theorem t_ch : evT C (.ch o1 o2 a b c) en = tchK1 C o1 o2 b c (evE C a en) := by
  simp only [evT]
  cases evE C a en with
  | ok r en1 =>
    simp only [tchK1]
    show (evE C b en1).bind _ = _
    cases evE C b en1 with
    | ok s en2 =>
      simp only [tchK2]
      show (Rs.ofO (app o1 [view en2.ob r.d, view en2.ob s.d]) en2).bind _ = _
      cases app o1 [view en2.ob r.d, view en2.ob s.d] with
      | none => rfl
      | some k =>
        show (Rs.ofO (boolD k.d) en2).bind _ = tchB C o2 c s en2 (boolD k.d)
        cases boolD k.d with
        | none => rfl
        | some t =>
          cases t with
          | false => rfl
          | true => show (evE C c en2).bind _ = tchL o2 s (evE C c en2); cases evE C c en2 <;> rfl
    | _ => rfl
  | _ => rfl
theorem t_ch3 : evT C (.ch3 o1 o2 o3 a b c d) en = tch3K1 C o1 o2 o3 b c d (evE C a en) := by
  simp only [evT]
  cases evE C a en with
  | ok r en1 =>
    simp only [tch3K1]
    show (evE C b en1).bind _ = _
    cases evE C b en1 with
    | ok s en2 =>
      simp only [tch3K2]
      show (Rs.ofO (app o1 [view en2.ob r.d, view en2.ob s.d]) en2).bind _ = _
      cases app o1 [view en2.ob r.d, view en2.ob s.d] with
      | none => rfl
      | some k =>
        show (Rs.ofO (boolD k.d) en2).bind _ = tch3B1 C o2 o3 c d s en2 (boolD k.d)
        cases boolD k.d with
        | none => rfl
        | some t =>
          cases t with
          | false => rfl
          | true =>
            show (evE C c en2).bind _ = tch3K3 C o2 o3 d s (evE C c en2)
            cases evE C c en2 with
            | ok u en3 =>
              simp only [tch3K3]
              show (Rs.ofO (app o2 [view en3.ob s.d, view en3.ob u.d]) en3).bind _ = _
              cases app o2 [view en3.ob s.d, view en3.ob u.d] with
              | none => rfl
              | some k2 =>
                show (Rs.ofO (boolD k2.d) en3).bind _ = tch3B2 C o3 d u en3 (boolD k2.d)
                cases boolD k2.d with
                | none => rfl
                | some t2 =>
                  cases t2 with
                  | false => rfl
                  | true => show (evE C d en3).bind _ = tchL o3 u (evE C d en3); cases evE C d en3 <;> rfl
            | _ => rfl
    | _ => rfl
  | _ => rfl
theorem r_call {f : Str} : evE C (.call f es) en = callK C f (evX C es en) := by
  simp only [evE]
  cases evX C es en <;> rfl
theorem t_call {f : Str} : evT C (.call f es) en = truK (callK C f (evX C es en)) := by
  simp only [evT]
  cases evX C es en with
  | ok r en => simp only [callK]; show ((C.cal f r en.ob).rs en).bind _ = _; cases (C.cal f r en.ob).rs en <;> rfl
  | _ => rfl
theorem t_and : evT C (.and a b) en = tandK C b (evT C a en) := by
  simp only [evT]
  cases evT C a en <;> rfl
theorem t_or : evT C (.or a b) en = torK C b (evT C a en) := by
  simp only [evT]
  cases evT C a en <;> rfl
theorem t_not : evT C (.not a) en = tnotK (evT C a en) := by
  simp only [evT]
  cases evT C a en <;> rfl
theorem t_ite : evT C (.ite c a b) en = titeK C a b (evT C c en) := by
  simp only [evT]
  cases evT C c en <;> rfl
theorem s_set : evS C (.set i e) en = setK i (evE C e en) := by
  simp only [evS]
  cases evE C e en <;> rfl
theorem s_par : evS C (.par i j a b) en = parK1 C i j b (evE C a en) := by
  simp only [evS]
  cases evE C a en with
  | ok r en => simp only [parK1]; show (evE C b (en.frz r)).ou _ = _; cases evE C b (en.frz r) <;> rfl
  | _ => rfl
theorem s_setO : evS C (.setO i e) en = setOK i (evE C e en) := by
  simp only [evS]
  cases evE C e en with
  | ok r en => cases r <;> rfl
  | _ => rfl
theorem s_tset {is : List Nat} : evS C (.tset is e) en = tsetK is (evE C e en) := by
  simp only [evS]
  cases evE C e en with
  | ok r en => simp only [tsetK]; show (Rs.ofO (Tg.put (.t is) r.d (frzS r en.sl)) en).ou _ = _; cases Tg.put (.t is) r.d (frzS r en.sl) <;> rfl
  | _ => rfl
theorem s_aug {k : Int} (h : en.sl[i]? = some (.fz (.int k))) : evS C (.aug i o e) en = augK i o k (evE C e en) := by
  simp only [evS, h]
  cases evE C e en with
  | ok r en => simp only [augK]; rfl
  | _ => rfl
theorem s_put : evS C (.put i d e) en = if en.isC i = true then putK1 C i d (evE C e en) else .no := by
  simp only [evS]
  split
  · cases evE C e en with
    | ok r en =>
      simp only [putK1]
      show (evA C [d] (en.frz r)).ou _ = _
      cases evA C [d] (en.frz r) with
      | ok ks en2 =>
        simp only [putK2]
        show (Rs.ofO (en2.chg i fun z => putD z (ks.headD .non) r.d) en2).ou _ = _
        cases en2.chg i fun z => putD z (ks.headD .non) r.d <;> rfl
      | _ => rfl
    | _ => rfl
  · rfl
theorem s_mut {m : Mu} : evS C (.mut i m e) en = if en.isL i = true then mutK i m (evE C e en) else .no := by
  simp only [evS]
  split
  · cases evE C e en with
    | ok r en =>
      simp only [mutK]
      show (Rs.ofO ((en.frz r).chg i fun z => mutD m z r.d) en).ou _ = _
      cases (en.frz r).chg i fun z => mutD m z r.d <;> rfl
    | _ => rfl
  · rfl
theorem s_expr : evS C (.expr e) en = exprK (evE C e en) := by
  simp only [evS]
  cases evE C e en <;> rfl
theorem s_ret : evS C (.ret e) en = retK (evE C e en) := by
  simp only [evS]
  cases evE C e en <;> rfl
theorem s_ite {p q : List IS} : evS C (.ite c p q) en = iteK C p q (evT C c en) := by
  simp only [evS]
  cases evT C c en <;> rfl
theorem s_for {t : Tg} {s : Src} {p : List IS} : evS C (.for_ t s es p) en = forK C t s p (evX C es en) := by
  simp only [evS]
  cases evX C es en with
  | ok r en => simp only [forK]; show (Rs.ofO (walk s r) en).ou _ = _; cases walk s r <;> rfl
  | _ => rfl
theorem s_brk : evS C .brk en = .bk en := rfl
theorem s_cont : evS C .cont en = .ct en := rfl
theorem s_pass : evS C .pass en = .nx en := rfl
theorem s_stuck : evS C .stuck en = .no := rfl
theorem ss_one {s : IS} : evSs C [s] en = evS C s en := by
  simp only [evSs]
  cases evS C s en <;> rfl
theorem ss_cons {s s2 : IS} {ss : List IS} : evSs C (s :: s2 :: ss) en = seqS C (s2 :: ss) (evS C s en) := by
  rw [evSs]
  cases evS C s en <;> rfl
end
section
variable {C : Ec}
theorem opK_ok {o : Op} {ds : List D} {en : En} : opK o (.ok ds en) = .ofO (app o (ds.map (view en.ob))) en := rfl
theorem opK_ex {o : Op} {x : Ex} {en : En} : opK o (.ex x en) = .ex x en := rfl
theorem opK_no {o : Op}  : opK o (.no) = .no := rfl
theorem topK_ok {o : Op} {ds : List D} {en : En} : topK o (.ok ds en) = .ofO ((app o (ds.map (view en.ob))).bind fun r => truthD (view en.ob r.d)) en := rfl
theorem topK_ex {o : Op} {x : Ex} {en : En} : topK o (.ex x en) = .ex x en := rfl
theorem topK_no {o : Op}  : topK o (.no) = .no := rfl
theorem consK_ok {d : D} {ds : List D} {en : En} : consK d (.ok ds en) = .ok (d :: ds) en := rfl
theorem consK_ex {d : D} {x : Ex} {en : En} : consK d (.ex x en) = .ex x en := rfl
theorem consK_no {d : D}  : consK d (.no) = .no := rfl
theorem appK_ok {xs : List D} {ds : List D} {en : En} : appK xs (.ok ds en) = .ok (xs ++ ds) en := rfl
theorem appK_ex {xs : List D} {x : Ex} {en : En} : appK xs (.ex x en) = .ex x en := rfl
theorem appK_no {xs : List D}  : appK xs (.no) = .no := rfl
theorem argK_ok {es : List IE} {r : R} {en : En} : argK C es (.ok r en) = consK r.d (evA C es en) := rfl
theorem argK_ex {es : List IE} {x : Ex} {en : En} : argK C es (.ex x en) = .ex x en := rfl
theorem argK_no {es : List IE}  : argK C es (.no) = .no := rfl
theorem xrgK_ok {es : List IE} {r : R} {en : En} : xrgK C es (.ok r en) = consK r.d (evX C es (en.frz r)) := rfl
theorem xrgK_ex {es : List IE} {x : Ex} {en : En} : xrgK C es (.ex x en) = .ex x en := rfl
theorem xrgK_no {es : List IE}  : xrgK C es (.no) = .no := rfl
theorem dspK_ok {bs : List Bool} {es : List IE} {r : R} {en : En} : dspK C bs es (.ok r en) = consK r.d (evD C bs es (en.frz r)) := rfl
theorem dspK_ex {bs : List Bool} {es : List IE} {x : Ex} {en : En} : dspK C bs es (.ex x en) = .ex x en := rfl
theorem dspK_no {bs : List Bool} {es : List IE}  : dspK C bs es (.no) = .no := rfl
theorem starK_some {bs : List Bool} {es : List IE} {en : En} {xs : List D} : starK C bs es en (some xs) = appK xs (evD C bs es en) := rfl
theorem starK_none {bs : List Bool} {es : List IE} {en : En}  : starK C bs es en (none) = .no := rfl
theorem dssK_ok {bs : List Bool} {es : List IE} {r : R} {en : En} : dssK C bs es (.ok r en) = starK C bs es en (spliceD [true] [view en.ob r.d]) := rfl
theorem dssK_ex {bs : List Bool} {es : List IE} {x : Ex} {en : En} : dssK C bs es (.ex x en) = .ex x en := rfl
theorem dssK_no {bs : List Bool} {es : List IE}  : dssK C bs es (.no) = .no := rfl
theorem dispK_ok {tup : Bool} {xs : List D} {en : En} : dispK tup (.ok xs en) = if xs.length ≤ 16777216 then (if tup = true then .ok (.fz (.tup xs)) en else .ok (.ow (.lst xs)) en) else .no := rfl
theorem dispK_ex {tup : Bool} {x : Ex} {en : En} : dispK tup (.ex x en) = .ex x en := rfl
theorem dispK_no {tup : Bool}  : dispK tup (.no) = .no := rfl
theorem andB_some {b : IE} {r : R} {en : En} {t : Bool} : andB C b r en (some t) = if t = true then evE C b en else .ok r en := rfl
theorem andB_none {b : IE} {r : R} {en : En}  : andB C b r en (none) = .no := rfl
theorem orB_some {b : IE} {r : R} {en : En} {t : Bool} : orB C b r en (some t) = if t = true then .ok r en else evE C b en := rfl
theorem orB_none {b : IE} {r : R} {en : En}  : orB C b r en (none) = .no := rfl
theorem andK_ok {b : IE} {r : R} {en : En} : andK C b (.ok r en) = andB C b r en (truthD (view en.ob r.d)) := rfl
theorem andK_ex {b : IE} {x : Ex} {en : En} : andK C b (.ex x en) = .ex x en := rfl
theorem andK_no {b : IE}  : andK C b (.no) = .no := rfl
theorem orK_ok {b : IE} {r : R} {en : En} : orK C b (.ok r en) = orB C b r en (truthD (view en.ob r.d)) := rfl
theorem orK_ex {b : IE} {x : Ex} {en : En} : orK C b (.ex x en) = .ex x en := rfl
theorem orK_no {b : IE}  : orK C b (.no) = .no := rfl
theorem notK_ok  {t : Bool} {en : En} : notK (.ok t en) = .ok (.fz (.bl (!t))) en := rfl
theorem notK_ex  {x : Ex} {en : En} : notK (.ex x en) = .ex x en := rfl
theorem notK_no   : notK (.no) = .no := rfl
theorem iteEK_ok {a : IE} {b : IE} {t : Bool} {en : En} : iteEK C a b (.ok t en) = if t = true then evE C a en else evE C b en := rfl
theorem iteEK_ex {a : IE} {b : IE} {x : Ex} {en : En} : iteEK C a b (.ex x en) = .ex x en := rfl
theorem iteEK_no {a : IE} {b : IE}  : iteEK C a b (.no) = .no := rfl
theorem chL_ok {o2 : Op} {s : R} {u : R} {en : En} : chL o2 s (.ok u en) = .ofO (app o2 [view en.ob s.d, view en.ob u.d]) en := rfl
theorem chL_ex {o2 : Op} {s : R} {x : Ex} {en : En} : chL o2 s (.ex x en) = .ex x en := rfl
theorem chL_no {o2 : Op} {s : R}  : chL o2 s (.no) = .no := rfl
theorem chB_some {o2 : Op} {c : IE} {s : R} {en : En} {t : Bool} : chB C o2 c s en (some t) = if t = true then chL o2 s (evE C c en) else .ok (.fz (.bl false)) en := rfl
theorem chB_none {o2 : Op} {c : IE} {s : R} {en : En}  : chB C o2 c s en (none) = .no := rfl
theorem tchL_ok {o2 : Op} {s : R} {u : R} {en : En} : tchL o2 s (.ok u en) = .ofO ((app o2 [view en.ob s.d, view en.ob u.d]).bind fun z => boolD z.d) en := rfl
theorem tchL_ex {o2 : Op} {s : R} {x : Ex} {en : En} : tchL o2 s (.ex x en) = .ex x en := rfl
theorem tchL_no {o2 : Op} {s : R}  : tchL o2 s (.no) = .no := rfl
theorem tchB_some {o2 : Op} {c : IE} {s : R} {en : En} {t : Bool} : tchB C o2 c s en (some t) = if t = true then tchL o2 s (evE C c en) else .ok false en := rfl
theorem tchB_none {o2 : Op} {c : IE} {s : R} {en : En}  : tchB C o2 c s en (none) = .no := rfl
theorem chK2_ok {o1 : Op} {o2 : Op} {c : IE} {r : R} {s : R} {en : En} : chK2 C o1 o2 c r (.ok s en) = chB C o2 c s en ((app o1 [view en.ob r.d, view en.ob s.d]).bind fun k => boolD k.d) := rfl
theorem chK2_ex {o1 : Op} {o2 : Op} {c : IE} {r : R} {x : Ex} {en : En} : chK2 C o1 o2 c r (.ex x en) = .ex x en := rfl
theorem chK2_no {o1 : Op} {o2 : Op} {c : IE} {r : R}  : chK2 C o1 o2 c r (.no) = .no := rfl
theorem chK1_ok {o1 : Op} {o2 : Op} {b : IE} {c : IE} {r : R} {en : En} : chK1 C o1 o2 b c (.ok r en) = chK2 C o1 o2 c r (evE C b en) := rfl
theorem chK1_ex {o1 : Op} {o2 : Op} {b : IE} {c : IE} {x : Ex} {en : En} : chK1 C o1 o2 b c (.ex x en) = .ex x en := rfl
theorem chK1_no {o1 : Op} {o2 : Op} {b : IE} {c : IE}  : chK1 C o1 o2 b c (.no) = .no := rfl
theorem tchK2_ok {o1 : Op} {o2 : Op} {c : IE} {r : R} {s : R} {en : En} : tchK2 C o1 o2 c r (.ok s en) = tchB C o2 c s en ((app o1 [view en.ob r.d, view en.ob s.d]).bind fun k => boolD k.d) := rfl
theorem tchK2_ex {o1 : Op} {o2 : Op} {c : IE} {r : R} {x : Ex} {en : En} : tchK2 C o1 o2 c r (.ex x en) = .ex x en := rfl
theorem tchK2_no {o1 : Op} {o2 : Op} {c : IE} {r : R}  : tchK2 C o1 o2 c r (.no) = .no := rfl
theorem tchK1_ok {o1 : Op} {o2 : Op} {b : IE} {c : IE} {r : R} {en : En} : tchK1 C o1 o2 b c (.ok r en) = tchK2 C o1 o2 c r (evE C b en) := rfl
theorem tchK1_ex {o1 : Op} {o2 : Op} {b : IE} {c : IE} {x : Ex} {en : En} : tchK1 C o1 o2 b c (.ex x en) = .ex x en := rfl
theorem tchK1_no {o1 : Op} {o2 : Op} {b : IE} {c : IE}  : tchK1 C o1 o2 b c (.no) = .no := rfl
theorem ch3B2_some {o3 : Op} {d : IE} {u : R} {en : En} {t : Bool} : ch3B2 C o3 d u en (some t) = if t = true then chL o3 u (evE C d en) else .ok (.fz (.bl false)) en := rfl
theorem ch3B2_none {o3 : Op} {d : IE} {u : R} {en : En}  : ch3B2 C o3 d u en (none) = .no := rfl
theorem ch3K3_ok {o2 : Op} {o3 : Op} {d : IE} {s : R} {u : R} {en : En} : ch3K3 C o2 o3 d s (.ok u en) = ch3B2 C o3 d u en ((app o2 [view en.ob s.d, view en.ob u.d]).bind fun k => boolD k.d) := rfl
theorem ch3K3_ex {o2 : Op} {o3 : Op} {d : IE} {s : R} {x : Ex} {en : En} : ch3K3 C o2 o3 d s (.ex x en) = .ex x en := rfl
theorem ch3K3_no {o2 : Op} {o3 : Op} {d : IE} {s : R}  : ch3K3 C o2 o3 d s (.no) = .no := rfl
theorem ch3B1_some {o2 : Op} {o3 : Op} {c : IE} {d : IE} {s : R} {en : En} {t : Bool} : ch3B1 C o2 o3 c d s en (some t) = if t = true then ch3K3 C o2 o3 d s (evE C c en) else .ok (.fz (.bl false)) en := rfl
theorem ch3B1_none {o2 : Op} {o3 : Op} {c : IE} {d : IE} {s : R} {en : En}  : ch3B1 C o2 o3 c d s en (none) = .no := rfl
theorem tch3B2_some {o3 : Op} {d : IE} {u : R} {en : En} {t : Bool} : tch3B2 C o3 d u en (some t) = if t = true then tchL o3 u (evE C d en) else .ok false en := rfl
theorem tch3B2_none {o3 : Op} {d : IE} {u : R} {en : En}  : tch3B2 C o3 d u en (none) = .no := rfl
theorem tch3K3_ok {o2 : Op} {o3 : Op} {d : IE} {s : R} {u : R} {en : En} : tch3K3 C o2 o3 d s (.ok u en) = tch3B2 C o3 d u en ((app o2 [view en.ob s.d, view en.ob u.d]).bind fun k => boolD k.d) := rfl
theorem tch3K3_ex {o2 : Op} {o3 : Op} {d : IE} {s : R} {x : Ex} {en : En} : tch3K3 C o2 o3 d s (.ex x en) = .ex x en := rfl
theorem tch3K3_no {o2 : Op} {o3 : Op} {d : IE} {s : R}  : tch3K3 C o2 o3 d s (.no) = .no := rfl
theorem tch3B1_some {o2 : Op} {o3 : Op} {c : IE} {d : IE} {s : R} {en : En} {t : Bool} : tch3B1 C o2 o3 c d s en (some t) = if t = true then tch3K3 C o2 o3 d s (evE C c en) else .ok false en := rfl
theorem tch3B1_none {o2 : Op} {o3 : Op} {c : IE} {d : IE} {s : R} {en : En}  : tch3B1 C o2 o3 c d s en (none) = .no := rfl
theorem ch3K2_ok {o1 : Op} {o2 : Op} {o3 : Op} {c : IE} {d : IE} {r : R} {s : R} {en : En} : ch3K2 C o1 o2 o3 c d r (.ok s en) = ch3B1 C o2 o3 c d s en ((app o1 [view en.ob r.d, view en.ob s.d]).bind fun k => boolD k.d) := rfl
theorem ch3K2_ex {o1 : Op} {o2 : Op} {o3 : Op} {c : IE} {d : IE} {r : R} {x : Ex} {en : En} : ch3K2 C o1 o2 o3 c d r (.ex x en) = .ex x en := rfl
theorem ch3K2_no {o1 : Op} {o2 : Op} {o3 : Op} {c : IE} {d : IE} {r : R}  : ch3K2 C o1 o2 o3 c d r (.no) = .no := rfl
theorem ch3K1_ok {o1 : Op} {o2 : Op} {o3 : Op} {b : IE} {c : IE} {d : IE} {r : R} {en : En} : ch3K1 C o1 o2 o3 b c d (.ok r en) = ch3K2 C o1 o2 o3 c d r (evE C b en) := rfl
theorem ch3K1_ex {o1 : Op} {o2 : Op} {o3 : Op} {b : IE} {c : IE} {d : IE} {x : Ex} {en : En} : ch3K1 C o1 o2 o3 b c d (.ex x en) = .ex x en := rfl
theorem ch3K1_no {o1 : Op} {o2 : Op} {o3 : Op} {b : IE} {c : IE} {d : IE}  : ch3K1 C o1 o2 o3 b c d (.no) = .no := rfl
theorem tch3K2_ok {o1 : Op} {o2 : Op} {o3 : Op} {c : IE} {d : IE} {r : R} {s : R} {en : En} : tch3K2 C o1 o2 o3 c d r (.ok s en) = tch3B1 C o2 o3 c d s en ((app o1 [view en.ob r.d, view en.ob s.d]).bind fun k => boolD k.d) := rfl
theorem tch3K2_ex {o1 : Op} {o2 : Op} {o3 : Op} {c : IE} {d : IE} {r : R} {x : Ex} {en : En} : tch3K2 C o1 o2 o3 c d r (.ex x en) = .ex x en := rfl
theorem tch3K2_no {o1 : Op} {o2 : Op} {o3 : Op} {c : IE} {d : IE} {r : R}  : tch3K2 C o1 o2 o3 c d r (.no) = .no := rfl
theorem tch3K1_ok {o1 : Op} {o2 : Op} {o3 : Op} {b : IE} {c : IE} {d : IE} {r : R} {en : En} : tch3K1 C o1 o2 o3 b c d (.ok r en) = tch3K2 C o1 o2 o3 c d r (evE C b en) := rfl
theorem tch3K1_ex {o1 : Op} {o2 : Op} {o3 : Op} {b : IE} {c : IE} {d : IE} {x : Ex} {en : En} : tch3K1 C o1 o2 o3 b c d (.ex x en) = .ex x en := rfl
theorem tch3K1_no {o1 : Op} {o2 : Op} {o3 : Op} {b : IE} {c : IE} {d : IE}  : tch3K1 C o1 o2 o3 b c d (.no) = .no := rfl
theorem callK_ok {f : Str} {ds : List D} {en : En} : callK C f (.ok ds en) = (C.cal f ds en.ob).rs en := rfl
theorem callK_ex {f : Str} {x : Ex} {en : En} : callK C f (.ex x en) = .ex x en := rfl
theorem callK_no {f : Str}  : callK C f (.no) = .no := rfl
theorem truK_ok  {r : R} {en : En} : truK (.ok r en) = .ofO (truthD (view en.ob r.d)) en := rfl
theorem truK_ex  {x : Ex} {en : En} : truK (.ex x en) = .ex x en := rfl
theorem truK_no   : truK (.no) = .no := rfl
theorem tandK_ok {b : IE} {t : Bool} {en : En} : tandK C b (.ok t en) = if t = true then evT C b en else .ok false en := rfl
theorem tandK_ex {b : IE} {x : Ex} {en : En} : tandK C b (.ex x en) = .ex x en := rfl
theorem tandK_no {b : IE}  : tandK C b (.no) = .no := rfl
theorem torK_ok {b : IE} {t : Bool} {en : En} : torK C b (.ok t en) = if t = true then .ok true en else evT C b en := rfl
theorem torK_ex {b : IE} {x : Ex} {en : En} : torK C b (.ex x en) = .ex x en := rfl
theorem torK_no {b : IE}  : torK C b (.no) = .no := rfl
theorem tnotK_ok  {t : Bool} {en : En} : tnotK (.ok t en) = .ok (!t) en := rfl
theorem tnotK_ex  {x : Ex} {en : En} : tnotK (.ex x en) = .ex x en := rfl
theorem tnotK_no   : tnotK (.no) = .no := rfl
theorem titeK_ok {a : IE} {b : IE} {t : Bool} {en : En} : titeK C a b (.ok t en) = if t = true then evT C a en else evT C b en := rfl
theorem titeK_ex {a : IE} {b : IE} {x : Ex} {en : En} : titeK C a b (.ex x en) = .ex x en := rfl
theorem titeK_no {a : IE} {b : IE}  : titeK C a b (.no) = .no := rfl
theorem setK_ok {i : Nat} {r : R} {en : En} : setK i (.ok r en) = .nx ⟨(frzS r en.sl).set i (toSl r), en.ob⟩ := rfl
theorem setK_ex {i : Nat} {x : Ex} {en : En} : setK i (.ex x en) = .ex x en := rfl
theorem setK_no {i : Nat}  : setK i (.no) = .no := rfl
theorem parK2_ok {i : Nat} {j : Nat} {r : R} {s : R} {en : En} : parK2 i j r (.ok s en) = .nx ⟨((frzS s en.sl).set i (toSl r)).set j (toSl s), en.ob⟩ := rfl
theorem parK2_ex {i : Nat} {j : Nat} {r : R} {x : Ex} {en : En} : parK2 i j r (.ex x en) = .ex x en := rfl
theorem parK2_no {i : Nat} {j : Nat} {r : R}  : parK2 i j r (.no) = .no := rfl
theorem parK1_ok {i : Nat} {j : Nat} {b : IE} {r : R} {en : En} : parK1 C i j b (.ok r en) = parK2 i j r (evE C b (en.frz r)) := rfl
theorem parK1_ex {i : Nat} {j : Nat} {b : IE} {x : Ex} {en : En} : parK1 C i j b (.ex x en) = .ex x en := rfl
theorem parK1_no {i : Nat} {j : Nat} {b : IE}  : parK1 C i j b (.no) = .no := rfl
theorem setOK_ok {i : Nat} {r : R} {en : En} : setOK i (.ok r en) = match r with | .ow d => .nx ⟨en.sl.set i (.fz (.obj en.ob.length)), en.ob ++ [.con d]⟩ | _ => .no := rfl
theorem setOK_ex {i : Nat} {x : Ex} {en : En} : setOK i (.ex x en) = .ex x en := rfl
theorem setOK_no {i : Nat}  : setOK i (.no) = .no := rfl
theorem slK_some {en : En} {sl : List Sl} : slK en (some sl) = .nx ⟨sl, en.ob⟩ := rfl
theorem slK_none {en : En}  : slK en (none) = .no := rfl
theorem enK_some  {en : En} : enK (some en) = .nx en := rfl
theorem enK_none   : enK (none) = .no := rfl
theorem tsetK_ok {is : List Nat} {r : R} {en : En} : tsetK is (.ok r en) = slK en (Tg.put (.t is) r.d (frzS r en.sl)) := rfl
theorem tsetK_ex {is : List Nat} {x : Ex} {en : En} : tsetK is (.ex x en) = .ex x en := rfl
theorem tsetK_no {is : List Nat}  : tsetK is (.no) = .no := rfl
theorem augK_ok {i : Nat} {o : Op} {k : Int} {r : R} {en : En} : augK i o k (.ok r en) = match r.d with | .int j => .nx ⟨en.sl.set i (.fz (.int (augI o k j))), en.ob⟩ | _ => .no := rfl
theorem augK_ex {i : Nat} {o : Op} {k : Int} {x : Ex} {en : En} : augK i o k (.ex x en) = .ex x en := rfl
theorem augK_no {i : Nat} {o : Op} {k : Int}  : augK i o k (.no) = .no := rfl
theorem putK2_ok {i : Nat} {r : R} {ks : List D} {en : En} : putK2 i r (.ok ks en) = enK (en.chg i fun d => putD d (ks.headD .non) r.d) := rfl
theorem putK2_ex {i : Nat} {r : R} {x : Ex} {en : En} : putK2 i r (.ex x en) = .ex x en := rfl
theorem putK2_no {i : Nat} {r : R}  : putK2 i r (.no) = .no := rfl
theorem putK1_ok {i : Nat} {k : IE} {r : R} {en : En} : putK1 C i k (.ok r en) = putK2 i r (evA C [k] (en.frz r)) := rfl
theorem putK1_ex {i : Nat} {k : IE} {x : Ex} {en : En} : putK1 C i k (.ex x en) = .ex x en := rfl
theorem putK1_no {i : Nat} {k : IE}  : putK1 C i k (.no) = .no := rfl
theorem mutK_ok {i : Nat} {m : Mu} {r : R} {en : En} : mutK i m (.ok r en) = enK ((en.frz r).chg i fun d => mutD m d r.d) := rfl
theorem mutK_ex {i : Nat} {m : Mu} {x : Ex} {en : En} : mutK i m (.ex x en) = .ex x en := rfl
theorem mutK_no {i : Nat} {m : Mu}  : mutK i m (.no) = .no := rfl
theorem exprK_ok  {r : R} {en : En} : exprK (.ok r en) = .nx en := rfl
theorem exprK_ex  {x : Ex} {en : En} : exprK (.ex x en) = .ex x en := rfl
theorem exprK_no   : exprK (.no) = .no := rfl
theorem retK_ok  {r : R} {en : En} : retK (.ok r en) = .rt r.out en.ob := rfl
theorem retK_ex  {x : Ex} {en : En} : retK (.ex x en) = .ex x en := rfl
theorem retK_no   : retK (.no) = .no := rfl
theorem iteK_ok {a : List IS} {b : List IS} {t : Bool} {en : En} : iteK C a b (.ok t en) = if t = true then evSs C a en else evSs C b en := rfl
theorem iteK_ex {a : List IS} {b : List IS} {x : Ex} {en : En} : iteK C a b (.ex x en) = .ex x en := rfl
theorem iteK_no {a : List IS} {b : List IS}  : iteK C a b (.no) = .no := rfl
theorem walkK_some {t : Tg} {body : List IS} {en : En} {xs : List D} : walkK C t body en (some xs) = evFor (bodyOf C body) t xs en := rfl
theorem walkK_none {t : Tg} {body : List IS} {en : En}  : walkK C t body en (none) = .no := rfl
theorem forK_ok {t : Tg} {s : Src} {body : List IS} {ds : List D} {en : En} : forK C t s body (.ok ds en) = walkK C t body en (walk s ds) := rfl
theorem forK_ex {t : Tg} {s : Src} {body : List IS} {x : Ex} {en : En} : forK C t s body (.ex x en) = .ex x en := rfl
theorem forK_no {t : Tg} {s : Src} {body : List IS}  : forK C t s body (.no) = .no := rfl
end
/-! views, truths -/
section
variable {C : Ec} {ss : List IS} {en : En} {r : R} {ob : List Ob} {x : Ex}
theorem sq_nx : seqS C ss (.nx en) = evSs C ss en := rfl
theorem sq_rt : seqS C ss (.rt r ob) = .rt r ob := rfl
theorem sq_bk : seqS C ss (.bk en) = .bk en := rfl
theorem sq_ct : seqS C ss (.ct en) = .ct en := rfl
theorem sq_ex : seqS C ss (.ex x en) = .ex x en := rfl
theorem sq_no : seqS C ss .no = .no := rfl
end
section
variable {ob : List Ob} {i j : Int} {b : Bool} {x : Str} {xs ys : List D} {d : D}
theorem view_non : view ob .non = .non := rfl
theorem view_bl : view ob (.bl b) = .bl b := rfl
theorem view_int : view ob (.int i) = .int i := rfl
theorem view_str : view ob (.str x) = .str x := rfl
theorem view_tup : view ob (.tup xs) = .tup xs := rfl
theorem view_lst : view ob (.lst xs) = .lst xs := rfl
theorem view_frl : view ob (.frl xs) = .frl xs := rfl
theorem view_plain (h : plain d = true) : view ob d = d := by cases d <;> first | rfl | cases h
theorem tr_bl : truthD (.bl b) = some b := rfl
theorem tr_int : truthD (.int i) = some (i != 0) := rfl
theorem tr_non : truthD .non = some false := rfl
theorem tr_lst : truthD (.lst xs) = some (!xs.isEmpty) := rfl
theorem tr_tup : truthD (.tup xs) = some (!xs.isEmpty) := rfl
theorem bo_bl : boolD (.bl b) = some b := rfl
theorem rd_fz : R.d (.fz d) = d := rfl
theorem rd_ow : R.d (.ow d) = d := rfl
theorem rd_rf {k : Nat} : R.d (.rf k d) = d := rfl
theorem ro_fz : R.out (.fz d) = .fz d := rfl
theorem ro_ow : R.out (.ow d) = .ow d := rfl
theorem ro_rf {k : Nat} : R.out (.rf k d) = .ow d := rfl
theorem ts_fz : toSl (.fz d) = .fz d := rfl
theorem ts_ow : toSl (.ow d) = .ow d := rfl
theorem ts_rf {k : Nat} : toSl (.rf k d) = .fz d := rfl
theorem fs_fz {sl : List Sl} : frzS (.fz d) sl = sl := rfl
theorem fs_ow {sl : List Sl} : frzS (.ow d) sl = sl := rfl
theorem fs_rf {sl : List Sl} {k : Nat} : frzS (.rf k d) sl = sl.set k (.fz d) := rfl
theorem fe_fz {en : En} : en.frz (.fz d) = en := rfl
theorem fe_ow {en : En} : en.frz (.ow d) = en := rfl
theorem fe_rf {sl : List Sl} {k : Nat} : (En.mk sl ob).frz (.rf k d) = ⟨sl.set k (.fz d), ob⟩ := rfl
theorem oo_some {α : Type} {a : α} {en : En} : Rs.ofO (some a) en = .ok a en := rfl
theorem oo_none {α : Type} {en : En} : (Rs.ofO none en : Rs α) = .no := rfl
theorem rc_nx {en : En} : (Ou.nx en).rc = .ok (.fz .non) en.ob := rfl
theorem rc_rt {r : R} : (Ou.rt r ob).rc = .ok r ob := rfl
theorem rc_ex {e : Ex} {en : En} : (Ou.ex e en).rc = .ex e en.ob := rfl
theorem rs_ok {r : R} {sl : List Sl} {ob' : List Ob} : (Rc.ok r ob').rs ⟨sl, ob⟩ = .ok r ⟨sl, ob'⟩ := rfl
theorem rs_ex {e : Ex} {sl : List Sl} {ob' : List Ob} : (Rc.ex e ob').rs ⟨sl, ob⟩ = .ex e ⟨sl, ob'⟩ := rfl
/-! operations -/
theorem app_1 {o : Op} {x : D} : app o [x] = app1 o x := rfl
theorem app_2 {o : Op} {x y : D} : app o [x, y] = app2 o x y := rfl
theorem app_3 {lo hi : Bool} {x y z : D} : app (.slc lo hi) [x, y, z] = slcD lo hi [x, y, z] := rfl
theorem o_add : app2 .add (.int i) (.int j) = some (.fz (.int (i + j))) := rfl
theorem o_sub : app2 .sub (.int i) (.int j) = some (.fz (.int (i - j))) := rfl
theorem o_lt : app2 .lt (.int i) (.int j) = some (.fz (.bl (decide (i < j)))) := rfl
theorem o_le : app2 .le (.int i) (.int j) = some (.fz (.bl (decide (i ≤ j)))) := rfl
theorem o_gt : app2 .gt (.int i) (.int j) = some (.fz (.bl (decide (j < i)))) := rfl
theorem o_ge : app2 .ge (.int i) (.int j) = some (.fz (.bl (decide (j ≤ i)))) := rfl
theorem o_eqI : app2 .eq (.int i) (.int j) = some (.fz (.bl (decide (i = j)))) := by
  show some (R.fz (.bl (i == j))) = _
  rw [show (i == j) = decide (i = j) by by_cases h : i = j <;> simp [h]]
theorem o_neI : app2 .ne (.int i) (.int j) = some (.fz (.bl (decide (i ≠ j)))) := by
  show some (R.fz (.bl (!(i == j)))) = _
  rw [show (!(i == j)) = decide (i ≠ j) by by_cases h : i = j <;> simp [h]]
theorem o_lenT : app1 .len (.tup xs) = some (.fz (.int xs.length)) := rfl
theorem o_lenL : app1 .len (.lst xs) = some (.fz (.int xs.length)) := rfl
theorem o_int : app1 .int (.int i) = some (.fz (.int i)) := rfl
theorem o_neg : app1 .neg (.int i) = some (.fz (.int (-i))) := rfl
theorem o_tupL : app1 .tuple (.lst xs) = some (.fz (.tup xs)) := rfl
theorem o_tupT : app1 .tuple (.tup xs) = some (.fz (.tup xs)) := rfl
theorem o_lstL : app1 .list (.lst xs) = some (.ow (.lst xs)) := rfl
theorem o_lstT : app1 .list (.tup xs) = some (.ow (.lst xs)) := rfl
theorem o_min2 : app2 .min (.int i) (.int j) = some (.fz (.int (if j < i then j else i))) := rfl
theorem o_max2 : app2 .max (.int i) (.int j) = some (.fz (.int (if i < j then j else i))) := rfl
theorem o_isN : app2 .is d .non = some (.fz (.bl (isNon d))) := by cases d <;> rfl
theorem o_isnN : app2 .isn d .non = some (.fz (.bl (!isNon d))) := by cases d <;> rfl
theorem o_mod (h : 0 < j) : app2 .mod (.int i) (.int j) = some (.fz (.int (i % j))) := mod_go h
theorem o_fdiv (h : 0 < j) (h2 : j.natAbs < 10 ^ 40) : app2 .fdiv (.int i) (.int j) = some (.fz (.int (i / j))) := fdiv_go h h2
theorem o_mul (h1 : i.natAbs < 10 ^ 40) (h2 : j.natAbs < 10 ^ 40) : app2 .mul (.int i) (.int j) = some (.fz (.int (i * j))) := mul_go h1 h2
theorem o_pow {k : Nat} (h : i.natAbs < 10 ^ 40) (hk : k ≤ 1000) : app2 .pow (.int i) (.int k) = some (.fz (.int (i ^ k))) := pow_go h hk
theorem o_addT (h : xs.length + ys.length ≤ 16777216) : app2 .add (.tup xs) (.tup ys) = some (.fz (.tup (xs ++ ys))) := by
  show guardO (decide (xs.length + ys.length ≤ big)) _ = _
  rw [decide_eq_true (show xs.length + ys.length ≤ big from h)]
  rfl
theorem o_addL (h : xs.length + ys.length ≤ 16777216) : app2 .add (.lst xs) (.lst ys) = some (.ow (.lst (xs ++ ys))) := by
  show guardO (decide (xs.length + ys.length ≤ big)) _ = _
  rw [decide_eq_true (show xs.length + ys.length ≤ big from h)]
  rfl
theorem o_isi {t : Ty} (h : plain d = true) : app1 (.isi [t]) d = some (.fz (.bl (isTy t d))) := isi_go h rfl
theorem o_isiI {t : Ty} : app1 (.isi [t]) (.int i) = some (.fz (.bl (isTy t (.int i)))) := o_isi rfl
theorem o_isiB {t : Ty} : app1 (.isi [t]) (.bl b) = some (.fz (.bl (isTy t (.bl b)))) := o_isi rfl
theorem o_isiN {t : Ty} : app1 (.isi [t]) .non = some (.fz (.bl (isTy t .non))) := o_isi rfl
theorem ixT {k : Int} (h0 : 0 ≤ k) (h : xs[k.toNat]? = some d) : app2 .ix (.tup xs) (.int k) = some (.fz d) := ixT_go h0 h
theorem ixL {k : Int} (h0 : 0 ≤ k) (h : xs[k.toNat]? = some d) : app2 .ix (.lst xs) (.int k) = some (.fz d) := ix_go h0 h
section
variable {a0 a1 a2 a3 a4 a5 : D}
theorem ixT0 : app2 .ix (.tup (a0 :: xs)) (.int 0) = some (.fz a0) := ixT (by decide) rfl
theorem ixT1 : app2 .ix (.tup (a0 :: a1 :: xs)) (.int 1) = some (.fz a1) := ixT (by decide) rfl
theorem ixT2 : app2 .ix (.tup (a0 :: a1 :: a2 :: xs)) (.int 2) = some (.fz a2) := ixT (by decide) rfl
theorem ixT3 : app2 .ix (.tup (a0 :: a1 :: a2 :: a3 :: xs)) (.int 3) = some (.fz a3) := ixT (by decide) rfl
theorem ixT4 : app2 .ix (.tup (a0 :: a1 :: a2 :: a3 :: a4 :: xs)) (.int 4) = some (.fz a4) := ixT (by decide) rfl
theorem ixT5 : app2 .ix (.tup (a0 :: a1 :: a2 :: a3 :: a4 :: a5 :: xs)) (.int 5) = some (.fz a5) := ixT (by decide) rfl
theorem ixL0 : app2 .ix (.lst (a0 :: xs)) (.int 0) = some (.fz a0) := ixL (by decide) rfl
theorem ixL1 : app2 .ix (.lst (a0 :: a1 :: xs)) (.int 1) = some (.fz a1) := ixL (by decide) rfl
theorem ixL2 : app2 .ix (.lst (a0 :: a1 :: a2 :: xs)) (.int 2) = some (.fz a2) := ixL (by decide) rfl
end
end
/-! slices of a row -/
section
variable {a b c d e f : D}
theorem slc6_2 : app2 (.slc false true) (.tup [a, b, c, d, e, f]) (.int 2) = some (.fz (.tup [a, b])) := rfl
theorem slc6_4 : app2 (.slc true false) (.tup [a, b, c, d, e, f]) (.int 4) = some (.fz (.tup [e, f])) := rfl
theorem slc6_2r : app2 (.slc true false) (.tup [a, b, c, d, e, f]) (.int 2) = some (.fz (.tup [c, d, e, f])) := rfl
theorem slc6_24 : slcD true true [.tup [a, b, c, d, e, f], .int 2, .int 4] = some (.fz (.tup [c, d])) := rfl
end
/-! ### loops -/
section
variable {body : En → Ou} {t : Tg}
/-- one turn: the item stored, the body -/
def turnOf (body : En → Ou) (t : Tg) (x : D) (en : En) : Ou := match t.put x en.sl with
  | some sl => body { en with sl := sl }
  | none => .no
theorem turn_n {i : Nat} {x : D} {sl : List Sl} {ob : List Ob} : turnOf body (.n i) x ⟨sl, ob⟩ = body ⟨sl.set i (.fz x), ob⟩ := rfl
theorem turn_t2 {i j : Nat} {x y : D} {sl : List Sl} {ob : List Ob} : turnOf body (.t [i, j]) (.tup [x, y]) ⟨sl, ob⟩ = body ⟨(sl.set i (.fz x)).set j (.fz y), ob⟩ := rfl
theorem turn_t3 {i j k : Nat} {x y z : D} {sl : List Sl} {ob : List Ob} : turnOf body (.t [i, j, k]) (.tup [x, y, z]) ⟨sl, ob⟩ = body ⟨((sl.set i (.fz x)).set j (.fz y)).set k (.fz z), ob⟩ := rfl
theorem body_of {C : Ec} {p : List IS} {en : En} : bodyOf C p en = evSs C p en := rfl
theorem evFor_cons {x : D} {xs : List D} {en : En} : evFor body t (x :: xs) en = (turnOf body t x en).turn (evFor body t xs) := by
  show (match t.put x en.sl with | some sl => (body { en with sl := sl }).turn (evFor body t xs) | none => .no) = _
  unfold turnOf
  cases t.put x en.sl <;> rfl
/-- a turn that goes on, with what holds behind -/
def Goes (o : Ou) (I : En → Prop) : Prop := ∃ e, (o = .nx e ∨ o = .ct e) ∧ I e
theorem Goes.nx {e : En} {I : En → Prop} (h : I e) : Goes (.nx e) I := ⟨e, .inl rfl, h⟩
theorem Goes.ct {e : En} {I : En → Prop} (h : I e) : Goes (.ct e) I := ⟨e, .inr rfl, h⟩
/-- a loop that goes through -/
theorem for_inv (I : Nat → En → Prop) (xs : List D) {en : En} (h0 : I 0 en) (hs : ∀ k x e, xs[k]? = some x → I k e → Goes (turnOf body t x e) (I (k + 1))) : ∃ e', evFor body t xs en = .nx e' ∧ I xs.length e' := by
  induction xs generalizing I en with
  | nil => exact ⟨en, rfl, h0⟩
  | cons x xs ih =>
    obtain ⟨e1, h1, h2⟩ := hs 0 x en rfl h0
    obtain ⟨e2, g1, g2⟩ := ih (fun k e => I (k + 1) e) h2 fun k y e hk hI => hs (k + 1) y e (by simpa using hk) hI
    refine ⟨e2, ?_, g2⟩
    rw [evFor_cons]
    rcases h1 with h1 | h1 <;> rw [h1] <;> exact g1
/-- a loop as a fold -/
theorem for_fold {α σ : Type} (S : σ → En → Prop) (f : σ → α → σ) (emb : α → D) {as : List α} {s : σ} {en : En} (h0 : S s en) (hs : ∀ a ∈ as, ∀ s e, S s e → Goes (turnOf body t (emb a) e) (S (f s a))) :
    ∃ e', evFor body t (as.map emb) en = .nx e' ∧ S (as.foldl f s) e' := by
  induction as generalizing s en with
  | nil => exact ⟨en, rfl, h0⟩
  | cons a as ih =>
    obtain ⟨e1, h1, h2⟩ := hs a List.mem_cons_self s en h0
    obtain ⟨e2, g1, g2⟩ := ih h2 fun b hb s e => hs b (List.mem_cons_of_mem _ hb) s e
    refine ⟨e2, ?_, g2⟩
    rw [List.map_cons, evFor_cons]
    rcases h1 with h1 | h1 <;> rw [h1] <;> exact g1
/-- a loop that may hand back: by the items before -/
theorem for_find (I : Nat → En → Prop) (T : R → List Ob → Prop) (xs : List D) {en : En} (h0 : I 0 en) (hs : ∀ k x e, xs[k]? = some x → I k e → Goes (turnOf body t x e) (I (k + 1)) ∨ ∃ r ob, turnOf body t x e = .rt r ob ∧ T r ob) :
    (∃ e', evFor body t xs en = .nx e' ∧ I xs.length e') ∨ ∃ r ob, evFor body t xs en = .rt r ob ∧ T r ob := by
  induction xs generalizing I en with
  | nil => exact .inl ⟨en, rfl, h0⟩
  | cons x xs ih =>
    rw [evFor_cons]
    rcases hs 0 x en rfl h0 with ⟨e1, h1, h2⟩ | ⟨r, ob, h1, h2⟩
    · have z := ih (fun k e => I (k + 1) e) h2 fun k y e hk hI => hs (k + 1) y e (by simpa using hk) hI
      rcases h1 with h1 | h1 <;> rw [h1] <;> exact z
    · rw [h1]
      exact .inr ⟨r, ob, rfl, h2⟩
end
/-! ### comprehensions -/
section
variable {C : Ec} {own : List Nat} {t : Tg} {s : Src} {es : List IE} {cond : Option IE} {elt : IE} {en : En}
/-- what one item gives: nothing, or a value -/
def itemK (C : Ec) (own : List Nat) (t : Tg) (cond : Option IE) (elt : IE) (en : En) (x : D) (y : Option D) : Prop :=
  ∃ sl, t.put x (wipeS en.sl own) = some sl ∧ wipeS sl own = wipeS en.sl own ∧ restS en.sl sl own = en.sl ∧ ∃ b, evC C cond ⟨sl, en.ob⟩ = .ok b ⟨sl, en.ob⟩ ∧ (b = false → y = none) ∧ (b = true → ∃ r, evE C elt ⟨sl, en.ob⟩ = .ok r ⟨sl, en.ob⟩ ∧ r.free = true ∧ y = some r.d)
/-- a comprehension whose test and element only look: the list of what f tells -/
theorem comp_pure {ds xs : List D} {en1 : En} (f : D → Option D) (hx : evX C es en = .ok ds en1) (hw : walk s ds = some xs) (hf : frzOwn own en1.sl = en1.sl) (hr : restS en1.sl en1.sl own = en1.sl) (hl : xs.length ≤ 16777216)
    (hs : ∀ x ∈ xs, itemK C own t cond elt en1 x (f x)) : evE C (.comp own t s es cond elt) en = .ok (.ow (.lst (xs.filterMap f))) en1 := by
  simp only [evE]
  rw [hx]
  show ((Rs.ofO (walk s ds) en1).bind _) = _
  rw [hw]
  show Rs.bind (evLoop _ xs [] { en1 with sl := frzOwn own en1.sl }) _ = _
  rw [hf]
  have key : ∀ (ys acc : List D) (e : En), (∀ y ∈ ys, y ∈ xs) → acc.length + ys.length ≤ 16777216 → e.ob = en1.ob → wipeS e.sl own = wipeS en1.sl own → restS en1.sl e.sl own = en1.sl →
      ∃ e', evLoop (fun x acc en1 => (Rs.ofO (t.put x (wipeS en1.sl own)) en1).bind fun sl' en1 => (evC C cond { en1 with sl := sl' }).bind fun k en2 =>
        if k = true then (evE C elt en2).bind fun r en3 => if acc.length < big then .ok (acc ++ [r.d]) (en3.frz r) else .no else .ok acc en2) ys acc e = .ok (acc ++ ys.filterMap f) e' ∧ e'.ob = en1.ob ∧ restS en1.sl e'.sl own = en1.sl := by
    intro ys
    induction ys with
    | nil => exact fun acc e _ _ h1 h2 h3 => ⟨e, by rw [List.filterMap_nil, List.append_nil]; rfl, h1, h3⟩
    | cons y ys ih =>
      intro acc e hm hl2 h1 h2 h3
      obtain ⟨sl, p1, p2, p3, b, q1, q2, q3⟩ := hs y (hm y List.mem_cons_self)
      rw [List.length_cons] at hl2
      have hm2 : ∀ z ∈ ys, z ∈ xs := fun z hz => hm z (List.mem_cons_of_mem _ hz)
      rw [evLoop, h2, p1]
      show ∃ e', Rs.bind (Rs.bind (evC C cond ⟨sl, e.ob⟩) _) _ = _ ∧ _
      rw [h1, q1]
      cases b with
      | false =>
        rw [List.filterMap_cons_none (q2 rfl)]
        exact ih acc ⟨sl, en1.ob⟩ hm2 (by omega) rfl p2 p3
      | true =>
        obtain ⟨r, r1, r2, r3⟩ := q3 rfl
        show ∃ e', Rs.bind (Rs.bind (evE C elt ⟨sl, en1.ob⟩) _) _ = _ ∧ _
        rw [r1]
        show ∃ e', Rs.bind (if acc.length < big then Rs.ok (acc ++ [r.d]) ((En.mk sl en1.ob).frz r) else .no) _ = _ ∧ _
        rw [if_pos (show acc.length < big by have : big = 16777216 := rfl; omega)]
        have ef : (En.mk sl en1.ob).frz r = ⟨sl, en1.ob⟩ := by cases r <;> first | rfl | cases r2
        rw [ef]
        obtain ⟨e', g1, g2, g3⟩ := ih (acc ++ [r.d]) ⟨sl, en1.ob⟩ hm2 (by rw [List.length_append, List.length_singleton]; omega) rfl p2 p3
        refine ⟨e', ?_, g2, g3⟩
        rw [List.filterMap_cons_some r3]
        refine g1.trans ?_
        rw [List.append_assoc]
        rfl
  obtain ⟨e', g1, g2, g3⟩ := key xs [] ⟨en1.sl, en1.ob⟩ (fun _ h => h) (by simpa using hl) rfl rfl hr
  rw [g1]
  show Rs.ok (R.ow (D.lst ([] ++ xs.filterMap f))) { e' with sl := restS en1.sl e'.sl own } = _
  rw [g3, List.nil_append, g2]
end
end Tk

/-! Tk, part 23: expressions that only look, run. -/
namespace Tk
open PySem
section
variable {C : Ec}
mutual
theorem pv_ev : ∀ (e : IE) (en : En) (r : R), pv C.gl e en = some r → evE C e en = .ok r en
  | .c d, en, r, h => by
    simp only [pv, Option.some.injEq] at h
    rw [r_c, h]
  | .v i, en, r, h => by
    simp only [pv] at h
    rw [r_v]
    split at h <;> rename_i e <;> first | (cases h; done) | (rw [e]; cases h; rfl) | (cases h; rfl)
  | .g x, en, r, h => by
    simp only [pv] at h
    rw [r_g, h]
    rfl
  | .op o es, en, r, h => by
    simp only [pv] at h
    obtain ⟨ds, h1, h2⟩ := Option.bind_eq_some_iff.mp h
    rw [r_op, pvs_ev es en ds h1]
    show Rs.ofO _ en = _
    rw [h2]
    rfl
  | .disp tup st es, en, r, h => by
    simp only [pv] at h
    obtain ⟨xs, h1, h2⟩ := Option.bind_eq_some_iff.mp h
    rw [r_disp, pvd_ev st es en xs h1]
    split at h2
    · rename_i hl
      show (if xs.length ≤ 16777216 then _ else _) = _
      rw [if_pos (show xs.length ≤ 16777216 from hl)]
      cases tup <;> simp at h2 <;> subst h2 <;> rfl
    · cases h2
  | .and a b, en, r, h => by
    simp only [pv] at h
    obtain ⟨r1, h1, h⟩ := Option.bind_eq_some_iff.mp h
    obtain ⟨t, h2, h⟩ := Option.bind_eq_some_iff.mp h
    rw [r_and, pv_ev a en r1 h1]
    show andB C b r1 en _ = _
    rw [h2]
    cases t with
    | true => exact pv_ev b en r h
    | false => cases h; rfl
  | .or a b, en, r, h => by
    simp only [pv] at h
    obtain ⟨r1, h1, h⟩ := Option.bind_eq_some_iff.mp h
    obtain ⟨t, h2, h⟩ := Option.bind_eq_some_iff.mp h
    rw [r_or, pv_ev a en r1 h1]
    show orB C b r1 en _ = _
    rw [h2]
    cases t with
    | false => exact pv_ev b en r h
    | true => cases h; rfl
  | .not a, en, r, h => by
    simp only [pv] at h
    obtain ⟨t, h1, h2⟩ := Option.map_eq_some_iff.mp h
    rw [r_not, pt_ev a en t h1]
    subst h2
    rfl
  | .ite t a b, en, r, h => by
    simp only [pv] at h
    obtain ⟨k, h1, h⟩ := Option.bind_eq_some_iff.mp h
    rw [r_ite, pt_ev t en k h1]
    cases k with
    | true => exact pv_ev a en r h
    | false => exact pv_ev b en r h
  | .ch o1 o2 a b c, en, r, h => by
    simp only [pv] at h
    obtain ⟨r1, h1, h⟩ := Option.bind_eq_some_iff.mp h
    obtain ⟨r2, h2, h⟩ := Option.bind_eq_some_iff.mp h
    obtain ⟨k, h3, h⟩ := Option.bind_eq_some_iff.mp h
    obtain ⟨t, h4, h⟩ := Option.bind_eq_some_iff.mp h
    rw [r_ch, pv_ev a en r1 h1]
    show chK2 C o1 o2 c r1 (evE C b en) = _
    rw [pv_ev b en r2 h2]
    show chB C o2 c r2 en ((app o1 [view en.ob r1.d, view en.ob r2.d]).bind fun k => boolD k.d) = _
    rw [h3]
    show chB C o2 c r2 en (boolD k.d) = _
    rw [h4]
    cases t with
    | false => cases h; rfl
    | true =>
      obtain ⟨r3, h5, h6⟩ := Option.bind_eq_some_iff.mp h
      show chL o2 r2 (evE C c en) = _
      rw [pv_ev c en r3 h5]
      show Rs.ofO (app o2 [view en.ob r2.d, view en.ob r3.d]) en = _
      rw [h6]
      rfl
  | .ch3 _ _ _ _ _ _ _, en, r, h => by simp only [pv] at h; cases h
  | .call _ _, en, r, h => by simp only [pv] at h; cases h
  | .comp _ _ _ _ _ _, en, r, h => by simp only [pv] at h; cases h
  | .dget _ _ _, en, r, h => by simp only [pv] at h; cases h
  | .comp2 _ _ _ _ _ _ _ _ _ _ _, en, r, h => by simp only [pv] at h; cases h
theorem pt_ev : ∀ (e : IE) (en : En) (t : Bool), pt C.gl e en = some t → evT C e en = .ok t en
  | .and a b, en, r, h => by
    simp only [pt] at h
    obtain ⟨t, h1, h⟩ := Option.bind_eq_some_iff.mp h
    rw [t_and, pt_ev a en t h1]
    cases t with
    | true => exact pt_ev b en r h
    | false => cases h; rfl
  | .or a b, en, r, h => by
    simp only [pt] at h
    obtain ⟨t, h1, h⟩ := Option.bind_eq_some_iff.mp h
    rw [t_or, pt_ev a en t h1]
    cases t with
    | false => exact pt_ev b en r h
    | true => cases h; rfl
  | .not a, en, r, h => by
    simp only [pt] at h
    obtain ⟨t, h1, h2⟩ := Option.map_eq_some_iff.mp h
    rw [t_not, pt_ev a en t h1]
    subst h2
    rfl
  | .ite t a b, en, r, h => by
    simp only [pt] at h
    obtain ⟨k, h1, h⟩ := Option.bind_eq_some_iff.mp h
    rw [t_ite, pt_ev t en k h1]
    cases k with
    | true => exact pt_ev a en r h
    | false => exact pt_ev b en r h
  | .c d, en, r, h => by
    simp only [pt] at h
    rw [t_c, h]
    rfl
  | .v i, en, r, h => by
    simp only [pt] at h
    rw [t_v]
    split at h <;> rename_i e <;> first | (cases h; done) | (rw [e]; show Rs.ofO _ en = _; rw [h]; rfl) | (show Rs.ofO _ en = _; rw [h]; rfl)
  | .g x, en, r, h => by
    simp only [pt] at h
    show Rs.ofO ((C.gl x).bind fun d => truthD (view en.ob d)) en = _
    rw [h]
    rfl
  | .op o es, en, r, h => by
    simp only [pt] at h
    obtain ⟨ds, h1, h2⟩ := Option.bind_eq_some_iff.mp h
    rw [t_op, pvs_ev es en ds h1]
    show Rs.ofO _ en = _
    rw [h2]
    rfl
  | .ch o1 o2 a b c, en, r, h => by
    simp only [pt] at h
    obtain ⟨r1, h1, h⟩ := Option.bind_eq_some_iff.mp h
    obtain ⟨r2, h2, h⟩ := Option.bind_eq_some_iff.mp h
    obtain ⟨k, h3, h⟩ := Option.bind_eq_some_iff.mp h
    obtain ⟨t, h4, h⟩ := Option.bind_eq_some_iff.mp h
    rw [t_ch, pv_ev a en r1 h1]
    show tchK2 C o1 o2 c r1 (evE C b en) = _
    rw [pv_ev b en r2 h2]
    show tchB C o2 c r2 en ((app o1 [view en.ob r1.d, view en.ob r2.d]).bind fun k => boolD k.d) = _
    rw [h3]
    show tchB C o2 c r2 en (boolD k.d) = _
    rw [h4]
    cases t with
    | false => cases h; rfl
    | true =>
      obtain ⟨r3, h5, h6⟩ := Option.bind_eq_some_iff.mp h
      show tchL o2 r2 (evE C c en) = _
      rw [pv_ev c en r3 h5]
      show Rs.ofO ((app o2 [view en.ob r2.d, view en.ob r3.d]).bind fun z => boolD z.d) en = _
      rw [h6]
      rfl
  | .ch3 o1 o2 o3 a b c d, en, r, h => by
    simp only [pt] at h
    obtain ⟨r1, h1, h⟩ := Option.bind_eq_some_iff.mp h
    obtain ⟨r2, h2, h⟩ := Option.bind_eq_some_iff.mp h
    obtain ⟨k, h3, h⟩ := Option.bind_eq_some_iff.mp h
    obtain ⟨t, h4, h⟩ := Option.bind_eq_some_iff.mp h
    rw [t_ch3, pv_ev a en r1 h1]
    show tch3K2 C o1 o2 o3 c d r1 (evE C b en) = _
    rw [pv_ev b en r2 h2]
    show tch3B1 C o2 o3 c d r2 en ((app o1 [view en.ob r1.d, view en.ob r2.d]).bind fun k => boolD k.d) = _
    rw [h3]
    show tch3B1 C o2 o3 c d r2 en (boolD k.d) = _
    rw [h4]
    cases t with
    | false => cases h; rfl
    | true =>
      obtain ⟨r3, h5, h⟩ := Option.bind_eq_some_iff.mp h
      obtain ⟨k2, h6, h⟩ := Option.bind_eq_some_iff.mp h
      obtain ⟨t2, h7, h⟩ := Option.bind_eq_some_iff.mp h
      show tch3K3 C o2 o3 d r2 (evE C c en) = _
      rw [pv_ev c en r3 h5]
      show tch3B2 C o3 d r3 en ((app o2 [view en.ob r2.d, view en.ob r3.d]).bind fun k => boolD k.d) = _
      rw [h6]
      show tch3B2 C o3 d r3 en (boolD k2.d) = _
      rw [h7]
      cases t2 with
      | false => cases h; rfl
      | true =>
        obtain ⟨r4, h8, h⟩ := Option.bind_eq_some_iff.mp h
        obtain ⟨z, h9, h⟩ := Option.bind_eq_some_iff.mp h
        show tchL o3 r3 (evE C d en) = _
        rw [pv_ev d en r4 h8]
        show Rs.ofO ((app o3 [view en.ob r3.d, view en.ob r4.d]).bind fun z => boolD z.d) en = _
        rw [h9]
        show Rs.ofO (boolD z.d) en = _
        rw [h]
        rfl
  | .disp _ _ _, en, r, h => by simp only [pt] at h; cases h
  | .call _ _, en, r, h => by simp only [pt] at h; cases h
  | .comp _ _ _ _ _ _, en, r, h => by simp only [pt] at h; cases h
  | .dget _ _ _, en, r, h => by simp only [pt] at h; cases h
  | .comp2 _ _ _ _ _ _ _ _ _ _ _, en, r, h => by simp only [pt] at h; cases h
theorem pvs_ev : ∀ (es : List IE) (en : En) (ds : List D), pvs C.gl es en = some ds → evA C es en = .ok ds en
  | [], en, ds, h => by
    simp only [pvs, Option.some.injEq] at h
    subst h
    rfl
  | e :: es, en, ds, h => by
    simp only [pvs] at h
    obtain ⟨r, h1, h⟩ := Option.bind_eq_some_iff.mp h
    obtain ⟨l, h2, h3⟩ := Option.map_eq_some_iff.mp h
    subst h3
    rw [a_cons, pv_ev e en r h1]
    show consK r.d (evA C es en) = _
    rw [pvs_ev es en l h2]
    rfl
theorem pvd_ev : ∀ (st : List Bool) (es : List IE) (en : En) (ds : List D), pvd C.gl st es en = some ds → evD C st es en = .ok ds en
  | [], [], en, ds, h => by
    simp only [pvd, Option.some.injEq] at h
    subst h
    rfl
  | false :: bs, e :: es, en, ds, h => by
    simp only [pvd] at h
    obtain ⟨r, h1, h⟩ := Option.bind_eq_some_iff.mp h
    rw [d_cons, pv_ev e en r h1]
    show consK r.d (evD C bs es (en.frz r)) = _
    cases r with
    | rf _ _ => cases h
    | fz d =>
      obtain ⟨l, h2, h3⟩ := Option.map_eq_some_iff.mp h
      subst h3
      show consK d (evD C bs es en) = _
      rw [pvd_ev bs es en l h2]
      rfl
    | ow d =>
      obtain ⟨l, h2, h3⟩ := Option.map_eq_some_iff.mp h
      subst h3
      show consK d (evD C bs es en) = _
      rw [pvd_ev bs es en l h2]
      rfl
  | true :: bs, e :: es, en, ds, h => by
    simp only [pvd] at h
    obtain ⟨r, h1, h⟩ := Option.bind_eq_some_iff.mp h
    obtain ⟨xs, h2, h⟩ := Option.bind_eq_some_iff.mp h
    obtain ⟨l, h3, h4⟩ := Option.map_eq_some_iff.mp h
    subst h4
    rw [d_star, pv_ev e en r h1]
    show starK C bs es en (spliceD [true] [view en.ob r.d]) = _
    rw [h2]
    show appK xs (evD C bs es en) = _
    rw [pvd_ev bs es en l h3]
    rfl
  | [], _ :: _, en, ds, h => by simp only [pvd] at h; cases h
  | true :: _, [], en, ds, h => by simp only [pvd] at h; cases h
  | false :: _, [], en, ds, h => by simp only [pvd] at h; cases h
end
variable {en : En} {i : Nat} {e : IE} {ss : List IS} {r : R}
/-- what holds at an end -/
structure Post (P : Ou → Prop) (o : Ou) : Prop where
  ok : P o
theorem Post.via {P : Ou → Prop} {o o' : Ou} (h : o = o') (k : Post P o') : Post P o := by rw [h]; exact k
theorem Post.viaS {P : Ou → Prop} {o o' : Ou} (h : o = o') (k : Post P (seqS C ss o')) : Post P (seqS C ss o) := by rw [h]; exact k
/-- a store of what only looks -/
theorem g_set (r : R) (h : pv C.gl e en = some r) : evSs C (.set i e :: ss) en = evSs C ss ⟨(frzS r en.sl).set i (toSl r), en.ob⟩ := by
  rw [evSs, s_set, pv_ev e en r h]
  rfl
theorem g_ret (r : R) (h : pv C.gl e en = some r) : evSs C (.ret e :: ss) en = .rt r.out en.ob := by
  rw [evSs, s_ret, pv_ev e en r h]
  rfl
theorem g_ite {t : IE} {a b : List IS} (k : Bool) (h : pt C.gl t en = some k) : evSs C (.ite t a b :: ss) en = seqS C ss (evSs C (if k = true then a else b) en) := by
  rw [evSs, s_ite, pt_ev t en k h]
  cases k
  · show (evSs C b en).seq _ = seqS C ss (evSs C b en)
    cases evSs C b en <;> rfl
  · show (evSs C a en).seq _ = seqS C ss (evSs C a en)
    cases evSs C a en <;> rfl
theorem g_put {k : IE} {en' : En} (r s : R) (hl : en.isC i = true) (he : pv C.gl e en = some r) (hk : pv C.gl k (en.frz r) = some s) (hc : (en.frz r).chg i (fun d => putD d s.d r.d) = some en') : evSs C (.put i k e :: ss) en = evSs C ss en' := by
  rw [evSs, s_put, if_pos hl, pv_ev e en r he]
  show (putK2 i r (evA C [k] (en.frz r))).seq _ = _
  rw [a_cons, pv_ev k _ s hk]
  show (enK ((en.frz r).chg i fun d => putD d s.d r.d)).seq _ = _
  rw [hc]
  rfl
end
end Tk

/-! Tk, part 24: comprehensions over typed items; keys, sorted and once. -/
namespace Tk
open PySem
section
variable {C : Ec} {own own1 : List Nat} {t t1 : Tg} {s s1 : Src} {es es1 : List IE} {cond cond1 : Option IE} {elt : IE} {en en1 : En} {ds : List D}
/-- a comprehension over typed items -/
theorem comp_typed {α : Type} {as : List α} {emb : α → D} (f : α → Option D) (hx : evX C es en = .ok ds en1) (hw : walk s ds = some (as.map emb)) (hf : frzOwn own en1.sl = en1.sl) (hr : restS en1.sl en1.sl own = en1.sl) (hl : as.length ≤ 16777216)
    (hs : ∀ a ∈ as, itemK C own t cond elt en1 (emb a) (f a)) : evE C (.comp own t s es cond elt) en = .ok (.ow (.lst (as.filterMap f))) en1 := by
  have key : ∀ (ys : List α) (acc : List D) (e : En), (∀ y ∈ ys, y ∈ as) → acc.length + ys.length ≤ 16777216 → e.ob = en1.ob → wipeS e.sl own = wipeS en1.sl own → restS en1.sl e.sl own = en1.sl →
      ∃ e', evLoop (fun x acc en1 => (Rs.ofO (t.put x (wipeS en1.sl own)) en1).bind fun sl' en1 => (evC C cond { en1 with sl := sl' }).bind fun k en2 =>
        if k = true then (evE C elt en2).bind fun r en3 => if acc.length < big then .ok (acc ++ [r.d]) (en3.frz r) else .no else .ok acc en2) (ys.map emb) acc e = .ok (acc ++ ys.filterMap f) e' ∧ e'.ob = en1.ob ∧ restS en1.sl e'.sl own = en1.sl := by
    intro ys
    induction ys with
    | nil => exact fun acc e _ _ h1 h2 h3 => ⟨e, by rw [List.filterMap_nil, List.append_nil]; rfl, h1, h3⟩
    | cons y ys ih =>
      intro acc e hm hl2 h1 h2 h3
      obtain ⟨sl, p1, p2, p3, b, q1, q2, q3⟩ := hs y (hm y List.mem_cons_self)
      rw [List.length_cons] at hl2
      have hm2 : ∀ z ∈ ys, z ∈ as := fun z hz => hm z (List.mem_cons_of_mem _ hz)
      rw [List.map_cons, evLoop, h2, p1]
      show ∃ e', Rs.bind (Rs.bind (evC C cond ⟨sl, e.ob⟩) _) _ = _ ∧ _
      rw [h1, q1]
      cases b with
      | false =>
        rw [List.filterMap_cons_none (q2 rfl)]
        exact ih acc ⟨sl, en1.ob⟩ hm2 (by omega) rfl p2 p3
      | true =>
        obtain ⟨r, r1, r2, r3⟩ := q3 rfl
        show ∃ e', Rs.bind (Rs.bind (evE C elt ⟨sl, en1.ob⟩) _) _ = _ ∧ _
        rw [r1]
        show ∃ e', Rs.bind (if acc.length < big then Rs.ok (acc ++ [r.d]) ((En.mk sl en1.ob).frz r) else .no) _ = _ ∧ _
        rw [if_pos (show acc.length < big by have : big = 16777216 := rfl; omega)]
        have ef : (En.mk sl en1.ob).frz r = ⟨sl, en1.ob⟩ := by cases r <;> first | rfl | cases r2
        rw [ef]
        obtain ⟨e', g1, g2, g3⟩ := ih (acc ++ [r.d]) ⟨sl, en1.ob⟩ hm2 (by rw [List.length_append, List.length_singleton]; omega) rfl p2 p3
        refine ⟨e', ?_, g2, g3⟩
        rw [List.filterMap_cons_some r3]
        refine g1.trans ?_
        rw [List.append_assoc]
        rfl
  simp only [evE]
  rw [hx]
  show ((Rs.ofO (walk s ds) en1).bind _) = _
  rw [hw]
  show Rs.bind (evLoop _ (as.map emb) [] { en1 with sl := frzOwn own en1.sl }) _ = _
  rw [hf]
  obtain ⟨e', g1, g2, g3⟩ := key as [] ⟨en1.sl, en1.ob⟩ (fun _ h => h) (by simpa using hl) rfl rfl hr
  rw [g1]
  show Rs.ok (R.ow (D.lst ([] ++ as.filterMap f))) { e' with sl := restS en1.sl e'.sl own } = _
  rw [g3, List.nil_append, g2]
theorem fm_all {α : Type} (f : α → D) : (as : List α) → as.filterMap (fun a => some (f a)) = as.map f
  | [] => rfl
  | a :: as => by rw [List.filterMap_cons, List.map_cons, fm_all f as]
/-- every item gives a value -/
theorem comp_all {α : Type} {as : List α} {emb : α → D} (f : α → D) (hx : evX C es en = .ok ds en1) (hw : walk s ds = some (as.map emb)) (hf : frzOwn own en1.sl = en1.sl) (hr : restS en1.sl en1.sl own = en1.sl) (hl : as.length ≤ 16777216)
    (hs : ∀ a ∈ as, itemK C own t cond elt en1 (emb a) (some (f a))) : evE C (.comp own t s es cond elt) en = .ok (.ow (.lst (as.map f))) en1 := by
  rw [comp_typed (fun a => some (f a)) hx hw hf hr hl hs, fm_all]
/-- two clauses -/
theorem comp2_typed {α β : Type} {as : List α} {emb : α → D} {emb1 : β → D} (W : α → List β) (f : α → β → Option D) (hx : evX C es en = .ok ds en1) (hw : walk s ds = some (as.map emb)) (hf : frzOwn own en1.sl = en1.sl) (hr : restS en1.sl en1.sl own = en1.sl) (hl : (as.flatMap W).length ≤ 16777216)
    (hs : ∀ a ∈ as, ∃ sl ds1, t.put (emb a) (wipeS en1.sl own) = some sl ∧ wipeS sl own = wipeS en1.sl own ∧ restS en1.sl sl own = en1.sl ∧ evC C cond ⟨sl, en1.ob⟩ = .ok true ⟨sl, en1.ob⟩ ∧ evX C es1 ⟨sl, en1.ob⟩ = .ok ds1 ⟨sl, en1.ob⟩ ∧ walk s1 ds1 = some ((W a).map emb1) ∧
      ∀ b ∈ W a, ∃ sl1, t1.put (emb1 b) (wipeS sl own1) = some sl1 ∧ wipeS sl1 own1 = wipeS sl own1 ∧ wipeS sl1 own = wipeS en1.sl own ∧ restS en1.sl sl1 own = en1.sl ∧ ∃ k, evC C cond1 ⟨sl1, en1.ob⟩ = .ok k ⟨sl1, en1.ob⟩ ∧ (k = false → f a b = none) ∧ (k = true → ∃ r, evE C elt ⟨sl1, en1.ob⟩ = .ok r ⟨sl1, en1.ob⟩ ∧ r.free = true ∧ f a b = some r.d)) :
    evE C (.comp2 own own1 t s es cond t1 s1 es1 cond1 elt) en = .ok (.ow (.lst (as.flatMap fun a => (W a).filterMap (f a)))) en1 := by
  have inner : ∀ (a : α) (sl : List Sl), a ∈ as → ∀ (ys : List β) (acc : List D) (e : En), (∀ b ∈ ys, ∃ sl1, t1.put (emb1 b) (wipeS sl own1) = some sl1 ∧ wipeS sl1 own1 = wipeS sl own1 ∧ wipeS sl1 own = wipeS en1.sl own ∧ restS en1.sl sl1 own = en1.sl ∧ ∃ k, evC C cond1 ⟨sl1, en1.ob⟩ = .ok k ⟨sl1, en1.ob⟩ ∧ (k = false → f a b = none) ∧ (k = true → ∃ r, evE C elt ⟨sl1, en1.ob⟩ = .ok r ⟨sl1, en1.ob⟩ ∧ r.free = true ∧ f a b = some r.d)) →
      acc.length + ys.length ≤ 16777216 → e.ob = en1.ob → wipeS e.sl own1 = wipeS sl own1 → wipeS e.sl own = wipeS en1.sl own → restS en1.sl e.sl own = en1.sl →
      ∃ e', evLoop (fun x1 acc1 en4 => (Rs.ofO (t1.put x1 (wipeS en4.sl own1)) en4).bind fun sl1 en4 => (evC C cond1 { en4 with sl := sl1 }).bind fun k1 en5 =>
            if k1 = true then (evE C elt en5).bind fun r en6 => if acc1.length < big then .ok (acc1 ++ [r.d]) (en6.frz r) else .no else .ok acc1 en5) (ys.map emb1) acc e = .ok (acc ++ ys.filterMap (f a)) e' ∧ e'.ob = en1.ob ∧ wipeS e'.sl own = wipeS en1.sl own ∧ restS en1.sl e'.sl own = en1.sl := by
    intro a sl ha ys
    induction ys with
    | nil => exact fun acc e _ _ h1 _ h3 h4 => ⟨e, by rw [List.filterMap_nil, List.append_nil]; rfl, h1, h3, h4⟩
    | cons y ys ih =>
      intro acc e hb hl2 h1 h2 h3 h4
      obtain ⟨sl1, p1, p2, p3, p4, k, q1, q2, q3⟩ := hb y List.mem_cons_self
      rw [List.length_cons] at hl2
      have hb2 := fun z hz => hb z (List.mem_cons_of_mem _ hz)
      rw [List.map_cons, evLoop, h2, p1]
      show ∃ e', Rs.bind (Rs.bind (evC C cond1 ⟨sl1, e.ob⟩) _) _ = _ ∧ _
      rw [h1, q1]
      cases k with
      | false =>
        rw [List.filterMap_cons_none (q2 rfl)]
        exact ih acc ⟨sl1, en1.ob⟩ hb2 (by omega) rfl p2 p3 p4
      | true =>
        obtain ⟨r, r1, r2, r3⟩ := q3 rfl
        show ∃ e', Rs.bind (Rs.bind (evE C elt ⟨sl1, en1.ob⟩) _) _ = _ ∧ _
        rw [r1]
        show ∃ e', Rs.bind (if acc.length < big then Rs.ok (acc ++ [r.d]) ((En.mk sl1 en1.ob).frz r) else .no) _ = _ ∧ _
        rw [if_pos (show acc.length < big by have : big = 16777216 := rfl; omega)]
        have ef : (En.mk sl1 en1.ob).frz r = ⟨sl1, en1.ob⟩ := by cases r <;> first | rfl | cases r2
        rw [ef]
        obtain ⟨e', g1, g2, g3⟩ := ih (acc ++ [r.d]) ⟨sl1, en1.ob⟩ hb2 (by rw [List.length_append, List.length_singleton]; omega) rfl p2 p3 p4
        refine ⟨e', ?_, g2, g3⟩
        rw [List.filterMap_cons_some r3]
        refine g1.trans ?_
        rw [List.append_assoc]
        rfl
  have key : ∀ (ys : List α) (acc : List D) (e : En), (∀ y ∈ ys, y ∈ as) → acc.length + (ys.flatMap W).length ≤ 16777216 → e.ob = en1.ob → wipeS e.sl own = wipeS en1.sl own → restS en1.sl e.sl own = en1.sl →
      ∃ e', evLoop (fun x acc en1 => (Rs.ofO (t.put x (wipeS en1.sl own)) en1).bind fun sl' en1 => (evC C cond { en1 with sl := sl' }).bind fun k en2 =>
        if k = true then (evX C es1 en2).bind fun ds1 en3 => (Rs.ofO (walk s1 ds1) en3).bind fun xs1 en3 =>
          evLoop (fun x1 acc1 en4 => (Rs.ofO (t1.put x1 (wipeS en4.sl own1)) en4).bind fun sl1 en4 => (evC C cond1 { en4 with sl := sl1 }).bind fun k1 en5 =>
            if k1 = true then (evE C elt en5).bind fun r en6 => if acc1.length < big then .ok (acc1 ++ [r.d]) (en6.frz r) else .no else .ok acc1 en5) xs1 acc en3
        else .ok acc en2) (ys.map emb) acc e = .ok (acc ++ ys.flatMap fun a => (W a).filterMap (f a)) e' ∧ e'.ob = en1.ob ∧ restS en1.sl e'.sl own = en1.sl := by
    intro ys
    induction ys with
    | nil => exact fun acc e _ _ h1 h2 h3 => ⟨e, by rw [List.flatMap_nil, List.append_nil]; rfl, h1, h3⟩
    | cons y ys ih =>
      intro acc e hm hl2 h1 h2 h3
      obtain ⟨sl, ds1, p1, p2, p3, q1, q2, q3, q4⟩ := hs y (hm y List.mem_cons_self)
      rw [List.flatMap_cons, List.length_append] at hl2
      have hm2 : ∀ z ∈ ys, z ∈ as := fun z hz => hm z (List.mem_cons_of_mem _ hz)
      rw [List.map_cons, evLoop, h2, p1]
      show ∃ e', Rs.bind (Rs.bind (evC C cond ⟨sl, e.ob⟩) _) _ = _ ∧ _
      rw [h1, q1]
      show ∃ e', Rs.bind (Rs.bind (evX C es1 ⟨sl, en1.ob⟩) _) _ = _ ∧ _
      rw [q2]
      show ∃ e', Rs.bind (Rs.bind (Rs.ofO (walk s1 ds1) ⟨sl, en1.ob⟩) _) _ = _ ∧ _
      rw [q3]
      obtain ⟨e2, g1, g2, g3, g4⟩ := inner y sl (hm y List.mem_cons_self) (W y) acc ⟨sl, en1.ob⟩ q4 (by omega) rfl rfl p2 p3
      show ∃ e', Rs.bind (evLoop _ ((W y).map emb1) acc ⟨sl, en1.ob⟩) _ = _ ∧ _
      rw [g1]
      have lf : ((W y).filterMap (f y)).length ≤ (W y).length := List.length_filterMap_le _ _
      obtain ⟨e', k1, k2, k3⟩ := ih (acc ++ (W y).filterMap (f y)) e2 hm2 (by rw [List.length_append]; omega) g2 g3 g4
      refine ⟨e', ?_, k2, k3⟩
      rw [List.flatMap_cons, ← List.append_assoc]
      exact k1
  simp only [evE]
  rw [hx]
  show ((Rs.ofO (walk s ds) en1).bind _) = _
  rw [hw]
  show Rs.bind (evLoop _ (as.map emb) [] { en1 with sl := frzOwn own en1.sl }) _ = _
  rw [hf]
  obtain ⟨e', g1, g2, g3⟩ := key as [] ⟨en1.sl, en1.ob⟩ (fun _ h => h) (by simpa using hl) rfl rfl hr
  rw [g1]
  show Rs.ok (R.ow (D.lst ([] ++ as.flatMap fun a => (W a).filterMap (f a)))) { e' with sl := restS en1.sl e'.sl own } = _
  rw [g3, List.nil_append, g2]
end
/-! ### keys -/
theorem intsOf_map : ∀ k : List Int, intsOf (k.map .int) = some k
  | [] => rfl
  | i :: k => by
    show (intsOf (k.map .int)).map (i :: ·) = _
    rw [intsOf_map k]
    rfl
theorem keysD_map : ∀ ks : List (List Int), keysD (ks.map tupK) = some ks
  | [] => rfl
  | k :: ks => by
    show (intsT (tupK k)).bind _ = _
    show (intsOf (k.map .int)).bind _ = _
    rw [intsOf_map]
    show (keysD (ks.map tupK)).map (k :: ·) = _
    rw [keysD_map ks]
    rfl
/-- sorted(set(keys)) -/
def once (ks : List (List Int)) : List (List Int) := srtBy leI (dd ks)
theorem mem_once {x : List Int} {ks : List (List Int)} : x ∈ once ks ↔ x ∈ ks := by
  unfold once
  rw [(srtBy_perm _).mem_iff, mem_dd]
theorem once_nodup (ks : List (List Int)) : (once ks).Nodup := (srtBy_perm _).nodup_iff.mpr (dd_nodup ks)
theorem once_sorted (ks : List (List Int)) : (once ks).Pairwise (fun a b => leI a b = true) := srtBy_sorted leI_total _
/-- a sorted list, each key once, is told by its members -/
theorem once_of {xs ks : List (List Int)} (hs : xs.Pairwise (fun a b => leI a b = true)) (nd : xs.Nodup) (hm : ∀ x, x ∈ xs ↔ x ∈ ks) : xs = once ks :=
  srt_one hs ((List.perm_ext_iff_of_nodup nd (dd_nodup ks)).mpr fun x => by rw [mem_dd]; exact hm x)
theorem once_congr {ks ls : List (List Int)} (h : ∀ x, x ∈ ks ↔ x ∈ ls) : once ks = once ls := once_of (once_sorted ks) (once_nodup ks) fun x => by rw [mem_once]; exact h x
theorem once_filter {ks : List (List Int)} (p : List Int → Bool) : (once ks).filter p = once (ks.filter p) :=
  once_of ((once_sorted ks).filter p) ((once_nodup ks).filter p) fun x => by rw [List.mem_filter, List.mem_filter, mem_once]
theorem once_len {ks U : List (List Int)} (h : ∀ x ∈ ks, x ∈ U) : (once ks).length ≤ U.length := sub_length (once_nodup ks) fun x hx => h x (mem_once.mp hx)
theorem dd_len {ks U : List (List Int)} (h : ∀ x ∈ ks, x ∈ U) : (dd ks).length ≤ U.length := sub_length (dd_nodup ks) fun x hx => h x (mem_dd.mp hx)
theorem o_set {ks : List (List Int)} (h1 : ∀ k ∈ ks, k ≠ []) (h2 : ks.length ≤ 1000000) (h3 : (dd ks).length < 1200) : app1 .set (.lst (ks.map tupK)) = some (.ow (.lst ((once ks).map tupK))) := by
  show (match keysD (ks.map tupK) with | some ks => setKeys ks | none => _) = _
  rw [keysD_map]
  show guardO _ _ = _
  have e : (ks.all fun k => !k.isEmpty) = true := List.all_eq_true.mpr fun k hk => by
    cases k with
    | nil => exact absurd rfl (h1 _ hk)
    | cons _ _ => rfl
  rw [e, decide_eq_true h2, decide_eq_true h3]
  rfl
theorem eqDs_ints : ∀ a b : List Int, eqDs (a.map .int) (b.map .int) = decide (a = b)
  | [], [] => rfl
  | [], _ :: _ => by simp [eqDs]
  | _ :: _, [] => by simp [eqDs]
  | x :: a, y :: b => by
    show (eqD (.int x) (.int y) && eqDs (a.map .int) (b.map .int)) = _
    rw [eqDs_ints a b]
    show ((x == y) && decide (a = b)) = _
    by_cases h1 : x = y <;> by_cases h2 : a = b <;> simp [h1, h2]
theorem eqD_tupK {a b : List Int} : eqD (tupK a) (tupK b) = decide (a = b) := eqDs_ints a b
theorem inD_keys {a : List Int} {ks : List (List Int)} : inD (tupK a) (ks.map tupK) = decide (a ∈ ks) := by
  unfold inD
  induction ks with
  | nil => rfl
  | cons k ks ih =>
    rw [List.map_cons, List.any_cons, ih, eqD_tupK]
    simp only [List.mem_cons, Bool.decide_or]
    congr 1
    exact decide_eq_decide.mpr ⟨fun h => h.symm, fun h => h.symm⟩
theorem plain_ints : ∀ a : List Int, plains (a.map .int) = true
  | [] => rfl
  | _ :: a => plain_ints a
theorem depth_intsD : ∀ a : List Int, depths (a.map .int) = 0
  | [] => rfl
  | x :: a => by
    show max (depth (.int x)) (depths (a.map .int)) = 0
    rw [depth_intsD a]
    rfl
theorem plains_keys : ∀ ks : List (List Int), plains (ks.map tupK) = true
  | [] => rfl
  | k :: ks => by
    show (plain (tupK k) && plains (ks.map tupK)) = true
    rw [plains_keys ks, show plain (tupK k) = plains (k.map .int) from rfl, plain_ints]
    rfl
theorem depths_keys : ∀ ks : List (List Int), depths (ks.map tupK) ≤ 1
  | [] => by decide
  | k :: ks => by
    show max (depth (tupK k)) (depths (ks.map tupK)) ≤ 1
    refine Nat.max_le.mpr ⟨?_, depths_keys ks⟩
    show depths (k.map .int) + 1 ≤ 1
    rw [depth_intsD]
    exact Nat.le_refl 1
theorem okIn_keys {a : List Int} {ks : List (List Int)} : okIn (tupK a) (ks.map tupK) = true := by
  unfold okIn
  have e1 : plain (tupK a) = true := plain_ints a
  have e2 : depth (tupK a) = 1 := by show depths (a.map .int) + 1 = 1; rw [depth_intsD]
  rw [plains_keys, e1, e2, decide_eq_true (Nat.le_trans (depths_keys ks) (by decide))]
  rfl
theorem o_inK {a : List Int} {ks : List (List Int)} : app2 .isin (tupK a) (.lst (ks.map tupK)) = some (.fz (.bl (decide (a ∈ ks)))) := by
  show (guardO (okIn (tupK a) (ks.map tupK)) (some (inD (tupK a) (ks.map tupK)))).bind _ = _
  rw [okIn_keys, inD_keys]
  rfl
theorem o_ninK {a : List Int} {ks : List (List Int)} : app2 .notin (tupK a) (.lst (ks.map tupK)) = some (.fz (.bl (!decide (a ∈ ks)))) := by
  show (guardO (okIn (tupK a) (ks.map tupK)) (some (inD (tupK a) (ks.map tupK)))).bind _ = _
  rw [okIn_keys, inD_keys]
  rfl
theorem view_tupK {ob : List Ob} {a : List Int} : view ob (tupK a) = tupK a := rfl
/-! ### repr of keys -/
theorem ok40_key {B : Int} {a : List Int} (h : ∀ i ∈ a, i.natAbs < 10 ^ 40) : ok40s (a.map .int) = true := ok40s_of fun x hx => by
  obtain ⟨i, hi, rfl⟩ := List.mem_map.mp hx
  exact decide_eq_true (h i hi)
theorem szs_ints : ∀ a : List Int, szs (a.map .int) ≤ a.length * 43
  | [] => Nat.zero_le _
  | x :: a => by
    have := szs_ints a
    show szs (D.int x :: a.map .int) ≤ (a.length + 1) * 43
    rw [szs, sz]
    omega
/-- a list of keys is shown -/
theorem repr_keys {ks : List (List Int)} (h : ∀ k ∈ ks, k.length ≤ 8 ∧ ∀ i ∈ k, i.natAbs < 10 ^ 40) (hl : ks.length ≤ 40000) : app1 .repr (.lst (ks.map tupK)) = some (.fz (.str (shown (.lst (ks.map tupK))))) := by
  refine repr_go (ok40s_of fun x hx => ?_) (by show depths (ks.map tupK) + 1 ≤ 60; have := depths_keys ks; omega) ?_
  · obtain ⟨k, hk, rfl⟩ := List.mem_map.mp hx
    exact ok40_key (B := 0) (h k hk).2
  · have z : szs (ks.map tupK) ≤ (ks.map tupK).length * (348 + 2) := szs_le fun x hx => by
      obtain ⟨k, hk, rfl⟩ := List.mem_map.mp hx
      have := szs_ints k
      have := (h k hk).1
      show szs (k.map .int) + 4 ≤ 348
      omega
    rw [List.length_map] at z
    show szs (ks.map tupK) + 4 ≤ _
    omega
theorem o_neStr {x : Str} : app2 .ne (.str x) (.str x) = some (.fz (.bl false)) := ne_str
/-! ### ranges -/
def rngI (s e : Int) : List Int := (List.range (e - s).toNat).map fun k : Nat => s + k
theorem mem_rngI {s e x : Int} : x ∈ rngI s e ↔ s ≤ x ∧ x < e := by
  unfold rngI
  rw [List.mem_map]
  constructor
  · rintro ⟨k, hk, rfl⟩
    rw [List.mem_range] at hk
    omega
  · intro h
    exact ⟨(x - s).toNat, List.mem_range.mpr (by omega), by omega⟩
theorem rngI_len {s e : Int} : (rngI s e).length = (e - s).toNat := by unfold rngI; rw [List.length_map, List.length_range]
theorem walk_r2 {l m : Int} (h0 : 0 ≤ l) (h0' : l < 2 ^ 62) (h1 : 0 ≤ m) (h : m < 2 ^ 62) : walk .range2 [.int l, .int m] = some ((rngI l m).map .int) := by
  rw [walk_rng2 h0 h0' h1 h]
  unfold rngI
  rw [List.map_map]
  rfl
theorem walk_r1 {m : Int} (h1 : 0 ≤ m) (h : m < 2 ^ 62) : walk .range [.int m] = some ((rngI 0 m).map .int) := by
  rw [walk_rng h1 h]
  unfold rngI
  rw [List.map_map, Int.sub_zero]
  congr 1
  refine List.map_congr_left fun k _ => ?_
  show D.int k = D.int (0 + k)
  rw [Int.zero_add]
end Tk

/-! Tk, part 28: dicts run: d.get, stores, keys that are tuples of ints; sorted lists of keys. -/
namespace Tk
open PySem
section
variable (C : Ec)
def dgF (en : En) : Bool → Option R → Rs R
  | true, o => .ofO o en
  | false, _ => .no
def dgK3 (r r2 : R) : Rs R → Rs R
  | .ok r3 en => dgF en r3.free (dgetD (view en.ob r.d) r2.d r3.d)
  | .ex x en => .ex x en
  | .no => .no
def dgK2 (x : IE) (r : R) : Rs R → Rs R
  | .ok r2 en => dgK3 r r2 (evE C x en)
  | .ex x en => .ex x en
  | .no => .no
def dgO (k x : IE) (r : R) (en : En) : Option (List (D × D)) → Rs R
  | some _ => dgK2 C x r (evE C k en)
  | none => .no
def dgK1 (k x : IE) : Rs R → Rs R
  | .ok r en => dgO C k x r en (dicOf (view en.ob r.d))
  | .ex x en => .ex x en
  | .no => .no
end
section
variable {C : Ec} {d k x : IE} {en : En} {r r2 r3 : R}
theorem r_dget : evE C (.dget d k x) en = dgK1 C k x (evE C d en) := by
  simp only [evE]
  cases evE C d en with
  | ok r en1 =>
    show (Rs.ofO (dicOf (view en1.ob r.d)) en1).bind _ = dgO C k x r en1 (dicOf (view en1.ob r.d))
    cases dicOf (view en1.ob r.d) with
    | none => rfl
    | some kvs =>
      show (evE C k en1).bind _ = dgK2 C x r (evE C k en1)
      cases evE C k en1 with
      | ok r2 en2 =>
        show (evE C x en2).bind _ = dgK3 r r2 (evE C x en2)
        cases evE C x en2 with
        | ok r3 en3 =>
          show (if r3.free = true then _ else _) = dgF en3 r3.free _
          cases r3.free <;> rfl
        | _ => rfl
      | _ => rfl
  | _ => rfl
theorem dgK1_ok : dgK1 C k x (.ok r en) = dgO C k x r en (dicOf (view en.ob r.d)) := rfl
theorem dgO_some {o : List (D × D)} : dgO C k x r en (some o) = dgK2 C x r (evE C k en) := rfl
theorem dgK2_ok : dgK2 C x r (.ok r2 en) = dgK3 r r2 (evE C x en) := rfl
theorem dgK3_ok : dgK3 r r2 (.ok r3 en) = dgF en r3.free (dgetD (view en.ob r.d) r2.d r3.d) := rfl
theorem dgF_t {o : Option R} : dgF en true o = .ofO o en := rfl
theorem fr_fz {d : D} : (R.fz d).free = true := rfl
theorem fr_ow {d : D} : (R.ow d).free = true := rfl
end
/-! ### dicts by keys of ints -/
def dicK (ps : List (List Int)) (f : List Int → D) : D := .dic (ps.map fun p => (tupK p, f p))
def addK (ps : List (List Int)) (q : List Int) : List (List Int) := if q ∈ ps then ps else ps ++ [q]
def updK (f : List Int → D) (q : List Int) (v : D) : List Int → D := fun p => if p = q then v else f p
section
variable {ps : List (List Int)} {f g : List Int → D} {q : List Int} {v x : D} {ob : List Ob}
theorem dicK_congr (h : ∀ p ∈ ps, f p = g p) : dicK ps f = dicK ps g := by
  unfold dicK
  rw [List.map_congr_left fun p hp => by rw [h p hp]]
theorem mem_addK {p : List Int} : p ∈ addK ps q ↔ p ∈ ps ∨ p = q := by
  unfold addK
  split
  · rename_i h
    constructor
    · exact .inl
    · rintro (h1 | rfl)
      · exact h1
      · exact h
  · rw [List.mem_append, List.mem_singleton]
theorem addK_nodup (h : ps.Nodup) : (addK ps q).Nodup := by
  unfold addK
  split
  · exact h
  · rename_i hq
    exact List.nodup_append.mpr ⟨h, by simp, fun a ha b hb => by rw [List.mem_singleton.mp hb]; exact fun e => hq (e ▸ ha)⟩
theorem addK_len : (addK ps q).length ≤ ps.length + 1 := by
  unfold addK
  split
  · omega
  · rw [List.length_append]; simp
theorem keyDs_ints : ∀ a : List Int, keyDs (a.map .int) = true
  | [] => rfl
  | _ :: a => keyDs_ints a
theorem isKey_tupK : isKey (tupK q) = true := by
  show (keyDs (q.map .int) && decide (depths (q.map .int) ≤ 7)) = true
  rw [keyDs_ints, depth_intsD]
  rfl
theorem look_dicK : lookD (ps.map fun p => (tupK p, f p)) (tupK q) = if q ∈ ps then some (f q) else none := by
  unfold lookD
  induction ps with
  | nil => rfl
  | cons p ps ih =>
    rw [List.map_cons, List.find?_cons]
    show Option.map _ (match eqD (tupK p) (tupK q) with | true => _ | false => _) = _
    rw [eqD_tupK]
    by_cases h : p = q
    · subst h
      rw [decide_eq_true rfl, if_pos List.mem_cons_self]
      rfl
    · rw [decide_eq_false h]
      show Option.map _ _ = _
      rw [ih]
      by_cases h2 : q ∈ ps
      · rw [if_pos h2, if_pos (List.mem_cons_of_mem _ h2)]
      · rw [if_neg h2, if_neg fun z => (List.mem_cons.mp z).elim (fun e => h e.symm) h2]
theorem putK_dicK : putKD (ps.map fun p => (tupK p, f p)) (tupK q) v = (addK ps q).map fun p => (tupK p, updK f q v p) := by
  unfold putKD addK
  rw [look_dicK]
  by_cases h : q ∈ ps
  · rw [if_pos h, if_pos h, if_pos (show (some (f q)).isSome = true from rfl), List.map_map]
    refine List.map_congr_left fun p _ => ?_
    show (if eqD (tupK p) (tupK q) = true then (tupK p, v) else (tupK p, f p)) = (tupK p, if p = q then v else f p)
    rw [eqD_tupK]
    by_cases e : p = q
    · rw [if_pos (by simpa using e), if_pos e]
    · rw [if_neg (by simpa using e), if_neg e]
  · rw [if_neg h, if_neg h, if_neg (show ¬ (none : Option D).isSome = true by decide), List.map_append]
    congr 1
    · refine List.map_congr_left fun p hp => ?_
      show (tupK p, f p) = (tupK p, if p = q then v else f p)
      rw [if_neg (show ¬ p = q from fun e => h (e ▸ hp))]
    · show [(tupK q, v)] = [(tupK q, if q = q then v else f q)]
      rw [if_pos rfl]
theorem putD_dicK (h : ps.length < 16777216) : putD (dicK ps f) (tupK q) v = some (dicK (addK ps q) (updK f q v)) := by
  show guardO (isKey (tupK q) && decide ((ps.map fun p => (tupK p, f p)).length < big)) (some (D.dic (putKD (ps.map fun p => (tupK p, f p)) (tupK q) v))) = _
  rw [isKey_tupK, List.length_map, decide_eq_true (show ps.length < big from h), putK_dicK]
  rfl
theorem view_dicK : view ob (dicK ps f) = dicK ps f := rfl
theorem dicOf_dicK : dicOf (dicK ps f) = some (ps.map fun p => (tupK p, f p)) := rfl
theorem o_getK : dgetD (dicK ps f) (tupK q) x = some (.fz (if q ∈ ps then f q else x)) := by
  show guardO (isKey (tupK q)) (fz ((lookD (ps.map fun p => (tupK p, f p)) (tupK q)).getD x)) = _
  rw [isKey_tupK, look_dicK]
  split <;> rfl
theorem o_ixK (h : q ∈ ps) : app2 .ix (dicK ps f) (tupK q) = some (.fz (f q)) := by
  show guardO (isKey (tupK q)) ((lookD (ps.map fun p => (tupK p, f p)) (tupK q)).bind fz) = _
  rw [isKey_tupK, look_dicK, if_pos h]
  rfl
theorem o_inDK : app2 .isin (tupK q) (dicK ps f) = some (.fz (.bl (decide (q ∈ ps)))) := by
  show (guardO (isKey (tupK q)) (some (lookD (ps.map fun p => (tupK p, f p)) (tupK q)).isSome)).bind _ = _
  rw [isKey_tupK, look_dicK]
  by_cases h : q ∈ ps
  · rw [if_pos h, decide_eq_true h]; rfl
  · rw [if_neg h, decide_eq_false h]; rfl
theorem o_ninDK : app2 .notin (tupK q) (dicK ps f) = some (.fz (.bl (!decide (q ∈ ps)))) := by
  show (guardO (isKey (tupK q)) (some (lookD (ps.map fun p => (tupK p, f p)) (tupK q)).isSome)).bind _ = _
  rw [isKey_tupK, look_dicK]
  by_cases h : q ∈ ps
  · rw [if_pos h, decide_eq_true h]; rfl
  · rw [if_neg h, decide_eq_false h]; rfl
theorem keys_dicK : (ps.map fun p => (tupK p, f p)).map (·.1) = ps.map tupK := by
  rw [List.map_map]
  rfl
theorem walk_dicK : walk .it [dicK ps f] = some (ps.map tupK) := by
  show some ((ps.map fun p => (tupK p, f p)).map (·.1)) = _
  rw [keys_dicK]
theorem o_lstDK : app1 .list (dicK ps f) = some (.ow (.lst (ps.map tupK))) := by
  show some (R.ow (.lst ((ps.map fun p => (tupK p, f p)).map (·.1)))) = _
  rw [keys_dicK]
theorem o_lenDK : app1 .len (dicK ps f) = some (.fz (.int ps.length)) := by
  show some (R.fz (.int ((ps.map fun p => (tupK p, f p)).length : Int))) = _
  rw [List.length_map]
theorem o_dnew : app .dnew [] = some (.ow (dicK [] f)) := rfl
/-! sorting -/
theorem toPys_ints : ∀ k : List Int, toPys (k.map .int) = k.map PyData.int
  | [] => by simp [toPys]
  | i :: k => by simp only [List.map_cons, toPys, toPy, toPys_ints k]
theorem toPy_tupK : toPy (tupK q) = .tuple (q.map PyData.int) := by
  show toPy (.tup (q.map .int)) = _
  simp only [toPy, toPys_ints]
theorem leP_tupK {a b : List Int} : leP (tupK a) (tupK b) = leI a b := by
  unfold leP
  rw [toPy_tupK, toPy_tupK, leI_eq]
  exact congrFun (congrFun leT_eq ((0 : Addr), a)) ((0 : Addr), b)
theorem ins_tupK (a : List Int) : ∀ ks : List (List Int), insBy leP (tupK a) (ks.map tupK) = (insBy leI a ks).map tupK
  | [] => rfl
  | k :: ks => by
    rw [List.map_cons, insBy, insBy, leP_tupK]
    split
    · rfl
    · rw [ins_tupK a ks]; rfl
theorem srt_tupK : ∀ ks : List (List Int), srtBy leP (ks.map tupK) = (srtBy leI ks).map tupK
  | [] => rfl
  | k :: ks => by rw [List.map_cons, srtBy, srt_tupK ks, ins_tupK]; rfl
theorem alike_tupK (ks : List (List Int)) : alikeD (ks.map tupK) = true := by
  unfold alikeD
  rw [List.all_eq_true]
  intro x hx
  rw [List.all_eq_true]
  intro y hy
  obtain ⟨a, _, rfl⟩ := List.mem_map.mp hx
  obtain ⟨b, _, rfl⟩ := List.mem_map.mp hy
  rw [toPy_tupK, toPy_tupK, PySem.W.alike]
  exact PySem.W.alike_ints a b
theorem sortL_K {ks : List (List Int)} (h1 : ∀ k ∈ ks, k ≠ []) (h2 : ks.length ≤ 16777216) : sortL (ks.map tupK) = some (.ow (.lst ((srtBy leI ks).map tupK))) := by
  unfold sortL
  have e : sortableD (ks.map tupK) = true := by
    unfold sortableD
    rw [Bool.or_eq_true]
    refine .inl (List.all_eq_true.mpr fun x hx => ?_)
    obtain ⟨a, ha, rfl⟩ := List.mem_map.mp hx
    cases a with
    | nil => exact absurd rfl (h1 _ ha)
    | cons _ _ => rfl
  rw [plains_keys, alike_tupK, e, List.length_map, decide_eq_true (show ks.length ≤ big from h2), decide_eq_true (Nat.le_trans (depths_keys ks) (by decide)), srt_tupK]
  rfl
theorem o_sortDK (h1 : ∀ k ∈ ps, k ≠ []) (h2 : ps.length ≤ 16777216) : app1 .sorted (dicK ps f) = some (.ow (.lst ((srtBy leI ps).map tupK))) := by
  show sortL ((ps.map fun p => (tupK p, f p)).map (·.1)) = _
  rw [keys_dicK, sortL_K h1 h2]
theorem o_sortK {ks : List (List Int)} (h1 : ∀ k ∈ ks, k ≠ []) (h2 : ks.length ≤ 16777216) : app1 .sorted (.lst (ks.map tupK)) = some (.ow (.lst ((srtBy leI ks).map tupK))) := sortL_K h1 h2
theorem o_sortTK {ks : List (List Int)} (h1 : ∀ k ∈ ks, k ≠ []) (h2 : ks.length ≤ 16777216) : app1 .sorted (.tup (ks.map tupK)) = some (.ow (.lst ((srtBy leI ks).map tupK))) := sortL_K h1 h2
theorem srt_once {ks : List (List Int)} (h : ks.Nodup) : srtBy leI ks = once ks := once_of (srtBy_sorted leI_total _) ((srtBy_perm _).nodup_iff.mpr h) fun x => (srtBy_perm _).mem_iff
theorem srt_of_sorted {ks : List (List Int)} (h : ks.Pairwise (fun a b => leI a b = true)) : srtBy leI ks = ks := (srt_one h (List.Perm.refl _)).symm
end
/-! sets of a tuple, of ints -/
theorem o_setT {ks : List (List Int)} (h1 : ∀ k ∈ ks, k ≠ []) (h2 : ks.length ≤ 1000000) (h3 : (dd ks).length < 1200) : app1 .set (.tup (ks.map tupK)) = some (.ow (.lst ((once ks).map tupK))) := o_set h1 h2 h3
def onceI (is : List Int) : List Int := srtBy leZ (ddI is)
theorem keysD_ints {i : Int} {is : List Int} : keysD ((i :: is).map .int) = none := rfl
theorem o_setI {is : List Int} (h : is.length < 64) : app1 .set (.lst (is.map .int)) = some (.ow (.lst ((onceI is).map .int))) := by
  show (match keysD (is.map .int) with | some ks => setKeys ks | none => (intsOf (is.map .int)).bind setInts) = _
  cases is with
  | nil => rfl
  | cons i is =>
    rw [keysD_ints, intsOf_map]
    show setInts (i :: is) = _
    unfold setInts
    rw [decide_eq_true h]
    rfl
theorem mem_onceI {x : Int} {is : List Int} : x ∈ onceI is ↔ x ∈ is := by
  unfold onceI
  rw [(srtBy_perm _).mem_iff, mem_ddI]
theorem onceI_asc (is : List Int) : (onceI is).Pairwise (· < ·) := by
  have nd : (onceI is).Nodup := (srtBy_perm _).nodup_iff.mpr (ddI_nodup is)
  refine ((List.Pairwise.and (srtBy_sorted leZ_total (ddI is)) nd)).imp fun {a b} h => ?_
  have := of_decide_eq_true h.1
  have := h.2
  omega
theorem onceI_of {ns is : List Int} (h : ns.Pairwise (· < ·)) (hm : ∀ x, x ∈ ns ↔ x ∈ is) : ns = onceI is := asc_ddI h hm
section
variable {C : Ec} {en en1 en2 : En} {i : Nat} {e k : IE} {r : R} {ps : List (List Int)} {f : List Int → D} {q : List Int}
/-- d[q] = e -/
theorem m_putK (hc : en.isC i = true) (he : evE C e en = .ok r en1) (hk : evA C [k] (en1.frz r) = .ok [tupK q] en2) (h2 : en2.sl[i]? = some (.ow (dicK ps f))) (hl : ps.length < 16777216) :
    evS C (.put i k e) en = .nx ⟨en2.sl.set i (.ow (dicK (addK ps q) (updK f q r.d))), en2.ob⟩ := by
  rw [s_put, if_pos hc, he]
  show putK2 i r (evA C [k] (en1.frz r)) = _
  rw [hk]
  show enK (en2.chg i fun d => putD d (tupK q) r.d) = _
  unfold En.chg
  rw [h2]
  show enK ((putD (dicK ps f) (tupK q) r.d).map _) = _
  rw [putD_dicK hl]
  rfl
theorem isC_dic {kvs : List (D × D)} (h : en.sl[i]? = some (.ow (.dic kvs))) : en.isC i = true := by
  unfold En.isC
  rw [h]
end
end Tk

set_option maxRecDepth 100000
set_option maxHeartbeats 2000000
namespace Tk
open PySem PySem.Spec PyProof.Rows L2
/-! ### the defs that law() reaches, in the small language -/
def stm (i : Nat) : Stmt := PySem.Challenge.pw_timekeys_k44_differences_of_recordings.main.body.getD i (.Pass ⟨0, 0, 0, 0⟩)
def fs : List Str := (["_law_anew", "_law_cells", "_law_array", "_law_long", "_law_open", "_law_spread", "_law_take", "_law_one", "_law_span", "_law_row", "_law_table", "find_cells", "find_field", "find_pairs", "find_values", "is_integer", "is_between", "require_recording", "is_key", "is_row_value"] : List Str) ++ (["is_span", "is_row", "is_table", "require_table", "turned", "law"] : List Str)
def sh : List Str := ["_law_pen"]
def f__law_anew : Fn := ⟨1, 1, [
  .put 0 (.c (.int 2)) (.c (.int 0)),
  .ret (.v 0)]⟩
def d__law_anew : He.DefD := ⟨("_law_anew", none), "_law_anew", "_law_anew", C8.fnArgs (stm 28), C8.fnBody (stm 28), C8.fnScope (stm 28), [], []⟩
def e__law_anew : Ent := ⟨d__law_anew, ["_law_pen"], ["_law_pen"], f__law_anew⟩
theorem k__law_anew : EntOk fs sh e__law_anew := ⟨rfl, rfl, rfl, by decide +kernel, fun _ _ _ _ _ _ us hl => match us, hl with | [_], _ => rfl, rfl, rfl, 100, by kernel_rfl⟩
def f__law_cells : Fn := ⟨1, 4, [
  .set 1 (.disp false [] []),
  .for_ (.n 2) .range2 [(.op .ix [(.v 0), (.c (.int 2))]), (.op .ix [(.v 0), (.c (.int 3))])] [
    .mut 1 .extend (.comp [3] (.n 3) .range2 [(.op .ix [(.v 0), (.c (.int 4))]), (.op .ix [(.v 0), (.c (.int 5))])] none (.disp true [false, false] [(.v 2), (.v 3)]))],
  .ret (.v 1)]⟩
def d__law_cells : He.DefD := ⟨("_law_cells", none), "_law_cells", "_law_cells", C8.fnArgs (stm 33), C8.fnBody (stm 33), C8.fnScope (stm 33), [], []⟩
def e__law_cells : Ent := ⟨d__law_cells, ["_law_row_here", "_law_found", "_law_day", "_law_k"], ["_law_row_here"], f__law_cells⟩
theorem k__law_cells : EntOk fs sh e__law_cells := ⟨rfl, rfl, rfl, by decide +kernel, fun _ _ _ _ _ _ us hl => match us, hl with | [_], _ => rfl, rfl, rfl, 100, by kernel_rfl⟩
def f__law_array : Fn := ⟨1, 5, [
  .set 1 (.op .dnew []),
  .for_ (.n 2) .it [(.v 0)] [
    .for_ (.n 3) .it [(.call "_law_cells" [(.v 2)])] [
      .set 4 (.dget (.v 1) (.op .add [(.disp true [false] [(.op .ix [(.v 2), (.c (.int 0))])]), (.v 3)]) (.disp false [] [])),
      .put 1 (.op .add [(.disp true [false] [(.op .ix [(.v 2), (.c (.int 0))])]), (.v 3)]) (.op .set [(.op .add [(.v 4), (.disp false [false] [(.op .ix [(.v 2), (.c (.int 1))])])])])]],
  .ret (.v 1)]⟩
def d__law_array : He.DefD := ⟨("_law_array", none), "_law_array", "_law_array", C8.fnArgs (stm 34), C8.fnBody (stm 34), C8.fnScope (stm 34), [], []⟩
def e__law_array : Ent := ⟨d__law_array, ["_law_table_here", "_law_found", "_law_row_here", "_law_cell", "_law_here"], ["_law_table_here"], f__law_array⟩
theorem k__law_array : EntOk fs sh e__law_array := ⟨rfl, rfl, rfl, by decide +kernel, fun _ _ _ _ _ _ us hl => match us, hl with | [_], _ => rfl, rfl, rfl, 100, by kernel_rfl⟩
def f__law_long : Fn := ⟨0, 4, [
  .set 0 (.disp true [] []),
  .for_ (.n 1) .range [(.c (.int 64))] [
    .par 2 3 (.op .mod [(.op .int [(.v 1)]), (.c (.int 8))]) (.op .int [(.op .fdiv [(.v 1), (.c (.int 8))])]),
    .set 0 (.op .add [(.v 0), (.disp true [false] [(.disp true [false, false, false, false, false, false] [(.op .mod [(.op .int [(.v 1)]), (.c (.int 4))]), (.v 1), (.v 2), (.op .add [(.v 2), (.c (.int 1))]), (.v 3), (.c (.int 8))])])])],
  .ret (.v 0)]⟩
def d__law_long : He.DefD := ⟨("_law_long", none), "_law_long", "_law_long", C8.fnArgs (stm 35), C8.fnBody (stm 35), C8.fnScope (stm 35), [], []⟩
def e__law_long : Ent := ⟨d__law_long, ["_law_found", "_law_k", "_law_day", "_law_seen"], [], f__law_long⟩
theorem k__law_long : EntOk fs sh e__law_long := ⟨rfl, rfl, rfl, by decide +kernel, fun _ _ _ _ _ _ us hl => match us, hl with | [], _ => rfl, rfl, rfl, 100, by kernel_rfl⟩
def f__law_open : Fn := ⟨1, 4, [
  .set 1 (.op .list [(.op (.slc false true) [(.v 0), (.c (.int 12))])]),
  .for_ (.t [2, 3]) .enum [(.op (.slc true true) [(.v 0), (.c (.int 12)), (.c (.int 63))])] [
    .put 1 (.op .mod [(.op .int [(.v 2)]), (.c (.int 12))]) (.op .add [(.op .ix [(.v 1), (.op .mod [(.op .int [(.v 2)]), (.c (.int 12))])]), (.v 3)])],
  .ret (.disp false [false, false, false] [(.v 1), (.c (.int 0)), (.c (.int 0))])]⟩
def d__law_open : He.DefD := ⟨("_law_open", none), "_law_open", "_law_open", C8.fnArgs (stm 26), C8.fnBody (stm 26), C8.fnScope (stm 26), [], []⟩
def e__law_open : Ent := ⟨d__law_open, ["_law_script", "_law_cells_here", "_law_k", "_law_cell"], ["_law_script"], f__law_open⟩
theorem k__law_open : EntOk fs sh e__law_open := ⟨rfl, rfl, rfl, by decide +kernel, fun _ _ _ _ _ _ us hl => match us, hl with | [_], _ => rfl, rfl, rfl, 100, by kernel_rfl⟩
def f__law_spread : Fn := ⟨2, 8, [
  .ite (.op .ge [(.v 0), (.op .pow [(.c (.int 10)), (.c (.int 18))])]) [
    .ret (.v 0)] [],
  .set 2 (.disp false [false, false, false, false, false, false, false] [(.c (.int 2147483629)), (.c (.int 2147483587)), (.c (.int 2147483579)), (.c (.int 2147483563)), (.c (.int 2147483549)), (.c (.int 2147483543)), (.c (.int 2147483497))]),
  .set 2 (.op .add [(.v 2), (.disp false [false, false, false, false, false, false] [(.c (.int 2147483489)), (.c (.int 2147483477)), (.c (.int 2147483423)), (.c (.int 2147483399)), (.c (.int 2147483353)), (.c (.int 2147483323))])]),
  .set 3 (.op .add [(.op .add [(.op .mul [(.op .mod [(.op .int [(.v 0)]), (.c (.int 1000000007))]), (.op .add [(.op .mul [(.c (.int 2)), (.v 1)]), (.c (.int 69069))])]), (.op .mul [(.v 1), (.c (.int 40503))])]), (.c (.int 977))]),
  .set 4 (.op .mod [(.op .int [(.op .pow [(.v 3), (.c (.int 3))])]), (.op .ix [(.v 2), (.op .mod [(.op .int [(.v 1)]), (.c (.int 13))])])]),
  .set 5 (.op .add [(.op .mod [(.op .int [(.v 0)]), (.c (.int 65537))]), (.c (.int 5))]),
  .set 6 (.op .mod [(.op .int [(.op .pow [(.op .add [(.op .mul [(.v 4), (.op .add [(.v 1), (.c (.int 3))])]), (.v 5)]), (.c (.int 5))])]), (.op .ix [(.v 2), (.op .mod [(.op .int [(.op .add [(.v 1), (.c (.int 5))])]), (.c (.int 13))])])]),
  .set 7 (.op .mod [(.op .int [(.op .pow [(.op .add [(.op .add [(.v 6), (.op .mod [(.op .int [(.v 4)]), (.c (.int 1009))])]), (.v 1)]), (.c (.int 3))])]), (.op .ix [(.v 2), (.op .mod [(.op .int [(.op .add [(.v 1), (.c (.int 7))])]), (.c (.int 13))])])]),
  .ret (.op .add [(.op .mul [(.op .add [(.op .mul [(.v 4), (.c (.int 2147483647))]), (.v 6)]), (.c (.int 2147483647))]), (.v 7)])]⟩
def d__law_spread : He.DefD := ⟨("_law_spread", none), "_law_spread", "_law_spread", C8.fnArgs (stm 25), C8.fnBody (stm 25), C8.fnScope (stm 25), [], []⟩
def e__law_spread : Ent := ⟨d__law_spread, ["_law_cell", "_law_at", "_law_primes", "_law_mixed", "_law_one_here", "_law_rest", "_law_two", "_law_three"], ["_law_cell", "_law_at"], f__law_spread⟩
theorem k__law_spread : EntOk fs sh e__law_spread := ⟨rfl, rfl, rfl, by decide +kernel, fun _ _ _ _ _ _ us hl => match us, hl with | [_, _], _ => rfl, rfl, rfl, 100, by kernel_rfl⟩
def f__law_take : Fn := ⟨2, 5, [
  .ite (.op .lt [(.op .ix [(.v 0), (.c (.int 2))]), (.v 1)]) [
    .set 2 (.op .ix [(.v 0), (.c (.int 1))]),
    .set 3 (.c (.int 0)),
    .ite (.op .lt [(.v 2), (.op .len [(.op .ix [(.v 0), (.c (.int 0))])])]) [
      .set 3 (.op .ix [(.op .ix [(.v 0), (.c (.int 0))]), (.v 2)])] [
      .ite (.op .gt [(.op .len [(.op .ix [(.v 0), (.c (.int 0))])]), (.c (.int 0))]) [
        .set 3 (.op .mod [(.op .int [(.op .ix [(.op .ix [(.v 0), (.c (.int 0))]), (.op .mod [(.op .int [(.op .add [(.op .mul [(.v 2), (.c (.int 5))]), (.c (.int 3))])]), (.op .len [(.op .ix [(.v 0), (.c (.int 0))])])])])]), (.op .add [(.op .pow [(.c (.int 10)), (.c (.int 17))]), (.v 2)])])] []],
    .put 0 (.c (.int 1)) (.op .add [(.v 2), (.c (.int 1))]),
    .put 0 (.c (.int 2)) (.call "_law_spread" [(.v 3), (.v 2)])] [],
  .set 4 (.op .mod [(.op .int [(.op .ix [(.v 0), (.c (.int 2))])]), (.v 1)]),
  .put 0 (.c (.int 2)) (.op .fdiv [(.op .ix [(.v 0), (.c (.int 2))]), (.v 1)]),
  .ret (.v 4)]⟩
def d__law_take : He.DefD := ⟨("_law_take", none), "_law_take", "_law_take", C8.fnArgs (stm 27), C8.fnBody (stm 27), C8.fnScope (stm 27), [], []⟩
def e__law_take : Ent := ⟨d__law_take, ["_law_pen", "_law_many", "_law_at", "_law_cell", "_law_found"], ["_law_pen", "_law_many"], f__law_take⟩
theorem k__law_take : EntOk fs sh e__law_take := ⟨rfl, rfl, rfl, by decide +kernel, fun _ _ _ _ _ _ us hl => match us, hl with | [_, _], _ => rfl, rfl, rfl, 100, by kernel_rfl⟩
def f__law_one : Fn := ⟨2, 2, [
  .ret (.op .ix [(.v 1), (.call "_law_take" [(.v 0), (.op .len [(.v 1)])])])]⟩
def d__law_one : He.DefD := ⟨("_law_one", none), "_law_one", "_law_one", C8.fnArgs (stm 29), C8.fnBody (stm 29), C8.fnScope (stm 29), [], []⟩
def e__law_one : Ent := ⟨d__law_one, ["_law_pen", "_law_some"], ["_law_pen", "_law_some"], f__law_one⟩
theorem k__law_one : EntOk fs sh e__law_one := ⟨rfl, rfl, rfl, by decide +kernel, fun _ _ _ _ _ _ us hl => match us, hl with | [_, _], _ => rfl, rfl, rfl, 100, by kernel_rfl⟩
def f__law_span : Fn := ⟨1, 2, [
  .set 1 (.call "_law_take" [(.v 0), (.c (.int 8))]),
  .ret (.disp true [false, false] [(.v 1), (.op .add [(.op .add [(.v 1), (.c (.int 1))]), (.call "_law_take" [(.v 0), (.op .sub [(.c (.int 8)), (.v 1)])])])])]⟩
def d__law_span : He.DefD := ⟨("_law_span", none), "_law_span", "_law_span", C8.fnArgs (stm 30), C8.fnBody (stm 30), C8.fnScope (stm 30), [], []⟩
def e__law_span : Ent := ⟨d__law_span, ["_law_pen", "_law_start"], ["_law_pen"], f__law_span⟩
theorem k__law_span : EntOk fs sh e__law_span := ⟨rfl, rfl, rfl, by decide +kernel, fun _ _ _ _ _ _ us hl => match us, hl with | [_], _ => rfl, rfl, rfl, 100, by kernel_rfl⟩
def f__law_row : Fn := ⟨1, 2, [
  .set 1 (.call "_law_one" [(.v 0), (.disp false [false, false, false, false, false, false] [(.c (.int 0)), (.c (.int 0)), (.c (.int 1)), (.c (.int 9)), (.c (.int 10)), (.op .sub [(.op .pow [(.c (.int 10)), (.c (.int 30))]), (.c (.int 1))])])]),
  .ret (.op .add [(.op .add [(.disp true [false, false] [(.call "_law_one" [(.v 0), (.disp false [false, false, false, false, false] [(.c (.int 0)), (.c (.int 0)), (.c (.int 1)), (.c (.int 2)), (.c (.int 3))])]), (.v 1)]), (.call "_law_span" [(.v 0)])]), (.call "_law_span" [(.v 0)])])]⟩
def d__law_row : He.DefD := ⟨("_law_row", none), "_law_row", "_law_row", C8.fnArgs (stm 31), C8.fnBody (stm 31), C8.fnScope (stm 31), [], []⟩
def e__law_row : Ent := ⟨d__law_row, ["_law_pen", "_law_value"], ["_law_pen"], f__law_row⟩
theorem k__law_row : EntOk fs sh e__law_row := ⟨rfl, rfl, rfl, by decide +kernel, fun _ _ _ _ _ _ us hl => match us, hl with | [_], _ => rfl, rfl, rfl, 100, by kernel_rfl⟩
def f__law_table : Fn := ⟨2, 6, [
  .set 2 (.disp true [] []),
  .for_ (.n 3) .range [(.call "_law_take" [(.v 0), (.op .add [(.v 1), (.c (.int 1))])])] [
    .set 4 (.call "_law_row" [(.v 0)]),
    .ite (.and (.op .gt [(.v 3), (.c (.int 0))]) (.op .eq [(.call "_law_take" [(.v 0), (.c (.int 3))]), (.c (.int 0))])) [
      .set 5 (.call "_law_one" [(.v 0), (.v 2)]),
      .set 4 (.op .add [(.op .add [(.op (.slc false true) [(.v 5), (.c (.int 2))]), (.op (.slc true true) [(.v 4), (.c (.int 2)), (.c (.int 4))])]), (.op (.slc true false) [(.v 5), (.c (.int 4))])])] [],
    .set 2 (.op .add [(.v 2), (.disp true [false] [(.v 4)])])],
  .ret (.v 2)]⟩
def d__law_table : He.DefD := ⟨("_law_table", none), "_law_table", "_law_table", C8.fnArgs (stm 32), C8.fnBody (stm 32), C8.fnScope (stm 32), [], []⟩
def e__law_table : Ent := ⟨d__law_table, ["_law_pen", "_law_most", "_law_found", "_law_k", "_law_row_here", "_law_other"], ["_law_pen", "_law_most"], f__law_table⟩
theorem k__law_table : EntOk fs sh e__law_table := ⟨rfl, rfl, rfl, by decide +kernel, fun _ _ _ _ _ _ us hl => match us, hl with | [_, _], _ => rfl, rfl, rfl, 100, by kernel_rfl⟩
def f_find_cells : Fn := ⟨1, 7, [
  .tset [1, 2, 3, 4] (.v 0),
  .ret (.comp2 [5, 6] [6] (.n 5) .range2 [(.v 1), (.v 2)] none (.n 6) .range2 [(.v 3), (.v 4)] none (.disp true [false, false] [(.v 5), (.v 6)]))]⟩
def d_find_cells : He.DefD := ⟨("find_cells", none), "find_cells", "find_cells", C8.fnArgs (stm 15), C8.fnBody (stm 15), C8.fnScope (stm 15), [], []⟩
def e_find_cells : Ent := ⟨d_find_cells, ["rectangle", "start", "end", "seen", "unseen", "day", "recording"], ["rectangle"], f_find_cells⟩
theorem k_find_cells : EntOk fs sh e_find_cells := ⟨rfl, rfl, rfl, by decide +kernel, fun _ _ _ _ _ _ us hl => match us, hl with | [_], _ => rfl, rfl, rfl, 100, by kernel_rfl⟩
def f_find_field : Fn := ⟨2, 4, [
  .set 2 (.disp false [] []),
  .for_ (.n 3) .it [(.v 0)] [
    .ite (.op .eq [(.op (.slc false true) [(.v 3), (.c (.int 2))]), (.v 1)]) [
      .mut 2 .extend (.call "find_cells" [(.op (.slc true false) [(.v 3), (.c (.int 2))])])] []],
  .ret (.op .tuple [(.op .set [(.v 2)])])]⟩
def d_find_field : He.DefD := ⟨("find_field", none), "find_field", "find_field", C8.fnArgs (stm 20), C8.fnBody (stm 20), C8.fnScope (stm 20), [], []⟩
def e_find_field : Ent := ⟨d_find_field, ["table", "pair", "found", "row"], ["table", "pair"], f_find_field⟩
theorem k_find_field : EntOk fs sh e_find_field := ⟨rfl, rfl, rfl, by decide +kernel, fun _ _ _ _ _ _ us hl => match us, hl with | [_, _], _ => rfl, rfl, rfl, 100, by kernel_rfl⟩
def f_find_pairs : Fn := ⟨1, 2, [
  .ret (.op .set [(.comp [1] (.n 1) .it [(.v 0)] none (.op (.slc false true) [(.v 1), (.c (.int 2))]))])]⟩
def d_find_pairs : He.DefD := ⟨("find_pairs", none), "find_pairs", "find_pairs", C8.fnArgs (stm 19), C8.fnBody (stm 19), C8.fnScope (stm 19), [], []⟩
def e_find_pairs : Ent := ⟨d_find_pairs, ["table", "row"], ["table"], f_find_pairs⟩
theorem k_find_pairs : EntOk fs sh e_find_pairs := ⟨rfl, rfl, rfl, by decide +kernel, fun _ _ _ _ _ _ us hl => match us, hl with | [_], _ => rfl, rfl, rfl, 100, by kernel_rfl⟩
def f_find_values : Fn := ⟨3, 4, [
  .ret (.op .tuple [(.comp [3] (.n 3) .it [(.call "find_pairs" [(.v 0)])] (some (.and (.op .eq [(.op .ix [(.v 3), (.c (.int 0))]), (.v 1)]) (.op .isin [(.v 2), (.call "find_field" [(.v 0), (.v 3)])]))) (.op .ix [(.v 3), (.c (.int 1))]))])]⟩
def d_find_values : He.DefD := ⟨("find_values", none), "find_values", "find_values", C8.fnArgs (stm 22), C8.fnBody (stm 22), C8.fnScope (stm 22), [], []⟩
def e_find_values : Ent := ⟨d_find_values, ["table", "key", "cell", "pair"], ["table", "key", "cell"], f_find_values⟩
theorem k_find_values : EntOk fs sh e_find_values := ⟨rfl, rfl, rfl, by decide +kernel, fun _ _ _ _ _ _ us hl => match us, hl with | [_, _, _], _ => rfl, rfl, rfl, 100, by kernel_rfl⟩
def f_is_integer : Fn := ⟨1, 1, [
  .ret (.and (.op (.isi [.int]) [(.v 0)]) (.not (.op (.isi [.bool]) [(.v 0)])))]⟩
def d_is_integer : He.DefD := ⟨("is_integer", none), "is_integer", "is_integer", C8.fnArgs (stm 5), C8.fnBody (stm 5), C8.fnScope (stm 5), [], []⟩
def e_is_integer : Ent := ⟨d_is_integer, ["value"], ["value"], f_is_integer⟩
theorem k_is_integer : EntOk fs sh e_is_integer := ⟨rfl, rfl, rfl, by decide +kernel, fun _ _ _ _ _ _ us hl => match us, hl with | [_], _ => rfl, rfl, rfl, 100, by kernel_rfl⟩
def f_is_between : Fn := ⟨3, 3, [
  .ret (.and (.call "is_integer" [(.v 0)]) (.ch .le .le (.v 1) (.v 0) (.v 2)))]⟩
def d_is_between : He.DefD := ⟨("is_between", none), "is_between", "is_between", C8.fnArgs (stm 6), C8.fnBody (stm 6), C8.fnScope (stm 6), [], []⟩
def e_is_between : Ent := ⟨d_is_between, ["value", "least", "most"], ["value", "least", "most"], f_is_between⟩
theorem k_is_between : EntOk fs sh e_is_between := ⟨rfl, rfl, rfl, by decide +kernel, fun _ _ _ _ _ _ us hl => match us, hl with | [_, _, _], _ => rfl, rfl, rfl, 100, by kernel_rfl⟩
def f_require_recording : Fn := ⟨1, 1, [
  .ite (.not (.call "is_between" [(.v 0), (.c (.int 0)), (.op .sub [(.g "TIMES"), (.c (.int 1))])])) [
    .stuck] []]⟩
def d_require_recording : He.DefD := ⟨("require_recording", none), "require_recording", "require_recording", C8.fnArgs (stm 17), C8.fnBody (stm 17), C8.fnScope (stm 17), [], []⟩
def e_require_recording : Ent := ⟨d_require_recording, ["value"], ["value"], f_require_recording⟩
theorem k_require_recording : EntOk fs sh e_require_recording := ⟨rfl, rfl, rfl, by decide +kernel, fun _ _ _ _ _ _ us hl => match us, hl with | [_], _ => rfl, rfl, rfl, 100, by kernel_rfl⟩
def f_is_key : Fn := ⟨1, 1, [
  .ret (.call "is_between" [(.v 0), (.c (.int 0)), (.op .sub [(.g "KEYS"), (.c (.int 1))])])]⟩
def d_is_key : He.DefD := ⟨("is_key", none), "is_key", "is_key", C8.fnArgs (stm 10), C8.fnBody (stm 10), C8.fnScope (stm 10), [], []⟩
def e_is_key : Ent := ⟨d_is_key, ["value"], ["value"], f_is_key⟩
theorem k_is_key : EntOk fs sh e_is_key := ⟨rfl, rfl, rfl, by decide +kernel, fun _ _ _ _ _ _ us hl => match us, hl with | [_], _ => rfl, rfl, rfl, 100, by kernel_rfl⟩
def f_is_row_value : Fn := ⟨1, 1, [
  .ret (.and (.call "is_integer" [(.v 0)]) (.op .ge [(.v 0), (.c (.int 0))]))]⟩
def d_is_row_value : He.DefD := ⟨("is_row_value", none), "is_row_value", "is_row_value", C8.fnArgs (stm 11), C8.fnBody (stm 11), C8.fnScope (stm 11), [], []⟩
def e_is_row_value : Ent := ⟨d_is_row_value, ["value"], ["value"], f_is_row_value⟩
theorem k_is_row_value : EntOk fs sh e_is_row_value := ⟨rfl, rfl, rfl, by decide +kernel, fun _ _ _ _ _ _ us hl => match us, hl with | [_], _ => rfl, rfl, rfl, 100, by kernel_rfl⟩
def f_is_span : Fn := ⟨2, 2, [
  .ret (.and (.call "is_between" [(.v 0), (.c (.int 0)), (.op .sub [(.g "TIMES"), (.c (.int 1))])]) (.and (.call "is_between" [(.v 1), (.c (.int 1)), (.g "TIMES")]) (.op .lt [(.v 0), (.v 1)])))]⟩
def d_is_span : He.DefD := ⟨("is_span", none), "is_span", "is_span", C8.fnArgs (stm 12), C8.fnBody (stm 12), C8.fnScope (stm 12), [], []⟩
def e_is_span : Ent := ⟨d_is_span, ["start", "end"], ["start", "end"], f_is_span⟩
theorem k_is_span : EntOk fs sh e_is_span := ⟨rfl, rfl, rfl, by decide +kernel, fun _ _ _ _ _ _ us hl => match us, hl with | [_, _], _ => rfl, rfl, rfl, 100, by kernel_rfl⟩
def f_is_row : Fn := ⟨1, 1, [
  .ite (.or (.not (.op (.isi [.tuple]) [(.v 0)])) (.op .ne [(.op .len [(.v 0)]), (.c (.int 6))])) [
    .ret (.c (.bl false))] [],
  .ite (.or (.not (.call "is_key" [(.op .ix [(.v 0), (.c (.int 0))])])) (.not (.call "is_row_value" [(.op .ix [(.v 0), (.c (.int 1))])]))) [
    .ret (.c (.bl false))] [],
  .ret (.and (.call "is_span" [(.op .ix [(.v 0), (.c (.int 2))]), (.op .ix [(.v 0), (.c (.int 3))])]) (.call "is_span" [(.op .ix [(.v 0), (.c (.int 4))]), (.op .ix [(.v 0), (.c (.int 5))])]))]⟩
def d_is_row : He.DefD := ⟨("is_row", none), "is_row", "is_row", C8.fnArgs (stm 13), C8.fnBody (stm 13), C8.fnScope (stm 13), [], []⟩
def e_is_row : Ent := ⟨d_is_row, ["thing"], ["thing"], f_is_row⟩
theorem k_is_row : EntOk fs sh e_is_row := ⟨rfl, rfl, rfl, by decide +kernel, fun _ _ _ _ _ _ us hl => match us, hl with | [_], _ => rfl, rfl, rfl, 100, by kernel_rfl⟩
def f_is_table : Fn := ⟨1, 2, [
  .ret (.and (.op (.isi [.tuple]) [(.v 0)]) (.op .all [(.comp [1] (.n 1) .it [(.v 0)] none (.call "is_row" [(.v 1)]))]))]⟩
def d_is_table : He.DefD := ⟨("is_table", none), "is_table", "is_table", C8.fnArgs (stm 14), C8.fnBody (stm 14), C8.fnScope (stm 14), [], []⟩
def e_is_table : Ent := ⟨d_is_table, ["thing", "row"], ["thing"], f_is_table⟩
theorem k_is_table : EntOk fs sh e_is_table := ⟨rfl, rfl, rfl, by decide +kernel, fun _ _ _ _ _ _ us hl => match us, hl with | [_], _ => rfl, rfl, rfl, 100, by kernel_rfl⟩
def f_require_table : Fn := ⟨1, 1, [
  .ite (.not (.call "is_table" [(.v 0)])) [
    .stuck] []]⟩
def d_require_table : He.DefD := ⟨("require_table", none), "require_table", "require_table", C8.fnArgs (stm 16), C8.fnBody (stm 16), C8.fnScope (stm 16), [], []⟩
def e_require_table : Ent := ⟨d_require_table, ["value"], ["value"], f_require_table⟩
theorem k_require_table : EntOk fs sh e_require_table := ⟨rfl, rfl, rfl, by decide +kernel, fun _ _ _ _ _ _ us hl => match us, hl with | [_], _ => rfl, rfl, rfl, 100, by kernel_rfl⟩
def f_turned : Fn := ⟨3, 8, [
  .expr (.call "require_table" [(.v 0)]),
  .expr (.call "require_recording" [(.v 1)]),
  .expr (.call "require_recording" [(.v 2)]),
  .set 3 (.disp false [] []),
  .for_ (.n 4) .range [(.g "KEYS")] [
    .for_ (.n 5) .range [(.g "TIMES")] [
      .par 6 7 (.call "find_values" [(.v 0), (.v 4), (.disp true [false, false] [(.v 5), (.v 1)])]) (.call "find_values" [(.v 0), (.v 4), (.disp true [false, false] [(.v 5), (.v 2)])]),
      .ite (.op .ne [(.v 6), (.v 7)]) [
        .mut 3 .append (.disp true [false, false, false, false] [(.v 4), (.v 5), (.v 6), (.v 7)])] []]],
  .ret (.v 3)]⟩
def d_turned : He.DefD := ⟨("turned", none), "turned", "turned", C8.fnArgs (stm 23), C8.fnBody (stm 23), C8.fnScope (stm 23), [], []⟩
def e_turned : Ent := ⟨d_turned, ["table", "recording", "later", "found", "key", "day", "before", "after"], ["table", "recording", "later"], f_turned⟩
theorem k_turned : EntOk fs sh e_turned := ⟨rfl, rfl, rfl, by decide +kernel, fun _ _ _ _ _ _ us hl => match us, hl with | [_, _, _], _ => rfl, rfl, rfl, 100, by kernel_rfl⟩
def f_law : Fn := ⟨1, 14, [
  .setO 1 (.call "_law_open" [(.v 0)]),
  .for_ (.n 2) .range [(.c (.int 8))] [
    .set 3 (.ite (.op .gt [(.v 2), (.c (.int 0))]) (.call "_law_table" [(.call "_law_anew" [(.v 1)]), (.c (.int 7))]) (.call "_law_long" [])),
    .set 4 (.call "_law_array" [(.v 3)]),
    .for_ (.n 5) .range [(.c (.int 4))] [
      .par 6 7 (.call "_law_take" [(.v 1), (.c (.int 8))]) (.call "_law_take" [(.v 1), (.c (.int 8))]),
      .set 8 (.disp false [] []),
      .for_ (.n 9) .range [(.c (.int 4))] [
        .for_ (.n 10) .range [(.c (.int 8))] [
          .set 11 (.op .tuple [(.dget (.v 4) (.disp true [false, false, false] [(.v 9), (.v 10), (.v 6)]) (.disp false [] []))]),
          .set 12 (.op .tuple [(.dget (.v 4) (.disp true [false, false, false] [(.v 9), (.v 10), (.v 7)]) (.disp false [] []))]),
          .ite (.op .ne [(.v 11), (.v 12)]) [
            .mut 8 .append (.disp true [false, false, false, false] [(.v 9), (.v 10), (.v 11), (.v 12)])] []]],
      .set 13 (.call "turned" [(.v 3), (.v 6), (.v 7)]),
      .ite (.op .ne [(.op .repr [(.v 13)]), (.op .repr [(.v 8)])]) [
        .ret (.c (.bl false))] [],
      .mut 13 .append (.c (.int 7)),
      .ite (.and (.op .eq [(.v 5), (.c (.int 0))]) (.op .ne [(.op .repr [(.call "turned" [(.v 3), (.v 6), (.v 7)])]), (.op .repr [(.v 8)])])) [
        .ret (.c (.bl false))] []]],
  .ret (.op .eq [(.call "turned" [(.disp true [] []), (.c (.int 0)), (.c (.int 7))]), (.disp false [] [])])]⟩
def d_law : He.DefD := ⟨("law", none), "law", "law", C8.fnArgs (stm 36), C8.fnBody (stm 36), C8.fnScope (stm 36), [], []⟩
def e_law : Ent := ⟨d_law, ["_law_script", "_law_pen", "_law_turn", "_law_table_here", "_law_array_here", "_law_step", "_law_one_here", "_law_other", "_law_due", "_law_key", "_law_day", "_law_before", "_law_after", "_law_told"], ["_law_script"], f_law⟩
theorem k_law : EntOk fs sh e_law := ⟨rfl, rfl, rfl, by decide +kernel, fun _ _ _ _ _ _ us hl => match us, hl with | [_], _ => rfl, rfl, rfl, 100, by kernel_rfl⟩
def tbl (x : Str) : Option Fn :=
  if x == "_law_anew" then some f__law_anew else
  if x == "_law_cells" then some f__law_cells else
  if x == "_law_array" then some f__law_array else
  if x == "_law_long" then some f__law_long else
  if x == "_law_open" then some f__law_open else
  if x == "_law_spread" then some f__law_spread else
  if x == "_law_take" then some f__law_take else
  if x == "_law_one" then some f__law_one else
  if x == "_law_span" then some f__law_span else
  if x == "_law_row" then some f__law_row else
  if x == "_law_table" then some f__law_table else
  if x == "find_cells" then some f_find_cells else
  if x == "find_field" then some f_find_field else
  if x == "find_pairs" then some f_find_pairs else
  if x == "find_values" then some f_find_values else
  if x == "is_integer" then some f_is_integer else
  if x == "is_between" then some f_is_between else
  if x == "require_recording" then some f_require_recording else
  if x == "is_key" then some f_is_key else
  if x == "is_row_value" then some f_is_row_value else
  if x == "is_span" then some f_is_span else
  if x == "is_row" then some f_is_row else
  if x == "is_table" then some f_is_table else
  if x == "require_table" then some f_require_table else
  if x == "turned" then some f_turned else
  if x == "law" then some f_law else none
theorem t__law_anew : tbl "_law_anew" = some f__law_anew := by kernel_rfl
theorem t__law_cells : tbl "_law_cells" = some f__law_cells := by kernel_rfl
theorem t__law_array : tbl "_law_array" = some f__law_array := by kernel_rfl
theorem t__law_long : tbl "_law_long" = some f__law_long := by kernel_rfl
theorem t__law_open : tbl "_law_open" = some f__law_open := by kernel_rfl
theorem t__law_spread : tbl "_law_spread" = some f__law_spread := by kernel_rfl
theorem t__law_take : tbl "_law_take" = some f__law_take := by kernel_rfl
theorem t__law_one : tbl "_law_one" = some f__law_one := by kernel_rfl
theorem t__law_span : tbl "_law_span" = some f__law_span := by kernel_rfl
theorem t__law_row : tbl "_law_row" = some f__law_row := by kernel_rfl
theorem t__law_table : tbl "_law_table" = some f__law_table := by kernel_rfl
theorem t_find_cells : tbl "find_cells" = some f_find_cells := by kernel_rfl
theorem t_find_field : tbl "find_field" = some f_find_field := by kernel_rfl
theorem t_find_pairs : tbl "find_pairs" = some f_find_pairs := by kernel_rfl
theorem t_find_values : tbl "find_values" = some f_find_values := by kernel_rfl
theorem t_is_integer : tbl "is_integer" = some f_is_integer := by kernel_rfl
theorem t_is_between : tbl "is_between" = some f_is_between := by kernel_rfl
theorem t_require_recording : tbl "require_recording" = some f_require_recording := by kernel_rfl
theorem t_is_key : tbl "is_key" = some f_is_key := by kernel_rfl
theorem t_is_row_value : tbl "is_row_value" = some f_is_row_value := by kernel_rfl
theorem t_is_span : tbl "is_span" = some f_is_span := by kernel_rfl
theorem t_is_row : tbl "is_row" = some f_is_row := by kernel_rfl
theorem t_is_table : tbl "is_table" = some f_is_table := by kernel_rfl
theorem t_require_table : tbl "require_table" = some f_require_table := by kernel_rfl
theorem t_turned : tbl "turned" = some f_turned := by kernel_rfl
theorem t_law : tbl "law" = some f_law := by kernel_rfl
theorem u__law_anew {n : Nat} {a0 : D} {ob : List Ob} : evF tbl gl (n + 1) "_law_anew" [a0] ob = (evSs ⟨evF tbl gl n, gl⟩ [
  .put 0 (.c (.int 2)) (.c (.int 0)),
  .ret (.v 0)] ⟨[.fz a0], ob⟩).rc := by
  simp only [evF, t__law_anew]
  rfl
def L__law_cells_0 : List IS := [
    .mut 1 .extend (.comp [3] (.n 3) .range2 [(.op .ix [(.v 0), (.c (.int 4))]), (.op .ix [(.v 0), (.c (.int 5))])] none (.disp true [false, false] [(.v 2), (.v 3)]))]
theorem u__law_cells {n : Nat} {a0 : D} {ob : List Ob} : evF tbl gl (n + 1) "_law_cells" [a0] ob = (evSs ⟨evF tbl gl n, gl⟩ [
  .set 1 (.disp false [] []),
  .for_ (.n 2) .range2 [(.op .ix [(.v 0), (.c (.int 2))]), (.op .ix [(.v 0), (.c (.int 3))])] L__law_cells_0,
  .ret (.v 1)] ⟨[.fz a0, .un, .un, .un], ob⟩).rc := by
  simp only [evF, t__law_cells]
  rfl
def L__law_array_0 : List IS := [
      .set 4 (.dget (.v 1) (.op .add [(.disp true [false] [(.op .ix [(.v 2), (.c (.int 0))])]), (.v 3)]) (.disp false [] [])),
      .put 1 (.op .add [(.disp true [false] [(.op .ix [(.v 2), (.c (.int 0))])]), (.v 3)]) (.op .set [(.op .add [(.v 4), (.disp false [false] [(.op .ix [(.v 2), (.c (.int 1))])])])])]
def L__law_array_1 : List IS := [
    .for_ (.n 3) .it [(.call "_law_cells" [(.v 2)])] L__law_array_0]
theorem u__law_array {n : Nat} {a0 : D} {ob : List Ob} : evF tbl gl (n + 1) "_law_array" [a0] ob = (evSs ⟨evF tbl gl n, gl⟩ [
  .set 1 (.op .dnew []),
  .for_ (.n 2) .it [(.v 0)] L__law_array_1,
  .ret (.v 1)] ⟨[.fz a0, .un, .un, .un, .un], ob⟩).rc := by
  simp only [evF, t__law_array]
  rfl
def L__law_long_0 : List IS := [
    .par 2 3 (.op .mod [(.op .int [(.v 1)]), (.c (.int 8))]) (.op .int [(.op .fdiv [(.v 1), (.c (.int 8))])]),
    .set 0 (.op .add [(.v 0), (.disp true [false] [(.disp true [false, false, false, false, false, false] [(.op .mod [(.op .int [(.v 1)]), (.c (.int 4))]), (.v 1), (.v 2), (.op .add [(.v 2), (.c (.int 1))]), (.v 3), (.c (.int 8))])])])]
theorem u__law_long {n : Nat} {ob : List Ob} : evF tbl gl (n + 1) "_law_long" [] ob = (evSs ⟨evF tbl gl n, gl⟩ [
  .set 0 (.disp true [] []),
  .for_ (.n 1) .range [(.c (.int 64))] L__law_long_0,
  .ret (.v 0)] ⟨[.un, .un, .un, .un], ob⟩).rc := by
  simp only [evF, t__law_long]
  rfl
def L__law_open_0 : List IS := [
    .put 1 (.op .mod [(.op .int [(.v 2)]), (.c (.int 12))]) (.op .add [(.op .ix [(.v 1), (.op .mod [(.op .int [(.v 2)]), (.c (.int 12))])]), (.v 3)])]
theorem u__law_open {n : Nat} {a0 : D} {ob : List Ob} : evF tbl gl (n + 1) "_law_open" [a0] ob = (evSs ⟨evF tbl gl n, gl⟩ [
  .set 1 (.op .list [(.op (.slc false true) [(.v 0), (.c (.int 12))])]),
  .for_ (.t [2, 3]) .enum [(.op (.slc true true) [(.v 0), (.c (.int 12)), (.c (.int 63))])] L__law_open_0,
  .ret (.disp false [false, false, false] [(.v 1), (.c (.int 0)), (.c (.int 0))])] ⟨[.fz a0, .un, .un, .un], ob⟩).rc := by
  simp only [evF, t__law_open]
  rfl
theorem u__law_spread {n : Nat} {a0 a1 : D} {ob : List Ob} : evF tbl gl (n + 1) "_law_spread" [a0, a1] ob = (evSs ⟨evF tbl gl n, gl⟩ [
  .ite (.op .ge [(.v 0), (.op .pow [(.c (.int 10)), (.c (.int 18))])]) [
    .ret (.v 0)] [],
  .set 2 (.disp false [false, false, false, false, false, false, false] [(.c (.int 2147483629)), (.c (.int 2147483587)), (.c (.int 2147483579)), (.c (.int 2147483563)), (.c (.int 2147483549)), (.c (.int 2147483543)), (.c (.int 2147483497))]),
  .set 2 (.op .add [(.v 2), (.disp false [false, false, false, false, false, false] [(.c (.int 2147483489)), (.c (.int 2147483477)), (.c (.int 2147483423)), (.c (.int 2147483399)), (.c (.int 2147483353)), (.c (.int 2147483323))])]),
  .set 3 (.op .add [(.op .add [(.op .mul [(.op .mod [(.op .int [(.v 0)]), (.c (.int 1000000007))]), (.op .add [(.op .mul [(.c (.int 2)), (.v 1)]), (.c (.int 69069))])]), (.op .mul [(.v 1), (.c (.int 40503))])]), (.c (.int 977))]),
  .set 4 (.op .mod [(.op .int [(.op .pow [(.v 3), (.c (.int 3))])]), (.op .ix [(.v 2), (.op .mod [(.op .int [(.v 1)]), (.c (.int 13))])])]),
  .set 5 (.op .add [(.op .mod [(.op .int [(.v 0)]), (.c (.int 65537))]), (.c (.int 5))]),
  .set 6 (.op .mod [(.op .int [(.op .pow [(.op .add [(.op .mul [(.v 4), (.op .add [(.v 1), (.c (.int 3))])]), (.v 5)]), (.c (.int 5))])]), (.op .ix [(.v 2), (.op .mod [(.op .int [(.op .add [(.v 1), (.c (.int 5))])]), (.c (.int 13))])])]),
  .set 7 (.op .mod [(.op .int [(.op .pow [(.op .add [(.op .add [(.v 6), (.op .mod [(.op .int [(.v 4)]), (.c (.int 1009))])]), (.v 1)]), (.c (.int 3))])]), (.op .ix [(.v 2), (.op .mod [(.op .int [(.op .add [(.v 1), (.c (.int 7))])]), (.c (.int 13))])])]),
  .ret (.op .add [(.op .mul [(.op .add [(.op .mul [(.v 4), (.c (.int 2147483647))]), (.v 6)]), (.c (.int 2147483647))]), (.v 7)])] ⟨[.fz a0, .fz a1, .un, .un, .un, .un, .un, .un], ob⟩).rc := by
  simp only [evF, t__law_spread]
  rfl
theorem u__law_take {n : Nat} {a0 a1 : D} {ob : List Ob} : evF tbl gl (n + 1) "_law_take" [a0, a1] ob = (evSs ⟨evF tbl gl n, gl⟩ [
  .ite (.op .lt [(.op .ix [(.v 0), (.c (.int 2))]), (.v 1)]) [
    .set 2 (.op .ix [(.v 0), (.c (.int 1))]),
    .set 3 (.c (.int 0)),
    .ite (.op .lt [(.v 2), (.op .len [(.op .ix [(.v 0), (.c (.int 0))])])]) [
      .set 3 (.op .ix [(.op .ix [(.v 0), (.c (.int 0))]), (.v 2)])] [
      .ite (.op .gt [(.op .len [(.op .ix [(.v 0), (.c (.int 0))])]), (.c (.int 0))]) [
        .set 3 (.op .mod [(.op .int [(.op .ix [(.op .ix [(.v 0), (.c (.int 0))]), (.op .mod [(.op .int [(.op .add [(.op .mul [(.v 2), (.c (.int 5))]), (.c (.int 3))])]), (.op .len [(.op .ix [(.v 0), (.c (.int 0))])])])])]), (.op .add [(.op .pow [(.c (.int 10)), (.c (.int 17))]), (.v 2)])])] []],
    .put 0 (.c (.int 1)) (.op .add [(.v 2), (.c (.int 1))]),
    .put 0 (.c (.int 2)) (.call "_law_spread" [(.v 3), (.v 2)])] [],
  .set 4 (.op .mod [(.op .int [(.op .ix [(.v 0), (.c (.int 2))])]), (.v 1)]),
  .put 0 (.c (.int 2)) (.op .fdiv [(.op .ix [(.v 0), (.c (.int 2))]), (.v 1)]),
  .ret (.v 4)] ⟨[.fz a0, .fz a1, .un, .un, .un], ob⟩).rc := by
  simp only [evF, t__law_take]
  rfl
theorem u__law_one {n : Nat} {a0 a1 : D} {ob : List Ob} : evF tbl gl (n + 1) "_law_one" [a0, a1] ob = (evSs ⟨evF tbl gl n, gl⟩ [
  .ret (.op .ix [(.v 1), (.call "_law_take" [(.v 0), (.op .len [(.v 1)])])])] ⟨[.fz a0, .fz a1], ob⟩).rc := by
  simp only [evF, t__law_one]
  rfl
theorem u__law_span {n : Nat} {a0 : D} {ob : List Ob} : evF tbl gl (n + 1) "_law_span" [a0] ob = (evSs ⟨evF tbl gl n, gl⟩ [
  .set 1 (.call "_law_take" [(.v 0), (.c (.int 8))]),
  .ret (.disp true [false, false] [(.v 1), (.op .add [(.op .add [(.v 1), (.c (.int 1))]), (.call "_law_take" [(.v 0), (.op .sub [(.c (.int 8)), (.v 1)])])])])] ⟨[.fz a0, .un], ob⟩).rc := by
  simp only [evF, t__law_span]
  rfl
theorem u__law_row {n : Nat} {a0 : D} {ob : List Ob} : evF tbl gl (n + 1) "_law_row" [a0] ob = (evSs ⟨evF tbl gl n, gl⟩ [
  .set 1 (.call "_law_one" [(.v 0), (.disp false [false, false, false, false, false, false] [(.c (.int 0)), (.c (.int 0)), (.c (.int 1)), (.c (.int 9)), (.c (.int 10)), (.op .sub [(.op .pow [(.c (.int 10)), (.c (.int 30))]), (.c (.int 1))])])]),
  .ret (.op .add [(.op .add [(.disp true [false, false] [(.call "_law_one" [(.v 0), (.disp false [false, false, false, false, false] [(.c (.int 0)), (.c (.int 0)), (.c (.int 1)), (.c (.int 2)), (.c (.int 3))])]), (.v 1)]), (.call "_law_span" [(.v 0)])]), (.call "_law_span" [(.v 0)])])] ⟨[.fz a0, .un], ob⟩).rc := by
  simp only [evF, t__law_row]
  rfl
def L__law_table_0 : List IS := [
    .set 4 (.call "_law_row" [(.v 0)]),
    .ite (.and (.op .gt [(.v 3), (.c (.int 0))]) (.op .eq [(.call "_law_take" [(.v 0), (.c (.int 3))]), (.c (.int 0))])) [
      .set 5 (.call "_law_one" [(.v 0), (.v 2)]),
      .set 4 (.op .add [(.op .add [(.op (.slc false true) [(.v 5), (.c (.int 2))]), (.op (.slc true true) [(.v 4), (.c (.int 2)), (.c (.int 4))])]), (.op (.slc true false) [(.v 5), (.c (.int 4))])])] [],
    .set 2 (.op .add [(.v 2), (.disp true [false] [(.v 4)])])]
theorem u__law_table {n : Nat} {a0 a1 : D} {ob : List Ob} : evF tbl gl (n + 1) "_law_table" [a0, a1] ob = (evSs ⟨evF tbl gl n, gl⟩ [
  .set 2 (.disp true [] []),
  .for_ (.n 3) .range [(.call "_law_take" [(.v 0), (.op .add [(.v 1), (.c (.int 1))])])] L__law_table_0,
  .ret (.v 2)] ⟨[.fz a0, .fz a1, .un, .un, .un, .un], ob⟩).rc := by
  simp only [evF, t__law_table]
  rfl
theorem u_find_cells {n : Nat} {a0 : D} {ob : List Ob} : evF tbl gl (n + 1) "find_cells" [a0] ob = (evSs ⟨evF tbl gl n, gl⟩ [
  .tset [1, 2, 3, 4] (.v 0),
  .ret (.comp2 [5, 6] [6] (.n 5) .range2 [(.v 1), (.v 2)] none (.n 6) .range2 [(.v 3), (.v 4)] none (.disp true [false, false] [(.v 5), (.v 6)]))] ⟨[.fz a0, .un, .un, .un, .un, .un, .un], ob⟩).rc := by
  simp only [evF, t_find_cells]
  rfl
def L_find_field_0 : List IS := [
    .ite (.op .eq [(.op (.slc false true) [(.v 3), (.c (.int 2))]), (.v 1)]) [
      .mut 2 .extend (.call "find_cells" [(.op (.slc true false) [(.v 3), (.c (.int 2))])])] []]
theorem u_find_field {n : Nat} {a0 a1 : D} {ob : List Ob} : evF tbl gl (n + 1) "find_field" [a0, a1] ob = (evSs ⟨evF tbl gl n, gl⟩ [
  .set 2 (.disp false [] []),
  .for_ (.n 3) .it [(.v 0)] L_find_field_0,
  .ret (.op .tuple [(.op .set [(.v 2)])])] ⟨[.fz a0, .fz a1, .un, .un], ob⟩).rc := by
  simp only [evF, t_find_field]
  rfl
theorem u_find_pairs {n : Nat} {a0 : D} {ob : List Ob} : evF tbl gl (n + 1) "find_pairs" [a0] ob = (evSs ⟨evF tbl gl n, gl⟩ [
  .ret (.op .set [(.comp [1] (.n 1) .it [(.v 0)] none (.op (.slc false true) [(.v 1), (.c (.int 2))]))])] ⟨[.fz a0, .un], ob⟩).rc := by
  simp only [evF, t_find_pairs]
  rfl
theorem u_find_values {n : Nat} {a0 a1 a2 : D} {ob : List Ob} : evF tbl gl (n + 1) "find_values" [a0, a1, a2] ob = (evSs ⟨evF tbl gl n, gl⟩ [
  .ret (.op .tuple [(.comp [3] (.n 3) .it [(.call "find_pairs" [(.v 0)])] (some (.and (.op .eq [(.op .ix [(.v 3), (.c (.int 0))]), (.v 1)]) (.op .isin [(.v 2), (.call "find_field" [(.v 0), (.v 3)])]))) (.op .ix [(.v 3), (.c (.int 1))]))])] ⟨[.fz a0, .fz a1, .fz a2, .un], ob⟩).rc := by
  simp only [evF, t_find_values]
  rfl
theorem u_is_integer {n : Nat} {a0 : D} {ob : List Ob} : evF tbl gl (n + 1) "is_integer" [a0] ob = (evSs ⟨evF tbl gl n, gl⟩ [
  .ret (.and (.op (.isi [.int]) [(.v 0)]) (.not (.op (.isi [.bool]) [(.v 0)])))] ⟨[.fz a0], ob⟩).rc := by
  simp only [evF, t_is_integer]
  rfl
theorem u_is_between {n : Nat} {a0 a1 a2 : D} {ob : List Ob} : evF tbl gl (n + 1) "is_between" [a0, a1, a2] ob = (evSs ⟨evF tbl gl n, gl⟩ [
  .ret (.and (.call "is_integer" [(.v 0)]) (.ch .le .le (.v 1) (.v 0) (.v 2)))] ⟨[.fz a0, .fz a1, .fz a2], ob⟩).rc := by
  simp only [evF, t_is_between]
  rfl
theorem u_require_recording {n : Nat} {a0 : D} {ob : List Ob} : evF tbl gl (n + 1) "require_recording" [a0] ob = (evSs ⟨evF tbl gl n, gl⟩ [
  .ite (.not (.call "is_between" [(.v 0), (.c (.int 0)), (.op .sub [(.g "TIMES"), (.c (.int 1))])])) [
    .stuck] []] ⟨[.fz a0], ob⟩).rc := by
  simp only [evF, t_require_recording]
  rfl
theorem u_is_key {n : Nat} {a0 : D} {ob : List Ob} : evF tbl gl (n + 1) "is_key" [a0] ob = (evSs ⟨evF tbl gl n, gl⟩ [
  .ret (.call "is_between" [(.v 0), (.c (.int 0)), (.op .sub [(.g "KEYS"), (.c (.int 1))])])] ⟨[.fz a0], ob⟩).rc := by
  simp only [evF, t_is_key]
  rfl
theorem u_is_row_value {n : Nat} {a0 : D} {ob : List Ob} : evF tbl gl (n + 1) "is_row_value" [a0] ob = (evSs ⟨evF tbl gl n, gl⟩ [
  .ret (.and (.call "is_integer" [(.v 0)]) (.op .ge [(.v 0), (.c (.int 0))]))] ⟨[.fz a0], ob⟩).rc := by
  simp only [evF, t_is_row_value]
  rfl
theorem u_is_span {n : Nat} {a0 a1 : D} {ob : List Ob} : evF tbl gl (n + 1) "is_span" [a0, a1] ob = (evSs ⟨evF tbl gl n, gl⟩ [
  .ret (.and (.call "is_between" [(.v 0), (.c (.int 0)), (.op .sub [(.g "TIMES"), (.c (.int 1))])]) (.and (.call "is_between" [(.v 1), (.c (.int 1)), (.g "TIMES")]) (.op .lt [(.v 0), (.v 1)])))] ⟨[.fz a0, .fz a1], ob⟩).rc := by
  simp only [evF, t_is_span]
  rfl
theorem u_is_row {n : Nat} {a0 : D} {ob : List Ob} : evF tbl gl (n + 1) "is_row" [a0] ob = (evSs ⟨evF tbl gl n, gl⟩ [
  .ite (.or (.not (.op (.isi [.tuple]) [(.v 0)])) (.op .ne [(.op .len [(.v 0)]), (.c (.int 6))])) [
    .ret (.c (.bl false))] [],
  .ite (.or (.not (.call "is_key" [(.op .ix [(.v 0), (.c (.int 0))])])) (.not (.call "is_row_value" [(.op .ix [(.v 0), (.c (.int 1))])]))) [
    .ret (.c (.bl false))] [],
  .ret (.and (.call "is_span" [(.op .ix [(.v 0), (.c (.int 2))]), (.op .ix [(.v 0), (.c (.int 3))])]) (.call "is_span" [(.op .ix [(.v 0), (.c (.int 4))]), (.op .ix [(.v 0), (.c (.int 5))])]))] ⟨[.fz a0], ob⟩).rc := by
  simp only [evF, t_is_row]
  rfl
theorem u_is_table {n : Nat} {a0 : D} {ob : List Ob} : evF tbl gl (n + 1) "is_table" [a0] ob = (evSs ⟨evF tbl gl n, gl⟩ [
  .ret (.and (.op (.isi [.tuple]) [(.v 0)]) (.op .all [(.comp [1] (.n 1) .it [(.v 0)] none (.call "is_row" [(.v 1)]))]))] ⟨[.fz a0, .un], ob⟩).rc := by
  simp only [evF, t_is_table]
  rfl
theorem u_require_table {n : Nat} {a0 : D} {ob : List Ob} : evF tbl gl (n + 1) "require_table" [a0] ob = (evSs ⟨evF tbl gl n, gl⟩ [
  .ite (.not (.call "is_table" [(.v 0)])) [
    .stuck] []] ⟨[.fz a0], ob⟩).rc := by
  simp only [evF, t_require_table]
  rfl
def L_turned_0 : List IS := [
      .par 6 7 (.call "find_values" [(.v 0), (.v 4), (.disp true [false, false] [(.v 5), (.v 1)])]) (.call "find_values" [(.v 0), (.v 4), (.disp true [false, false] [(.v 5), (.v 2)])]),
      .ite (.op .ne [(.v 6), (.v 7)]) [
        .mut 3 .append (.disp true [false, false, false, false] [(.v 4), (.v 5), (.v 6), (.v 7)])] []]
def L_turned_1 : List IS := [
    .for_ (.n 5) .range [(.g "TIMES")] L_turned_0]
theorem u_turned {n : Nat} {a0 a1 a2 : D} {ob : List Ob} : evF tbl gl (n + 1) "turned" [a0, a1, a2] ob = (evSs ⟨evF tbl gl n, gl⟩ [
  .expr (.call "require_table" [(.v 0)]),
  .expr (.call "require_recording" [(.v 1)]),
  .expr (.call "require_recording" [(.v 2)]),
  .set 3 (.disp false [] []),
  .for_ (.n 4) .range [(.g "KEYS")] L_turned_1,
  .ret (.v 3)] ⟨[.fz a0, .fz a1, .fz a2, .un, .un, .un, .un, .un], ob⟩).rc := by
  simp only [evF, t_turned]
  rfl
def L_law_0 : List IS := [
          .set 11 (.op .tuple [(.dget (.v 4) (.disp true [false, false, false] [(.v 9), (.v 10), (.v 6)]) (.disp false [] []))]),
          .set 12 (.op .tuple [(.dget (.v 4) (.disp true [false, false, false] [(.v 9), (.v 10), (.v 7)]) (.disp false [] []))]),
          .ite (.op .ne [(.v 11), (.v 12)]) [
            .mut 8 .append (.disp true [false, false, false, false] [(.v 9), (.v 10), (.v 11), (.v 12)])] []]
def L_law_1 : List IS := [
        .for_ (.n 10) .range [(.c (.int 8))] L_law_0]
def L_law_2 : List IS := [
      .par 6 7 (.call "_law_take" [(.v 1), (.c (.int 8))]) (.call "_law_take" [(.v 1), (.c (.int 8))]),
      .set 8 (.disp false [] []),
      .for_ (.n 9) .range [(.c (.int 4))] L_law_1,
      .set 13 (.call "turned" [(.v 3), (.v 6), (.v 7)]),
      .ite (.op .ne [(.op .repr [(.v 13)]), (.op .repr [(.v 8)])]) [
        .ret (.c (.bl false))] [],
      .mut 13 .append (.c (.int 7)),
      .ite (.and (.op .eq [(.v 5), (.c (.int 0))]) (.op .ne [(.op .repr [(.call "turned" [(.v 3), (.v 6), (.v 7)])]), (.op .repr [(.v 8)])])) [
        .ret (.c (.bl false))] []]
def L_law_3 : List IS := [
    .set 3 (.ite (.op .gt [(.v 2), (.c (.int 0))]) (.call "_law_table" [(.call "_law_anew" [(.v 1)]), (.c (.int 7))]) (.call "_law_long" [])),
    .set 4 (.call "_law_array" [(.v 3)]),
    .for_ (.n 5) .range [(.c (.int 4))] L_law_2]
theorem u_law {n : Nat} {a0 : D} {ob : List Ob} : evF tbl gl (n + 1) "law" [a0] ob = (evSs ⟨evF tbl gl n, gl⟩ [
  .setO 1 (.call "_law_open" [(.v 0)]),
  .for_ (.n 2) .range [(.c (.int 8))] L_law_3,
  .ret (.op .eq [(.call "turned" [(.disp true [] []), (.c (.int 0)), (.c (.int 7))]), (.disp false [] [])])] ⟨[.fz a0, .un, .un, .un, .un, .un, .un, .un, .un, .un, .un, .un, .un, .un], ob⟩).rc := by
  simp only [evF, t_law]
  rfl
def gl (x : Str) : Option D := if x == "KEYS" then some (.int 4) else if x == "TIMES" then some (.int 8) else none
theorem g_KEYS : gl "KEYS" = some (.int 4) := by kernel_rfl
theorem g_TIMES : gl "TIMES" = some (.int 8) := by kernel_rfl
end Tk

set_option maxHeartbeats 1000000
set_option maxRecDepth 10000
namespace Tk
open PySem
theorem plains_map {α : Type} {f : α → D} : ∀ {as : List α}, (∀ a ∈ as, plain (f a) = true) → plains (as.map f) = true
  | [], _ => rfl
  | a :: as, h => by
    show (plain (f a) && plains (as.map f)) = true
    rw [h a List.mem_cons_self, plains_map fun b hb => h b (List.mem_cons_of_mem _ hb)]
    rfl
theorem o_isiT {xs : List D} (h : plains xs = true) : app1 (.isi [.tuple]) (.tup xs) = some (.fz (.bl true)) := isi_go (d := .tup xs) h rfl
theorem o_isiL {xs : List D} (h : plains xs = true) : app1 (.isi [.list]) (.lst xs) = some (.fz (.bl true)) := isi_go (d := .lst xs) h rfl
theorem boolsOf_all {α : Type} (p : α → Bool) : ∀ as : List α, boolsOf (as.map fun a => .bl (p a)) = some (as.map p)
  | [] => rfl
  | a :: as => by
    show (boolsOf (as.map fun a => .bl (p a))).map (p a :: ·) = _
    rw [boolsOf_all p as]
    rfl
theorem o_all {α : Type} (p : α → Bool) (as : List α) : app1 .all (.lst (as.map fun a => .bl (p a))) = some (.fz (.bl (as.all p))) := by
  show (boolsOf _).bind _ = _
  rw [boolsOf_all]
  show some (R.fz (.bl ((as.map p).all id))) = _
  rw [List.all_map]
  rfl
theorem o_any {α : Type} (p : α → Bool) (as : List α) : app1 .any (.lst (as.map fun a => .bl (p a))) = some (.fz (.bl (as.any p))) := by
  show (boolsOf _).bind _ = _
  rw [boolsOf_all]
  show some (R.fz (.bl ((as.map p).any id))) = _
  rw [List.any_map]
  rfl
section
variable {i j k l m p : Nat} {a b c d e f : D} {sl : List Sl}
theorem put_t2 : Tg.put (.t [i, j]) (.tup [a, b]) sl = some ((sl.set i (.fz a)).set j (.fz b)) := rfl
theorem put_t3 : Tg.put (.t [i, j, k]) (.tup [a, b, c]) sl = some (((sl.set i (.fz a)).set j (.fz b)).set k (.fz c)) := rfl
theorem put_t4 : Tg.put (.t [i, j, k, l]) (.tup [a, b, c, d]) sl = some ((((sl.set i (.fz a)).set j (.fz b)).set k (.fz c)).set l (.fz d)) := rfl
theorem put_t5 : Tg.put (.t [i, j, k, l, m]) (.tup [a, b, c, d, e]) sl = some (((((sl.set i (.fz a)).set j (.fz b)).set k (.fz c)).set l (.fz d)).set m (.fz e)) := rfl
theorem put_t6 : Tg.put (.t [i, j, k, l, m, p]) (.tup [a, b, c, d, e, f]) sl = some ((((((sl.set i (.fz a)).set j (.fz b)).set k (.fz c)).set l (.fz d)).set m (.fz e)).set p (.fz f)) := rfl
end
theorem m_ext {C : Ec} {en en1 : En} {i : Nat} {e : IE} {xs ys : List D} (hl : en.isL i = true) (he : evE C e en = .ok (.ow (.lst ys)) en1) (h1 : en1.sl[i]? = some (.ow (.lst xs))) (hb : xs.length + ys.length ≤ 16777216) :
    evS C (.mut i .extend e) en = .nx ⟨en1.sl.set i (.ow (.lst (xs ++ ys))), en1.ob⟩ := by
  rw [s_mut, if_pos hl, he]
  show enK (en1.chg i fun d => mutD .extend d (.lst ys)) = _
  unfold En.chg
  rw [h1]
  show enK ((guardO (decide (xs.length + ys.length ≤ big)) _).map _) = _
  rw [decide_eq_true (show xs.length + ys.length ≤ big from hb)]
  rfl
theorem m_app {C : Ec} {en en1 : En} {i : Nat} {e : IE} {xs : List D} {r : R} (hl : en.isL i = true) (he : evE C e en = .ok r en1) (h1 : (en1.frz r).sl[i]? = some (.ow (.lst xs))) (hb : xs.length < 16777216) :
    evS C (.mut i .append e) en = .nx ⟨(en1.frz r).sl.set i (.ow (.lst (xs ++ [r.d]))), (en1.frz r).ob⟩ := by
  rw [s_mut, if_pos hl, he]
  show enK ((en1.frz r).chg i fun d => mutD .append d r.d) = _
  unfold En.chg
  rw [h1]
  show enK ((guardO (decide (xs.length < big)) _).map _) = _
  rw [decide_eq_true (show xs.length < big from hb)]
  rfl
/-- a loop that puts lists together -/
theorem for_cat {α β : Type} {body : En → Ou} {t : Tg} (S : List β → En → Prop) (W : α → List β) (emb : α → D) (B : Nat) {as : List α} {en : En} (hB : (as.flatMap W).length ≤ B) (h0 : S [] en)
    (hs : ∀ a ∈ as, ∀ acc e, acc.length + (W a).length ≤ B → S acc e → Goes (turnOf body t (emb a) e) (S (acc ++ W a))) : ∃ e', evFor body t (as.map emb) en = .nx e' ∧ S (as.flatMap W) e' := by
  have key : ∀ (as : List α) (acc : List β) (en : En), (∀ a ∈ as, ∀ acc e, acc.length + (W a).length ≤ B → S acc e → Goes (turnOf body t (emb a) e) (S (acc ++ W a))) → acc.length + (as.flatMap W).length ≤ B → S acc en → ∃ e', evFor body t (as.map emb) en = .nx e' ∧ S (acc ++ as.flatMap W) e' := by
    intro as
    induction as with
    | nil => exact fun acc en _ _ h => ⟨en, rfl, by rw [List.flatMap_nil, List.append_nil]; exact h⟩
    | cons a as ih =>
      intro acc en hs hl h
      rw [List.flatMap_cons, List.length_append] at hl
      obtain ⟨e1, h1, h2⟩ := hs a List.mem_cons_self acc en (by omega) h
      obtain ⟨e2, g1, g2⟩ := ih (acc ++ W a) e1 (fun b hb => hs b (List.mem_cons_of_mem _ hb)) (by rw [List.length_append]; omega) h2
      refine ⟨e2, ?_, by rw [List.flatMap_cons, ← List.append_assoc]; exact g2⟩
      rw [List.map_cons, evFor_cons]
      rcases h1 with h1 | h1 <;> rw [h1] <;> exact g1
  have z := key as [] en hs (by simpa using hB) h0
  rw [List.nil_append] at z
  exact z
theorem fm_filter {α : Type} (p : α → Bool) (f : α → D) : (as : List α) → as.filterMap (fun a => if p a = true then some (f a) else none) = (as.filter p).map f
  | [] => rfl
  | a :: as => by
    rw [List.filterMap_cons, List.filter_cons]
    cases h : p a with
    | true => rw [if_pos rfl, if_pos rfl, List.map_cons, fm_filter p f as]
    | false => rw [if_neg (by decide), if_neg (by decide), fm_filter p f as]
/-- a comprehension that keeps some of the items -/
theorem comp_filter {C : Ec} {own : List Nat} {t : Tg} {s : Src} {es : List IE} {cond : Option IE} {elt : IE} {en en1 : En} {ds : List D} {α : Type} {as : List α} {emb : α → D} (p : α → Bool) (f : α → D) (hx : evX C es en = .ok ds en1) (hw : walk s ds = some (as.map emb)) (hf : frzOwn own en1.sl = en1.sl) (hr : restS en1.sl en1.sl own = en1.sl) (hl : as.length ≤ 16777216)
    (hs : ∀ a ∈ as, ∃ sl, t.put (emb a) (wipeS en1.sl own) = some sl ∧ wipeS sl own = wipeS en1.sl own ∧ restS en1.sl sl own = en1.sl ∧ evC C cond ⟨sl, en1.ob⟩ = .ok (p a) ⟨sl, en1.ob⟩ ∧ (p a = true → ∃ r, evE C elt ⟨sl, en1.ob⟩ = .ok r ⟨sl, en1.ob⟩ ∧ r.free = true ∧ r.d = f a)) : evE C (.comp own t s es cond elt) en = .ok (.ow (.lst ((as.filter p).map f))) en1 := by
  rw [comp_typed (fun a => if p a = true then some (f a) else none) hx hw hf hr hl fun a ha => ?_, fm_filter]
  obtain ⟨sl, h1, h2, h3, h4, h5⟩ := hs a ha
  refine ⟨sl, h1, h2, h3, p a, h4, fun h => by rw [h]; rfl, fun h => ?_⟩
  obtain ⟨r, r1, r2, r3⟩ := h5 h
  exact ⟨r, r1, r2, by rw [if_pos h, r3]⟩
local macro_rules | `(tactic| ac_rfl) => `(tactic| try simp only [ss_cons, ss_one, ss_nil, sq_nx, sq_rt, sq_bk, sq_ct, sq_ex, sq_no, s_set, s_ret, s_ite, s_for, s_tset, s_par, s_setO, s_expr, s_brk, s_cont, s_pass, r_c, r_v, r_g, r_op, r_disp, r_and, r_or, r_not, r_ite, r_ch, r_ch3, r_call, t_c, t_v, t_op, t_and, t_or, t_not, t_ite, t_ch, t_ch3, t_call, a_nil, a_cons, x_nil, x_cons, d_nil, d_cons, d_star, c_none, c_some, opK_ok, opK_ex, opK_no, topK_ok, topK_ex, topK_no, consK_ok, consK_ex, consK_no, appK_ok, appK_ex, appK_no, argK_ok, argK_ex, argK_no, xrgK_ok, xrgK_ex, xrgK_no, dspK_ok, dspK_ex, dspK_no, starK_some, starK_none, dssK_ok, dssK_ex, dssK_no, dispK_ok, dispK_ex, dispK_no, andB_some, andB_none, orB_some, orB_none, andK_ok, andK_ex, andK_no, orK_ok, orK_ex, orK_no, notK_ok, notK_ex, notK_no, iteEK_ok, iteEK_ex, iteEK_no, chL_ok, chL_ex, chL_no, chB_some, chB_none, tchL_ok, tchL_ex, tchL_no, tchB_some, tchB_none, chK2_ok, chK2_ex, chK2_no, chK1_ok, chK1_ex, chK1_no, tchK2_ok, tchK2_ex, tchK2_no, tchK1_ok, tchK1_ex, tchK1_no, ch3B2_some, ch3B2_none, ch3K3_ok, ch3K3_ex, ch3K3_no, ch3B1_some, ch3B1_none, tch3B2_some, tch3B2_none, tch3K3_ok, tch3K3_ex, tch3K3_no, tch3B1_some, tch3B1_none, ch3K2_ok, ch3K2_ex, ch3K2_no, ch3K1_ok, ch3K1_ex, ch3K1_no, tch3K2_ok, tch3K2_ex, tch3K2_no, tch3K1_ok, tch3K1_ex, tch3K1_no, callK_ok, callK_ex, callK_no, truK_ok, truK_ex, truK_no, tandK_ok, tandK_ex, tandK_no, torK_ok, torK_ex, torK_no, tnotK_ok, tnotK_ex, tnotK_no, titeK_ok, titeK_ex, titeK_no, setK_ok, setK_ex, setK_no, parK2_ok, parK2_ex, parK2_no, parK1_ok, parK1_ex, parK1_no, setOK_ok, setOK_ex, setOK_no, slK_some, slK_none, enK_some, enK_none, tsetK_ok, tsetK_ex, tsetK_no, augK_ok, augK_ex, augK_no, putK2_ok, putK2_ex, putK2_no, putK1_ok, putK1_ex, putK1_no, mutK_ok, mutK_ex, mutK_no, exprK_ok, exprK_ex, exprK_no, retK_ok, retK_ex, retK_no, iteK_ok, iteK_ex, iteK_no, walkK_some, walkK_none, forK_ok, forK_ex, forK_no, body_of, turn_n, turn_t2, turn_t3,
  view_non, view_bl, view_int, view_str, view_tup, view_lst, view_frl, tr_bl, tr_int, tr_non, tr_lst, tr_tup, bo_bl, R.d, ro_fz, ro_ow, ro_rf, ts_fz, ts_ow, ts_rf, fs_fz, fs_ow, fs_rf, fe_fz, fe_ow, fe_rf, oo_some, oo_none, rc_nx, rc_rt, rc_ex, rs_ok, rs_ex, app_1, app_2, app_3, o_add, o_sub, o_lt, o_le, o_gt, o_ge, o_eqI, o_neI, o_lenT, o_lenL, o_int, o_neg, o_tupL, o_tupT, o_lstL, o_lstT, o_min2, o_max2, o_isN, o_isnN, o_isiI, o_isiB, o_isiN, ixT0, ixT1, ixT2, ixT3, ixT4, ixT5, ixL0, ixL1, ixL2, slc6_2, slc6_4, slc6_2r, slc6_24, isTy, isNon,
  List.getElem?_cons_zero, List.getElem?_cons_succ, List.set_cons_zero, List.set_cons_succ, List.map_cons, List.map_nil, List.length_cons, List.length_nil, List.append_nil, List.nil_append, List.cons_append, Option.bind_some, Option.map_some, Bool.not_true, Bool.not_false, decide_eq_true_eq, decide_true, decide_false, if_true, if_false, ite_true, ite_false, Bool.false_eq_true, reduceIte, Bool.not_eq_true', decide_eq_false_iff_not, Nat.reduceLeDiff, Nat.reduceAdd, o_addT, o_addL, Int.cast_ofNat_Int, Int.reduceNe, Int.reduceEq, Int.reduceLT, Int.reduceLE, Bool.true_beq, Bool.false_beq, r_dget, dgK1_ok, dgO_some, dgK2_ok, dgK3_ok, dgF_t, fr_fz, fr_ow, view_dicK, dicOf_dicK, view_tupK, o_lstDK, o_lenDK, put_t2, put_t3, put_t4, put_t5, put_t6])
/-! ### the pen: a number below a bound, an item of a list -/
def primes : D := .lst [.int 2147483629, .int 2147483587, .int 2147483579, .int 2147483563, .int 2147483549, .int 2147483543, .int 2147483497, .int 2147483489, .int 2147483477, .int 2147483423, .int 2147483399, .int 2147483353, .int 2147483323]
theorem prime_ix {k : Int} : ∃ p, ixD primes (.int (k % 13)) = some (.fz (.int p)) ∧ 0 < p ∧ p < 2147483647 := by
  have h : k % 13 = 0 ∨ k % 13 = 1 ∨ k % 13 = 2 ∨ k % 13 = 3 ∨ k % 13 = 4 ∨ k % 13 = 5 ∨ k % 13 = 6 ∨ k % 13 = 7 ∨ k % 13 = 8 ∨ k % 13 = 9 ∨ k % 13 = 10 ∨ k % 13 = 11 ∨ k % 13 = 12 := by omega
  rcases h with h | h | h | h | h | h | h | h | h | h | h | h | h <;> (rw [h]; exact ⟨_, rfl, by decide, by decide⟩)
theorem e_spread {n : Nat} {cell a : Int} {ob : List Ob} (h0 : 0 ≤ a) (h1 : a ≤ 1000000000) : ∃ z : Int, evF tbl gl (n + 1) "_law_spread" [.int cell, .int a] ob = .ok (.fz (.int z)) ob := by
  rw [u__law_spread]
  refine Post.ok (P := fun o => ∃ z : Int, o.rc = .ok (.fz (.int z)) ob) ?_
  refine .via (g_ite (decide ((10 : Int) ^ 18 ≤ cell)) (TV.ge IV.v (IV.pow (k := 18) IV.c (by decide) (by decide)))) ?_
  by_cases hc : (10 : Int) ^ 18 ≤ cell
  · rw [if_pos (decide_eq_true hc)]
    exact .viaS (g_ret (.fz (.int cell)) IV.v) ⟨⟨cell, rfl⟩⟩
  rw [if_neg (by simpa using hc), ss_nil]
  refine .via (o' := evSs _ _ _) rfl ?_
  have b1 : 0 ≤ cell % 1000000007 ∧ cell % 1000000007 ≤ 1000000007 := by omega
  have b2 := mul_le' b1.1 b1.2 (show 0 ≤ 2 * a + 69069 by omega) (show 2 * a + 69069 ≤ 2000069069 by omega)
  refine .via (g_set (.ow (.lst [.int 2147483629, .int 2147483587, .int 2147483579, .int 2147483563, .int 2147483549, .int 2147483543, .int 2147483497])) rfl) (.via (g_set (.ow primes) rfl) ?_)
  show Post _ (evSs _ _ ⟨[.fz (.int cell), .fz (.int a), .ow primes, .un, .un, .un, .un, .un], ob⟩)
  refine .via (g_set _ (IV.add (IV.add (IV.mul (IV.mod (IV.int IV.v) IV.c (by decide)) (IV.add (IV.mul IV.c IV.v (by decide) (by omega)) IV.c) (by omega) (by omega)) (IV.mul IV.v IV.c (by omega) (by decide))) IV.c)) ?_
  generalize hm : cell % 1000000007 * (2 * a + 69069) + a * 40503 + 977 = m
  show Post _ (evSs _ _ ⟨[.fz (.int cell), .fz (.int a), .ow primes, .fz (.int m), .un, .un, .un, .un], ob⟩)
  have bm : m.natAbs < 10 ^ 40 := by omega
  obtain ⟨p1, e1, c1, d1⟩ := @prime_ix a
  refine .via (g_set _ (IV.mod (IV.int (IV.pow (k := 3) IV.v bm (by decide))) (pv_op2 (pvW (d := primes)) (IV.mod (IV.int (IV.v (i := a))) (IV.c (i := 13)) (by decide)) e1) c1)) ?_
  generalize ho : m ^ 3 % p1 = o
  show Post _ (evSs _ _ ⟨[.fz (.int cell), .fz (.int a), .ow primes, .fz (.int m), .fz (.int o), .un, .un, .un], ob⟩)
  have bo : 0 ≤ o ∧ o < 2147483647 := by
    subst ho
    exact ⟨Int.emod_nonneg _ (by omega), Int.lt_trans (Int.emod_lt_of_pos _ c1) d1⟩
  refine .via (g_set _ (IV.add (IV.mod (IV.int IV.v) IV.c (by decide)) IV.c)) ?_
  show Post _ (evSs _ _ ⟨[.fz (.int cell), .fz (.int a), .ow primes, .fz (.int m), .fz (.int o), .fz (.int (cell % 65537 + 5)), .un, .un], ob⟩)
  have b3 := mul_le' bo.1 (Int.le_of_lt bo.2) (show 0 ≤ a + 3 by omega) (show a + 3 ≤ 1000000003 by omega)
  have b4 : 0 ≤ cell % 65537 ∧ cell % 65537 ≤ 65537 := by omega
  obtain ⟨p2, e2, c2, d2⟩ := @prime_ix (a + 5)
  refine .via (g_set _ (IV.mod (IV.int (IV.pow (k := 5) (IV.add (IV.mul IV.v (IV.add IV.v IV.c) (by omega) (by omega)) IV.v) (by omega) (by decide))) (pv_op2 (pvW (d := primes)) (IV.mod (IV.int (IV.add (IV.v (i := a)) (IV.c (i := 5)))) (IV.c (i := 13)) (by decide)) e2) c2)) ?_
  generalize ht : (o * (a + 3) + (cell % 65537 + 5)) ^ 5 % p2 = t
  show Post _ (evSs _ _ ⟨[.fz (.int cell), .fz (.int a), .ow primes, .fz (.int m), .fz (.int o), .fz (.int (cell % 65537 + 5)), .fz (.int t), .un], ob⟩)
  have bt : 0 ≤ t ∧ t < 2147483647 := by
    subst ht
    exact ⟨Int.emod_nonneg _ (by omega), Int.lt_trans (Int.emod_lt_of_pos _ c2) d2⟩
  obtain ⟨p3, e3, c3, d3⟩ := @prime_ix (a + 7)
  refine .via (g_set _ (IV.mod (IV.int (IV.pow (k := 3) (IV.add (IV.add IV.v (IV.mod (IV.int IV.v) IV.c (by decide))) IV.v) (by omega) (by decide))) (pv_op2 (pvW (d := primes)) (IV.mod (IV.int (IV.add (IV.v (i := a)) (IV.c (i := 7)))) (IV.c (i := 13)) (by decide)) e3) c3)) ?_
  exact .via (g_ret _ (IV.add (IV.mul (IV.add (IV.mul IV.v IV.c (by omega) (by decide)) IV.v) IV.c (by omega) (by decide)) IV.v)) ⟨⟨_, rfl⟩⟩
theorem IV.penR {gl : Str → Option D} {en : En} {k : Nat} {c : List Int} {a r : Int} (ho : en.ob = [.con (pen c a r)] := by rfl) (hv : en.sl[k]? = some (.fz (.obj 0)) := by rfl) : IV gl en (.op .ix [.v k, .c (.int 2)]) r :=
  pv_op2 (pvV hv) rfl (by rw [ho]; rfl)
theorem IV.penA {gl : Str → Option D} {en : En} {k : Nat} {c : List Int} {a r : Int} (ho : en.ob = [.con (pen c a r)] := by rfl) (hv : en.sl[k]? = some (.fz (.obj 0)) := by rfl) : IV gl en (.op .ix [.v k, .c (.int 1)]) a :=
  pv_op2 (pvV hv) rfl (by rw [ho]; rfl)
theorem pvC {gl : Str → Option D} {en : En} {k : Nat} {c : List Int} {a r : Int} (ho : en.ob = [.con (pen c a r)] := by rfl) (hv : en.sl[k]? = some (.fz (.obj 0)) := by rfl) : pv gl (.op .ix [.v k, .c (.int 0)]) en = some (.fz (.lst (c.map D.int))) :=
  pv_op2 (pvV hv) rfl (by rw [ho]; rfl)
theorem ints_at {c : List Int} {k : Nat} (h : k < c.length) : ∃ x, (c.map D.int)[k]? = some (.int x) := ⟨c[k], by rw [List.getElem?_map, List.getElem?_eq_getElem h]; rfl⟩
/-- the pen has drawn at most k numbers -/
def PenB (k : Int) (ob : List Ob) : Prop := ∃ c a r, ob = [.con (pen c a r)] ∧ 0 ≤ a ∧ a ≤ k
theorem PenB.mono {k k' : Int} {ob : List Ob} (h : PenB k ob) (hk : k ≤ k') : PenB k' ob := by
  obtain ⟨c, a, r, e, h0, h1⟩ := h
  exact ⟨c, a, r, e, h0, by omega⟩
theorem e_take {n : Nat} {m k : Int} {ob : List Ob} (hp : PenB k ob) (hm : 1 ≤ m := by omega) (hm2 : m ≤ 1000000000 := by omega) (hk : k ≤ 1000000000 := by omega) :
    ∃ (v : Int) (ob' : List Ob), evF tbl gl (n + 2) "_law_take" [.obj 0, .int m] ob = .ok (.fz (.int v)) ob' ∧ 0 ≤ v ∧ v < m ∧ PenB (k + 1) ob' := by
  obtain ⟨c, a, r, rfl, h0, h1⟩ := hp
  rw [u__law_take]
  refine Post.ok (P := fun o => ∃ (v : Int) (ob' : List Ob), o.rc = .ok (.fz (.int v)) ob' ∧ 0 ≤ v ∧ v < m ∧ PenB (k + 1) ob') ?_
  have fin : ∀ (a' r' : Int) (x y : Sl), 0 ≤ a' → a' ≤ a + 1 → Post (fun o => ∃ (v : Int) (ob' : List Ob), o.rc = .ok (.fz (.int v)) ob' ∧ 0 ≤ v ∧ v < m ∧ PenB (k + 1) ob') (evSs ⟨evF tbl gl (n + 1), gl⟩ [.set 4 (.op .mod [(.op .int [(.op .ix [(.v 0), (.c (.int 2))])]), (.v 1)]), .put 0 (.c (.int 2)) (.op .fdiv [(.op .ix [(.v 0), (.c (.int 2))]), (.v 1)]), .ret (.v 4)]
      ⟨[.fz (.obj 0), .fz (.int m), x, y, .un], [.con (pen c a' r')]⟩) := fun a' r' x y g1 g2 => by
    refine .via (g_set _ (IV.mod (IV.int (IV.penR (c := c) (r := r'))) (IV.v (i := m)) (by omega))) ?_
    refine .via (g_put (en' := ⟨[.fz (.obj 0), .fz (.int m), x, y, .fz (.int (r' % m))], [.con (pen c a' (r' / m))]⟩) (.fz (.int (r' / m))) (.fz (.int 2)) rfl (IV.fdiv (IV.penR (c := c) (r := r')) (IV.v (i := m)) (by omega) (by omega)) rfl rfl) ?_
    exact .via (g_ret _ (IV.v (i := r' % m))) ⟨⟨_, _, rfl, Int.emod_nonneg _ (by omega), Int.emod_lt_of_pos _ (by omega), c, a', _, rfl, g1, by omega⟩⟩
  refine .via (g_ite (decide (r < m)) (TV.lt (IV.penR (c := c) (a := a) (r := r)) IV.v)) ?_
  by_cases hr : r < m
  · rw [if_pos (decide_eq_true hr)]
    refine .viaS (g_set (.fz (.int a)) (IV.penA (c := c) (r := r))) (.viaS (g_set (.fz (.int 0)) rfl) ?_)
    have mid : ∀ x : Int, Post (fun o => ∃ (v : Int) (ob' : List Ob), o.rc = .ok (.fz (.int v)) ob' ∧ 0 ≤ v ∧ v < m ∧ PenB (k + 1) ob') (seqS ⟨evF tbl gl (n + 1), gl⟩ [.set 4 (.op .mod [(.op .int [(.op .ix [(.v 0), (.c (.int 2))])]), (.v 1)]), .put 0 (.c (.int 2)) (.op .fdiv [(.op .ix [(.v 0), (.c (.int 2))]), (.v 1)]), .ret (.v 4)]
        (evSs ⟨evF tbl gl (n + 1), gl⟩ [.put 0 (.c (.int 1)) (.op .add [(.v 2), (.c (.int 1))]), .put 0 (.c (.int 2)) (.call "_law_spread" [(.v 3), (.v 2)])] ⟨[.fz (.obj 0), .fz (.int m), .fz (.int a), .fz (.int x), .un], [.con (pen c a r)]⟩)) := fun x => by
      refine .viaS (g_put (en' := ⟨[.fz (.obj 0), .fz (.int m), .fz (.int a), .fz (.int x), .un], [.con (pen c (a + 1) r)]⟩) (.fz (.int (a + 1))) (.fz (.int 1)) rfl (IV.add (IV.v (i := a)) IV.c) rfl rfl) ?_
      obtain ⟨z, ez⟩ := e_spread (n := n) (cell := x) (ob := [.con (pen c (a + 1) r)]) h0 (by omega)
      have e : evSs ⟨evF tbl gl (n + 1), gl⟩ [.put 0 (.c (.int 2)) (.call "_law_spread" [(.v 3), (.v 2)])] ⟨[.fz (.obj 0), .fz (.int m), .fz (.int a), .fz (.int x), .un], [.con (pen c (a + 1) r)]⟩ = .nx ⟨[.fz (.obj 0), .fz (.int m), .fz (.int a), .fz (.int x), .un], [.con (pen c (a + 1) z)]⟩ := by
        rw [ss_one, s_put, if_pos (show En.isC ⟨[.fz (.obj 0), .fz (.int m), .fz (.int a), .fz (.int x), .un], [.con (pen c (a + 1) r)]⟩ 0 = true from rfl), r_call, x_cons, r_v]
        show putK1 _ 0 _ (callK ⟨evF tbl gl (n + 1), gl⟩ "_law_spread" (.ok [.int x, .int a] _)) = _
        show putK1 _ 0 _ ((evF tbl gl (n + 1) "_law_spread" [.int x, .int a] [.con (pen c (a + 1) r)]).rs _) = _
        rw [ez]
        rfl
      refine .viaS e ?_
      exact fin (a + 1) z _ _ (by omega) (by omega)
    have vl : ∀ sl, sl = [Sl.fz (.obj 0), .fz (.int m), .fz (.int a), .fz (.int 0), .un] → IV gl ⟨sl, [.con (pen c a r)]⟩ (.op .len [(.op .ix [(.v 0), (.c (.int 0))])]) (c.map D.int).length := fun sl e => by
      subst e
      exact pv_op1 (pvC (c := c) (a := a) (r := r)) rfl
    refine .viaS (g_ite (decide (a < (c.map D.int).length)) (TV.lt (IV.v (i := a)) (vl _ rfl))) ?_
    by_cases hl : a < (c.map D.int).length
    · rw [if_pos (decide_eq_true hl)]
      obtain ⟨x, hx⟩ := @ints_at c a.toNat (by rw [List.length_map] at hl; omega)
      refine .viaS (congrArg (seqS _ _) (g_set (.fz (.int x)) (pv_op2 (o := .ix) (pvC (c := c) (a := a) (r := r)) (IV.v (i := a)) (ix_go h0 hx)))) ?_
      exact mid x
    · rw [if_neg (by simpa using hl)]
      refine .viaS (congrArg (seqS _ _) (g_ite (decide (0 < ((c.map D.int).length : Int))) (TV.gt (vl _ rfl) IV.c))) ?_
      by_cases hp : 0 < ((c.map D.int).length : Int)
      · rw [if_pos (decide_eq_true hp)]
        have b1 := Int.emod_nonneg (a * 5 + 3) (show ((c.map D.int).length : Int) ≠ 0 by omega)
        have b2 := Int.emod_lt_of_pos (a * 5 + 3) hp
        obtain ⟨x, hx⟩ := @ints_at c ((a * 5 + 3) % (c.map D.int).length).toNat (by rw [List.length_map] at *; omega)
        have z := IV.mod (gl := gl) (en := ⟨[.fz (.obj 0), .fz (.int m), .fz (.int a), .fz (.int 0), .un], [.con (pen c a r)]⟩) (IV.int (IV.add (IV.mul (IV.v (k := 2) (i := a)) (IV.c (i := 5)) (by omega) (by decide)) (IV.c (i := 3)))) (vl _ rfl) hp
        refine .viaS (congrArg (seqS _ _) (congrArg (seqS _ _) (g_set _ (IV.mod (IV.int (pv_op2 (o := .ix) (pvC (c := c) (a := a) (r := r)) z (ix_go b1 hx))) (IV.add (IV.pow (k := 17) (IV.c (i := 10)) (by decide) (by decide)) (IV.v (i := a))) (by omega))))) ?_
        exact mid _
      · rw [if_neg (by simpa using hp)]
        exact mid 0
  · rw [if_neg (by simpa using hr)]
    exact fin a r _ _ (by omega) (by omega)
theorem len_at {xs : List D} {k : Nat} (h : k < xs.length) : ∃ x, xs[k]? = some x ∧ x ∈ xs := ⟨xs[k], List.getElem?_eq_getElem h, List.getElem_mem h⟩
theorem e_one {n : Nat} {k : Int} {xs : List D} {ob : List Ob} (hp : PenB k ob) (hx : xs ≠ []) (hl : xs.length ≤ 1000000000) (hk : k ≤ 1000000000 := by omega) :
    ∃ (x : D) (ob' : List Ob), evF tbl gl (n + 3) "_law_one" [.obj 0, .lst xs] ob = .ok (.fz x) ob' ∧ x ∈ xs ∧ PenB (k + 1) ob' := by
  have lp : 0 < xs.length := List.length_pos_iff.mpr hx
  obtain ⟨v, ob', e, v0, v1, pb⟩ := e_take (n := n) (m := xs.length) hp
  obtain ⟨x, h1, h2⟩ := @len_at xs v.toNat (by omega)
  refine ⟨x, ob', ?_, h2, pb⟩
  rw [u__law_one]
  ac_rfl
  rw [e]
  ac_rfl
  rw [ixL v0 h1]
  ac_rfl
theorem e_oneT {n : Nat} {k : Int} {xs : List D} {ob : List Ob} (hp : PenB k ob) (hx : xs ≠ []) (hl : xs.length ≤ 1000000000) (hk : k ≤ 1000000000 := by omega) :
    ∃ (x : D) (ob' : List Ob), evF tbl gl (n + 3) "_law_one" [.obj 0, .tup xs] ob = .ok (.fz x) ob' ∧ x ∈ xs ∧ PenB (k + 1) ob' := by
  have lp : 0 < xs.length := List.length_pos_iff.mpr hx
  obtain ⟨v, ob', e, v0, v1, pb⟩ := e_take (n := n) (m := xs.length) hp
  obtain ⟨x, h1, h2⟩ := @len_at xs v.toNat (by omega)
  refine ⟨x, ob', ?_, h2, pb⟩
  rw [u__law_one]
  ac_rfl
  rw [e]
  ac_rfl
  rw [ixT v0 h1]
  ac_rfl
theorem e_open {n : Nat} {ns : List Int} (hl : ns.length ≤ 63) : ∃ c : List Int, evF tbl gl (n + 1) "_law_open" [.frl (ns.map D.int)] [] = .ok (.ow (pen c 0 0)) [] := by
  rw [u__law_open]
  unfold L__law_open_0
  have cm : ∀ lo hi, cutL (ns.map D.int) lo hi = (cutL ns lo hi).map D.int := fun lo hi => by
    unfold cutL
    rw [List.length_map, ← List.map_take, ← List.map_drop]
  have e1 : cutL (ns.map D.int) none (some 12) = (ns.take (min 12 ns.length)).map D.int := by
    rw [cm]
    rfl
  refine Post.ok (P := fun o => ∃ c : List Int, o.rc = .ok (.ow (pen c 0 0)) []) ?_
  refine .via (g_set (.ow (.lst ((ns.take (min 12 ns.length)).map D.int))) (pv_op1 (pv_op2 pvV (IV.c (i := 12)) (show _ = some (.ow (.lst ((ns.take (min 12 ns.length)).map D.int))) from by rw [← e1]; rfl)) rfl)) ?_
  have l1 : (ns.take (min 12 ns.length)).length = min 12 ns.length := by rw [List.length_take]; omega
  rw [ss_cons, s_for, x_cons, pv_ev _ _ (.ow (.lst ((cutL ns (some 12) (some 63)).map D.int))) (by rw [← cm]; rfl)]
  show Post _ (seqS _ _ (evFor (bodyOf _ _) _ (((cutL ns (some 12) (some 63)).map D.int).zipIdx.map fun p => D.tup [.int p.2, p.1]) ⟨[.fz (.frl (ns.map D.int)), .ow (.lst ((ns.take (min 12 ns.length)).map D.int)), .un, .un], []⟩))
  obtain ⟨e', h1, c, hc, x, y, rfl⟩ := for_inv (body := bodyOf ⟨evF tbl gl n, gl⟩ [.put 1 (.op .mod [(.op .int [(.v 2)]), (.c (.int 12))]) (.op .add [(.op .ix [(.v 1), (.op .mod [(.op .int [(.v 2)]), (.c (.int 12))])]), (.v 3)])]) (t := .t [2, 3])
    (fun _ e => ∃ c : List Int, c.length = min 12 ns.length ∧ ∃ x y, e = ⟨[.fz (.frl (ns.map D.int)), .ow (.lst (c.map D.int)), x, y], []⟩) (((cutL ns (some 12) (some 63)).map D.int).zipIdx.map fun p => D.tup [.int p.2, p.1])
    (en := ⟨[.fz (.frl (ns.map D.int)), .ow (.lst ((ns.take (min 12 ns.length)).map D.int)), .un, .un], []⟩) ⟨_, l1, _, _, rfl⟩ (by
      rintro k x e hx ⟨c, hc, x1, y1, rfl⟩
      rw [List.getElem?_map, List.getElem?_zipIdx] at hx
      obtain ⟨p, hp, rfl⟩ := Option.map_eq_some_iff.mp hx
      obtain ⟨d, hd, rfl⟩ := Option.map_eq_some_iff.mp hp
      rw [List.getElem?_map] at hd
      obtain ⟨z, hz, rfl⟩ := Option.map_eq_some_iff.mp hd
      have hk := (List.getElem?_eq_some_iff.mp hz).1
      have lc : (cutL ns (some 12) (some 63)).length ≤ ns.length - 12 := by
        unfold cutL
        rw [List.length_drop, List.length_take]
        have q1 : loN ns.length (some 12) = min 12 ns.length := rfl
        have q2 : hiN ns.length (some 63) = min 63 ns.length := rfl
        rw [q1, q2]
        omega
      have h12 : c.length = 12 := by omega
      refine Post.ok (P := fun o => Goes o _) ?_
      show Post _ (evSs _ _ ⟨[.fz (.frl (ns.map D.int)), .ow (.lst (c.map D.int)), .fz (.int ((0 + k : Nat) : Int)), .fz (.int z)], []⟩)
      have m0 : 0 ≤ ((0 + k : Nat) : Int) % 12 := by omega
      have m1 : (((0 + k : Nat) : Int) % 12).toNat < c.length := by omega
      obtain ⟨w, hw⟩ := @ints_at c (((0 + k : Nat) : Int) % 12).toNat m1
      have iv : IV gl ⟨[.fz (.frl (ns.map D.int)), .ow (.lst (c.map D.int)), .fz (.int ((0 + k : Nat) : Int)), .fz (.int z)], []⟩ (.op .mod [(.op .int [(.v 2)]), (.c (.int 12))]) (((0 + k : Nat) : Int) % 12) := IV.mod (IV.int (IV.v (i := ((0 + k : Nat) : Int)))) IV.c (by decide)
      refine .via (g_put (en' := ⟨[.fz (.frl (ns.map D.int)), .ow (.lst ((c.set (((0 + k : Nat) : Int) % 12).toNat (w + z)).map D.int)), .fz (.int ((0 + k : Nat) : Int)), .fz (.int z)], []⟩) (.fz (.int (w + z))) (.fz (.int (((0 + k : Nat) : Int) % 12))) rfl
        (IV.add (pv_op2 (o := .ix) (pvW (d := .lst (c.map D.int))) iv (ix_go m0 hw)) (IV.v (i := z))) iv (by
          have hx2 : ixN (c.map D.int).length (((0 + k : Nat) : Int) % 12) = some (((0 + k : Nat) : Int) % 12).toNat := by
            unfold ixN
            rw [if_pos m0, if_pos (by rw [List.length_map]; omega)]
          show ((ixN (c.map D.int).length (((0 + k : Nat) : Int) % 12)).map fun k => D.lst ((c.map D.int).set k (.int (w + z)))).map _ = _
          rw [hx2, List.map_set]
          rfl)) ?_
      exact ⟨.nx ⟨_, by rw [List.length_set]; exact hc, _, _, rfl⟩⟩)
  exact .viaS h1 ⟨⟨c, rfl⟩⟩
theorem pen0 {c : List Int} : PenB 0 [.con (pen c 0 0)] := ⟨c, 0, 0, rfl, by decide, by decide⟩
theorem e_anew {n : Nat} {k : Int} {ob : List Ob} (hp : PenB k ob) : ∃ ob' : List Ob, evF tbl gl (n + 1) "_law_anew" [.obj 0] ob = .ok (.fz (.obj 0)) ob' ∧ PenB k ob' := by
  obtain ⟨c, a, r, rfl, h0, h1⟩ := hp
  refine ⟨[.con (pen c a 0)], ?_, c, a, 0, rfl, h0, h1⟩
  rw [u__law_anew, g_put (en' := ⟨[.fz (.obj 0)], [.con (pen c a 0)]⟩) (.fz (.int 0)) (.fz (.int 2)) rfl rfl rfl rfl, g_ret (.fz (.obj 0)) pvV]
  rfl
theorem e_lspan {n : Nat} {k : Int} {ob : List Ob} (hp : PenB k ob) (hk : k ≤ 999999990 := by omega) :
    ∃ (s e : Int) (ob' : List Ob), evF tbl gl (n + 3) "_law_span" [.obj 0] ob = .ok (.fz (.tup [.int s, .int e])) ob' ∧ 0 ≤ s ∧ s < e ∧ e ≤ 8 ∧ PenB (k + 2) ob' := by
  obtain ⟨s, ob1, e1, s0, s1, p1⟩ := e_take (n := n) (m := 8) hp
  obtain ⟨v, ob2, e2, v0, v1, p2⟩ := e_take (n := n) (m := 8 - s) p1
  refine ⟨s, s + 1 + v, ob2, ?_, s0, by omega, by omega, p2.mono (by omega)⟩
  rw [u__law_span]
  ac_rfl
  rw [e1]
  ac_rfl
  rw [e2]
  ac_rfl
structure Row where
  k : Int
  v : Int
  s : Int
  e : Int
  u : Int
  w : Int
deriving DecidableEq
def Row.d (r : Row) : D := .tup [.int r.k, .int r.v, .int r.s, .int r.e, .int r.u, .int r.w]
structure Row.Ok (r : Row) : Prop where
  k0 : 0 ≤ r.k
  k1 : r.k ≤ 3
  v0 : 0 ≤ r.v
  v1 : r.v < 10 ^ 31
  s0 : 0 ≤ r.s
  s1 : r.s < r.e
  e1 : r.e ≤ 8
  u0 : 0 ≤ r.u
  u1 : r.u < r.w
  w1 : r.w ≤ 8
def VL : List D := [.int 0, .int 0, .int 1, .int 9, .int 10, .int (10 ^ 30 - 1)]
def KL : List D := [.int 0, .int 0, .int 1, .int 2, .int 3]
theorem VL_ok : ∀ x ∈ VL, ∃ v : Int, x = .int v ∧ 0 ≤ v ∧ v < 10 ^ 31 := by
  intro x hx
  simp only [VL, List.mem_cons, List.not_mem_nil, or_false] at hx
  rcases hx with rfl | rfl | rfl | rfl | rfl | rfl <;> exact ⟨_, rfl, by decide, by decide⟩
theorem KL_ok : ∀ x ∈ KL, ∃ v : Int, x = .int v ∧ 0 ≤ v ∧ v ≤ 3 := by
  intro x hx
  simp only [KL, List.mem_cons, List.not_mem_nil, or_false] at hx
  rcases hx with rfl | rfl | rfl | rfl | rfl <;> exact ⟨_, rfl, by decide, by decide⟩
theorem e_lrow {n : Nat} {k : Int} {ob : List Ob} (hp : PenB k ob) (hk : k ≤ 999999900 := by omega) :
    ∃ (r : Row) (ob' : List Ob), evF tbl gl (n + 4) "_law_row" [.obj 0] ob = .ok (.fz r.d) ob' ∧ r.Ok ∧ PenB (k + 6) ob' := by
  obtain ⟨x, ob1, e1, hx, p1⟩ := e_one (n := n) (xs := VL) hp (by simp [VL]) (by simp [VL])
  obtain ⟨v, rfl, v0, v1⟩ := VL_ok x hx
  obtain ⟨y, ob2, e2, hy, p2⟩ := e_one (n := n) (xs := KL) p1 (by simp [KL]) (by simp [KL])
  obtain ⟨ky, rfl, k0, k1⟩ := KL_ok y hy
  obtain ⟨s, e, ob3, e3, s0, s1, s2, p3⟩ := e_lspan (n := n) p2
  obtain ⟨u, w, ob4, e4, u0, u1, u2, p4⟩ := e_lspan (n := n) p3
  refine ⟨⟨ky, v, s, e, u, w⟩, ob4, ?_, ⟨k0, k1, v0, v1, s0, s1, s2, u0, u1, u2⟩, p4.mono (by omega)⟩
  rw [u__law_row]
  have z : evE ⟨evF tbl gl (n + 3), gl⟩ (.disp false [false, false, false, false, false, false] [(.c (.int 0)), (.c (.int 0)), (.c (.int 1)), (.c (.int 9)), (.c (.int 10)), (.op .sub [(.op .pow [(.c (.int 10)), (.c (.int 30))]), (.c (.int 1))])]) ⟨[.fz (.obj 0), .un], ob⟩ = .ok (.ow (.lst VL)) ⟨[.fz (.obj 0), .un], ob⟩ := pv_ev _ _ _ (by kernel_rfl)
  rw [ss_cons, s_set, r_call, x_cons, r_v]
  simp only [List.getElem?_cons_zero, xrgK_ok, fe_fz, R.d]
  rw [x_cons, z]
  simp only [xrgK_ok, x_nil, fe_ow, R.d, consK_ok, callK_ok]
  rw [e1]
  ac_rfl
  rw [show ([D.int 0, D.int 0, D.int 1, D.int 2, D.int 3] : List D) = KL from rfl, e2]
  ac_rfl
  rw [e3]
  ac_rfl
  rw [e4]
  ac_rfl
  rfl
def tabD (rows : List Row) : D := .tup (rows.map Row.d)
def TabOk (rows : List Row) : Prop := ∀ r ∈ rows, r.Ok
theorem walk_n {m : Int} (h0 : 0 ≤ m) (h : m < 2 ^ 62) : walk .range [.int m] = some ((List.range m.toNat).map fun k : Nat => D.int k) := walk_rng h0 h
theorem e_ltable {n : Nat} {k m : Int} {ob : List Ob} (hp : PenB k ob) (m0 : 0 ≤ m := by omega) (m1 : m ≤ 9 := by omega) (hk : k ≤ 999999000 := by omega) :
    ∃ (rows : List Row) (ob' : List Ob), evF tbl gl (n + 5) "_law_table" [.obj 0, .int m] ob = .ok (.fz (tabD rows)) ob' ∧ TabOk rows ∧ (rows.length : Int) ≤ m ∧ PenB (k + 100) ob' := by
  obtain ⟨t, ob1, e1, t0, t1, p1⟩ := e_take (n := n + 2) (m := m + 1) hp
  obtain ⟨e', h1, rows, a2, b2, c2, d2, rfl, ho, hl, p2⟩ := for_inv (body := bodyOf ⟨evF tbl gl (n + 4), gl⟩ [
      .set 4 (.call "_law_row" [(.v 0)]),
      .ite (.and (.op .gt [(.v 3), (.c (.int 0))]) (.op .eq [(.call "_law_take" [(.v 0), (.c (.int 3))]), (.c (.int 0))])) [
        .set 5 (.call "_law_one" [(.v 0), (.v 2)]),
        .set 4 (.op .add [(.op .add [(.op (.slc false true) [(.v 5), (.c (.int 2))]), (.op (.slc true true) [(.v 4), (.c (.int 2)), (.c (.int 4))])]), (.op (.slc true false) [(.v 5), (.c (.int 4))])])] [],
      .set 2 (.op .add [(.v 2), (.disp true [false] [(.v 4)])])]) (t := .n 3)
    (fun j e => ∃ (rows : List Row) (x y z : Sl) (ob' : List Ob), e = ⟨[.fz (.obj 0), .fz (.int m), .fz (tabD rows), x, y, z], ob'⟩ ∧ TabOk rows ∧ rows.length = j ∧ PenB (k + 1 + 10 * j) ob')
    ((List.range t.toNat).map fun k : Nat => D.int k) (en := ⟨[.fz (.obj 0), .fz (.int m), .fz (tabD []), .un, .un, .un], ob1⟩)
    ⟨[], _, _, _, _, rfl, fun r hr => (by cases hr), rfl, p1.mono (by omega)⟩ (by
      rintro j x e hj ⟨rows, x1, y1, z1, ob2, rfl, ho, hl, p2⟩
      obtain ⟨jt, rfl⟩ := range_at0 hj
      obtain ⟨r, ob3, e3, hr, p3⟩ := e_lrow (n := n) p2
      have fin : ∀ (r : Row) (z : Sl) (ob4 : List Ob), r.Ok → PenB (k + 1 + 10 * ((j + 1 : Nat) : Int)) ob4 → Goes (evS ⟨evF tbl gl (n + 4), gl⟩ (.set 2 (.op .add [(.v 2), (.disp true [false] [(.v 4)])])) ⟨[.fz (.obj 0), .fz (.int m), .fz (tabD rows), .fz (.int j), .fz r.d, z], ob4⟩)
          fun e => ∃ (rows : List Row) (x y z : Sl) (ob' : List Ob), e = ⟨[.fz (.obj 0), .fz (.int m), .fz (tabD rows), x, y, z], ob'⟩ ∧ TabOk rows ∧ rows.length = j + 1 ∧ PenB (k + 1 + 10 * ((j + 1 : Nat) : Int)) ob' := fun r z ob4 hr hp => by
        simp only [tabD]
        ac_rfl
        rw [o_addT (by rw [List.length_map]; simp only [List.length_cons, List.length_nil]; omega)]
        ac_rfl
        rw [show rows.map Row.d ++ [r.d] = (rows ++ [r]).map Row.d by rw [List.map_append]; rfl]
        refine .nx ⟨rows ++ [r], _, _, _, _, rfl, fun q hq => ?_, by rw [List.length_append, hl]; rfl, hp⟩
        rcases List.mem_append.mp hq with z1 | z1
        · exact ho q z1
        · rw [List.mem_singleton.mp z1]
          exact hr
      rw [show r.d = .tup [.int r.k, .int r.v, .int r.s, .int r.e, .int r.u, .int r.w] from rfl] at e3
      simp only [tabD]
      ac_rfl
      rw [e3]
      by_cases hj0 : 0 < (j : Int)
      · obtain ⟨q, ob4, e4, q0, q1, p4⟩ := e_take (n := n + 2) (m := 3) p3
        have ne : rows.map Row.d ≠ [] := fun z => by rw [List.map_eq_nil_iff.mp z] at hl; simp at hl; omega
        obtain ⟨o, ob5, e5, ho5, p5⟩ := e_oneT (n := n + 1) p4 ne (by rw [List.length_map]; omega)
        obtain ⟨o', hoo, rfl⟩ := List.mem_map.mp ho5
        have hq := ho o' hoo
        rw [show o'.d = .tup [.int o'.k, .int o'.v, .int o'.s, .int o'.e, .int o'.u, .int o'.w] from rfl] at e5
        ac_rfl
        simp only [hj0, if_true]
        rw [e4]
        ac_rfl
        by_cases hq0 : q = 0
        · simp only [hq0, if_true]
          ac_rfl
          rw [e5]
          ac_rfl
          have z := fin ⟨o'.k, o'.v, r.s, r.e, o'.u, o'.w⟩ (.fz (Row.d o')) ob5 ⟨hq.k0, hq.k1, hq.v0, hq.v1, hr.s0, hr.s1, hr.e1, hq.u0, hq.u1, hq.w1⟩ (p5.mono (by omega))
          simp only [tabD] at z
          revert z
          ac_rfl
          exact fun z => z
        · simp only [hq0, if_false]
          have z := fin r z1 ob4 hr (p4.mono (by omega))
          simp only [tabD] at z
          revert z
          ac_rfl
          exact fun z => z
      · ac_rfl
        simp only [hj0, if_false]
        have z := fin r z1 ob3 hr (p3.mono (by omega))
        simp only [tabD] at z
        revert z
        ac_rfl
        exact fun z => z)
  rw [List.length_map, List.length_range] at hl p2
  refine ⟨rows, d2, ?_, ho, by omega, p2.mono (by omega)⟩
  rw [u__law_table]
  unfold L__law_table_0
  ac_rfl
  rw [e1]
  ac_rfl
  rw [walk_n t0 (by omega)]
  ac_rfl
  simp only [tabD, List.map_nil] at h1 ⊢
  rw [h1]
  ac_rfl
theorem e_int {n : Nat} {i : Int} {ob : List Ob} : evF tbl gl (n + 1) "is_integer" [.int i] ob = .ok (.fz (.bl true)) ob := by
  rw [u_is_integer]
  ac_rfl
theorem e_btw {n : Nat} {i a b : Int} {ob : List Ob} (h1 : a ≤ i) (h2 : i ≤ b) : evF tbl gl (n + 2) "is_between" [.int i, .int a, .int b] ob = .ok (.fz (.bl true)) ob := by
  rw [u_is_between]
  ac_rfl
  rw [e_int]
  ac_rfl
  simp only [h1, decide_true, if_true]
  ac_rfl
  simp only [h2, decide_true]
theorem e_key {n : Nat} {i : Int} {ob : List Ob} (h1 : 0 ≤ i) (h2 : i ≤ 3) : evF tbl gl (n + 3) "is_key" [.int i] ob = .ok (.fz (.bl true)) ob := by
  rw [u_is_key]
  ac_rfl
  rw [g_KEYS]
  ac_rfl
  rw [e_btw h1 (by omega)]
  ac_rfl
theorem e_rval {n : Nat} {i : Int} {ob : List Ob} (h1 : 0 ≤ i) : evF tbl gl (n + 2) "is_row_value" [.int i] ob = .ok (.fz (.bl true)) ob := by
  rw [u_is_row_value]
  ac_rfl
  rw [e_int]
  ac_rfl
  simp only [h1, decide_true]
theorem e_isspan {n : Nat} {s e : Int} {ob : List Ob} (h1 : 0 ≤ s) (h2 : s < e) (h3 : e ≤ 8) : evF tbl gl (n + 3) "is_span" [.int s, .int e] ob = .ok (.fz (.bl true)) ob := by
  rw [u_is_span]
  ac_rfl
  rw [g_TIMES]
  ac_rfl
  rw [e_btw h1 (by omega)]
  ac_rfl
  rw [g_TIMES]
  ac_rfl
  rw [e_btw (by omega) h3]
  ac_rfl
  simp only [h2, decide_true]
theorem e_isrow {n : Nat} {r : Row} {ob : List Ob} (h : r.Ok) : evF tbl gl (n + 4) "is_row" [r.d] ob = .ok (.fz (.bl true)) ob := by
  rw [u_is_row, show r.d = .tup [.int r.k, .int r.v, .int r.s, .int r.e, .int r.u, .int r.w] from rfl]
  ac_rfl
  rw [show app1 (.isi [.tuple]) (.tup [.int r.k, .int r.v, .int r.s, .int r.e, .int r.u, .int r.w]) = some (.fz (.bl true)) from rfl]
  ac_rfl
  rw [e_key h.k0 h.k1]
  ac_rfl
  rw [e_rval h.v0]
  ac_rfl
  rw [e_isspan h.s0 h.s1 h.e1]
  ac_rfl
  rw [e_isspan h.u0 h.u1 h.w1]
  ac_rfl
theorem plain_row (r : Row) : plain r.d = true := rfl
theorem e_istable {n : Nat} {rows : List Row} {ob : List Ob} (h : TabOk rows) (hl : rows.length ≤ 16777216) : evF tbl gl (n + 5) "is_table" [tabD rows] ob = .ok (.fz (.bl true)) ob := by
  rw [u_is_table]
  simp only [tabD]
  ac_rfl
  rw [o_isiT (plains_map fun r _ => plain_row r)]
  ac_rfl
  rw [comp_all (as := rows) (emb := Row.d) (fun _ => .bl true) rfl rfl rfl rfl hl fun r hr => ⟨[.fz (.tup (rows.map Row.d)), .fz r.d], rfl, rfl, rfl, true, rfl, nofun, fun _ => ⟨.fz (.bl true), by ac_rfl; rw [e_isrow (h r hr)]; ac_rfl, rfl, rfl⟩⟩]
  ac_rfl
  rw [o_all (fun _ => true)]
  ac_rfl
  rw [show rows.all (fun _ => true) = true by simp]
theorem e_reqt {n : Nat} {rows : List Row} {ob : List Ob} (h : TabOk rows) (hl : rows.length ≤ 16777216) : evF tbl gl (n + 6) "require_table" [tabD rows] ob = .ok (.fz .non) ob := by
  rw [u_require_table]
  have e := e_istable (n := n) (ob := ob) h hl
  simp only [tabD] at e ⊢
  ac_rfl
  rw [e]
  ac_rfl
/-- the cells of a rectangle -/
def cellsR (s e u w : Int) : List (List Int) := (rngI s e).flatMap fun x => (rngI u w).map fun y => [x, y]
theorem mem_cellsR {s e u w : Int} {c : List Int} : c ∈ cellsR s e u w ↔ ∃ x y, c = [x, y] ∧ s ≤ x ∧ x < e ∧ u ≤ y ∧ y < w := by
  unfold cellsR
  rw [List.mem_flatMap]
  constructor
  · rintro ⟨x, hx, h⟩
    obtain ⟨y, hy, rfl⟩ := List.mem_map.mp h
    exact ⟨x, y, rfl, (mem_rngI.mp hx).1, (mem_rngI.mp hx).2, (mem_rngI.mp hy).1, (mem_rngI.mp hy).2⟩
  · rintro ⟨x, y, rfl, h1, h2, h3, h4⟩
    exact ⟨x, mem_rngI.mpr ⟨h1, h2⟩, List.mem_map.mpr ⟨y, mem_rngI.mpr ⟨h3, h4⟩, rfl⟩⟩
theorem len_flatMap {α β : Type} {f : α → List β} {b : Nat} : ∀ {as : List α}, (∀ a ∈ as, (f a).length ≤ b) → (as.flatMap f).length ≤ as.length * b
  | [], _ => by simp
  | a :: as, h => by
    rw [List.flatMap_cons, List.length_append, List.length_cons, Nat.add_mul, Nat.one_mul]
    have h1 := h a List.mem_cons_self
    have h2 := len_flatMap (as := as) fun b hb => h b (List.mem_cons_of_mem _ hb)
    omega
theorem cellsR_len {s e u w : Int} (h1 : 0 ≤ s) (h2 : e ≤ 8) (h3 : 0 ≤ u) (h4 : w ≤ 8) : (cellsR s e u w).length ≤ 64 := by
  have := len_flatMap (as := rngI s e) (f := fun x => (rngI u w).map fun y => [x, y]) (b := 8) fun x _ => by rw [List.length_map, rngI_len]; omega
  rw [rngI_len] at this
  unfold cellsR
  omega
theorem cellsR_D {s e u w : Int} : (rngI s e).flatMap (fun x => (rngI u w).filterMap fun y => some (D.tup [.int x, .int y])) = (cellsR s e u w).map tupK := by
  unfold cellsR
  rw [List.map_flatMap]
  congr 1
  funext x
  rw [fm_all, List.map_map]
  rfl
theorem rows_len {s e u w : Int} (h1 : 0 ≤ s) (h2 : e ≤ 8) (h3 : 0 ≤ u) (h4 : w ≤ 8) : ((rngI s e).flatMap fun _ => rngI u w).length ≤ 16777216 := by
  have := len_flatMap (as := rngI s e) (f := fun _ => rngI u w) (b := 8) fun x _ => by rw [rngI_len]; omega
  rw [rngI_len] at this
  omega
theorem e_cells {n : Nat} {s e u w : Int} {ob : List Ob} (h0 : 0 ≤ s) (h1 : s < e) (h2 : e ≤ 8) (h3 : 0 ≤ u) (h4 : u < w) (h5 : w ≤ 8) :
    evF tbl gl (n + 1) "find_cells" [.tup [.int s, .int e, .int u, .int w]] ob = .ok (.ow (.lst ((cellsR s e u w).map tupK))) ob := by
  rw [u_find_cells]
  ac_rfl
  rw [comp2_typed (as := rngI s e) (emb := .int) (emb1 := .int) (fun _ => rngI u w) (fun x y => some (.tup [.int x, .int y])) rfl (walk_r2 h0 (by omega) (by omega) (by omega)) rfl rfl (rows_len h0 h2 h3 h5) fun x hx =>
    ⟨[.fz (.tup [.int s, .int e, .int u, .int w]), .fz (.int s), .fz (.int e), .fz (.int u), .fz (.int w), .fz (.int x), .un], _, rfl, rfl, rfl, rfl, rfl, walk_r2 h3 (by omega) (by omega) (by omega), fun y hy =>
      ⟨[.fz (.tup [.int s, .int e, .int u, .int w]), .fz (.int s), .fz (.int e), .fz (.int u), .fz (.int w), .fz (.int x), .fz (.int y)], rfl, rfl, rfl, rfl, true, rfl, nofun, fun _ => ⟨_, rfl, rfl, rfl⟩⟩⟩]
  ac_rfl
  rw [cellsR_D]
def Row.cells (r : Row) : List (List Int) := cellsR r.s r.e r.u r.w
theorem Row.cells_len {r : Row} (h : r.Ok) : r.cells.length ≤ 64 := cellsR_len h.s0 h.e1 h.u0 h.w1
theorem e_lcells {n : Nat} {r : Row} {ob : List Ob} (h : r.Ok) : evF tbl gl (n + 1) "_law_cells" [r.d] ob = .ok (.ow (.lst (r.cells.map tupK))) ob := by
  obtain ⟨s0, s1, e1, u0, u1, w1⟩ : 0 ≤ r.s ∧ r.s < r.e ∧ r.e ≤ 8 ∧ 0 ≤ r.u ∧ r.u < r.w ∧ r.w ≤ 8 := ⟨h.s0, h.s1, h.e1, h.u0, h.u1, h.w1⟩
  obtain ⟨e', g1, x', rfl⟩ := for_cat (body := bodyOf ⟨evF tbl gl n, gl⟩ [.mut 1 .extend (.comp [3] (.n 3) .range2 [(.op .ix [(.v 0), (.c (.int 4))]), (.op .ix [(.v 0), (.c (.int 5))])] none (.disp true [false, false] [(.v 2), (.v 3)]))]) (t := .n 2)
    (fun acc e => ∃ x, e = ⟨[.fz r.d, .ow (.lst (acc.map tupK)), x, .un], ob⟩) (fun x => (rngI r.u r.w).map fun y => [x, y]) .int 64 (as := rngI r.s r.e) (en := ⟨[.fz r.d, .ow (.lst []), .un, .un], ob⟩) (Row.cells_len h) ⟨_, rfl⟩ (by
      rintro x hx acc e hl ⟨x', rfl⟩
      rw [turn_n, body_of, ss_one]
      rw [List.length_map] at hl
      have z := comp_all (C := ⟨evF tbl gl n, gl⟩) (own := [3]) (t := .n 3) (s := .range2) (es := [(.op .ix [(.v 0), (.c (.int 4))]), (.op .ix [(.v 0), (.c (.int 5))])]) (cond := none) (elt := .disp true [false, false] [(.v 2), (.v 3)]) (en := ⟨[.fz r.d, .ow (.lst (acc.map tupK)), .fz (.int x), .un], ob⟩) (as := rngI r.u r.w) (emb := .int) (fun y => tupK [x, y]) (ds := [.int r.u, .int r.w]) (en1 := ⟨[.fz r.d, .ow (.lst (acc.map tupK)), .fz (.int x), .un], ob⟩) rfl (walk_r2 u0 (by omega) (by omega) (by omega)) rfl rfl (by rw [rngI_len]; omega)
        fun y hy => ⟨[.fz r.d, .ow (.lst (acc.map tupK)), .fz (.int x), .fz (.int y)], rfl, rfl, rfl, true, rfl, nofun, fun _ => ⟨_, rfl, rfl, rfl⟩⟩
      have z2 := m_ext (i := 1) rfl z rfl (by rw [List.length_map, List.length_map]; omega)
      refine ⟨_, .inl z2, .fz (.int x), ?_⟩
      rw [List.map_append, List.map_map]
      rfl)
  rw [u__law_cells]
  unfold L__law_cells_0
  rw [show r.d = .tup [.int r.k, .int r.v, .int r.s, .int r.e, .int r.u, .int r.w] from rfl] at *
  ac_rfl
  rw [walk_r2 s0 (by omega) (by omega) (by omega)]
  ac_rfl
  rw [g1]
  ac_rfl
  rfl
theorem eqDs_nil (xs : List D) : eqDs xs [] = xs.isEmpty := by cases xs <;> rfl
theorem o_neNil {xs : List D} (h : plains xs = true) (hd : depths xs ≤ 59) : app2 .ne (.lst xs) (.lst []) = some (.fz (.bl (!xs.isEmpty))) := by
  show guardO (okEq (.lst xs) (.lst [])) (some (R.fz (.bl (!eqDs xs [])))) = _
  have e : okEq (.lst xs) (.lst []) = true := by
    unfold okEq
    have p : plain (.lst xs) = true := h
    have d1 : depth (.lst xs) ≤ 60 := by show depths xs + 1 ≤ 60; omega
    rw [p, decide_eq_true d1]
    rfl
  rw [e, eqDs_nil]
  rfl
theorem eqD_str {x y : Str} : eqD (.str x) (.str y) = (x == y) := rfl
theorem inD_mem {x : D} {xs : List D} (h : x ∈ xs) (he : eqD x x = true) : inD x xs = true := List.any_eq_true.mpr ⟨x, h, he⟩
theorem flat_strs {α : Type} (f : α → Str) (as : List α) : (as.map fun a => D.str (f a)).all isFlat = true := List.all_eq_true.mpr fun x hx => by
  obtain ⟨a, _, rfl⟩ := List.mem_map.mp hx
  rfl
theorem okIn_strs {x : Str} {α : Type} (f : α → Str) (as : List α) : okIn (.str x) (as.map fun a => D.str (f a)) = true := by
  unfold okIn
  rw [flat_strs]
  exact Bool.or_true _
theorem o_inS {α : Type} {f : α → Str} {as : List α} {a : α} (h : a ∈ as) : app2 .isin (.str (f a)) (.lst (as.map fun a => D.str (f a))) = some (.fz (.bl true)) := by
  show (guardO (okIn _ _) (some (inD _ _))).bind _ = _
  rw [okIn_strs, inD_mem (x := .str (f a)) (List.mem_map.mpr ⟨a, h, rfl⟩) (by rw [eqD_str]; exact beq_self_eq_true _)]
  rfl
theorem o_ninS {α : Type} {f : α → Str} {as : List α} {a : α} (h : a ∈ as) : app2 .notin (.str (f a)) (.lst (as.map fun a => D.str (f a))) = some (.fz (.bl false)) := by
  show (guardO (okIn _ _) (some (inD _ _))).bind _ = _
  rw [okIn_strs, inD_mem (x := .str (f a)) (List.mem_map.mpr ⟨a, h, rfl⟩) (by rw [eqD_str]; exact beq_self_eq_true _)]
  rfl
theorem o_reprI {i : Int} (h : i.natAbs < 10 ^ 40) : app1 .repr (.int i) = some (.fz (.str (shown (.int i)))) := repr_go (decide_eq_true h) (Nat.zero_le _) (by unfold sz; decide)
theorem o_reprK {c : List Int} (hl : c.length ≤ 8) (h : ∀ i ∈ c, i.natAbs < 10 ^ 40) : app1 .repr (tupK c) = some (.fz (.str (shown (tupK c)))) := by
  refine repr_go (ok40_key (B := 0) h) (by show depths (c.map .int) + 1 ≤ 60; rw [depth_intsD]; decide) ?_
  have := szs_ints c
  show szs (c.map .int) + 4 ≤ _
  omega
theorem slcT_hi {xs : List D} {s : Int} (h0 : 0 ≤ s) (h1 : s ≤ 1000000000000) : app2 (.slc false true) (.tup xs) (.int s) = some (.fz (.tup (xs.take s.toNat))) := by
  have z := small_of h0 h1
  have e : cutL xs none (some s) = xs.take s.toNat := by
    show (xs.take (cutN xs.length s)).drop 0 = _
    rw [List.drop_zero]
    unfold cutN
    rw [if_pos h0]
    by_cases hl : s.toNat ≤ xs.length
    · rw [Nat.min_eq_left hl]
    · rw [Nat.min_eq_right (by omega), List.take_length, List.take_of_length_le (by omega)]
  show (guardO (smallI s) (some (some s, ([] : List D)))).bind _ = _
  rw [z]
  show guardO true (fz (.tup (cutL xs none (some s)))) = _
  rw [e]
  rfl
theorem slcT_lo {xs : List D} {s : Int} (h0 : 0 ≤ s) (h1 : s ≤ 1000000000000) : app2 (.slc true false) (.tup xs) (.int s) = some (.fz (.tup (xs.drop s.toNat))) := by
  have z := small_of h0 h1
  have e : cutL xs (some s) none = xs.drop s.toNat := by
    show (xs.take xs.length).drop (cutN xs.length s) = _
    rw [List.take_length]
    unfold cutN
    rw [if_pos h0]
    by_cases hl : s.toNat ≤ xs.length
    · rw [Nat.min_eq_left hl]
    · rw [Nat.min_eq_right (by omega), List.drop_length, List.drop_of_length_le (by omega)]
  show ((guardO (smallI s) (some (some s, ([] : List D)))).bind _) = _
  rw [z]
  show guardO true (fz (.tup (cutL xs (some s) none))) = _
  rw [e]
  rfl
def shI (k : Nat) : Str := shown (.int k)
def shK (c : List Int) : Str := shown (tupK c)
theorem o_reprN {k : Nat} (h : k ≤ 1000000) : app1 .repr (.int k) = some (.fz (.str (shI k))) := o_reprI (by omega)
theorem o_reprC {c : List Int} (hl : c.length ≤ 8) (h : ∀ i ∈ c, i.natAbs < 10 ^ 40) : app1 .repr (tupK c) = some (.fz (.str (shK c))) := o_reprK hl h
theorem o_neB {a b : Bool} : app2 .ne (.bl a) (.bl b) = some (.fz (.bl (!(a == b)))) := rfl
theorem o_isB {a b : Bool} : app2 .is (.bl a) (.bl b) = some (.fz (.bl (a == b))) := rfl
theorem o_isnB {a b : Bool} : app2 .isn (.bl a) (.bl b) = some (.fz (.bl (!(a == b)))) := rfl
theorem o_reprB {b : Bool} : app1 .repr (.bl b) = some (.fz (.str (shown (.bl b)))) := by cases b <;> kernel_rfl
theorem o_reprNon : app1 .repr .non = some (.fz (.str (shown .non))) := by kernel_rfl
/-! ### pairs and fields -/
def Row.pair (r : Row) : List Int := [r.k, r.v]
def pairsK (rows : List Row) : List (List Int) := once (rows.map Row.pair)
def cellsOf (rows : List Row) (p : List Int) : List (List Int) := rows.flatMap fun r => if r.pair = p then r.cells else []
def fieldK (rows : List Row) (p : List Int) : List (List Int) := once (cellsOf rows p)
theorem o_eqK {a b : List Int} : app2 .eq (tupK a) (tupK b) = some (.fz (.bl (decide (a = b)))) := by
  show guardO (okEq (tupK a) (tupK b)) (fz (.bl (eqD (tupK a) (tupK b)))) = _
  have e : okEq (tupK a) (tupK b) = true := by
    have p1 : plain (tupK a) = true := plain_ints a
    have p2 : plain (tupK b) = true := plain_ints b
    have d1 : depth (tupK a) ≤ 60 := by show depths (a.map .int) + 1 ≤ 60; rw [depth_intsD]; decide
    have d2 : depth (tupK b) ≤ 60 := by show depths (b.map .int) + 1 ≤ 60; rw [depth_intsD]; decide
    unfold okEq
    rw [p1, p2, decide_eq_true d1, decide_eq_true d2]
    rfl
  rw [e, eqD_tupK]
  rfl
theorem o_neK {a b : List Int} : app2 .ne (tupK a) (tupK b) = some (.fz (.bl (!decide (a = b)))) := by
  show guardO (okEq (tupK a) (tupK b)) (fz (.bl (!eqD (tupK a) (tupK b)))) = _
  have e : okEq (tupK a) (tupK b) = true := by
    have p1 : plain (tupK a) = true := plain_ints a
    have p2 : plain (tupK b) = true := plain_ints b
    have d1 : depth (tupK a) ≤ 60 := by show depths (a.map .int) + 1 ≤ 60; rw [depth_intsD]; decide
    have d2 : depth (tupK b) ≤ 60 := by show depths (b.map .int) + 1 ≤ 60; rw [depth_intsD]; decide
    unfold okEq
    rw [p1, p2, decide_eq_true d1, decide_eq_true d2]
    rfl
  rw [e, eqD_tupK]
  rfl
theorem dd_le : ∀ ks : List (List Int), (dd ks).length ≤ ks.length
  | [] => Nat.le_refl _
  | k :: ks => by
    unfold dd
    have := dd_le ks
    split
    · rw [List.length_cons]; omega
    · rw [List.length_cons, List.length_cons]; omega
theorem mem_pairsK {rows : List Row} {p : List Int} : p ∈ pairsK rows ↔ ∃ r ∈ rows, r.pair = p := by
  unfold pairsK
  rw [mem_once, List.mem_map]
theorem pairsK_len {rows : List Row} : (pairsK rows).length ≤ rows.length := by
  unfold pairsK once
  rw [(srtBy_perm _).length_eq]
  have := dd_le (rows.map Row.pair)
  rwa [List.length_map] at this
/-- all cells -/
def univ2 : List (List Int) := (rngI 0 8).flatMap fun x => (rngI 0 8).map fun y => [x, y]
theorem mem_univ2 {c : List Int} : c ∈ univ2 ↔ ∃ x y, c = [x, y] ∧ 0 ≤ x ∧ x < 8 ∧ 0 ≤ y ∧ y < 8 := by
  unfold univ2
  rw [List.mem_flatMap]
  constructor
  · rintro ⟨x, hx, h⟩
    obtain ⟨y, hy, rfl⟩ := List.mem_map.mp h
    have := mem_rngI.mp hx; have := mem_rngI.mp hy
    exact ⟨x, y, rfl, by omega⟩
  · rintro ⟨x, y, rfl, h1, h2, h3, h4⟩
    exact ⟨x, mem_rngI.mpr ⟨h1, h2⟩, List.mem_map.mpr ⟨y, mem_rngI.mpr ⟨h3, h4⟩, rfl⟩⟩
theorem univ2_len : univ2.length = 64 := by decide +kernel
theorem o_setC {ks : List (List Int)} (h : ∀ k ∈ ks, k ∈ univ2) (h2 : ks.length ≤ 1000000) : app1 .set (.lst (ks.map tupK)) = some (.ow (.lst ((once ks).map tupK))) :=
  o_set (fun k hk => by obtain ⟨x, y, rfl, _⟩ := mem_univ2.mp (h k hk); exact List.cons_ne_nil _ _) h2 (by have := dd_len h; rw [univ2_len] at this; omega)
theorem cells_univ2 {r : Row} (h : r.Ok) : ∀ c ∈ r.cells, c ∈ univ2 := fun c hc => by
  obtain ⟨x, y, rfl, h1, h2, h3, h4⟩ := mem_cellsR.mp hc
  have := h.s0; have := h.e1; have := h.u0; have := h.w1
  exact mem_univ2.mpr ⟨x, y, rfl, by omega⟩
theorem mem_cellsOf {rows : List Row} {p c : List Int} : c ∈ cellsOf rows p ↔ ∃ r ∈ rows, r.pair = p ∧ c ∈ r.cells := by
  unfold cellsOf
  rw [List.mem_flatMap]
  constructor
  · rintro ⟨r, hr, h⟩
    split at h
    · rename_i e
      exact ⟨r, hr, e, h⟩
    · cases h
  · rintro ⟨r, hr, e, h⟩
    exact ⟨r, hr, by rw [if_pos e]; exact h⟩
theorem cellsOf_univ {rows : List Row} (h : TabOk rows) {p : List Int} : ∀ c ∈ cellsOf rows p, c ∈ univ2 := fun c hc => by
  obtain ⟨r, hr, _, h2⟩ := mem_cellsOf.mp hc
  exact cells_univ2 (h r hr) c h2
theorem cellsOf_len {rows : List Row} (h : TabOk rows) {p : List Int} : (cellsOf rows p).length ≤ rows.length * 64 := len_flatMap fun r hr => by
  split
  · exact Row.cells_len (h r hr)
  · exact Nat.zero_le _
theorem fieldK_univ {rows : List Row} (h : TabOk rows) {p : List Int} : ∀ c ∈ fieldK rows p, c ∈ univ2 := fun c hc => cellsOf_univ h c (mem_once.mp hc)
theorem fieldK_len {rows : List Row} (h : TabOk rows) {p : List Int} : (fieldK rows p).length ≤ 64 := by
  have := once_len (cellsOf_univ h (p := p))
  rw [univ2_len] at this
  exact this
theorem e_fpairs {n : Nat} {rows : List Row} {ob : List Ob} (hl : rows.length ≤ 1000) : evF tbl gl (n + 1) "find_pairs" [tabD rows] ob = .ok (.ow (.lst ((pairsK rows).map tupK))) ob := by
  rw [u_find_pairs]
  simp only [tabD]
  ac_rfl
  rw [comp_all (as := rows) (emb := Row.d) (fun r => tupK r.pair) rfl rfl rfl rfl (by omega) fun r hr => ⟨[.fz (.tup (rows.map Row.d)), .fz r.d], rfl, rfl, rfl, true, rfl, nofun, fun _ => ⟨.fz (tupK r.pair), by rw [show r.d = .tup [.int r.k, .int r.v, .int r.s, .int r.e, .int r.u, .int r.w] from rfl]; ac_rfl; rfl, rfl, rfl⟩⟩]
  ac_rfl
  rw [show rows.map (fun r => tupK r.pair) = (rows.map Row.pair).map tupK by rw [List.map_map]; rfl, o_set (fun k hk => by
    obtain ⟨r, _, rfl⟩ := List.mem_map.mp hk
    exact List.cons_ne_nil _ _) (by rw [List.length_map]; omega) (by have := dd_le (rows.map Row.pair); rw [List.length_map] at this; omega)]
  ac_rfl
  rfl
theorem e_field {n : Nat} {rows : List Row} {p : List Int} {ob : List Ob} (h : TabOk rows) (hl : rows.length ≤ 1000) : evF tbl gl (n + 2) "find_field" [tabD rows, tupK p] ob = .ok (.fz (.tup ((fieldK rows p).map tupK))) ob := by
  have lc := cellsOf_len h (p := p)
  obtain ⟨e', g1, x', rfl⟩ := for_cat (body := bodyOf ⟨evF tbl gl (n + 1), gl⟩ L_find_field_0) (t := .n 3)
    (fun acc e => ∃ x, e = ⟨[.fz (.tup (rows.map Row.d)), .fz (tupK p), .ow (.lst (acc.map tupK)), x], ob⟩) (fun r : Row => if r.pair = p then r.cells else []) Row.d 64000 (as := rows) (en := ⟨[.fz (.tup (rows.map Row.d)), .fz (tupK p), .ow (.lst []), .un], ob⟩) (show (cellsOf rows p).length ≤ 64000 by omega) ⟨_, rfl⟩ (by
      rintro r hr acc e hl2 ⟨x', rfl⟩
      obtain ⟨s0, s1, e1, u0, u1, w1⟩ : 0 ≤ r.s ∧ r.s < r.e ∧ r.e ≤ 8 ∧ 0 ≤ r.u ∧ r.u < r.w ∧ r.w ≤ 8 := ⟨(h r hr).s0, (h r hr).s1, (h r hr).e1, (h r hr).u0, (h r hr).u1, (h r hr).w1⟩
      unfold L_find_field_0
      rw [turn_n, body_of, show r.d = .tup [.int r.k, .int r.v, .int r.s, .int r.e, .int r.u, .int r.w] from rfl]
      ac_rfl
      rw [show D.tup [D.int r.k, D.int r.v] = tupK r.pair from rfl, o_eqK]
      by_cases hp : r.pair = p
      · rw [if_pos hp] at hl2 ⊢
        rw [decide_eq_true hp]
        ac_rfl
        rw [m_ext (ys := r.cells.map tupK) (en1 := ⟨[.fz (.tup (rows.map Row.d)), .fz (tupK p), .ow (.lst (acc.map tupK)), .fz (.tup [.int r.k, .int r.v, .int r.s, .int r.e, .int r.u, .int r.w])], ob⟩) rfl (by
          ac_rfl
          rw [e_cells s0 s1 e1 u0 u1 w1]
          ac_rfl
          rfl) rfl (by rw [List.length_map, List.length_map]; omega)]
        refine .nx ⟨.fz r.d, ?_⟩
        rw [List.map_append]
        rfl
      · rw [if_neg hp, decide_eq_false hp]
        ac_rfl
        exact .nx ⟨.fz r.d, rfl⟩)
  rw [u_find_field]
  simp only [tabD]
  ac_rfl
  rw [show walk .it [.tup (rows.map Row.d)] = some (rows.map Row.d) from rfl]
  ac_rfl
  rw [g1]
  ac_rfl
  rw [show (rows.flatMap fun r => if r.pair = p then r.cells else []) = cellsOf rows p from rfl, o_setC (cellsOf_univ h) (by omega)]
  ac_rfl
  rfl
/-! ### what the law says of a table: a dict of lists of cells -/
def firsts (rows : List Row) : List (List Int) := (rows.map Row.pair).foldl addK []
theorem firsts_snoc {rows : List Row} {r : Row} : firsts (rows ++ [r]) = addK (firsts rows) r.pair := by
  unfold firsts
  rw [List.map_append, List.foldl_append]
  rfl
theorem mem_foldK {p : List Int} : ∀ {ks acc : List (List Int)}, p ∈ ks.foldl addK acc ↔ p ∈ acc ∨ p ∈ ks
  | [], acc => by simp
  | k :: ks, acc => by
    rw [List.foldl_cons, mem_foldK (ks := ks), mem_addK, List.mem_cons]
    constructor
    · rintro ((h | h) | h)
      · exact .inl h
      · exact .inr (.inl h)
      · exact .inr (.inr h)
    · rintro (h | h | h)
      · exact .inl (.inl h)
      · exact .inl (.inr h)
      · exact .inr h
theorem mem_firsts {rows : List Row} {p : List Int} : p ∈ firsts rows ↔ ∃ r ∈ rows, r.pair = p := by
  unfold firsts
  rw [mem_foldK, List.mem_map]
  simp
theorem foldK_nodup : ∀ {ks acc : List (List Int)}, acc.Nodup → (ks.foldl addK acc).Nodup
  | [], _, h => h
  | k :: ks, acc, h => foldK_nodup (ks := ks) (addK_nodup h)
theorem firsts_nodup {rows : List Row} : (firsts rows).Nodup := foldK_nodup List.nodup_nil
theorem foldK_len : ∀ {ks acc : List (List Int)}, (ks.foldl addK acc).length ≤ acc.length + ks.length
  | [], _ => Nat.le_refl _
  | k :: ks, acc => by
    have := foldK_len (ks := ks) (acc := addK acc k)
    have := addK_len (ps := acc) (q := k)
    rw [List.foldl_cons, List.length_cons]
    omega
theorem firsts_len {rows : List Row} : (firsts rows).length ≤ rows.length := by
  have := foldK_len (ks := rows.map Row.pair) (acc := [])
  rw [List.length_map] at this
  unfold firsts
  simpa using this
theorem firsts_srt {rows : List Row} : srtBy leI (firsts rows) = pairsK rows := by
  rw [srt_once firsts_nodup]
  exact once_congr fun p => by rw [mem_firsts, List.mem_map]
theorem cellsOf_none {rows : List Row} {p : List Int} (h : p ∉ firsts rows) : cellsOf rows p = [] := by
  unfold cellsOf
  refine List.flatMap_eq_nil_iff.mpr fun r hr => ?_
  rw [if_neg fun e => h (mem_firsts.mpr ⟨r, hr, e⟩)]
def cellsD (rows : List Row) (p : List Int) : D := .lst ((cellsOf rows p).map tupK)
def fieldD (rows : List Row) (p : List Int) : D := .lst ((fieldK rows p).map tupK)
def toldD (rows : List Row) : D := dicK (firsts rows) (fieldD rows)
theorem cellsOf_snoc {rows : List Row} {r : Row} {p : List Int} : cellsOf (rows ++ [r]) p = cellsOf rows p ++ if r.pair = p then r.cells else [] := by
  unfold cellsOf
  rw [List.flatMap_append, List.flatMap_cons, List.flatMap_nil, List.append_nil]
theorem take_snoc {α : Type} {as : List α} {j : Nat} {a : α} (h : as[j]? = some a) : as.take (j + 1) = as.take j ++ [a] := by
  rw [List.take_add_one, h]
  rfl
/-! ### the long table; texts of keys -/
def lrow (j : Nat) : Row := ⟨(j : Int) % 4, j, (j : Int) % 8, (j : Int) % 8 + 1, (j : Int) / 8, 8⟩
def lrows (j : Nat) : List Row := (List.range j).map lrow
theorem lrow_ok {j : Nat} (h : j < 64) : (lrow j).Ok := ⟨(show (0 : Int) ≤ (j : Int) % 4 by omega), (show (j : Int) % 4 ≤ 3 by omega), (show (0 : Int) ≤ j by omega), (show (j : Int) < 10 ^ 31 by omega), (show (0 : Int) ≤ j % 8 by omega), (show (j : Int) % 8 < j % 8 + 1 by omega), (show (j : Int) % 8 + 1 ≤ 8 by omega), (show (0 : Int) ≤ j / 8 by omega), (show (j : Int) / 8 < 8 by omega), (show (8 : Int) ≤ 8 by omega)⟩
theorem lrows_ok : TabOk (lrows 64) := fun r hr => by
  obtain ⟨j, hj, rfl⟩ := List.mem_map.mp hr
  exact lrow_ok (List.mem_range.mp hj)
theorem e_llong {n : Nat} {ob : List Ob} : evF tbl gl (n + 1) "_law_long" [] ob = .ok (.fz (tabD (lrows 64))) ob := by
  obtain ⟨e', h1, x1, x2, x3, rfl⟩ := for_inv (body := bodyOf ⟨evF tbl gl n, gl⟩ L__law_long_0) (t := .n 1)
    (fun j e => ∃ (x1 x2 x3 : Sl), e = ⟨[.fz (.tup ((lrows j).map Row.d)), x1, x2, x3], ob⟩)
    ((List.range 64).map fun k : Nat => D.int k) (en := ⟨[.fz (.tup []), .un, .un, .un], ob⟩) ⟨_, _, _, rfl⟩ (by
      rintro j x e hj ⟨x1, x2, x3, rfl⟩
      have jl := (List.getElem?_eq_some_iff.mp hj).1
      rw [List.length_map, List.length_range] at jl
      rw [List.getElem?_map, List.getElem?_range jl] at hj
      cases hj
      unfold L__law_long_0
      ac_rfl
      rw [o_mod (by decide)]
      ac_rfl
      rw [o_fdiv (by decide) (by decide)]
      ac_rfl
      rw [o_mod (by decide)]
      ac_rfl
      rw [o_addT (by rw [List.length_map, lrows, List.length_map, List.length_range]; simp only [List.length_cons, List.length_nil]; omega)]
      ac_rfl
      refine .nx ⟨.fz (.int j), .fz (.int ((j : Int) % 8)), .fz (.int ((j : Int) / 8)), ?_⟩
      rw [show lrows (j + 1) = lrows j ++ [lrow j] by rw [lrows, List.range_succ, List.map_append]; rfl, List.map_append]
      rfl)
  rw [List.length_map, List.length_range] at h1
  rw [u__law_long]
  ac_rfl
  rw [show walk .range [.int 64] = some ((List.range 64).map fun k : Nat => D.int k) by kernel_rfl]
  ac_rfl
  rw [h1]
  ac_rfl
  rfl
/-- a tuple of keys is shown -/
theorem repr_tkeys {ks : List (List Int)} (h : ∀ k ∈ ks, k.length ≤ 8 ∧ ∀ i ∈ k, i.natAbs < 10 ^ 40) (hl : ks.length ≤ 40000) : app1 .repr (.tup (ks.map tupK)) = some (.fz (.str (shown (.tup (ks.map tupK))))) := by
  refine repr_go (ok40s_of fun x hx => ?_) (by show depths (ks.map tupK) + 1 ≤ 60; have := depths_keys ks; omega) ?_
  · obtain ⟨k, hk, rfl⟩ := List.mem_map.mp hx
    exact ok40_key (B := 0) (h k hk).2
  · have z : szs (ks.map tupK) ≤ (ks.map tupK).length * (348 + 2) := szs_le fun x hx => by
      obtain ⟨k, hk, rfl⟩ := List.mem_map.mp hx
      have := szs_ints k
      have := (h k hk).1
      show szs (k.map .int) + 4 ≤ 348
      omega
    rw [List.length_map] at z
    show szs (ks.map tupK) + 4 ≤ _
    omega
def Row.key (r : Row) : List Int := [r.k, r.v, r.s, r.e, r.u, r.w]
theorem rows_keys (rows : List Row) : rows.map Row.d = (rows.map Row.key).map tupK := by
  rw [List.map_map]
  rfl
theorem key_small {r : Row} (h : r.Ok) : r.key.length ≤ 8 ∧ ∀ i ∈ r.key, i.natAbs < 10 ^ 40 := by
  have := h.k0; have := h.k1; have := h.v0; have := h.v1; have := h.s0; have := h.s1; have := h.e1; have := h.u0; have := h.u1; have := h.w1
  refine ⟨Nat.le_of_ble_eq_true rfl, fun i hi => ?_⟩
  simp only [Row.key, List.mem_cons, List.not_mem_nil, or_false] at hi
  omega
theorem repr_rows {rows : List Row} (h : TabOk rows) (hl : rows.length ≤ 1000) : app1 .repr (.tup (rows.map Row.d)) = some (.fz (.str (shown (.tup (rows.map Row.d))))) := by
  rw [rows_keys]
  refine repr_tkeys (fun k hk => ?_) (by rw [List.length_map]; omega)
  obtain ⟨r, hr, rfl⟩ := List.mem_map.mp hk
  exact key_small (h r hr)
theorem pair_small {rows : List Row} (h : TabOk rows) : ∀ p ∈ pairsK rows, p.length ≤ 8 ∧ ∀ i ∈ p, i.natAbs < 10 ^ 40 := fun p hp => by
  obtain ⟨r, hr, rfl⟩ := mem_pairsK.mp hp
  have h := h r hr
  have := h.k0; have := h.k1; have := h.v0; have := h.v1
  refine ⟨Nat.le_of_ble_eq_true rfl, fun i hi => ?_⟩
  simp only [Row.pair, List.mem_cons, List.not_mem_nil, or_false] at hi
  omega
theorem cell_small {c : List Int} (h : c ∈ univ2) : c.length ≤ 8 ∧ ∀ i ∈ c, i.natAbs < 10 ^ 40 := by
  obtain ⟨x, y, rfl, h1⟩ := mem_univ2.mp h
  refine ⟨Nat.le_of_ble_eq_true rfl, fun i hi => ?_⟩
  simp only [List.mem_cons, List.not_mem_nil, or_false] at hi
  omega
theorem firsts_ne {rows : List Row} : ∀ k ∈ firsts rows, k ≠ [] := fun k hk => by
  obtain ⟨r, _, rfl⟩ := mem_firsts.mp hk
  exact List.cons_ne_nil _ _
theorem o_srtTold {rows : List Row} {f : List Int → D} (hl : rows.length ≤ 1000) : app1 .sorted (dicK (firsts rows) f) = some (.ow (.lst ((pairsK rows).map tupK))) := by
  rw [o_sortDK firsts_ne (by have := firsts_len (rows := rows); omega), firsts_srt]
theorem getK_field {rows : List Row} {p : List Int} : (if p ∈ firsts rows then fieldD rows p else D.lst []) = fieldD rows p := by
  split
  · rfl
  · rename_i h
    unfold fieldD fieldK
    rw [cellsOf_none h]
    rfl
theorem tab_append {A B : List Row} (hA : TabOk A) (hB : TabOk B) : TabOk (A ++ B) := fun r hr => (List.mem_append.mp hr).elim (hA r) (hB r)
theorem tab_take {A : List Row} (hA : TabOk A) (k : Nat) : TabOk (A.take k) := fun r hr => hA r (List.mem_of_mem_take hr)
/-! ### spans -/
theorem inD_ints {a : Int} {xs : List Int} : inD (.int a) (xs.map .int) = decide (a ∈ xs) := by
  unfold inD
  induction xs with
  | nil => rfl
  | cons k ks ih =>
    rw [List.map_cons, List.any_cons, ih]
    show ((k == a) || decide (a ∈ ks)) = _
    simp only [List.mem_cons, Bool.decide_or]
    congr 1
    by_cases h : k = a
    · simp [h]
    · have h2 : ¬ a = k := fun e => h e.symm
      simp [h, h2]
theorem okIn_ints {a : Int} {xs : List Int} : okIn (.int a) (xs.map .int) = true := by
  unfold okIn
  rw [plain_ints, depth_intsD]
  rfl
theorem o_inI {a : Int} {xs : List Int} : app2 .isin (.int a) (.lst (xs.map .int)) = some (.fz (.bl (decide (a ∈ xs)))) := by
  show (guardO (okIn (.int a) (xs.map .int)) (some (inD (.int a) (xs.map .int)))).bind _ = _
  rw [okIn_ints, inD_ints]
  rfl
theorem o_ninI {a : Int} {xs : List Int} : app2 .notin (.int a) (.lst (xs.map .int)) = some (.fz (.bl (!decide (a ∈ xs)))) := by
  show (guardO (okIn (.int a) (xs.map .int)) (some (inD (.int a) (xs.map .int)))).bind _ = _
  rw [okIn_ints, inD_ints]
  rfl
theorem ixLast {xs : List D} {a : D} : app2 .ix (.lst (xs ++ [a])) (.int (-1)) = some (.fz a) := by
  show (ixN (xs ++ [a]).length (-1)).bind _ = _
  have e : ixN (xs ++ [a]).length (-1) = some xs.length := by
    unfold ixN
    rw [if_neg (by decide), List.length_append, List.length_singleton, if_pos (by omega)]
    congr 1
    omega
  rw [e]
  simp
  rfl
theorem m_putLast {C : Ec} {en en1 en2 : En} {i : Nat} {k e : IE} {r : R} {xs : List D} {a : D} (hc : en.isC i = true) (he : evE C e en = .ok r en1) (hk : evA C [k] (en1.frz r) = .ok [.int (-1)] en2) (h2 : en2.sl[i]? = some (.ow (.lst (xs ++ [a])))) :
    evS C (.put i k e) en = .nx ⟨en2.sl.set i (.ow (.lst (xs ++ [r.d]))), en2.ob⟩ := by
  rw [s_put, if_pos hc, he]
  show putK2 i r (evA C [k] (en1.frz r)) = _
  rw [hk]
  show enK (en2.chg i fun d => putD d (.int (-1)) r.d) = _
  unfold En.chg
  rw [h2]
  have e : ixN (xs ++ [a]).length (-1) = some xs.length := by
    unfold ixN
    rw [if_neg (by decide), List.length_append, List.length_singleton, if_pos (by omega)]
    congr 1
    omega
  show enK (((ixN (xs ++ [a]).length (-1)).map fun k => D.lst ((xs ++ [a]).set k r.d)).map _) = _
  rw [e]
  show Ou.nx ⟨en2.sl.set i (.ow (.lst ((xs ++ [a]).set xs.length r.d))), en2.ob⟩ = _
  rw [List.set_append_right _ _ (Nat.le_refl _), Nat.sub_self]
  rfl
def spL (p : Int × Int) : List Int := [p.1, p.2]
def spK (p : Int × Int) : D := .tup [.int p.1, .int p.2]
theorem map_spK (ps : List (Int × Int)) : ps.map spK = (ps.map spL).map tupK := by
  rw [List.map_map]
  rfl
/-- the program's spans -/
def stepS (acc : List (Int × Int)) (x : Int) : List (Int × Int) := match acc.getLast? with
  | some (s, e) => if e = x then acc.dropLast ++ [(s, x + 1)] else acc ++ [(x, x + 1)]
  | none => acc ++ [(x, x + 1)]
def spansP (xs : List Int) : List (Int × Int) := xs.foldl stepS []
theorem stepS_len {acc : List (Int × Int)} {x : Int} : (stepS acc x).length ≤ acc.length + 1 := by
  unfold stepS
  split
  · split
    · simp only [List.length_append, List.length_dropLast, List.length_singleton]; omega
    · simp
  · simp
theorem foldS_len : ∀ {xs : List Int} {acc : List (Int × Int)}, (xs.foldl stepS acc).length ≤ acc.length + xs.length
  | [], _ => Nat.le_refl _
  | x :: xs, acc => by
    have := foldS_len (xs := xs) (acc := stepS acc x)
    have := stepS_len (acc := acc) (x := x)
    rw [List.foldl_cons, List.length_cons]
    omega
theorem spansP_len {xs : List Int} : (spansP xs).length ≤ xs.length := by
  have := foldS_len (xs := xs) (acc := [])
  unfold spansP
  simpa using this
theorem spansP_snoc {xs : List Int} {x : Int} : spansP (xs ++ [x]) = stepS (spansP xs) x := by
  unfold spansP
  rw [List.foldl_append]
  rfl
/-- the law's spans -/
def endL (xs : List Int) (x : Int) : Int := (List.range 8).foldl (fun s _ => if s ∈ xs then s + 1 else s) x
def spansL (xs : List Int) : List (Int × Int) := (xs.filter fun x => !decide (x - 1 ∈ xs)).map fun x => (x, endL xs x)
def sel (b0 b1 b2 b3 b4 b5 b6 b7 : Bool) : List Int := (([(0, b0), (1, b1), (2, b2), (3, b3), (4, b4), (5, b5), (6, b6), (7, b7)] : List (Int × Bool)).filter (·.2)).map (·.1)
theorem sel_eq (m : Int → Bool) : (rngI 0 8).filter m = sel (m 0) (m 1) (m 2) (m 3) (m 4) (m 5) (m 6) (m 7) := by
  have key : ∀ l : List Int, l.filter m = ((l.map fun x => (x, m x)).filter (·.2)).map (·.1) := fun l => by
    induction l with
    | nil => rfl
    | cons x l ih =>
      rw [List.map_cons, List.filter_cons, List.filter_cons, ih]
      cases m x <;> rfl
  rw [key, show rngI 0 8 = [0, 1, 2, 3, 4, 5, 6, 7] by decide +kernel]
  rfl
theorem spans_sel : ∀ b0 b1 b2 b3 b4 b5 b6 b7 : Bool, spansP (sel b0 b1 b2 b3 b4 b5 b6 b7) = spansL (sel b0 b1 b2 b3 b4 b5 b6 b7) := by decide +kernel
theorem spans_eq (m : Int → Bool) : spansP ((rngI 0 8).filter m) = spansL ((rngI 0 8).filter m) := by
  rw [sel_eq]
  exact spans_sel _ _ _ _ _ _ _ _
/-! ### ascending numbers -/
theorem asc_eq : ∀ {xs ys : List Int}, xs.Pairwise (· < ·) → ys.Pairwise (· < ·) → (∀ a, a ∈ xs ↔ a ∈ ys) → xs = ys
  | [], [], _, _, _ => rfl
  | [], y :: ys, _, _, h => by have := (h y).mpr List.mem_cons_self; cases this
  | x :: xs, [], _, _, h => by have := (h x).mp List.mem_cons_self; cases this
  | x :: xs, y :: ys, hx, hy, h => by
    obtain ⟨x1, x2⟩ := List.pairwise_cons.mp hx
    obtain ⟨y1, y2⟩ := List.pairwise_cons.mp hy
    have e : x = y := by
      rcases List.mem_cons.mp ((h x).mp List.mem_cons_self) with e | e
      · exact e
      · rcases List.mem_cons.mp ((h y).mpr List.mem_cons_self) with f | f
        · exact f.symm
        · have := y1 x e; have := x1 y f; omega
    subst e
    rw [asc_eq x2 y2 fun a => ?_]
    have := h a
    rw [List.mem_cons, List.mem_cons] at this
    constructor
    · intro ha
      rcases this.mp (.inr ha) with e | e
      · have := x1 a ha; omega
      · exact e
    · intro ha
      rcases this.mpr (.inr ha) with e | e
      · have := y1 a ha; omega
      · exact e
theorem rng8_asc : (rngI 0 8).Pairwise (· < ·) := by decide +kernel
theorem mem_rng8 {x : Int} : x ∈ rngI 0 8 ↔ 0 ≤ x ∧ x < 8 := mem_rngI
def c0 (c : List Int) : Int := c.getD 0 0
def c1 (c : List Int) : Int := c.getD 1 0
theorem leI2 {a b c d : Int} (h : leI [a, b] [c, d] = true) : a < c ∨ (a = c ∧ b ≤ d) := by
  unfold leI at h
  split at h
  · exact .inl (by assumption)
  · split at h
    · cases h
    · refine .inr ⟨by omega, ?_⟩
      unfold leI at h
      split at h
      · omega
      · split at h
        · cases h
        · omega
/-- the days of the cells of a recording, the recordings of those of a day -/
theorem slice1 {ks : List (List Int)} (hu : ∀ c ∈ ks, c ∈ univ2) (w : Int) : (((once ks).filter fun c => decide (c1 c = w)).map c0) = (rngI 0 8).filter fun d => decide ([d, w] ∈ once ks) := by
  refine asc_eq ?_ (rng8_asc.filter _) fun a => ?_
  · rw [List.pairwise_map]
    refine ((List.Pairwise.and (once_sorted ks) (once_nodup ks)).filter _).imp_of_mem fun {a b} ha hb h => ?_
    obtain ⟨a1, a2⟩ := List.mem_filter.mp ha
    obtain ⟨b1, b2⟩ := List.mem_filter.mp hb
    obtain ⟨x, y, rfl, _⟩ := mem_univ2.mp (hu a (mem_once.mp a1))
    obtain ⟨x', y', rfl, _⟩ := mem_univ2.mp (hu b (mem_once.mp b1))
    have e1 : y = w := of_decide_eq_true a2
    have e2 : y' = w := of_decide_eq_true b2
    show x < x'
    rcases leI2 h.1 with z | ⟨z, _⟩
    · exact z
    · exact absurd (by rw [z, e1, e2]) h.2
  · rw [List.mem_map, List.mem_filter]
    constructor
    · rintro ⟨c, hc, rfl⟩
      obtain ⟨h1, h2⟩ := List.mem_filter.mp hc
      obtain ⟨x, y, rfl, z⟩ := mem_univ2.mp (hu c (mem_once.mp h1))
      have e1 : y = w := of_decide_eq_true h2
      subst e1
      exact ⟨mem_rng8.mpr ⟨z.1, z.2.1⟩, decide_eq_true h1⟩
    · rintro ⟨_, h⟩
      exact ⟨[a, w], List.mem_filter.mpr ⟨of_decide_eq_true h, decide_eq_true rfl⟩, rfl⟩
theorem slice0 {ks : List (List Int)} (hu : ∀ c ∈ ks, c ∈ univ2) (w : Int) : (((once ks).filter fun c => decide (c0 c = w)).map c1) = (rngI 0 8).filter fun d => decide ([w, d] ∈ once ks) := by
  refine asc_eq ?_ (rng8_asc.filter _) fun a => ?_
  · rw [List.pairwise_map]
    refine ((List.Pairwise.and (once_sorted ks) (once_nodup ks)).filter _).imp_of_mem fun {a b} ha hb h => ?_
    obtain ⟨a1, a2⟩ := List.mem_filter.mp ha
    obtain ⟨b1, b2⟩ := List.mem_filter.mp hb
    obtain ⟨x, y, rfl, _⟩ := mem_univ2.mp (hu a (mem_once.mp a1))
    obtain ⟨x', y', rfl, _⟩ := mem_univ2.mp (hu b (mem_once.mp b1))
    have e1 : x = w := of_decide_eq_true a2
    have e2 : x' = w := of_decide_eq_true b2
    show y < y'
    rcases leI2 h.1 with z | ⟨z1, z2⟩
    · omega
    · have : y ≠ y' := fun e => h.2 (by rw [z1, e])
      omega
  · rw [List.mem_map, List.mem_filter]
    constructor
    · rintro ⟨c, hc, rfl⟩
      obtain ⟨h1, h2⟩ := List.mem_filter.mp hc
      obtain ⟨x, y, rfl, z⟩ := mem_univ2.mp (hu c (mem_once.mp h1))
      have e1 : x = w := of_decide_eq_true h2
      subst e1
      exact ⟨mem_rng8.mpr ⟨z.2.2.1, z.2.2.2⟩, decide_eq_true h1⟩
    · rintro ⟨_, h⟩
      exact ⟨[w, a], List.mem_filter.mpr ⟨of_decide_eq_true h, decide_eq_true rfl⟩, rfl⟩
theorem o_ix0K {c : List Int} (h : c ∈ univ2) : app2 .ix (tupK c) (.int 0) = some (.fz (.int (c0 c))) := by
  obtain ⟨x, y, rfl, _⟩ := mem_univ2.mp h
  exact ixT0
theorem o_ix1K {c : List Int} (h : c ∈ univ2) : app2 .ix (tupK c) (.int 1) = some (.fz (.int (c1 c))) := by
  obtain ⟨x, y, rfl, _⟩ := mem_univ2.mp h
  exact ixT1
theorem filter_len {α : Type} {p : α → Bool} {l : List α} {k : Nat} (h : l.length ≤ k) : (l.filter p).length ≤ k := Nat.le_trans (List.length_filter_le p l) h
/-! ### rows by spans -/
theorem fm_if {α β : Type} (q : α → Bool) (f : α → β) : ∀ l : List α, (l.filter q).map f = l.flatMap fun x => if q x = true then [f x] else []
  | [] => rfl
  | x :: l => by
    rw [List.filter_cons, List.flatMap_cons, ← fm_if q f l]
    cases q x <;> rfl
theorem srt_perm {xs ys : List (List Int)} (h : xs.Perm ys) : srtBy leI xs = srtBy leI ys := srt_one (srtBy_sorted leI_total _) ((srtBy_perm xs).trans h)
theorem firsts_perm {rows : List Row} : (firsts rows).Perm (pairsK rows) := by
  rw [← firsts_srt]
  exact (srtBy_perm _).symm
theorem sel_small : ∀ b0 b1 b2 b3 b4 b5 b6 b7 : Bool, ∀ s ∈ spansP (sel b0 b1 b2 b3 b4 b5 b6 b7), 0 ≤ s.1 ∧ s.1 < s.2 ∧ s.2 ≤ 8 := by decide +kernel
theorem spansP_small (m : Int → Bool) : ∀ s ∈ spansP ((rngI 0 8).filter m), 0 ≤ s.1 ∧ s.1 < s.2 ∧ s.2 ≤ 8 := by
  rw [sel_eq]
  exact sel_small _ _ _ _ _ _ _ _
theorem m_len8 (m : Int → Bool) : ((rngI 0 8).filter m).length ≤ 8 := Nat.le_trans (List.length_filter_le _ _) (by decide)
theorem spl_tupK {ob : List Ob} {p : List Int} : spliceD [true] [tupK p] = some (p.map .int) := splice_tup
theorem splTup {xs : List D} : spliceD [true] [.tup xs] = some xs := splice_tup
theorem pair_ix0 {r : Row} : app2 .ix (tupK r.pair) (.int 0) = some (.fz (.int r.k)) := ixT0
theorem pair_ix1 {r : Row} : app2 .ix (tupK r.pair) (.int 1) = some (.fz (.int r.v)) := ixT1
/-! ### the values at a place -/
abbrev Pl := List (List Int × Int)
def valsAt (pl : Pl) (q : List Int) : List Int := (pl.filter fun p => decide (p.1 = q)).map (·.2)
def keysP (pl : Pl) : List (List Int) := (pl.map (·.1)).foldl addK []
def fP (pl : Pl) (q : List Int) : D := .lst ((onceI (valsAt pl q)).map .int)
def placesR (r : Row) : Pl := r.cells.map fun c => (r.k :: c, r.v)
def places (rows : List Row) : Pl := rows.flatMap placesR
theorem mem_valsAt {pl : Pl} {q : List Int} {v : Int} : v ∈ valsAt pl q ↔ (q, v) ∈ pl := by
  unfold valsAt
  rw [List.mem_map]
  constructor
  · rintro ⟨p, hp, rfl⟩
    obtain ⟨h1, h2⟩ := List.mem_filter.mp hp
    rw [← of_decide_eq_true h2]
    exact h1
  · intro h
    exact ⟨(q, v), List.mem_filter.mpr ⟨h, decide_eq_true rfl⟩, rfl⟩
theorem mem_places {rows : List Row} {q : List Int} {v : Int} : (q, v) ∈ places rows ↔ ∃ r ∈ rows, r.v = v ∧ ∃ c ∈ r.cells, q = r.k :: c := by
  unfold places placesR
  rw [List.mem_flatMap]
  constructor
  · rintro ⟨r, hr, h⟩
    obtain ⟨c, hc, e⟩ := List.mem_map.mp h
    cases e
    exact ⟨r, hr, rfl, c, hc, rfl⟩
  · rintro ⟨r, hr, rfl, c, hc, rfl⟩
    exact ⟨r, hr, List.mem_map.mpr ⟨c, hc, rfl⟩⟩
theorem keysP_snoc {pl : Pl} {p : List Int × Int} : keysP (pl ++ [p]) = addK (keysP pl) p.1 := by
  unfold keysP
  rw [List.map_append, List.foldl_append]
  rfl
theorem mem_keysP {pl : Pl} {q : List Int} : q ∈ keysP pl ↔ ∃ v, (q, v) ∈ pl := by
  unfold keysP
  rw [mem_foldK, List.mem_map]
  constructor
  · rintro (h | ⟨p, hp, rfl⟩)
    · cases h
    · exact ⟨p.2, hp⟩
  · rintro ⟨v, h⟩
    exact .inr ⟨_, h, rfl⟩
theorem keysP_len {pl : Pl} : (keysP pl).length ≤ pl.length := by
  have := foldK_len (ks := pl.map (·.1)) (acc := [])
  rw [List.length_map] at this
  unfold keysP
  simpa using this
theorem getP {pl : Pl} {q : List Int} : (if q ∈ keysP pl then fP pl q else D.lst []) = fP pl q := by
  split
  · rfl
  · rename_i h
    have e : valsAt pl q = [] := List.eq_nil_iff_forall_not_mem.mpr fun v hv => h (mem_keysP.mpr ⟨v, mem_valsAt.mp hv⟩)
    unfold fP
    rw [e]
    rfl
theorem onceI_len {is : List Int} {U : List Int} (h : ∀ x ∈ is, x ∈ U) : (onceI is).length ≤ U.length := by
  have nd : (onceI is).Nodup := (onceI_asc is).imp fun h e => by omega
  have key : ∀ {l m : List Int}, l.Nodup → (∀ x ∈ l, x ∈ m) → l.length ≤ m.length := fun {l} => by
    induction l with
    | nil => exact fun _ _ => Nat.zero_le _
    | cons x l ih =>
      intro m nd h
      obtain ⟨n1, n2⟩ := List.nodup_cons.mp nd
      have hx := h x List.mem_cons_self
      have ih := ih (m := m.erase x) n2 fun y hy => (List.mem_erase_of_ne (fun e : y = x => n1 (by rw [← e]; exact hy))).2 (h y (List.mem_cons_of_mem _ hy))
      have pos := List.length_pos_of_mem hx
      rw [List.length_erase_of_mem hx] at ih
      rw [List.length_cons]
      omega
  exact key nd fun x hx => h x (mem_onceI.mp hx)
/-- few values at each place -/
def Few (rows : List Row) : Prop := ∀ q, ∃ U : List Int, U.length ≤ 60 ∧ ∀ v, (q, v) ∈ places rows → v ∈ U
theorem few_of {rows : List Row} (h : rows.length ≤ 60) : Few rows := fun q => ⟨rows.map Row.v, by rw [List.length_map]; exact h, fun v hv => by
  obtain ⟨r, hr, rfl, _⟩ := mem_places.mp hv
  exact List.mem_map.mpr ⟨r, hr, rfl⟩⟩
theorem few_long : Few (lrows 64) := fun q => ⟨(List.range 8).map fun i : Nat => 8 * (i : Int) + q.getD 1 0, by rw [List.length_map, List.length_range]; decide, fun v hv => by
  obtain ⟨r, hr, rfl, c, hc, rfl⟩ := mem_places.mp hv
  obtain ⟨j, hj, rfl⟩ := List.mem_map.mp hr
  obtain ⟨x, y, rfl, h1, h2, h3, h4⟩ := mem_cellsR.mp hc
  have hj := List.mem_range.mp hj
  refine List.mem_map.mpr ⟨j / 8, List.mem_range.mpr (by omega), ?_⟩
  show 8 * ((j / 8 : Nat) : Int) + x = (j : Int)
  have h1 : (j : Int) % 8 ≤ x := h1
  have h2 : x < (j : Int) % 8 + 1 := h2
  omega⟩
theorem e_tabLong2 {n : Nat} {k m j : Int} {ob : List Ob} {s0 x3 : Sl} {rest : List Sl} (hp : PenB k ob) (m0 : 0 ≤ m := by omega) (m1 : m ≤ 9 := by omega) (hk : k ≤ 999999000 := by omega) :
    ∃ (A : List Row) (ob' : List Ob), evS ⟨evF tbl gl (n + 7), gl⟩ (.set 3 (.ite (.op .gt [(.v 2), (.c (.int 0))]) (.call "_law_table" [(.call "_law_anew" [(.v 1)]), (.c (.int m))]) (.call "_law_long" []))) ⟨s0 :: .fz (.obj 0) :: .fz (.int j) :: x3 :: rest, ob⟩ = .nx ⟨s0 :: .fz (.obj 0) :: .fz (.int j) :: .fz (.tup (A.map Row.d)) :: rest, ob'⟩ ∧ TabOk A ∧ A.length ≤ 64 ∧ PenB (k + 100) ob' ∧ Few A := by
  by_cases hj0 : 0 < j
  · obtain ⟨ob1, e1, p1⟩ := e_anew (n := n + 6) hp
    obtain ⟨A, ob2, e2, hA, lA, p2⟩ := e_ltable (n := n + 2) (m := m) p1 m0 m1 hk
    simp only [tabD] at e2
    refine ⟨A, ob2, ?_, hA, by omega, p2, few_of (by omega)⟩
    ac_rfl
    simp only [hj0, decide_true]
    ac_rfl
    rw [e1]
    ac_rfl
    rw [e2]
    ac_rfl
  · have e2 := e_llong (n := n + 6) (ob := ob)
    simp only [tabD] at e2
    refine ⟨lrows 64, ob, ?_, lrows_ok, by decide, hp.mono (by omega), few_long⟩
    ac_rfl
    simp only [hj0, decide_false]
    ac_rfl
    rw [e2]
    ac_rfl
theorem once_step {pl : Pl} {q : List Int} {v : Int} : onceI (onceI (valsAt pl q) ++ [v]) = onceI (valsAt (pl ++ [(q, v)]) q) := (onceI_of (onceI_asc _) fun x => by
  rw [mem_onceI, List.mem_append, mem_onceI, mem_valsAt, mem_valsAt, List.mem_append]
  simp)
theorem places_len {rows : List Row} (h : TabOk rows) : (places rows).length ≤ rows.length * 64 := len_flatMap fun r hr => by
  unfold placesR
  rw [List.length_map]
  exact Row.cells_len (h r hr)
theorem e_array {n : Nat} {rows : List Row} {ob : List Ob} (h : TabOk rows) (hl : rows.length ≤ 1000) (hf : Few rows) : evF tbl gl (n + 2) "_law_array" [tabD rows] ob = .ok (.ow (dicK (keysP (places rows)) (fP (places rows)))) ob := by
  have pln := places_len h
  obtain ⟨e', g1, x2, x3, x4, rfl⟩ := for_inv (body := bodyOf ⟨evF tbl gl (n + 1), gl⟩ L__law_array_1) (t := .n 2)
    (fun j e => ∃ x2 x3 x4, e = ⟨[.fz (.tup (rows.map Row.d)), .ow (dicK (keysP (places (rows.take j))) (fP (places (rows.take j)))), x2, x3, x4], ob⟩) (rows.map Row.d) (en := ⟨[.fz (.tup (rows.map Row.d)), .ow (dicK [] (fP [])), .un, .un, .un], ob⟩) ⟨_, _, _, rfl⟩ (by
      rintro j x e hj ⟨x2, x3, x4, rfl⟩
      rw [List.getElem?_map] at hj
      obtain ⟨r, hr, rfl⟩ := Option.map_eq_some_iff.mp hj
      have rm := List.mem_of_getElem? hr
      have ec := e_lcells (n := n) (ob := ob) (h r rm)
      have lr := Row.cells_len (h r rm)
      have es : places (rows.take (j + 1)) = places (rows.take j) ++ placesR r := by
        rw [take_snoc hr]
        unfold places
        rw [List.flatMap_append, List.flatMap_cons, List.flatMap_nil, List.append_nil]
      have sub : ∀ p ∈ places (rows.take j), p ∈ places rows := fun p hp => by
        obtain ⟨a, ha, h2⟩ := List.mem_flatMap.mp hp
        exact List.mem_flatMap.mpr ⟨a, List.mem_of_mem_take ha, h2⟩
      have sub2 : ∀ p ∈ placesR r, p ∈ places rows := fun p hp => List.mem_flatMap.mpr ⟨r, rm, hp⟩
      have lp : (places (rows.take j)).length ≤ 64000 := by
        have := places_len (rows := rows.take j) (fun q hq => h q (List.mem_of_mem_take hq))
        rw [List.length_take] at this
        omega
      rw [es]
      generalize places (rows.take j) = pre at *
      obtain ⟨e', g2, x3', x4', rfl⟩ := for_inv (body := bodyOf ⟨evF tbl gl (n + 1), gl⟩ L__law_array_0) (t := .n 3)
        (fun i e => ∃ x3 x4, e = ⟨[.fz (.tup (rows.map Row.d)), .ow (dicK (keysP (pre ++ (placesR r).take i)) (fP (pre ++ (placesR r).take i))), .fz r.d, x3, x4], ob⟩) (r.cells.map tupK) (en := ⟨[.fz (.tup (rows.map Row.d)), .ow (dicK (keysP pre) (fP pre)), .fz r.d, x3, x4], ob⟩) ⟨x3, x4, by rw [List.take_zero, List.append_nil]⟩ (by
          rintro i x e hi ⟨x3, x4, rfl⟩
          rw [List.getElem?_map] at hi
          obtain ⟨c, hc, rfl⟩ := Option.map_eq_some_iff.mp hi
          have cm := List.mem_of_getElem? hc
          have hp : (placesR r)[i]? = some (r.k :: c, r.v) := by unfold placesR; rw [List.getElem?_map, hc]; rfl
          rw [take_snoc hp, ← List.append_assoc]
          have sub3 : ∀ p ∈ pre ++ (placesR r).take i, p ∈ places rows := fun p hp => (List.mem_append.mp hp).elim (sub p) fun z => sub2 p (List.mem_of_mem_take z)
          have ll : (pre ++ (placesR r).take i).length ≤ 65000 := by
            rw [List.length_append, List.length_take]
            unfold placesR
            rw [List.length_map]
            omega
          generalize pre ++ (placesR r).take i = pl at *
          obtain ⟨U, hU, hU2⟩ := hf (r.k :: c)
          have lo := onceI_len (is := valsAt pl (r.k :: c)) (U := U) fun v hv => hU2 v (sub3 _ (mem_valsAt.mp hv))
          have E : dicK (addK (keysP pl) (r.k :: c)) (updK (fP pl) (r.k :: c) (fP (pl ++ [(r.k :: c, r.v)]) (r.k :: c))) = dicK (keysP (pl ++ [(r.k :: c, r.v)])) (fP (pl ++ [(r.k :: c, r.v)])) := by
            rw [keysP_snoc]
            refine dicK_congr fun p hp => ?_
            unfold updK
            by_cases e : p = r.k :: c
            · rw [if_pos e, e]
            · rw [if_neg e]
              unfold fP valsAt
              rw [List.filter_append, List.filter_cons, if_neg (by rw [decide_eq_true_eq]; exact fun z => e z.symm), List.filter_nil, List.append_nil]
          have kx : evE ⟨evF tbl gl (n + 1), gl⟩ (.op .add [(.disp true [false] [(.op .ix [(.v 2), (.c (.int 0))])]), (.v 3)]) ⟨[.fz (.tup (rows.map Row.d)), .ow (dicK (keysP pl) (fP pl)), .fz r.d, .fz (tupK c), x4], ob⟩ = .ok (.fz (tupK (r.k :: c))) ⟨[.fz (.tup (rows.map Row.d)), .ow (dicK (keysP pl) (fP pl)), .fz r.d, .fz (tupK c), x4], ob⟩ := by
            rw [show r.d = .tup [.int r.k, .int r.v, .int r.s, .int r.e, .int r.u, .int r.w] from rfl]
            obtain ⟨x, y, rfl, _⟩ := mem_cellsR.mp cm
            rw [show tupK [x, y] = .tup [.int x, .int y] from rfl]
            ac_rfl
            rfl
          unfold L__law_array_0
          rw [turn_n, body_of, ss_cons, s_set, r_dget, r_v]
          show Goes (seqS _ _ (setK 4 (dgK1 _ _ _ (.ok (.rf 1 (dicK (keysP pl) (fP pl))) _)))) _
          rw [dgK1_ok]
          show Goes (seqS _ _ (setK 4 (dgK2 _ _ _ (evE _ _ ⟨[.fz (.tup (rows.map Row.d)), .ow (dicK (keysP pl) (fP pl)), .fz r.d, .fz (tupK c), x4], ob⟩)))) _
          rw [kx]
          ac_rfl
          rw [o_getK, getP, show fP pl (r.k :: c) = .lst ((onceI (valsAt pl (r.k :: c))).map .int) from rfl]
          ac_rfl
          rw [m_putK (r := .ow (fP (pl ++ [(r.k :: c, r.v)]) (r.k :: c))) (q := r.k :: c) (ps := keysP pl) (f := fP pl) (en1 := ⟨[.fz (.tup (rows.map Row.d)), .ow (dicK (keysP pl) (fP pl)), .fz r.d, .fz (tupK c), .fz (.lst ((onceI (valsAt pl (r.k :: c))).map .int))], ob⟩) (en2 := ⟨[.fz (.tup (rows.map Row.d)), .ow (dicK (keysP pl) (fP pl)), .fz r.d, .fz (tupK c), .fz (.lst ((onceI (valsAt pl (r.k :: c))).map .int))], ob⟩) rfl (by
              rw [show r.d = .tup [.int r.k, .int r.v, .int r.s, .int r.e, .int r.u, .int r.w] from rfl]
              ac_rfl
              rw [o_addL (by rw [List.length_map]; simp only [List.length_cons, List.length_nil]; omega), show (onceI (valsAt pl (r.k :: c))).map D.int ++ [.int r.v] = (onceI (valsAt pl (r.k :: c)) ++ [r.v]).map .int by rw [List.map_append]; rfl]
              ac_rfl
              rw [o_setI (by rw [List.length_append]; simp only [List.length_cons, List.length_nil]; omega), once_step]
              ac_rfl
              rfl) (by
              rw [a_cons]
              have kx2 : evE ⟨evF tbl gl (n + 1), gl⟩ (.op .add [(.disp true [false] [(.op .ix [(.v 2), (.c (.int 0))])]), (.v 3)]) ⟨[.fz (.tup (rows.map Row.d)), .ow (dicK (keysP pl) (fP pl)), .fz r.d, .fz (tupK c), .fz (.lst ((onceI (valsAt pl (r.k :: c))).map .int))], ob⟩ = .ok (.fz (tupK (r.k :: c))) ⟨[.fz (.tup (rows.map Row.d)), .ow (dicK (keysP pl) (fP pl)), .fz r.d, .fz (tupK c), .fz (.lst ((onceI (valsAt pl (r.k :: c))).map .int))], ob⟩ := by
                rw [show r.d = .tup [.int r.k, .int r.v, .int r.s, .int r.e, .int r.u, .int r.w] from rfl]
                obtain ⟨x, y, rfl, _⟩ := mem_cellsR.mp cm
                rw [show tupK [x, y] = .tup [.int x, .int y] from rfl]
                ac_rfl
                rfl
              rw [fe_ow, kx2]
              ac_rfl) rfl (by have := keysP_len (pl := pl); omega)]
          rw [← E]
          exact .nx ⟨_, _, rfl⟩)
      rw [show (r.cells.map tupK).length = (placesR r).length by unfold placesR; rw [List.length_map, List.length_map], List.take_length] at g2
      unfold L__law_array_1
      rw [turn_n, body_of, ss_one, s_for, x_cons, r_call, x_cons, r_v]
      show Goes (forK _ _ _ _ (xrgK _ _ (callK _ _ (.ok [r.d] ⟨[.fz (.tup (rows.map Row.d)), .ow (dicK (keysP pre) (fP pre)), .fz r.d, x3, x4], ob⟩)))) _
      show Goes (forK _ _ _ _ (xrgK _ _ ((evF tbl gl (n + 1) "_law_cells" [r.d] ob).rs _))) _
      rw [ec]
      ac_rfl
      rw [show ∀ xs : List D, walk .it [.lst xs] = some xs from fun _ => rfl]
      ac_rfl
      rw [g2]
      exact .nx ⟨_, _, _, rfl⟩)
  rw [List.length_map, List.take_length] at g1
  rw [u__law_array]
  simp only [tabD]
  rw [ss_cons, s_set, r_op, a_nil]
  rw [show opK .dnew (Rs.ok [] ⟨[.fz (.tup (rows.map Row.d)), .un, .un, .un, .un], ob⟩) = .ok (.ow (dicK [] (fP []))) ⟨[.fz (.tup (rows.map Row.d)), .un, .un, .un, .un], ob⟩ from rfl]
  ac_rfl
  rw [show walk .it [.tup (rows.map Row.d)] = some (rows.map Row.d) from rfl]
  ac_rfl
  rw [g1]
  ac_rfl
/-- the program's values -/
def valsK (rows : List Row) (k x y : Int) : List Int := onceI (valsAt (places rows) [k, x, y])
theorem vals_eq {rows : List Row} (h : TabOk rows) {k x y : Int} : ((pairsK rows).filter fun p => decide (c0 p = k) && decide ([x, y] ∈ fieldK rows p)).map c1 = valsK rows k x y := by
  refine onceI_of ?_ fun v => ?_
  · rw [List.pairwise_map]
    refine ((List.Pairwise.and (once_sorted (rows.map Row.pair)) (once_nodup (rows.map Row.pair))).filter _).imp_of_mem fun {a b} ha hb h => ?_
    obtain ⟨a1, a2⟩ := List.mem_filter.mp ha
    obtain ⟨b1, b2⟩ := List.mem_filter.mp hb
    obtain ⟨r, _, rfl⟩ := mem_pairsK.mp a1
    obtain ⟨r', _, rfl⟩ := mem_pairsK.mp b1
    rw [Bool.and_eq_true] at a2 b2
    have e1 : r.k = k := of_decide_eq_true a2.1
    have e2 : r'.k = k := of_decide_eq_true b2.1
    show r.v < r'.v
    rcases leI2 h.1 with z | ⟨z1, z2⟩
    · omega
    · have : r.v ≠ r'.v := fun e => h.2 (by unfold Row.pair; rw [z1, e])
      omega
  · rw [List.mem_map, mem_valsAt, mem_places]
    constructor
    · rintro ⟨p, hp, rfl⟩
      obtain ⟨h1, h2⟩ := List.mem_filter.mp hp
      rw [Bool.and_eq_true] at h2
      obtain ⟨r, hr, e, hc⟩ := mem_cellsOf.mp (mem_once.mp (of_decide_eq_true h2.2))
      subst e
      have e1 : r.k = k := of_decide_eq_true h2.1
      exact ⟨r, hr, rfl, [x, y], hc, by rw [e1]⟩
    · rintro ⟨r, hr, rfl, c, hc, e⟩
      cases e
      exact ⟨r.pair, List.mem_filter.mpr ⟨mem_pairsK.mpr ⟨r, hr, rfl⟩, by rw [Bool.and_eq_true]; exact ⟨decide_eq_true rfl, decide_eq_true (mem_once.mpr (mem_cellsOf.mpr ⟨r, hr, rfl, hc⟩))⟩⟩, rfl⟩
theorem o_inTK {a : List Int} {ks : List (List Int)} : app2 .isin (tupK a) (.tup (ks.map tupK)) = some (.fz (.bl (decide (a ∈ ks)))) := by
  show (guardO (okIn (tupK a) (ks.map tupK)) (some (inD (tupK a) (ks.map tupK)))).bind _ = _
  rw [okIn_keys, inD_keys]
  rfl
theorem e_values {n : Nat} {rows : List Row} {k x y : Int} {ob : List Ob} (h : TabOk rows) (hl : rows.length ≤ 1000) : evF tbl gl (n + 3) "find_values" [tabD rows, .int k, .tup [.int x, .int y]] ob = .ok (.fz (tupK (valsK rows k x y))) ob := by
  have ep := e_fpairs (n := n + 1) (ob := ob) hl
  have lp := pairsK_len (rows := rows)
  rw [u_find_values]
  simp only [tabD] at ep ⊢
  ac_rfl
  rw [comp_filter (as := pairsK rows) (emb := tupK) (fun p => decide (c0 p = k) && decide ([x, y] ∈ fieldK rows p)) (fun p => .int (c1 p)) (ds := [.lst ((pairsK rows).map tupK)]) (en1 := ⟨[.fz (.tup (rows.map Row.d)), .fz (.int k), .fz (.tup [.int x, .int y]), .un], ob⟩) (by
      ac_rfl
      rw [ep]
      ac_rfl) rfl rfl rfl (by omega) fun p hp => by
        obtain ⟨r, hr, rfl⟩ := mem_pairsK.mp hp
        have ef := e_field (n := n) (ob := ob) (p := r.pair) h hl
        simp only [tabD] at ef
        exact ⟨[.fz (.tup (rows.map Row.d)), .fz (.int k), .fz (.tup [.int x, .int y]), .fz (tupK r.pair)], rfl, rfl, rfl, by
          rw [c_some]
          ac_rfl
          rw [pair_ix0]
          ac_rfl
          by_cases hk : r.k = k
          · rw [show decide (c0 r.pair = k) = true from decide_eq_true hk]
            simp only [hk, if_true]
            rw [ef]
            ac_rfl
            rw [show D.tup [.int x, .int y] = tupK [x, y] from rfl, o_inTK]
            ac_rfl
            rw [Bool.true_and]
          · rw [show decide (c0 r.pair = k) = false from decide_eq_false hk]
            simp only [hk, if_false]
            rfl, fun _ => ⟨.fz (.int (c1 r.pair)), by
            ac_rfl
            rw [pair_ix1]
            ac_rfl
            rfl, rfl, rfl⟩⟩]
  ac_rfl
  rw [show ∀ l : List (List Int), l.map (fun p => D.int (c1 p)) = (l.map c1).map .int from fun l => by rw [List.map_map]; rfl, vals_eq h]
  rfl
/-! ### turned -/
def item44 (T : List Row) (a b k d : Int) : List D := if valsK T k d a = valsK T k d b then [] else [.tup [.int k, .int d, tupK (valsK T k d a), tupK (valsK T k d b)]]
def due44 (T : List Row) (a b : Int) : List D := (rngI 0 4).flatMap fun k => (rngI 0 8).flatMap (item44 T a b k)
theorem item44_len {T : List Row} {a b k d : Int} : (item44 T a b k d).length ≤ 1 := by
  unfold item44
  split <;> simp
theorem row44_len {T : List Row} {a b k : Int} : ((rngI 0 8).flatMap (item44 T a b k)).length ≤ 8 := by
  have := len_flatMap (as := rngI 0 8) (f := item44 T a b k) (b := 1) fun d _ => item44_len
  rw [rngI_len] at this
  exact this
theorem due44_len {T : List Row} {a b : Int} : (due44 T a b).length ≤ 32 := by
  have := len_flatMap (as := rngI 0 4) (f := fun k => (rngI 0 8).flatMap (item44 T a b k)) (b := 8) fun k _ => row44_len
  rw [rngI_len] at this
  exact this
theorem valsK_small {T : List Row} (hT : TabOk T) (hf : Few T) {k x y : Int} : (valsK T k x y).length ≤ 60 ∧ ∀ v ∈ valsK T k x y, v.natAbs < 10 ^ 40 := by
  obtain ⟨U, hU, h2⟩ := hf [k, x, y]
  refine ⟨Nat.le_trans (onceI_len fun v hv => h2 v (mem_valsAt.mp hv)) hU, fun v hv => ?_⟩
  obtain ⟨r, hr, rfl, _⟩ := mem_places.mp (mem_valsAt.mp (mem_onceI.mp hv))
  have := (hT r hr).v0; have := (hT r hr).v1
  omega
theorem sz_key {a : List Int} (h : a.length ≤ 60) : sz (tupK a) ≤ 2600 := by
  have := szs_ints a
  show szs (a.map .int) + 4 ≤ 2600
  omega
theorem due44_shown {T : List Row} {a b : Int} (hT : TabOk T) (hf : Few T) : app1 .repr (.lst (due44 T a b)) = some (.fz (.str (shown (.lst (due44 T a b))))) := by
  have mem : ∀ z ∈ due44 T a b, ∃ k d, z = .tup [.int k, .int d, tupK (valsK T k d a), tupK (valsK T k d b)] ∧ 0 ≤ k ∧ k < 4 ∧ 0 ≤ d ∧ d < 8 := fun z hz => by
    obtain ⟨k, hk, hz⟩ := List.mem_flatMap.mp hz
    obtain ⟨d, hd, hz⟩ := List.mem_flatMap.mp hz
    unfold item44 at hz
    split at hz
    · cases hz
    · have := mem_rngI.mp hk; have := mem_rngI.mp hd
      exact ⟨k, d, List.mem_singleton.mp hz, by omega⟩
  refine repr_go (ok40s_of fun z hz => ?_) ?_ ?_
  · obtain ⟨k, d, rfl, h⟩ := mem z hz
    have o1 : ok40 (tupK (valsK T k d a)) = true := ok40_key (B := 0) (valsK_small hT hf).2
    have o2 : ok40 (tupK (valsK T k d b)) = true := ok40_key (B := 0) (valsK_small hT hf).2
    have o3 : ok40 (.int k) = true := decide_eq_true (by omega)
    have o4 : ok40 (.int d) = true := decide_eq_true (by omega)
    show (ok40 (.int k) && (ok40 (.int d) && (ok40 (tupK (valsK T k d a)) && (ok40 (tupK (valsK T k d b)) && true)))) = true
    rw [o1, o2, o3, o4]
    rfl
  · show depths (due44 T a b) + 1 ≤ 60
    have := depths_le (k := 2) (xs := due44 T a b) fun z hz => by
      obtain ⟨k, d, rfl, h⟩ := mem z hz
      show max 0 (max 0 (max (depths ((valsK T k d a).map .int) + 1) (max (depths ((valsK T k d b).map .int) + 1) 0))) + 1 ≤ 2
      rw [depth_intsD, depth_intsD]
      decide
    omega
  · have := szs_le (k := 6000) (xs := due44 T a b) fun z hz => by
      obtain ⟨k, d, rfl, h⟩ := mem z hz
      have s1 := sz_key (valsK_small hT hf (k := k) (x := d) (y := a)).1
      have s2 := sz_key (valsK_small hT hf (k := k) (x := d) (y := b)).1
      show (41 + 2 + (41 + 2 + (sz (tupK (valsK T k d a)) + 2 + (sz (tupK (valsK T k d b)) + 2 + 0)))) + 4 ≤ 6000
      omega
    have := due44_len (T := T) (a := a) (b := b)
    show szs (due44 T a b) + 4 ≤ _
    omega
theorem e_rrec {n : Nat} {w : Int} {ob : List Ob} (w0 : 0 ≤ w) (w1 : w < 8) : evF tbl gl (n + 3) "require_recording" [.int w] ob = .ok (.fz .non) ob := by
  rw [u_require_recording]
  ac_rfl
  rw [g_TIMES]
  ac_rfl
  rw [e_btw w0 (by omega)]
  ac_rfl
theorem v_turned {n : Nat} {T : List Row} {a b : Int} {ob : List Ob} (hT : TabOk T) (hl : T.length ≤ 1000) (a0 : 0 ≤ a) (a1 : a < 8) (b0 : 0 ≤ b) (b1 : b < 8) : evF tbl gl (n + 7) "turned" [tabD T, .int a, .int b] ob = .ok (.ow (.lst (due44 T a b))) ob := by
  have e1 := e_reqt (n := n) (ob := ob) hT (by omega)
  obtain ⟨e', g1, x4, x5, x6, x7, rfl⟩ := for_cat (body := bodyOf ⟨evF tbl gl (n + 6), gl⟩ L_turned_1) (t := .n 4)
    (fun acc e => ∃ x4 x5 x6 x7, e = ⟨[.fz (.tup (T.map Row.d)), .fz (.int a), .fz (.int b), .ow (.lst acc), x4, x5, x6, x7], ob⟩) (fun k => (rngI 0 8).flatMap (item44 T a b k)) .int 32 (as := rngI 0 4) (en := ⟨[.fz (.tup (T.map Row.d)), .fz (.int a), .fz (.int b), .ow (.lst []), .un, .un, .un, .un], ob⟩) due44_len ⟨_, _, _, _, rfl⟩ (by
      rintro k hk acc e hl2 ⟨x4, x5, x6, x7, rfl⟩
      obtain ⟨e', g2, y5, y6, y7, rfl⟩ := for_cat (body := bodyOf ⟨evF tbl gl (n + 6), gl⟩ L_turned_0) (t := .n 5)
        (fun ac2 e => ∃ x5 x6 x7, e = ⟨[.fz (.tup (T.map Row.d)), .fz (.int a), .fz (.int b), .ow (.lst (acc ++ ac2)), .fz (.int k), x5, x6, x7], ob⟩) (item44 T a b k) .int 8 (as := rngI 0 8) (en := ⟨[.fz (.tup (T.map Row.d)), .fz (.int a), .fz (.int b), .ow (.lst acc), .fz (.int k), x5, x6, x7], ob⟩) row44_len ⟨x5, x6, x7, by rw [List.append_nil]⟩ (by
          rintro d hd ac2 e hl3 ⟨x5, x6, x7, rfl⟩
          have v1 := e_values (n := n + 3) (ob := ob) (k := k) (x := d) (y := a) hT hl
          have v2 := e_values (n := n + 3) (ob := ob) (k := k) (x := d) (y := b) hT hl
          simp only [tabD] at v1 v2
          unfold L_turned_0
          ac_rfl
          rw [v1]
          ac_rfl
          rw [v2]
          ac_rfl
          rw [o_neK]
          by_cases he : valsK T k d a = valsK T k d b
          · rw [show item44 T a b k d = [] from if_pos he]
            simp only [he, decide_true]
            ac_rfl
            exact .nx ⟨_, _, _, rfl⟩
          · rw [show item44 T a b k d = [.tup [.int k, .int d, tupK (valsK T k d a), tupK (valsK T k d b)]] from if_neg he] at hl3 ⊢
            simp only [he, decide_false]
            ac_rfl
            rw [m_app (xs := acc ++ ac2) (r := .fz (.tup [.int k, .int d, tupK (valsK T k d a), tupK (valsK T k d b)])) (en1 := ⟨[.fz (.tup (T.map Row.d)), .fz (.int a), .fz (.int b), .ow (.lst (acc ++ ac2)), .fz (.int k), .fz (.int d), .fz (tupK (valsK T k d a)), .fz (tupK (valsK T k d b))], ob⟩) rfl (by ac_rfl) rfl (by rw [List.length_append]; omega)]
            refine .nx ⟨.fz (.int d), .fz (tupK (valsK T k d a)), .fz (tupK (valsK T k d b)), ?_⟩
            rw [← List.append_assoc]
            rfl)
      unfold L_turned_1
      ac_rfl
      rw [g_TIMES]
      ac_rfl
      rw [walk_r1 (by decide) (by decide)]
      ac_rfl
      rw [g2]
      exact .nx ⟨_, _, _, _, rfl⟩)
  rw [u_turned]
  simp only [tabD] at e1 ⊢
  ac_rfl
  rw [e1]
  ac_rfl
  rw [e_rrec (n := n + 3) a0 a1]
  ac_rfl
  rw [e_rrec (n := n + 3) b0 b1]
  ac_rfl
  rw [g_KEYS]
  ac_rfl
  rw [walk_r1 (by decide) (by decide)]
  ac_rfl
  rw [g1]
  ac_rfl
  rfl
/-! ### the law -/
theorem t_due44 {n : Nat} {T : List Row} {a b : Int} {ob : List Ob} {s0 s1 s2 s5 x9 x10 x11 x12 x13 : Sl} :
    ∃ y9 y10 y11 y12, evFor (bodyOf ⟨evF tbl gl n, gl⟩ L_law_1) (.n 9) ((rngI 0 4).map .int) ⟨[s0, s1, s2, .fz (.tup (T.map Row.d)), .ow (dicK (keysP (places T)) (fP (places T))), s5, .fz (.int a), .fz (.int b), .ow (.lst []), x9, x10, x11, x12, x13], ob⟩ =
      .nx ⟨[s0, s1, s2, .fz (.tup (T.map Row.d)), .ow (dicK (keysP (places T)) (fP (places T))), s5, .fz (.int a), .fz (.int b), .ow (.lst (due44 T a b)), y9, y10, y11, y12, x13], ob⟩ := by
  obtain ⟨e', g1, y9, y10, y11, y12, rfl⟩ := for_cat (body := bodyOf ⟨evF tbl gl n, gl⟩ L_law_1) (t := .n 9)
    (fun acc e => ∃ y9 y10 y11 y12, e = ⟨[s0, s1, s2, .fz (.tup (T.map Row.d)), .ow (dicK (keysP (places T)) (fP (places T))), s5, .fz (.int a), .fz (.int b), .ow (.lst acc), y9, y10, y11, y12, x13], ob⟩) (fun k => (rngI 0 8).flatMap (item44 T a b k)) .int 32 (as := rngI 0 4) (en := ⟨[s0, s1, s2, .fz (.tup (T.map Row.d)), .ow (dicK (keysP (places T)) (fP (places T))), s5, .fz (.int a), .fz (.int b), .ow (.lst []), x9, x10, x11, x12, x13], ob⟩) due44_len ⟨_, _, _, _, rfl⟩ (by
      rintro k hk acc e hl2 ⟨y9, y10, y11, y12, rfl⟩
      obtain ⟨e', g2, z10, z11, z12, rfl⟩ := for_cat (body := bodyOf ⟨evF tbl gl n, gl⟩ L_law_0) (t := .n 10)
        (fun ac2 e => ∃ y10 y11 y12, e = ⟨[s0, s1, s2, .fz (.tup (T.map Row.d)), .ow (dicK (keysP (places T)) (fP (places T))), s5, .fz (.int a), .fz (.int b), .ow (.lst (acc ++ ac2)), .fz (.int k), y10, y11, y12, x13], ob⟩) (item44 T a b k) .int 8 (as := rngI 0 8) (en := ⟨[s0, s1, s2, .fz (.tup (T.map Row.d)), .ow (dicK (keysP (places T)) (fP (places T))), s5, .fz (.int a), .fz (.int b), .ow (.lst acc), .fz (.int k), y10, y11, y12, x13], ob⟩) row44_len ⟨y10, y11, y12, by rw [List.append_nil]⟩ (by
          rintro d hd ac2 e hl3 ⟨y10, y11, y12, rfl⟩
          unfold L_law_0
          ac_rfl
          rw [show D.tup [.int k, .int d, .int a] = tupK [k, d, a] from rfl, o_getK, getP, show fP (places T) [k, d, a] = .lst ((valsK T k d a).map .int) from rfl]
          ac_rfl
          rw [show D.tup ((valsK T k d a).map .int) = tupK (valsK T k d a) from rfl]
          ac_rfl
          rw [show D.tup [.int k, .int d, .int b] = tupK [k, d, b] from rfl, o_getK, getP, show fP (places T) [k, d, b] = .lst ((valsK T k d b).map .int) from rfl]
          ac_rfl
          rw [show D.tup ((valsK T k d b).map .int) = tupK (valsK T k d b) from rfl]
          ac_rfl
          rw [o_neK]
          by_cases he : valsK T k d a = valsK T k d b
          · rw [show item44 T a b k d = [] from if_pos he]
            simp only [he, decide_true]
            ac_rfl
            exact .nx ⟨_, _, _, rfl⟩
          · rw [show item44 T a b k d = [.tup [.int k, .int d, tupK (valsK T k d a), tupK (valsK T k d b)]] from if_neg he] at hl3 ⊢
            simp only [he, decide_false]
            ac_rfl
            rw [m_app (xs := acc ++ ac2) (r := .fz (.tup [.int k, .int d, tupK (valsK T k d a), tupK (valsK T k d b)])) (en1 := ⟨[s0, s1, s2, .fz (.tup (T.map Row.d)), .ow (dicK (keysP (places T)) (fP (places T))), s5, .fz (.int a), .fz (.int b), .ow (.lst (acc ++ ac2)), .fz (.int k), .fz (.int d), .fz (tupK (valsK T k d a)), .fz (tupK (valsK T k d b)), x13], ob⟩) rfl (by ac_rfl) rfl (by rw [List.length_append]; omega)]
            refine .nx ⟨.fz (.int d), .fz (tupK (valsK T k d a)), .fz (tupK (valsK T k d b)), ?_⟩
            rw [← List.append_assoc]
            rfl)
      unfold L_law_1
      ac_rfl
      rw [walk_r1 (by decide) (by decide)]
      ac_rfl
      rw [g2]
      exact .nx ⟨_, _, _, _, rfl⟩)
  exact ⟨_, _, _, _, g1⟩
theorem t_step44 {n : Nat} {T : List Row} {k : Int} {j : Nat} {ob : List Ob} {s0 s2 x6 x7 x8 x9 x10 x11 x12 x13 : Sl} (hT : TabOk T) (hl : T.length ≤ 1000) (hf : Few T) (hp : PenB k ob) (hk : k ≤ 100000) :
    ∃ y6 y7 y8 y9 y10 y11 y12 y13 ob', evSs ⟨evF tbl gl (n + 7), gl⟩ L_law_2 ⟨[s0, .fz (.obj 0), s2, .fz (.tup (T.map Row.d)), .ow (dicK (keysP (places T)) (fP (places T))), .fz (.int j), x6, x7, x8, x9, x10, x11, x12, x13], ob⟩ =
      .nx ⟨[s0, .fz (.obj 0), s2, .fz (.tup (T.map Row.d)), .ow (dicK (keysP (places T)) (fP (places T))), .fz (.int j), y6, y7, y8, y9, y10, y11, y12, y13], ob'⟩ ∧ PenB (k + 10) ob' := by
  obtain ⟨a, ob1, e1, a0, a1, p1⟩ := e_take (n := n + 5) (m := 8) hp
  obtain ⟨b, ob2, e2, b0, b1, p2⟩ := e_take (n := n + 5) (m := 8) p1
  obtain ⟨y9, y10, y11, y12, g1⟩ := t_due44 (n := n + 7) (T := T) (a := a) (b := b) (ob := ob2) (s0 := s0) (s1 := .fz (.obj 0)) (s2 := s2) (s5 := .fz (.int j)) (x9 := x9) (x10 := x10) (x11 := x11) (x12 := x12) (x13 := x13)
  have d2 := v_turned (n := n) (ob := ob2) hT hl a0 a1 b0 b1
  have rp := due44_shown (a := a) (b := b) hT hf
  have ll := due44_len (T := T) (a := a) (b := b)
  simp only [tabD] at d2
  refine ⟨.fz (.int a), .fz (.int b), .ow (.lst (due44 T a b)), y9, y10, y11, y12, .ow (.lst (due44 T a b ++ [.int 7])), ob2, ?_, p2.mono (by omega)⟩
  have tst : evT ⟨evF tbl gl (n + 7), gl⟩ (.and (.op .eq [(.v 5), (.c (.int 0))]) (.op .ne [(.op .repr [(.call "turned" [(.v 3), (.v 6), (.v 7)])]), (.op .repr [(.v 8)])])) ⟨[s0, .fz (.obj 0), s2, .fz (.tup (T.map Row.d)), .ow (dicK (keysP (places T)) (fP (places T))), .fz (.int j), .fz (.int a), .fz (.int b), .ow (.lst (due44 T a b)), y9, y10, y11, y12, .ow (.lst (due44 T a b ++ [.int 7]))], ob2⟩ =
      .ok false ⟨[s0, .fz (.obj 0), s2, .fz (.tup (T.map Row.d)), .ow (dicK (keysP (places T)) (fP (places T))), .fz (.int j), .fz (.int a), .fz (.int b), .ow (.lst (due44 T a b)), y9, y10, y11, y12, .ow (.lst (due44 T a b ++ [.int 7]))], ob2⟩ := by
    ac_rfl
    by_cases hj : (j : Int) = 0
    · simp only [hj, if_true]
      rw [d2]
      ac_rfl
      rw [rp]
      ac_rfl
      rw [rp]
      ac_rfl
      rw [o_neStr]
      ac_rfl
    · simp only [hj, if_false]
  unfold L_law_2
  ac_rfl
  rw [e1]
  ac_rfl
  rw [e2]
  ac_rfl
  rw [walk_r1 (by decide) (by decide)]
  ac_rfl
  rw [g1]
  ac_rfl
  rw [d2]
  ac_rfl
  rw [rp]
  ac_rfl
  rw [rp]
  ac_rfl
  rw [o_neStr]
  ac_rfl
  rw [m_app (xs := due44 T a b) (r := .fz (.int 7)) (en1 := ⟨[s0, .fz (.obj 0), s2, .fz (.tup (T.map Row.d)), .ow (dicK (keysP (places T)) (fP (places T))), .fz (.int j), .fz (.int a), .fz (.int b), .ow (.lst (due44 T a b)), y9, y10, y11, y12, .ow (.lst (due44 T a b))], ob2⟩) rfl (by ac_rfl) rfl (by omega)]
  show seqS _ _ (.nx ⟨[s0, .fz (.obj 0), s2, .fz (.tup (T.map Row.d)), .ow (dicK (keysP (places T)) (fP (places T))), .fz (.int j), .fz (.int a), .fz (.int b), .ow (.lst (due44 T a b)), y9, y10, y11, y12, .ow (.lst (due44 T a b ++ [.int 7]))], ob2⟩) = _
  rw [sq_nx, ss_one, s_ite, tst]
  ac_rfl
theorem v_law {n : Nat} {ns : List Int} (hl : ns.length ≤ 63) : ∃ ob, evF tbl gl (n + 8) "law" [.frl (ns.map .int)] [] = .ok (.fz (.bl true)) ob := by
  obtain ⟨c, e0⟩ := e_open (n := n + 6) hl
  obtain ⟨e', h1, x2, x3, x4, x5, x6, x7, x8, x9, x10, x11, x12, x13, ob, rfl, hp⟩ := for_inv (body := bodyOf ⟨evF tbl gl (n + 7), gl⟩ L_law_3) (t := .n 2)
    (fun j e => ∃ (x2 x3 x4 x5 x6 x7 x8 x9 x10 x11 x12 x13 : Sl) (ob : List Ob), e = ⟨[.fz (.frl (ns.map .int)), .fz (.obj 0), x2, x3, x4, x5, x6, x7, x8, x9, x10, x11, x12, x13], ob⟩ ∧ PenB (1000 * j) ob)
    ((List.range 8).map fun k : Nat => D.int k) (en := ⟨[.fz (.frl (ns.map .int)), .fz (.obj 0), .un, .un, .un, .un, .un, .un, .un, .un, .un, .un, .un, .un], [.con (pen c 0 0)]⟩) ⟨_, _, _, _, _, _, _, _, _, _, _, _, _, rfl, pen0.mono (by omega)⟩ (by
      rintro j x e hj ⟨x2, x3, x4, x5, x6, x7, x8, x9, x10, x11, x12, x13, ob, rfl, hp⟩
      have jl := (List.getElem?_eq_some_iff.mp hj).1
      rw [List.length_map, List.length_range] at jl
      rw [List.getElem?_map, List.getElem?_range jl] at hj
      cases hj
      obtain ⟨A, ob2, e2, hA, lA, p2, hf⟩ := e_tabLong2 (n := n) (m := 7) (j := j) (s0 := .fz (.frl (ns.map .int))) (x3 := x3) (rest := [x4, x5, x6, x7, x8, x9, x10, x11, x12, x13]) hp
      have e3 := e_array (n := n + 5) (ob := ob2) hA (by omega) hf
      simp only [tabD] at e3
      obtain ⟨e', h1, y5, y6, y7, y8, y9, y10, y11, y12, y13, ob3, rfl, p3⟩ := for_inv (body := bodyOf ⟨evF tbl gl (n + 7), gl⟩ L_law_2) (t := .n 5)
        (fun i e => ∃ (x5 x6 x7 x8 x9 x10 x11 x12 x13 : Sl) (ob : List Ob), e = ⟨[.fz (.frl (ns.map .int)), .fz (.obj 0), .fz (.int j), .fz (.tup (A.map Row.d)), .ow (dicK (keysP (places A)) (fP (places A))), x5, x6, x7, x8, x9, x10, x11, x12, x13], ob⟩ ∧ PenB (1000 * j + 100 + 10 * i) ob) ((List.range 4).map fun k : Nat => D.int k) (en := ⟨[.fz (.frl (ns.map .int)), .fz (.obj 0), .fz (.int j), .fz (.tup (A.map Row.d)), .ow (dicK (keysP (places A)) (fP (places A))), x5, x6, x7, x8, x9, x10, x11, x12, x13], ob2⟩) ⟨_, _, _, _, _, _, _, _, _, _, rfl, p2.mono (by omega)⟩ (by
          rintro i x e hi ⟨x5, x6, x7, x8, x9, x10, x11, x12, x13, ob4, rfl, p4⟩
          have il := (List.getElem?_eq_some_iff.mp hi).1
          rw [List.length_map, List.length_range] at il
          rw [List.getElem?_map, List.getElem?_range il] at hi
          cases hi
          obtain ⟨z6, z7, z8, z9, z10, z11, z12, z13, ob5, e5, p5⟩ := t_step44 (n := n) (T := A) (j := i) (s0 := .fz (.frl (ns.map .int))) (s2 := .fz (.int j)) (x6 := x6) (x7 := x7) (x8 := x8) (x9 := x9) (x10 := x10) (x11 := x11) (x12 := x12) (x13 := x13) hA (by omega) hf p4 (by omega)
          exact ⟨_, .inl e5, _, _, _, _, _, _, _, _, _, _, rfl, p5.mono (by omega)⟩)
      unfold L_law_3
      rw [turn_n, body_of, ss_cons, show (⟨([.fz (.frl (ns.map .int)), .fz (.obj 0), x2, x3, x4, x5, x6, x7, x8, x9, x10, x11, x12, x13] : List Sl).set 2 (.fz (.int j)), ob⟩ : En) = ⟨.fz (.frl (ns.map .int)) :: .fz (.obj 0) :: .fz (.int j) :: x3 :: [x4, x5, x6, x7, x8, x9, x10, x11, x12, x13], ob⟩ from rfl, e2]
      ac_rfl
      rw [e3]
      ac_rfl
      rw [show walk .range [.int 4] = some ((List.range 4).map fun k : Nat => D.int k) by kernel_rfl]
      ac_rfl
      rw [h1]
      refine .nx ⟨_, _, _, _, _, _, _, _, _, _, _, _, _, rfl, p3.mono ?_⟩
      rw [List.length_map, List.length_range]
      omega)
  have g2 := v_turned (n := n) (ob := ob) (T := []) (a := 0) (b := 7) (fun r hr => (by cases hr)) (by decide) (by decide) (by decide) (by decide) (by decide)
  rw [show due44 [] 0 7 = [] by
    unfold due44
    refine List.flatMap_eq_nil_iff.mpr fun k _ => List.flatMap_eq_nil_iff.mpr fun d _ => if_pos rfl] at g2
  simp only [tabD] at g2
  refine ⟨ob, ?_⟩
  rw [u_law]
  ac_rfl
  rw [e0]
  ac_rfl
  rw [show walk .range [.int 8] = some ((List.range 8).map fun k : Nat => D.int k) by kernel_rfl]
  ac_rfl
  rw [h1]
  ac_rfl
  rw [show D.tup [] = .tup (([] : List Row).map Row.d) from rfl, g2]
  ac_rfl
  rfl
theorem go (ns : List Int) (hl : ns.length ≤ 63) : runF tbl gl 40 "law" [.frl (ns.map .int)] [] (fun r _ => r = .fz (.bl true)) (fun _ _ => False) := by
  obtain ⟨ob, e⟩ := v_law (n := 32) hl
  refine evF_ok tbl gl 40 _ _ _ _ _ ?_
  rw [e]
  rfl
end Tk

set_option maxRecDepth 100000
set_option maxHeartbeats 2000000
namespace Tk
open PySem PySem.Spec PyProof.Rows L2
/-! ### the head -/
def loose : List Str := (["TimeError", "InvalidTable", "InvalidRecording", "is_integer", "is_between", "TIMES", "KEYS", "is_key", "is_row_value", "is_span", "is_row", "is_table", "find_cells", "require_table", "require_recording", "find_pairs", "find_field", "find_values", "turned", "_law_spread", "_law_open", "_law_take", "_law_anew", "_law_one", "_law_span", "_law_row", "_law_table", "_law_cells", "_law_array", "_law_long"] : List Str)
def fa : List He.Fa := ([.glo "_law_anew", .glo "_law_cells", .glo "_law_array", .glo "_law_long", .glo "_law_open", .glo "_law_spread", .glo "_law_take", .glo "_law_one", .glo "_law_span", .glo "_law_row", .glo "_law_table", .glo "find_cells", .glo "find_field", .glo "find_pairs", .glo "find_values", .glo "is_integer", .glo "is_between", .glo "require_recording", .glo "is_key", .glo "is_row_value"] : List He.Fa) ++ ([.glo "is_span", .glo "is_row", .glo "is_table", .glo "require_table", .glo "turned", .glo "law", .free "len", .free "tuple", .free "list", .free "repr", .free "int", .free "sum", .free "min", .free "max", .free "all", .free "any", .free "abs", .free "isinstance", .free "bool", .free "str"] : List He.Fa) ++ ([.free "range", .free "enumerate", .free "sorted", .free "set", .int "KEYS" 4, .int "TIMES" 8] : List He.Fa)
def fnl : List He.DefD := ([d__law_anew, d__law_cells, d__law_array, d__law_long, d__law_open, d__law_spread, d__law_take, d__law_one, d__law_span, d__law_row, d__law_table, d_find_cells, d_find_field, d_find_pairs, d_find_values, d_is_integer, d_is_between, d_require_recording, d_is_key, d_is_row_value] : List He.DefD) ++ ([d_is_span, d_is_row, d_is_table, d_require_table, d_turned, d_law] : List He.DefD)
abbrev RR : PySem.W.OpenRow := PySem.W.OpenLaw.row PySem.Challenge.rw_timekeys_k44_differences_of_recordings
abbrev hk : PySem.W.Hook := He.hookD 4 fa fnl
def obs (s : PySem.W.SharedT) : He.AlD := He.obsDG 4 fa fnl (HandSHeadRun.getT s)
theorem obs_eq (s : PySem.W.SharedT) : obs s = hk.obs s.abs := He.obsDG_eq (HandSHeadRun.getT_eq s)
theorem top_run (w : World) : HandSHeadRun.RunEq RR (PySem.W.view RR.prog [36]) hk obs 5950 loose w := by
  intro os
  kernel_rfl
theorem facts {P : Program} {w : World} {K : PySem.W.Frag} {h : Heap} {mg : Str → Option Value} (X : K.In h) (G : h.Ns mainGlobals mg) (c : He.SaysD fa fnl K) (base : Heap) (n : Nat) : CalOk P w K mg base n (runF tbl gl n) fs := by
  refine cal_of (sh := sh) (fun x hx => ?_) ?_ (fun f hf => ?_) n
  · simp only [bltNames, List.mem_cons, List.not_mem_nil, or_false] at hx
    rcases hx with rfl | rfl | rfl | rfl | rfl | rfl | rfl | rfl | rfl | rfl | rfl | rfl | rfl | rfl | rfl | rfl | rfl | rfl
    · exact He.free_ok X G (c.fact 26 rfl)
    · exact He.free_ok X G (c.fact 27 rfl)
    · exact He.free_ok X G (c.fact 28 rfl)
    · exact He.free_ok X G (c.fact 29 rfl)
    · exact He.free_ok X G (c.fact 30 rfl)
    · exact He.free_ok X G (c.fact 31 rfl)
    · exact He.free_ok X G (c.fact 32 rfl)
    · exact He.free_ok X G (c.fact 33 rfl)
    · exact He.free_ok X G (c.fact 34 rfl)
    · exact He.free_ok X G (c.fact 35 rfl)
    · exact He.free_ok X G (c.fact 36 rfl)
    · exact He.free_ok X G (c.fact 37 rfl)
    · exact He.free_ok X G (c.fact 38 rfl)
    · exact He.free_ok X G (c.fact 39 rfl)
    · exact He.free_ok X G (c.fact 40 rfl)
    · exact He.free_ok X G (c.fact 41 rfl)
    · exact He.free_ok X G (c.fact 42 rfl)
    · exact He.free_ok X G (c.fact 43 rfl)
  · intro x d e
    unfold gl at e
    split at e
    · rename_i hb
      cases e
      cases eq_of_beq hb
      obtain ⟨t, ht⟩ := He.int_ok X G (c.fact 44 rfl)
      exact ⟨_, .int 4, ht, ⟨t, rfl⟩, fun _ _ => rfl⟩
    split at e
    · rename_i hb
      cases e
      cases eq_of_beq hb
      obtain ⟨t, ht⟩ := He.int_ok X G (c.fact 45 rfl)
      exact ⟨_, .int 8, ht, ⟨t, rfl⟩, fun _ _ => rfl⟩
    · cases e
  · simp only [fs, List.cons_append, List.nil_append, List.mem_cons, List.not_mem_nil, or_false] at hf
    rcases hf with rfl | rfl | rfl | rfl | rfl | rfl | rfl | rfl | rfl | rfl | rfl | rfl | rfl | rfl | rfl | rfl | rfl | rfl | rfl | rfl | rfl | rfl | rfl | rfl | rfl | rfl
    · exact ⟨e__law_anew, rfl, k__law_anew, t__law_anew, He.glo_ok X G (c.fact 0 rfl), c.def_ 0 rfl⟩
    · exact ⟨e__law_cells, rfl, k__law_cells, t__law_cells, He.glo_ok X G (c.fact 1 rfl), c.def_ 1 rfl⟩
    · exact ⟨e__law_array, rfl, k__law_array, t__law_array, He.glo_ok X G (c.fact 2 rfl), c.def_ 2 rfl⟩
    · exact ⟨e__law_long, rfl, k__law_long, t__law_long, He.glo_ok X G (c.fact 3 rfl), c.def_ 3 rfl⟩
    · exact ⟨e__law_open, rfl, k__law_open, t__law_open, He.glo_ok X G (c.fact 4 rfl), c.def_ 4 rfl⟩
    · exact ⟨e__law_spread, rfl, k__law_spread, t__law_spread, He.glo_ok X G (c.fact 5 rfl), c.def_ 5 rfl⟩
    · exact ⟨e__law_take, rfl, k__law_take, t__law_take, He.glo_ok X G (c.fact 6 rfl), c.def_ 6 rfl⟩
    · exact ⟨e__law_one, rfl, k__law_one, t__law_one, He.glo_ok X G (c.fact 7 rfl), c.def_ 7 rfl⟩
    · exact ⟨e__law_span, rfl, k__law_span, t__law_span, He.glo_ok X G (c.fact 8 rfl), c.def_ 8 rfl⟩
    · exact ⟨e__law_row, rfl, k__law_row, t__law_row, He.glo_ok X G (c.fact 9 rfl), c.def_ 9 rfl⟩
    · exact ⟨e__law_table, rfl, k__law_table, t__law_table, He.glo_ok X G (c.fact 10 rfl), c.def_ 10 rfl⟩
    · exact ⟨e_find_cells, rfl, k_find_cells, t_find_cells, He.glo_ok X G (c.fact 11 rfl), c.def_ 11 rfl⟩
    · exact ⟨e_find_field, rfl, k_find_field, t_find_field, He.glo_ok X G (c.fact 12 rfl), c.def_ 12 rfl⟩
    · exact ⟨e_find_pairs, rfl, k_find_pairs, t_find_pairs, He.glo_ok X G (c.fact 13 rfl), c.def_ 13 rfl⟩
    · exact ⟨e_find_values, rfl, k_find_values, t_find_values, He.glo_ok X G (c.fact 14 rfl), c.def_ 14 rfl⟩
    · exact ⟨e_is_integer, rfl, k_is_integer, t_is_integer, He.glo_ok X G (c.fact 15 rfl), c.def_ 15 rfl⟩
    · exact ⟨e_is_between, rfl, k_is_between, t_is_between, He.glo_ok X G (c.fact 16 rfl), c.def_ 16 rfl⟩
    · exact ⟨e_require_recording, rfl, k_require_recording, t_require_recording, He.glo_ok X G (c.fact 17 rfl), c.def_ 17 rfl⟩
    · exact ⟨e_is_key, rfl, k_is_key, t_is_key, He.glo_ok X G (c.fact 18 rfl), c.def_ 18 rfl⟩
    · exact ⟨e_is_row_value, rfl, k_is_row_value, t_is_row_value, He.glo_ok X G (c.fact 19 rfl), c.def_ 19 rfl⟩
    · exact ⟨e_is_span, rfl, k_is_span, t_is_span, He.glo_ok X G (c.fact 20 rfl), c.def_ 20 rfl⟩
    · exact ⟨e_is_row, rfl, k_is_row, t_is_row, He.glo_ok X G (c.fact 21 rfl), c.def_ 21 rfl⟩
    · exact ⟨e_is_table, rfl, k_is_table, t_is_table, He.glo_ok X G (c.fact 22 rfl), c.def_ 22 rfl⟩
    · exact ⟨e_require_table, rfl, k_require_table, t_require_table, He.glo_ok X G (c.fact 23 rfl), c.def_ 23 rfl⟩
    · exact ⟨e_turned, rfl, k_turned, t_turned, He.glo_ok X G (c.fact 24 rfl), c.def_ 24 rfl⟩
    · exact ⟨e_law, rfl, k_law, t_law, He.glo_ok X G (c.fact 25 rfl), c.def_ 25 rfl⟩
end Tk
open PySem PySem.W PySem.Calls PyProof.Rows
theorem PySem.Challenge.cw_timekeys_k44_differences_of_recordings_holds : PySem.Challenge.rw_timekeys_k44_differences_of_recordings.Holds := by
  w_on; o_law
  refine HandSHeadRun.head_any (r := Tk.RR) (q := view Tk.RR.prog [36]) (H := Tk.hk) (ob := Tk.obs) (M := 5950) (loose := Tk.loose) (d := HandSHeadRun.topDef Tk.RR.prog 36) (kwd := []) Tk.obs_eq
    (by kernel_rfl) (fun s => by kernel_rfl) Tk.top_run (by kernel_rfl) (by kernel_rfl) (by kernel_rfl) (by rfl) (by first | assumption | decide +kernel) (by decide +kernel) ⟨rfl, rfl, rfl, rfl, rfl, by decide +kernel⟩ ?hw ?hc
  case hw => w_witness2
  case hc =>
    refine Tk.walk_tk (l := PySem.Challenge.rw_timekeys_k44_differences_of_recordings) (n := 63) (k := 40) rfl (by decide) (by kernel_rfl) ⟨rfl, by decide, by decide⟩ fun w mg h Y G => ?_
    obtain ⟨K, KX, c⟩ := Y
    have e : (HandSHeadRun.topDef Tk.RR.prog 36).name = ("law" : PySem.Str) := by kernel_rfl
    refine ⟨K, Tk.runF Tk.tbl Tk.gl 40, Tk.fs, KX, ?_, ?_, fun base _ _ => Tk.facts KX G c base 40⟩
    · rw [e]; decide +kernel
    · rw [e]; exact Tk.go

