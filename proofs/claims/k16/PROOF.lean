import PyProof.Rows.All
import Wide.All
import OpenK.AllK
import Wide.FinOn
import HandS.ForMost
import HandS.WordsExc
import HandS.Wide
import HandS.Lambda
import HandS.ExcValue
import HandS.ExcInit
import HandS.Style
import HandS.TupAny
import HandS.TupMul
import HandS.TupLe
import HandS.Iter
import HandS.Deep
import HandS.Text
import HandS.Walk
import HandS.Comp
import KE.GoesEnum
import HandS.Small
import HandS.Flow
import HandS.SortInts
import HandS.TupSets
import KE.DatumOrd
import KE.KDictZip
import HandS.Dict
import HandS.IsInst
import HandS.Conv
import HandS.Zip
import KE.KDictWalk
import HandS.ListItems
import HandS.Defaults
import KE.KExcSuper
import KE.KSuper
import HandS.ExcField
import HandS.TryMany
import HandS.ExcIs
import HandS.HeadEnd
import HandS.HeadHook1
import HandS.HeadHook2
import HandS.HeadHook3
import HandS.HeadHook4
import PySem.Challenge.RW_milesuntold_k16_errors_and_their_classes
import KE.KStateDown
import HandS.Head0
import HandS.Head1
import HandS.Head2
set_option Elab.async false
set_option linter.all false
set_option maxRecDepth 100000
/-! MiniA: a small pure language: data, store, expressions, statements and what they compute. -/
namespace MN
open PySem

abbrev Key := Sum Int Str

/-! ### data -/
inductive D where
  | non | bl (b : Bool) | int (i : Int) | str (x : Str)
  | tup (w : Bool) (xs : List D) | lst (xs : List D)
  | dk (ks : List Key) (vs : List D)
  | dt (ks : List (List Key)) (vs : List D)
  | ref (n : Nat)
  | scr (xs : List Int)
  | glo (x : Str)
  | exn (x f : Str) (i : Int)

/-- what stands in the store -/
inductive MO where
  | lst (xs : List D)
  | dk (ks : List Key) (vs : List D)
  | dt (ks : List (List Key)) (vs : List D)
  | dead

abbrev Store := List MO
/-- an error: its class, its field -/
structure Ex where
  c : Str
  f : Option (Str × D)

inductive R (α : Type) where
  | ok (a : α) (st : Store)
  | err (x : Ex) (st : Store)
  | bad
abbrev M (α : Type) := Store → R α
@[reducible] def M.ret {α : Type} (a : α) : M α := fun st => .ok a st
@[reducible] def M.bad {α : Type} : M α := fun _ => .bad
def M.bnd {α β : Type} (x : M α) (f : α → M β) : M β := fun st => match x st with
  | .ok a st' => f a st'
  | .err e st' => .err e st'
  | .bad => .bad
def ofO {α : Type} (o : Option α) : M α := fun st => match o with
  | some a => .ok a st
  | none => .bad

abbrev Env := List (Option D)

def sizeOk (n : Nat) : Bool := decide (n ≤ 16000000)
/-! ### equal, as Python says -/
mutual
def eqD (a b : D) : Bool := match a with
  | .non => match b with
    | .non => true
    | _ => false
  | .bl x => match b with
    | .bl y => x == y
    | .int j => decide ((if x then 1 else 0) = j)
    | _ => false
  | .int i => match b with
    | .bl y => decide (i = (if y then 1 else 0))
    | .int j => decide (i = j)
    | _ => false
  | .str x => match b with
    | .str y => decide (x = y)
    | _ => false
  | .tup _ xs => match b with
    | .tup _ ys => eqDs xs ys
    | _ => false
  | .lst xs => match b with
    | .lst ys => eqDs xs ys
    | _ => false
  | _ => false
termination_by structural a
def eqDs (as bs : List D) : Bool := match as with
  | [] => match bs with
    | [] => true
    | _ => false
  | x :: xs => match bs with
    | y :: ys => eqD x y && eqDs xs ys
    | _ => false
termination_by structural as
end
mutual
/-- plain data: at most so deep -/
def shp (n : Nat) (d : D) : Bool := match d with
  | .non => true
  | .bl _ => true
  | .int _ => true
  | .str x => PyData.strOk x
  | .tup _ xs => decide (0 < n) && (sizeOk xs.length && shps (n - 1) xs)
  | .lst xs => decide (0 < n) && (sizeOk xs.length && shps (n - 1) xs)
  | _ => false
termination_by structural d
def shps (n : Nat) (ds : List D) : Bool := match ds with
  | [] => true
  | d :: ds => shp n d && shps n ds
termination_by structural ds
end

/-- what a readable list holds -/
def listAt (st : Store) : D → Option (List D)
  | .lst xs => some xs
  | .ref n => match st[n]? with
    | some (.lst xs) => some xs
    | _ => none
  | _ => none
def seqAt (st : Store) (d : D) : Option (List D) := match d with
  | .tup _ xs => some xs
  | d => listAt st d
/-- a list that is read -/
def rdAt (st : Store) (d : D) : D := match d with
  | .ref n => match st[n]? with
    | some (.lst xs) => .lst xs
    | _ => d
  | d => d
def dkAt (st : Store) : D → Option (List Key × List D)
  | .dk ks vs => some (ks, vs)
  | .ref n => match st[n]? with
    | some (.dk ks vs) => some (ks, vs)
    | _ => none
  | _ => none
def dtAt (st : Store) : D → Option (List (List Key) × List D)
  | .dt ks vs => some (ks, vs)
  | .ref n => match st[n]? with
    | some (.dt ks vs) => some (ks, vs)
    | _ => none
  | _ => none

def keyOf : D → Option Key
  | .int i => some (.inl i)
  | .str x => some (.inr x)
  | _ => none
def keysOf : List D → Option (List Key)
  | [] => some []
  | d :: ds => match keyOf d, keysOf ds with
    | some k, some ks => some (k :: ks)
    | _, _ => none
def tkeyOf : D → Option (List Key)
  | .tup false xs => keysOf xs
  | _ => none
def keyD : Key → D
  | .inl i => .int i
  | .inr x => .str x
section
variable {κ : Type} [DecidableEq κ]
def getKV : List κ → List D → κ → Option D
  | k :: ks, v :: vs, x => if k = x then some v else getKV ks vs x
  | _, _, _ => none
def repKV : List κ → List D → κ → D → List D
  | k :: ks, v :: vs, x, y => (if k = x then y else v) :: repKV ks vs x y
  | _, _, _, _ => []
/-- d[k] = v: in its place, or behind -/
def putKV (ks : List κ) (vs : List D) (x : κ) (y : D) : List κ × List D :=
  if (ks.any fun k => decide (k = x)) = true then (ks, repKV ks vs x y) else (ks ++ [x], vs ++ [y])
def putAllKV : List κ → List D → List κ → List D → List κ × List D
  | ks, vs, x :: xs, y :: ys => let r := putKV ks vs x y; putAllKV r.1 r.2 xs ys
  | ks, vs, _, _ => (ks, vs)
end

def intsOf : List D → Option (List Int)
  | [] => some []
  | .int i :: ds => (intsOf ds).map (i :: ·)
  | _ :: _ => none
def blsOf : List D → Option (List Bool)
  | [] => some []
  | .bl b :: ds => (blsOf ds).map (b :: ·)
  | _ :: _ => none

/-! ### operators -/
def mulOk (i j : Int) : Bool := decide (i.natAbs.log2 + j.natAbs.log2 < 1000000)
def divOk (j : Int) : Bool := decide (0 < j) && decide (j.natAbs.log2 < 9000)
def powOk (i j : Int) : Bool := decide (0 ≤ j) && (decide (j ≤ 1000000) && decide (i.natAbs < 2 ^ 64))

def binO (op : Operator) (a b : D) (st : Store) : Option D := match op with
  | .Add => match a, b with
    | .int i, .int j => some (.int (i + j))
    | .bl b, .int j => some (.int ((if b then 1 else 0) + j))
    | .str x, .str y => if sizeOk (x.length + y.length) then some (.str (x ++ y)) else none
    | .tup w xs, .tup u ys => if sizeOk (xs.length + ys.length) then some (.tup (w || u) (xs ++ ys)) else none
    | a, b => match listAt st a, listAt st b with
      | some xs, some ys => if sizeOk (xs.length + ys.length) then some (.lst (xs ++ ys)) else none
      | _, _ => none
  | .Sub => match a, b with
    | .int i, .int j => some (.int (i - j))
    | .bl b, .int j => some (.int ((if b then 1 else 0) - j))
    | _, _ => none
  | .Mult => match a, b with
    | .int i, .int j => if mulOk i j then some (.int (i * j)) else none
    | .tup w xs, .int j => if decide (2 ≤ j) && (decide (j ≤ 1000) && (decide (0 < xs.length) && decide (xs.length ≤ 1000))) then some (.tup w (List.replicate j.toNat xs).flatten) else none
    | .str x, .int j => if decide (2 ≤ j) && (decide (j ≤ 1000) && (decide (0 < x.length) && decide (x.length ≤ 1000))) then some (.str ⟨(List.replicate j.toNat x.cps).foldl (· ++ ·) #[]⟩) else none
    | .lst xs, .int j => if decide (0 ≤ j) && (decide (j < 100000) && sizeOk (xs.length * j.toNat)) then some (.lst (List.replicate j.toNat xs).flatten) else none
    | _, _ => none
  | .FloorDiv => match a, b with
    | .int i, .int j => if divOk j then some (.int (i / j)) else none
    | _, _ => none
  | .Mod => match a, b with
    | .int i, .int j => if decide (0 < j) then some (.int (i % j)) else none
    | _, _ => none
  | .Pow => match a, b with
    | .int i, .int j => if powOk i j then some (.int (i ^ j.toNat)) else none
    | _, _ => none
  | _ => none
def negO : D → Option D
  | .int i => some (.int (-i))
  | .bl b => some (.int (-(if b then 1 else 0)))
  | _ => none

/-- the order of lists of ints -/
def leI : List Int → List Int → Bool
  | [], _ => true
  | _ :: _, [] => false
  | x :: xs, y :: ys => if x = y then leI xs ys else decide (x < y)

def eqO (st : Store) (a b : D) : Option Bool := if shp 50 (rdAt st a) && shp 50 (rdAt st b) then some (eqD (rdAt st a) (rdAt st b)) else none
def flatD : D → Bool
  | .non => true
  | .bl _ => true
  | .int _ => true
  | .str _ => true
  | _ => false
def inO (st : Store) (a b : D) : Option Bool := match dkAt st b with
  | some (ks, _) => (keyOf a).map fun k => ks.any fun x => decide (x = k)
  | none => match seqAt st b with
    | some xs => if flatD a && xs.all flatD then some (xs.any fun x => eqD x a) else
        if shp 50 a && (shps 49 xs && sizeOk xs.length) then some (xs.any fun z => eqD z a) else none
    | none => none
def cmpO (op : CmpOp) (a b : D) (st : Store) : Option Bool := match op with
  | .Eq => eqO st a b
  | .NotEq => (eqO st a b).map (!·)
  | .Lt => match a, b with
    | .int i, .int j => some (decide (i < j))
    | .str x, .str y => some (decide (x.cps.toList < y.cps.toList))
    | _, _ => none
  | .LtE => match a, b with
    | .int i, .int j => some (decide (i ≤ j))
    | .tup _ xs, .tup _ ys => match intsOf xs, intsOf ys with
      | some ns, some ms => some (leI ns ms)
      | _, _ => none
    | _, _ => none
  | .Gt => match a, b with
    | .int i, .int j => some (decide (j < i))
    | _, _ => none
  | .GtE => match a, b with
    | .int i, .int j => some (decide (j ≤ i))
    | .str x, .str y => some (!decide (x.cps.toList < y.cps.toList))
    | _, _ => none
  | .In => match b with
    | .str z => match a with
      | .str x => match x.cps.toList with
        | [c] => some (decide (c ∈ z.cps.toList))
        | _ => none
      | _ => none
    | b => inO st a b
  | .NotIn => (inO st a b).map (!·)
  | .Is => match b with
    | .non => match a with
      | .non => some true
      | .bl _ => some false
      | .int _ => some false
      | .str _ => some false
      | .tup _ _ => some false
      | .lst _ => some false
      | .dk _ _ => some false
      | .dt _ _ => some false
      | _ => none
    | .bl y => match a with
      | .bl x => some (decide (x = y))
      | _ => none
    | _ => none
  | .IsNot => match b with
    | .non => match a with
      | .non => some false
      | .bl _ => some true
      | .int _ => some true
      | .str _ => some true
      | .tup _ _ => some true
      | .lst _ => some true
      | .dk _ _ => some true
      | .dt _ _ => some true
      | _ => none
    | .bl y => match a with
      | .bl x => some (!decide (x = y))
      | _ => none
    | _ => none

/-- truth, where a value stands as a test -/
def truO (st : Store) (d : D) : Option Bool := match d with
  | .bl b => some b
  | _ => none

def idxR (a i : D) (st : Store) : Option D := match seqAt st a with
  | some xs => match i with
    | .int i => L2.atI xs i
    | _ => none
  | none => match dkAt st a with
    | some r => match keyOf i with
      | some k => getKV r.1 r.2 k
      | none => none
    | none => match dtAt st a with
      | some r => match tkeyOf i with
        | some k => getKV r.1 r.2 k
        | none => none
      | none => none
def idxO (a i : D) (st : Store) : Option D := match a with
  | .scr ns => match i with
    | .int i => (L2.atI ns i).map .int
    | _ => none
  | .str x => match i with
    | .int i => if sizeOk x.length then (L2.atI x.cps.toList i).map fun c => .str ⟨#[c]⟩ else none
    | _ => none
  | a => idxR a i st
def cutL {α : Type} (xs : List α) (lo hi : Option Int) : List α := (xs.drop (HT.sIx xs.length 0 lo)).take (HT.sIx xs.length xs.length hi - HT.sIx xs.length 0 lo)
def slcO (a : D) (lo hi : Option Int) (st : Store) : Option D := match a with
  | .tup w xs => some (.tup w (cutL xs lo hi))
  | .str x => if sizeOk x.length then some (.str ⟨(cutL x.cps.toList lo hi).toArray⟩) else none
  | a => (listAt st a).map fun xs => .lst (cutL xs lo hi)
def revO (a : D) (st : Store) : Option D := match a with
  | .tup w xs => some (.tup w xs.reverse)
  | a => (listAt st a).map fun xs => .lst xs.reverse

end MN
set_option Elab.async false
set_option linter.all false
set_option maxRecDepth 100000
/-! MiniB: expressions, statements, what they compute. -/
namespace MN
open PySem

inductive C where
  | non | bl (b : Bool) | int (i : Int) | str (x : Str)
  deriving DecidableEq
def C.d : C → D
  | .non => .non
  | .bl b => .bl b
  | .int i => .int i
  | .str x => .str x
/-- what a loop stores to -/
inductive Tg where
  | name (i : Nat) | tup (ts : List Tg)
/-- how a loop goes over something -/
inductive IK where
  | seq | items | range1 | range2 | zip | enum
  deriving DecidableEq
/-- built-in functions -/
inductive B where
  | len | abs | int | bool | strI | isTup | isInt | isBool | isStr | isLst | sorted | all | any | sum | max2 | min2 | maxL | minL
  | tupOf | lstOf | tupRange1 | tupRange2 | lstRange1 | lstRange2 | dictK | dictT | dictZipT | lenSet | lstEnum | lstItems
  deriving DecidableEq
/-- methods of built-in types -/
inductive Mt where
  | get2 | append | index | count | upper | split | join
  deriving DecidableEq

inductive E where
  | var (i : Nat)
  | cst (c : C)
  | glo (x : Str)
  | bin (op : Operator) (a b : E)
  | neg (a : E)
  | cmp (op : CmpOp) (a b : E)
  | chn (op op' : CmpOp) (a b c : E)
  | and (a b : E)
  | or (a b : E)
  | not (a : E)
  | ite (c a b : E)
  | tup (es : List E)
  | lst (es : List E)
  | dnew (tupleKeys : Bool)
  | disp (k v : E)
  | idx (a i : E)
  | slc (a : E) (lo hi : Option E)
  | rev (a : E)
  | fn (f : Str) (es : List E)
  | bi (b : B) (es : List E)
  | mth (m : Mt) (o : E) (es : List E)
  | comp (own : List Nat) (tg : Tg) (k : IK) (src : List E) (test : Option E) (elt : E)
  | mu (e : E)
  | nev
  | notV (a : E)
  | lamc (f g : Str) (es : List E)
  | newx (x f : Str) (e : E)
  | isx (e : E) (x : Str)
  | fldx (e : E) (f : Str)

def wipeE (σ : Env) : List Nat → Env
  | [] => σ
  | v :: vs => (wipeE σ vs).set v none

mutual
/-- a target takes a value -/
def bindT (t : Tg) (d : D) (σ : Env) : Option Env := match t with
  | .name i => some (σ.set i (some d))
  | .tup ts => match d with
    | .tup _ ds => bindTs ts ds σ
    | _ => none
termination_by structural t
def bindTs (ts : List Tg) (ds : List D) (σ : Env) : Option Env := match ts with
  | [] => match ds with
    | [] => some σ
    | _ => none
  | t :: ts => match ds with
    | d :: ds => match bindT t d σ with
      | some σ' => bindTs ts ds σ'
      | none => none
    | _ => none
termination_by structural ts
end

def rangeD (lo hi : Int) : List D := (List.range (hi - lo).toNat).map fun i => .int (lo + (i : Nat))
def rangeOk (lo hi : Int) : Bool := decide (-1000000 ≤ lo) && (decide (lo ≤ 1000000) && (decide (-1000000 ≤ hi) && decide (hi ≤ 1000000)))
def zipD : List D → List D → List D
  | x :: xs, y :: ys => .tup false [x, y] :: zipD xs ys
  | _, _ => []
def enumD (i : Nat) : List D → List D
  | [] => []
  | x :: xs => .tup false [.int (i : Nat), x] :: enumD (i + 1) xs
/-- a list, a tuple that never changes -/
def frzSeq : D → Option (List D)
  | .tup _ xs => some xs
  | .lst xs => some xs
  | _ => none
/-- what a loop goes over -/
def iterO (k : IK) (ds : List D) : Option (List D) := match k with
  | .seq => match ds with
    | [.tup _ xs] => some xs
    | [.lst xs] => some xs
    | [.dk ks _] => some (ks.map keyD)
    | [.dt ks _] => some (ks.map fun k => .tup false (k.map keyD))
    | [.str x] => some (x.cps.toList.map fun c => .str ⟨#[c]⟩)
    | _ => none
  | .items => match ds with
    | [.dk ks vs] => some (zipD (ks.map keyD) vs)
    | _ => none
  | .range1 => match ds with
    | [.int n] => if rangeOk 0 n then some (rangeD 0 n) else none
    | _ => none
  | .range2 => match ds with
    | [.int a, .int b] => if rangeOk a b then some (rangeD a b) else none
    | _ => none
  | .zip => match ds with
    | [a, b] => match frzSeq a, frzSeq b with
      | some xs, some ys => some (zipD xs ys)
      | _, _ => none
    | _ => none
  | .enum => match ds with
    | [a] => (frzSeq a).map (enumD 0)
    | _ => none

/-! ### sorting -/
def insI (x : Int) : List Int → List Int
  | [] => [x]
  | y :: ys => if x ≤ y then x :: y :: ys else y :: insI x ys
def sortI : List Int → List Int
  | [] => []
  | x :: xs => insI x (sortI xs)
/-- tuples of ints -/
def tupsOf : List D → Option (List (List Int))
  | [] => some []
  | .tup false xs :: ds => match intsOf xs, tupsOf ds with
    | some ns, some r => some (ns :: r)
    | _, _ => none
  | _ :: _ => none
def insT (x : List Int) : List (List Int) → List (List Int)
  | [] => [x]
  | y :: ys => if leI x y then x :: y :: ys else y :: insT x ys
def sortT : List (List Int) → List (List Int)
  | [] => []
  | x :: xs => insT x (sortT xs)
def tupI (ns : List Int) : D := .tup false (ns.map .int)
/-- tuples of tuples of ints -/
def netsOf : List D → Option (List (List (List Int)))
  | [] => some []
  | .tup false xs :: ds => match tupsOf xs, netsOf ds with
    | some ts, some r => some (ts :: r)
    | _, _ => none
  | _ :: _ => none
def leN : List (List Int) → List (List Int) → Bool
  | [], _ => true
  | _ :: _, [] => false
  | x :: xs, y :: ys => if x = y then leN xs ys else leI x y
def insN (x : List (List Int)) : List (List (List Int)) → List (List (List Int))
  | [] => [x]
  | y :: ys => if leN x y then x :: y :: ys else y :: insN x ys
def sortN : List (List (List Int)) → List (List (List Int))
  | [] => []
  | x :: xs => insN x (sortN xs)
def netI (ts : List (List Int)) : D := .tup false (ts.map tupI)
def sortedO (ds : List D) : Option D := match intsOf ds with
  | some ns => some (.lst ((sortI ns).map .int))
  | none => match tupsOf ds with
    | some ts => if ts.all fun u => !u.isEmpty then some (.lst ((sortT ts).map tupI)) else if decide (ts.length ≤ 1) then some (.lst ds) else none
    | none => match netsOf ds with
      | some ts => if (ts.all fun u => !u.isEmpty) && decide (ts.length < 1000) then some (.lst ((sortN ts).map netI)) else none
      | none => none
/-- each as often as once, in the order in which they come first -/
def dedI (ns : List Int) : List Int := ns.foldl (fun acc x => if acc.any (· == x) then acc else acc ++ [x]) []

/-! ### built-in functions -/
def pairsO (f : D → Option κ) : List D → Option (List κ × List D)
  | [] => some ([], [])
  | .tup _ [k, v] :: ds => match f k, pairsO f ds with
    | some k', some (ks, vs) => some (k' :: ks, v :: vs)
    | _, _ => none
  | _ :: _ => none
def maxI : List Int → Option Int
  | [] => none
  | x :: xs => some (xs.foldl (fun a b => if a < b then b else a) x)
def minI : List Int → Option Int
  | [] => none
  | x :: xs => some (xs.foldl (fun a b => if b < a then b else a) x)
def biO (b : B) (ds : List D) (st : Store) : Option D := match b with
  | .len => match ds with
    | [.str x] => if sizeOk x.length then some (.int x.length) else none
    | [.scr ns] => some (.int ns.length)
    | [d] => match seqAt st d with
      | some xs => some (.int xs.length)
      | none => none
    | _ => none
  | .abs => match ds with
    | [.int i] => some (.int (if i < 0 then -i else i))
    | _ => none
  | .int => match ds with
    | [.int i] => some (.int i)
    | [.bl b] => some (.int (if b then 1 else 0))
    | [.str x] => if decide (x.length ≤ 640) then (PySem.intText? x).map .int else none
    | _ => none
  | .bool => match ds with
    | [.bl b] => some (.bl b)
    | _ => none
  | .strI => match ds with
    | [.int i] => if decide (i.natAbs.log2 < 1900) then some (.str (toString i)) else none
    | _ => none
  | .isTup => match ds with
    | [.tup _ _] => some (.bl true)
    | [.non] => some (.bl false)
    | [.bl _] => some (.bl false)
    | [.int _] => some (.bl false)
    | [.str _] => some (.bl false)
    | [.lst _] => some (.bl false)
    | _ => none
  | .isInt => match ds with
    | [.tup _ _] => some (.bl false)
    | [.non] => some (.bl false)
    | [.bl _] => some (.bl true)
    | [.int _] => some (.bl true)
    | [.str _] => some (.bl false)
    | [.lst _] => some (.bl false)
    | _ => none
  | .isBool => match ds with
    | [.tup _ _] => some (.bl false)
    | [.non] => some (.bl false)
    | [.bl _] => some (.bl true)
    | [.int _] => some (.bl false)
    | [.str _] => some (.bl false)
    | [.lst _] => some (.bl false)
    | _ => none
  | .isStr => match ds with
    | [.tup _ _] => some (.bl false)
    | [.non] => some (.bl false)
    | [.bl _] => some (.bl false)
    | [.int _] => some (.bl false)
    | [.str _] => some (.bl true)
    | [.lst _] => some (.bl false)
    | _ => none
  | .isLst => match ds with
    | [.tup _ _] => some (.bl false)
    | [.non] => some (.bl false)
    | [.bl _] => some (.bl false)
    | [.int _] => some (.bl false)
    | [.str _] => some (.bl false)
    | [.lst _] => some (.bl true)
    | _ => none
  | .sorted => match ds with
    | [d] => match seqAt st d with
      | some xs => sortedO xs
      | none => none
    | _ => none
  | .all => match ds with
    | [d] => match listAt st d with
      | some xs => (blsOf xs).map fun bs => .bl (bs.all id)
      | none => none
    | _ => none
  | .any => match ds with
    | [d] => match listAt st d with
      | some xs => (blsOf xs).map fun bs => .bl (bs.any id)
      | none => none
    | _ => none
  | .sum => match ds with
    | [d] => match listAt st d with
      | some xs => (intsOf xs).map fun ns => .int ns.sum
      | none => none
    | _ => none
  | .max2 => match ds with
    | [.int i, .int j] => some (.int (if j > i then j else i))
    | _ => none
  | .min2 => match ds with
    | [.int i, .int j] => some (.int (if j < i then j else i))
    | _ => none
  | .maxL => match ds with
    | [d] => match listAt st d with
      | some xs => match intsOf xs with
        | some ns => (maxI ns).map .int
        | none => none
      | none => none
    | _ => none
  | .minL => match ds with
    | [d] => match listAt st d with
      | some xs => match intsOf xs with
        | some ns => (minI ns).map .int
        | none => none
      | none => none
    | _ => none
  | .tupOf => match ds with
    | [.tup w xs] => some (.tup w xs)
    | [d] => (listAt st d).map (.tup false)
    | _ => none
  | .lstOf => match ds with
    | [d] => (seqAt st d).map .lst
    | _ => none
  | .tupRange1 => match ds with
    | [.int n] => if rangeOk 0 n then some (.tup false (rangeD 0 n)) else none
    | _ => none
  | .tupRange2 => match ds with
    | [.int a, .int b] => if rangeOk a b then some (.tup false (rangeD a b)) else none
    | _ => none
  | .lstRange1 => match ds with
    | [.int n] => if rangeOk 0 n then some (.lst (rangeD 0 n)) else none
    | _ => none
  | .lstRange2 => match ds with
    | [.int a, .int b] => if rangeOk a b then some (.lst (rangeD a b)) else none
    | _ => none
  | .dictK => match ds with
    | [d] => match listAt st d with
      | some xs => (pairsO keyOf xs).map fun r => let p := putAllKV [] [] r.1 r.2; .dk p.1 p.2
      | none => none
    | _ => none
  | .dictT => match ds with
    | [d] => match listAt st d with
      | some xs => (pairsO tkeyOf xs).map fun r => let p := putAllKV [] [] r.1 r.2; .dt p.1 p.2
      | none => none
    | _ => none
  | .dictZipT => match ds with
    | [a, b] => match seqAt st a, seqAt st b with
      | some xs, some ys => (pairsO tkeyOf (zipD xs ys)).map fun r => let p := putAllKV [] [] r.1 r.2; .dt p.1 p.2
      | _, _ => none
    | _ => none
  | .lenSet => match ds with
    | [d] => match listAt st d with
      | some xs => match intsOf xs with
        | some ns => if decide (ns.length < 60) then some (.int ((dedI ns).length : Nat)) else none
        | none => none
      | none => none
    | _ => none
  | .lstEnum => match ds with
    | [d] => match seqAt st d with
      | some xs => some (.lst (enumD 0 xs))
      | none => none
    | _ => none
  | .lstItems => match ds with
    | [.dk ks vs] => some (.lst (zipD (ks.map keyD) vs))
    | _ => none

/-! ### methods -/
def indexO (d : D) : List D → Option Nat
  | [] => none
  | x :: xs => if eqD x d then some 0 else (indexO d xs).map (· + 1)
/-- what a method is called of -/
def mthPre (m : Mt) (o : D) (st : Store) : Bool := match m with
  | .append => (listAt st o).isSome
  | .get2 => (dkAt st o).isSome || (dtAt st o).isSome
  | .index => (listAt st o).isSome
  | .upper => match o with
    | .str _ => true
    | _ => false
  | .split => match o with
    | .str _ => true
    | _ => false
  | .join => match o with
    | .str _ => true
    | _ => false
  | _ => false
def strsOf : List D → Option (List Str)
  | [] => some []
  | .str x :: ds => (strsOf ds).map (x :: ·)
  | _ :: _ => none
def mthM (m : Mt) (o : D) (ds : List D) : M D := fun st => match m with
  | .append => match o, ds with
    | .ref n, [d] => match st[n]? with
      | some (.lst xs) => if sizeOk (xs.length + 1) then .ok .non (st.set n (.lst (xs ++ [d]))) else .bad
      | _ => .bad
    | _, _ => .bad
  | .get2 => match ds with
    | [k, d] => match dkAt st o with
      | some (ks, vs) => match keyOf k with
        | some x => .ok ((getKV ks vs x).getD d) st
        | none => .bad
      | none => match dtAt st o with
        | some (ks, vs) => match tkeyOf k with
          | some x => .ok ((getKV ks vs x).getD d) st
          | none => .bad
        | none => .bad
    | _ => .bad
  | .index => match ds with
    | [d] => match listAt st o with
      | some xs => if shp 50 d && (shps 49 xs && sizeOk xs.length) then (match indexO d xs with
        | some j => .ok (.int (j : Nat)) st
        | none => .bad) else .bad
      | none => .bad
    | _ => .bad
  | .upper => match o, ds with
    | .str x, [] => if decide (x.length ≤ 5592405) then .ok (.str (Txt.upper x)) st else .bad
    | _, _ => .bad
  | .split => match o, ds with
    | .str a, [.str b] => if !(b.length == 0) && decide (a.length ≤ 1000000) then .ok (.lst ((Txt.split a b).map .str)) st else .bad
    | _, _ => .bad
  | .join => match o, ds with
    | .str a, [d] => match seqAt st d with
      | some xs => match strsOf xs with
        | some ys => if decide ((ys.map (·.length)).sum + ys.length * a.length ≤ 16777216) then .ok (.str (Txt.join a ys)) st else .bad
        | none => .bad
      | none => .bad
    | _, _ => .bad
  | _ => .bad

/-- the name of f(lambda: g(..)) -/
def lamN (f g : Str) : Str := f ++ (Str.ofString "#" ++ g)
/-- an error as a value: of the class x, its field f (none: the empty name) -/
def newxO (x f : Str) (d : D) : Option D := if f = Str.empty then (match d with
    | .str _ => some (.exn x f 0)
    | _ => none) else match d with
  | .int i => some (.exn x f i)
  | _ => none
/-- isinstance of an own error, which is of no other own class -/
def isxO (y x : Str) : Bool := decide (y = x) || (decide (x = Str.ofString "ValueError") || decide (x = Str.ofString "MileError"))
/-! ### expressions -/
/-- a comprehension's turns -/
def compM (f : D → M (Option D)) : List D → List D → M (List D)
  | [], acc => .ret acc
  | x :: xs, acc => .bnd (f x) fun o => match o with
    | some y => if sizeOk (acc.length + 1) then compM f xs (acc ++ [y]) else .bad
    | none => compM f xs acc
/-- no error leaves it -/
def noErr {α : Type} (m : M α) : M α := fun st => match m st with
  | .ok a st' => .ok a st'
  | _ => .bad

section
variable (Φ : Str → List D → M D) (G : Str → Option D)
mutual
def ev (e : E) (σ : Env) : M D := match e with
  | .var i => match σ[i]? with
    | some (some d) => .ret d
    | _ => .bad
  | .cst c => .ret c.d
  | .glo x => ofO (G x)
  | .bin op a b => .bnd (ev a σ) fun x => .bnd (ev b σ) fun y => fun st => match binO op x y st with
    | some d => .ok d st
    | none => .bad
  | .neg a => .bnd (ev a σ) fun x => ofO (negO x)
  | .cmp op a b => .bnd (ev a σ) fun x => .bnd (ev b σ) fun y => fun st => match cmpO op x y st with
    | some d => .ok (.bl d) st
    | none => .bad
  | .chn op op' a b c => .bnd (ev a σ) fun x => .bnd (ev b σ) fun y => fun st => match cmpO op x y st with
    | some true => M.bnd (ev c σ) (fun z => fun st => match cmpO op' y z st with
      | some d => .ok (.bl d) st
      | none => .bad) st
    | some false => .ok (.bl false) st
    | none => .bad
  | .and a b => .bnd (ev a σ) fun x => match x with
    | .bl true => ev b σ
    | .bl false => .ret (.bl false)
    | _ => .bad
  | .or a b => .bnd (ev a σ) fun x => match x with
    | .bl true => .ret (.bl true)
    | .bl false => ev b σ
    | _ => .bad
  | .not a => .bnd (ev a σ) fun x => match x with
    | .bl b => .ret (.bl (!b))
    | _ => .bad
  | .notV a => .bnd (ev a σ) fun x => match x with
    | .bl b => .ret (.bl (!b))
    | .int i => .ret (.bl (!(i != 0)))
    | _ => .bad
  | .ite c a b => .bnd (ev c σ) fun x => match x with
    | .bl true => ev a σ
    | .bl false => ev b σ
    | _ => .bad
  | .tup es => .bnd (evs es σ) fun ds => if sizeOk ds.length then .ret (.tup false ds) else .bad
  | .lst es => .bnd (evs es σ) fun ds => if sizeOk ds.length then .ret (.lst ds) else .bad
  | .dnew tk => .ret (if tk then .dt [] [] else .dk [] [])
  | .disp k v => .bnd (ev k σ) fun x => .bnd (ev v σ) fun y => match keyOf x with
    | some z => .ret (.dk [z] [y])
    | none => .bad
  | .idx a i => .bnd (ev a σ) fun x => .bnd (ev i σ) fun y => fun st => match idxO x y st with
    | some d => .ok d st
    | none => .bad
  | .slc a lo hi => .bnd (ev a σ) fun x => .bnd (evo lo σ) fun l => .bnd (evo hi σ) fun h => fun st => match slcO x l h st with
    | some d => .ok d st
    | none => .bad
  | .rev a => .bnd (ev a σ) fun x => fun st => match revO x st with
    | some d => .ok d st
    | none => .bad
  | .fn f es => .bnd (evs es σ) fun ds => Φ f ds
  | .bi b es => .bnd (evs es σ) fun ds => fun st => match biO b ds st with
    | some d => .ok d st
    | none => .bad
  | .mth m o es => .bnd (ev o σ) fun x => fun st => if mthPre m x st then M.bnd (evs es σ) (fun ds => mthM m x ds) st else .bad
  | .nev => .bad
  | .lamc f g es => .bnd (evs es σ) fun ds => Φ (lamN f g) ds
  | .newx x f e => .bnd (ev e σ) fun d => match newxO x f d with
    | some y => .ret y
    | none => .bad
  | .isx e x => .bnd (ev e σ) fun d => match d with
    | .exn y _ _ => .ret (.bl (isxO y x))
    | _ => .bad
  | .fldx e f => .bnd (ev e σ) fun d => match d with
    | .exn _ g i => if decide (f = g) && decide (g ≠ Str.empty) then .ret (.int i) else .bad
    | _ => .bad
  | .comp own tg k src test elt => .bnd (evs src σ) fun ds => fun st => match iterO k ds with
    | some xs => M.bnd (noErr (compM (fun x => match bindT tg x (wipeE σ own) with
      | none => .bad
      | some σ1 => .bnd (evt test σ1) fun b => if b then .bnd (ev elt σ1) fun y => .ret (some y) else .ret none) xs [])) (fun ys => .ret (.lst ys)) st
    | none => .bad
  | .mu e => .bnd (ev e σ) fun x => fun st => match x with
    | .lst xs => .ok (.ref st.length) (st ++ [.lst xs])
    | .dk ks vs => .ok (.ref st.length) (st ++ [.dk ks vs])
    | .dt ks vs => .ok (.ref st.length) (st ++ [.dt ks vs])
    | _ => .bad
termination_by structural e
def evs (es : List E) (σ : Env) : M (List D) := match es with
  | [] => .ret []
  | e :: es => .bnd (ev e σ) fun d => .bnd (evs es σ) fun ds => .ret (d :: ds)
termination_by structural es
def evo (o : Option E) (σ : Env) : M (Option Int) := match o with
  | none => .ret none
  | some e => .bnd (ev e σ) fun x => match x with
    | .int i => .ret (some i)
    | _ => .bad
termination_by structural o
def evt (o : Option E) (σ : Env) : M Bool := match o with
  | none => .ret true
  | some e => .bnd (ev e σ) fun x => match x with
    | .bl b => .ret b
    | _ => .bad
termination_by structural o
end
end
end MN
set_option Elab.async false
set_option linter.all false
set_option maxRecDepth 100000
/-! MiniC: statements, functions. -/
namespace MN
open PySem

/-- what an except suite returns -/
inductive HB where
  | cst (c : C) | fld (f : Str) | txt (s : Str) (f : Str)
structure Hd where
  c : Str
  b : HB

inductive S where
  | set (i : Nat) (e : E)
  | unp (tg : Tg) (e : E)
  | par (is : List Nat) (es : List E)
  | put (a i v : E)
  | puts (as : List (E × E)) (es : List E)
  | expr (e : E)
  | iff (c : E) (a b : List S)
  | for_ (tg : Tg) (k : IK) (src : List E) (body : List S)
  | whl (c : E) (body : List S)
  | ret (e : E)
  | retN
  | raise (c : Str) (m : Option (Str × E))
  | try_ (body : List S) (hs : List Hd) (ks : List Str)
  | pass | brk | cont
  | frz (i : Nat)
  | nev

inductive F where
  | nx (σ : Env) (st : Store)
  | ret (d : D) (st : Store)
  | brk (σ : Env) (st : Store)
  | ct (σ : Env) (st : Store)
  | err (x : Ex) (σ : Env) (st : Store)
  | bad

/-- an expression's value, then on -/
def F.on {α : Type} (m : M α) (σ : Env) (st : Store) (k : α → Store → F) : F := match m st with
  | .ok a st' => k a st'
  | .err x st' => .err x σ st'
  | .bad => .bad

def frzF (i : Nat) (σ : Env) (st : Store) : F := match σ[i]? with
  | some (some (.ref n)) => match st[n]? with
    | some (.lst xs) => .nx (σ.set i (some (.lst xs))) (st.set n .dead)
    | some (.dk ks vs) => .nx (σ.set i (some (.dk ks vs))) (st.set n .dead)
    | some (.dt ks vs) => .nx (σ.set i (some (.dt ks vs))) (st.set n .dead)
    | _ => .nx σ st
  | _ => .nx σ st

/-- a[i] = v -/
def putO (a i v : D) (st : Store) : Option Store := match a with
  | .ref n => match st[n]? with
    | some (.lst xs) => match i with
      | .int k => (L2.ixN xs.length k).map fun j => st.set n (.lst (xs.set j v))
      | _ => none
    | some (.dk ks vs) => match keyOf i with
      | some k => if sizeOk (ks.length + 1) then let p := putKV ks vs k v; some (st.set n (.dk p.1 p.2)) else none
      | none => none
    | some (.dt ks vs) => match tkeyOf i with
      | some k => if sizeOk (ks.length + 1) then let p := putKV ks vs k v; some (st.set n (.dt p.1 p.2)) else none
      | none => none
    | _ => none
  | _ => none

def setL : List Nat → List D → Env → Option Env
  | [], [], σ => some σ
  | i :: is, d :: ds, σ => setL is ds (σ.set i (some d))
  | _, _, _ => none

/-- a loop's turns -/
def forF (tg : Tg) (b : Env → Store → F) : List D → Env → Store → F
  | [], σ, st => .nx σ st
  | x :: xs, σ, st => match bindT tg x σ with
    | none => .bad
    | some σ1 => match b σ1 st with
      | .nx σ2 st2 => forF tg b xs σ2 st2
      | .ct σ2 st2 => forF tg b xs σ2 st2
      | .brk σ2 st2 => .nx σ2 st2
      | r => r
/-- a while's turns, at most so many -/
def whlN (c : Env → M Bool) (b : Env → Store → F) : Nat → Env → Store → Option F
  | 0, _, _ => none
  | n + 1, σ, st => match c σ st with
    | .ok true st1 => match b σ st1 with
      | .nx σ2 st2 => whlN c b n σ2 st2
      | .ct σ2 st2 => whlN c b n σ2 st2
      | .brk σ2 st2 => some (.nx σ2 st2)
      | r => some r
    | .ok false st1 => some (.nx σ st1)
    | .err x st1 => some (.err x σ st1)
    | .bad => some .bad
open Classical in
noncomputable def whlF (c : Env → M Bool) (b : Env → Store → F) (σ : Env) (st : Store) : F :=
  if h : ∃ r, ∃ n, whlN c b n σ st = some r then h.choose else .bad
theorem whlN_mono {c : Env → M Bool} {b : Env → Store → F} : ∀ {n m : Nat} {σ : Env} {st : Store} {r : F}, whlN c b n σ st = some r → n ≤ m → whlN c b m σ st = some r
  | 0, _, _, _, _, h, _ => by cases h
  | n + 1, 0, _, _, _, _, h => by omega
  | n + 1, m + 1, σ, st, r, h, hl => by
    unfold whlN at h ⊢
    cases hc : c σ st with
    | bad => simpa [hc] using h
    | err x st1 => simpa [hc] using h
    | ok t st1 =>
      cases t with
      | false => simpa [hc] using h
      | true =>
        simp only [hc] at h ⊢
        cases hb : b σ st1 with
        | nx σ2 st2 => simp only [hb] at h ⊢; exact whlN_mono h (by omega)
        | ct σ2 st2 => simp only [hb] at h ⊢; exact whlN_mono h (by omega)
        | brk σ2 st2 => simpa [hb] using h
        | ret d st2 => simpa [hb] using h
        | err x σ2 st2 => simpa [hb] using h
        | bad => simpa [hb] using h
theorem whlF_of {c : Env → M Bool} {b : Env → Store → F} {n : Nat} {σ : Env} {st : Store} {r : F} (h : whlN c b n σ st = some r) : whlF c b σ st = r := by
  have h1 : ∃ r, ∃ n, whlN c b n σ st = some r := ⟨r, n, h⟩
  unfold whlF
  rw [dif_pos h1]
  obtain ⟨m, hm⟩ := h1.choose_spec
  have e1 := whlN_mono hm (Nat.le_max_left m n)
  have e2 := whlN_mono h (Nat.le_max_right m n)
  rw [e1] at e2
  exact Option.some.inj e2
theorem whlF_some {c : Env → M Bool} {b : Env → Store → F} {σ : Env} {st : Store} (h : whlF c b σ st ≠ .bad) : ∃ n, whlN c b n σ st = some (whlF c b σ st) := by
  unfold whlF at h ⊢
  by_cases h1 : ∃ r, ∃ n, whlN c b n σ st = some r
  · rw [dif_pos h1] at h ⊢
    exact h1.choose_spec
  · rw [dif_neg h1] at h
    exact absurd rfl h
/-- one turn -/
theorem whlF_eq (c : Env → M Bool) (b : Env → Store → F) (σ : Env) (st : Store) : whlF c b σ st = match c σ st with
    | .ok true st1 => match b σ st1 with
      | .nx σ2 st2 => whlF c b σ2 st2
      | .ct σ2 st2 => whlF c b σ2 st2
      | .brk σ2 st2 => .nx σ2 st2
      | r => r
    | .ok false st1 => .nx σ st1
    | .err x st1 => .err x σ st1
    | .bad => .bad := by
  have one : ∀ r, whlN c b 1 σ st = some r → whlF c b σ st = r := fun r h => whlF_of h
  have go : ∀ σ2 st2, (∀ n, whlN c b (n + 1) σ st = whlN c b n σ2 st2) → whlF c b σ st = whlF c b σ2 st2 := fun σ2 st2 hh => by
    by_cases h1 : ∃ r, ∃ n, whlN c b n σ2 st2 = some r
    · obtain ⟨r, n, hn⟩ := h1
      rw [whlF_of hn]
      exact whlF_of (n := n + 1) ((hh n).trans hn)
    · have h2 : ¬ ∃ r, ∃ n, whlN c b n σ st = some r := fun ⟨r, n, hn⟩ => by
        cases n with
        | zero => cases hn
        | succ n => exact h1 ⟨r, n, (hh n).symm.trans hn⟩
      unfold whlF
      rw [dif_neg h1, dif_neg h2]
  cases hc : c σ st with
  | bad => exact one _ (by simp [whlN, hc])
  | err x st1 => exact one _ (by simp [whlN, hc])
  | ok t st1 =>
    cases t with
    | false => exact one _ (by simp [whlN, hc])
    | true =>
      simp only
      cases hb : b σ st1 with
      | nx σ2 st2 => exact go _ _ fun n => by simp [whlN, hc, hb]
      | ct σ2 st2 => exact go _ _ fun n => by simp [whlN, hc, hb]
      | brk σ2 st2 => exact one _ (by simp [whlN, hc, hb])
      | ret d st2 => exact one _ (by simp [whlN, hc, hb])
      | err x σ2 st2 => exact one _ (by simp [whlN, hc, hb])
      | bad => exact one _ (by simp [whlN, hc, hb])

def HB.run (b : HB) (x : Ex) : Option D := match b with
  | .cst c => some c.d
  | .fld f => match x.f with
    | some (g, d) => if f = g then some d else none
    | none => none
  | .txt s f => match x.f with
    | some (g, .int i) => if f = g then (if decide (i.natAbs.log2 < 1900) && decide (s.length < 1000000) then some (.str (s ++ toString i)) else none) else none
    | _ => none
/-- the first that takes the error -/
def hdFind (x : Ex) : List Hd → Option Hd
  | [] => none
  | h :: hs => if h.c = x.c then some h else hdFind x hs

section
variable (Φ : Str → List D → M D) (G : Str → Option D)
def putsF : List (E × E) → List D → Env → Store → F
  | [], [], σ, st => .nx σ st
  | (a, i) :: as, d :: ds, σ, st => F.on (ev Φ G a σ) σ st fun x st1 => F.on (ev Φ G i σ) σ st1 fun y st2 => match putO x y d st2 with
    | some st3 => putsF as ds σ st3
    | none => .bad
  | _, _, _, _ => .bad
mutual
noncomputable def exec (s : S) (σ : Env) (st : Store) : F := match s with
  | .set i e => F.on (ev Φ G e σ) σ st fun d st' => .nx (σ.set i (some d)) st'
  | .unp tg e => F.on (ev Φ G e σ) σ st fun d st' => match bindT tg d σ with
    | some σ' => .nx σ' st'
    | none => .bad
  | .par is es => F.on (evs Φ G es σ) σ st fun ds st' => match setL is ds σ with
    | some σ' => .nx σ' st'
    | none => .bad
  | .put a i v => F.on (ev Φ G v σ) σ st fun d st1 => F.on (ev Φ G a σ) σ st1 fun x st2 => F.on (ev Φ G i σ) σ st2 fun y st3 => match putO x y d st3 with
    | some st4 => .nx σ st4
    | none => .bad
  | .puts as es => F.on (evs Φ G es σ) σ st fun ds st' => putsF Φ G as ds σ st'
  | .expr e => F.on (ev Φ G e σ) σ st fun _ st' => .nx σ st'
  | .iff c a b => F.on (evt Φ G (some c) σ) σ st fun t st' => if t then execs a σ st' else execs b σ st'
  | .for_ tg k src body => F.on (evs Φ G src σ) σ st fun ds st' => match iterO k ds with
    | some xs => forF tg (fun σ st => execs body σ st) xs σ st'
    | none => .bad
  | .whl c body => whlF (fun σ => evt Φ G (some c) σ) (fun σ st => execs body σ st) σ st
  | .ret e => F.on (ev Φ G e σ) σ st fun d st' => .ret d st'
  | .retN => .ret .non st
  | .raise c m => match m with
    | none => .err ⟨c, none⟩ σ st
    | some (f, e) => F.on (ev Φ G e σ) σ st fun d st' => .err ⟨c, some (f, d)⟩ σ st'
  | .try_ body hs ks => match execs body σ st with
    | .err x σ' st' => if !ks.contains x.c then .bad else match hdFind x hs with
      | some h => match h.b.run x with
        | some d => .ret d st'
        | none => .bad
      | none => .err x σ' st'
    | r => r
  | .pass => .nx σ st
  | .brk => .brk σ st
  | .cont => .ct σ st
  | .frz i => frzF i σ st
  | .nev => .bad
termination_by structural s
noncomputable def execs (ss : List S) (σ : Env) (st : Store) : F := match ss with
  | [] => .nx σ st
  | s :: ss => match exec s σ st with
    | .nx σ' st' => execs ss σ' st'
    | r => r
termination_by structural ss
end
end

/-! ### functions -/
mutual
/-- it names no object from k on -/
def lowD (k : Nat) (d : D) : Bool := match d with
  | .ref n => decide (n < k)
  | .tup _ xs => lowDs k xs
  | .lst xs => lowDs k xs
  | .dk _ vs => lowDs k vs
  | .dt _ vs => lowDs k vs
  | _ => true
termination_by structural d
def lowDs (k : Nat) (ds : List D) : Bool := match ds with
  | [] => true
  | d :: ds => lowD k d && lowDs k ds
termination_by structural ds
end
def lowO (k : Nat) : MO → Bool
  | .lst xs => lowDs k xs
  | .dk _ vs => lowDs k vs
  | .dt _ vs => lowDs k vs
  | .dead => true
def lowX (k : Nat) (x : Ex) : Bool := match x.f with
  | none => true
  | some (_, d) => lowD k d

structure Fd where
  np : Nat
  n : Nat
  body : List S
  gc : Bool := true
def cutOk (k : Nat) (st : Store) : Bool := decide (k ≤ st.length) && (st.take k).all (lowO k)
noncomputable def callB (Φ : Str → List D → M D) (G : Str → Option D) (fd : Fd) (ds : List D) : M D := fun st =>
  if ds.length = fd.np ∧ fd.np ≤ fd.n then
    match execs Φ G fd.body (ds.map some ++ List.replicate (fd.n - ds.length) none) st with
    | .nx _ st' => if fd.gc then (if cutOk st.length st' then .ok .non (st'.take st.length) else .bad) else .ok .non st'
    | .ret d st' => if fd.gc then (if lowD st.length d && cutOk st.length st' then .ok d (st'.take st.length) else .bad) else .ok d st'
    | .err x _ st' => if fd.gc then (if lowX st.length x && cutOk st.length st' then .err x (st'.take st.length) else .bad) else .err x st'
    | _ => .bad
  else .bad
noncomputable def callN (T : Str → Option Fd) (G : Str → Option D) : Nat → Str → List D → M D
  | 0, _, _ => .bad
  | n + 1, f, ds => match T f with
    | some fd => callB (callN T G n) G fd ds
    | none => .bad
end MN
set_option Elab.async false
set_option linter.all false
set_option maxRecDepth 100000
/-! MiniD: what stands for what: data and the heap. -/
namespace MN
open PySem PySem.Spec L2

/-- the tables of code objects that are known of -/
class TabP where
  T : List (Addr × Str)
  /-- the classes of errors: where, the field of an own __init__ -/
  E : Str → Option (Addr × Option Str)
/-- neither a table nor a code object -/
def soft : HO → Prop
  | .tbl _ => False
  | .ext _ => False
  | _ => True
theorem tabs_soft {T : List (Addr × Str)} {H : Hp} (t : LamX.Tabs T H) {p : Addr} (u : HO) (h : ∀ o, H p = some o → soft o) : LamX.Tabs T (upd H p u) := fun q hq => by
  obtain ⟨ps, h1, h2, h3⟩ := t q hq
  refine ⟨ps, ?_, h2, fun pos cv hc => ?_⟩
  · rw [upd_ne fun z => by subst z; exact h _ h1]; exact h1
  · obtain ⟨c, e1, e2⟩ := h3 pos cv hc
    refine ⟨c, e1, ?_⟩
    rw [upd_ne fun z => by subst z; exact h _ e2]; exact e2
/-- f: what never changes; p: what is put aside -/
structure Wd where
  f : Hp
  p : Hp
abbrev Wd.upd (F : Wd) (a : Addr) (u : HO) : Wd := ⟨L2.upd F.f a u, F.p⟩

mutual
/-- the value v stands for the data d; F: what never changes; m: where the store's objects are -/
inductive Rep [TP : TabP] (K : PySem.W.Frag) (F : Wd) (m : List Addr) : D → V → Prop
  | non : Rep K F m .non .non
  | bl (b : Bool) : Rep K F m (.bl b) (.bl b)
  | int (i : Int) : Rep K F m (.int i) (.int i)
  | str (x : Str) : Rep K F m (.str x) (.str x)
  | tupW {a : Addr} {vs : List V} {ds : List D} : SqT K F.f a vs → RepL K F m ds vs → Rep K F m (.tup true ds) (.ref a)
  | tup {a : Addr} {vs : List V} {ds : List D} : F.f a = some (.tup vs) → RepL K F m ds vs → Rep K F m (.tup false ds) (.ref a)
  | lst {a : Addr} {vs : List V} {ds : List D} : F.f a = some (.lst vs) → RepL K F m ds vs → Rep K F m (.lst ds) (.ref a)
  | dk {a : Addr} {o : Obj} {kvs : List (L2.Key × V)} {ds : List D} : F.f a = some (.frz o (.dK kvs)) → RepL K F m ds (kvs.map (·.2)) → Rep K F m (.dk (kvs.map (·.1)) ds) (.ref a)
  | dt {a : Addr} {o : Obj} {kvs : List (List L2.Key × V)} {ds : List D} : F.f a = some (.frz o (.dT kvs)) → RepL K F m ds (kvs.map (·.2)) → Rep K F m (.dt (kvs.map (·.1)) ds) (.ref a)
  | ref {n : Nat} {a : Addr} : m[n]? = some a → Rep K F m (.ref n) (.ref a)
  | scr {a : Addr} {ns : List Int} : SqL K F.f a (ns.map V.int) → Rep K F m (.scr ns) (.ref a)
  | exn0 {a C : Addr} {x : Str} : TP.E x = some (C, none) → F.f a = some (ExO (.ref C) a) → Rep K F m (.exn x Str.empty 0) (.ref a)
  | exn1 {a C d : Addr} {x f : Str} {i : Int} : TP.E x = some (C, some f) → f ≠ Str.empty → F.f a = some (exo a C (some d)) → F.f d = some (.xd [(f, .int i)]) → Rep K F m (.exn x f i) (.ref a)
inductive RepL [TP : TabP] (K : PySem.W.Frag) (F : Wd) (m : List Addr) : List D → List V → Prop
  | nil : RepL K F m [] []
  | cons {d : D} {v : V} {ds : List D} {vs : List V} : Rep K F m d v → RepL K F m ds vs → RepL K F m (d :: ds) (v :: vs)
end

theorem Same.seqT {K : PySem.W.Frag} {H H' : Hp} {a : Addr} {xs : List V} (e : Same H H') (h : SqT K H a xs) : SqT K H' a xs := by
  rcases h with (h | ⟨o, h⟩) | h
  · exact .inl (.inl (e _ _ h))
  · exact .inl (.inr ⟨o, e _ _ h⟩)
  · exact .inr h
theorem pre_get {α : Type} {m m' : List α} {n : Nat} {a : α} (p : m <+: m') (h : m[n]? = some a) : m'[n]? = some a := by
  obtain ⟨t, rfl⟩ := p
  rw [List.getElem?_append_left (List.getElem?_eq_some_iff.mp h).1]
  exact h
variable [TabP]
section
variable {K : PySem.W.Frag} {F F' : Wd} {m m' : List Addr}
mutual
theorem Rep.mono (hF : Same F.f F'.f) (hm : m <+: m') : ∀ {d : D} {v : V}, Rep K F m d v → Rep K F' m' d v
  | _, _, .non => .non
  | _, _, .bl b => .bl b
  | _, _, .int i => .int i
  | _, _, .str x => .str x
  | _, _, .tupW h r => .tupW (Same.seqT hF h) (RepL.mono hF hm r)
  | _, _, .tup h r => .tup (hF _ _ h) (RepL.mono hF hm r)
  | _, _, .lst h r => .lst (hF _ _ h) (RepL.mono hF hm r)
  | _, _, .dk h r => .dk (hF _ _ h) (RepL.mono hF hm r)
  | _, _, .dt h r => .dt (hF _ _ h) (RepL.mono hF hm r)
  | _, _, .ref h => .ref (pre_get hm h)
  | _, _, .scr h => .scr (hF.seq h)
  | _, _, .exn0 e h => .exn0 e (hF _ _ h)
  | _, _, .exn1 e n h1 h2 => .exn1 e n (hF _ _ h1) (hF _ _ h2)
theorem RepL.mono (hF : Same F.f F'.f) (hm : m <+: m') : ∀ {ds : List D} {vs : List V}, RepL K F m ds vs → RepL K F' m' ds vs
  | _, _, .nil => .nil
  | _, _, .cons h r => .cons (Rep.mono hF hm h) (RepL.mono hF hm r)
end
theorem RepL.length : ∀ {ds : List D} {vs : List V}, RepL K F m ds vs → ds.length = vs.length
  | _, _, .nil => rfl
  | _, _, .cons _ r => by simp [RepL.length r]
theorem RepL.append : ∀ {ds es : List D} {vs us : List V}, RepL K F m ds vs → RepL K F m es us → RepL K F m (ds ++ es) (vs ++ us)
  | _, _, _, _, .nil, s => s
  | _, _, _, _, .cons h r, s => .cons h (RepL.append r s)
theorem RepL.get : ∀ {ds : List D} {vs : List V} {i : Nat} {d : D}, RepL K F m ds vs → ds[i]? = some d → ∃ v, vs[i]? = some v ∧ Rep K F m d v
  | _, _, _, _, .nil, e => by simp at e
  | _, _, 0, _, .cons h _, e => by simp at e; subst e; exact ⟨_, rfl, h⟩
  | _, _, i + 1, _, .cons _ r, e => by
    obtain ⟨v, h1, h2⟩ := RepL.get (i := i) r (by simpa using e)
    exact ⟨v, by simpa using h1, h2⟩
theorem RepL.get' : ∀ {ds : List D} {vs : List V} {i : Nat} {v : V}, RepL K F m ds vs → vs[i]? = some v → ∃ d, ds[i]? = some d ∧ Rep K F m d v
  | _, _, _, _, .nil, e => by simp at e
  | _, _, 0, _, .cons h _, e => by simp at e; subst e; exact ⟨_, rfl, h⟩
  | _, _, i + 1, _, .cons _ r, e => by
    obtain ⟨d, h1, h2⟩ := RepL.get' (i := i) r (by simpa using e)
    exact ⟨d, by simpa using h1, h2⟩
theorem RepL.take : ∀ {ds : List D} {vs : List V} (n : Nat), RepL K F m ds vs → RepL K F m (ds.take n) (vs.take n)
  | _, _, 0, _ => .nil
  | _, _, _ + 1, .nil => .nil
  | _, _, n + 1, .cons h r => .cons h (RepL.take n r)
theorem RepL.drop : ∀ {ds : List D} {vs : List V} (n : Nat), RepL K F m ds vs → RepL K F m (ds.drop n) (vs.drop n)
  | _, _, 0, r => r
  | _, _, _ + 1, .nil => .nil
  | _, _, n + 1, .cons _ r => RepL.drop n r
theorem RepL.set {d : D} {v : V} (h : Rep K F m d v) : ∀ {ds : List D} {vs : List V} (i : Nat), RepL K F m ds vs → RepL K F m (ds.set i d) (vs.set i v)
  | _, _, _, .nil => .nil
  | _, _, 0, .cons _ r => .cons h r
  | _, _, i + 1, .cons q r => .cons q (RepL.set h i r)
theorem RepL.reverse : ∀ {ds : List D} {vs : List V}, RepL K F m ds vs → RepL K F m ds.reverse vs.reverse
  | _, _, .nil => .nil
  | _, _, .cons h r => by
    rw [List.reverse_cons, List.reverse_cons]
    exact (RepL.reverse r).append (.cons h .nil)
theorem RepL.rep {ds : List D} {vs : List V} (r : RepL K F m ds vs) : ∀ k : Nat, RepL K F m (List.replicate k ds).flatten (List.replicate k vs).flatten
  | 0 => .nil
  | k + 1 => by
    rw [List.replicate_succ, List.replicate_succ, List.flatten_cons, List.flatten_cons]
    exact r.append (RepL.rep r k)
theorem RepL.ints : ∀ (ns : List Int), RepL K F m (ns.map D.int) (ns.map V.int)
  | [] => .nil
  | n :: ns => .cons (.int n) (RepL.ints ns)
theorem RepL.of_ints : ∀ {ds : List D} {vs : List V} {ns : List Int}, RepL K F m ds vs → intsOf ds = some ns → vs = ns.map V.int
  | _, _, _, .nil, e => by simp [intsOf] at e; subst e; rfl
  | _, _, _, .cons (d := d) h r, e => by
    cases h <;> simp only [intsOf, reduceCtorEq] at e
    simp only [Option.map_eq_some_iff] at e
    obtain ⟨ns', h1, rfl⟩ := e
    rw [RepL.of_ints r h1]
    rfl
theorem RepL.of_bls : ∀ {ds : List D} {vs : List V} {bs : List Bool}, RepL K F m ds vs → blsOf ds = some bs → vs = bs.map V.bl
  | _, _, _, .nil, e => by simp [blsOf] at e; subst e; rfl
  | _, _, _, .cons (d := d) h r, e => by
    cases h <;> simp only [blsOf, reduceCtorEq] at e
    simp only [Option.map_eq_some_iff] at e
    obtain ⟨ns', h1, rfl⟩ := e
    rw [RepL.of_bls r h1]
    rfl
/-- a tuple, whatever kind -/
theorem Rep.tup_inv {w : Bool} {ds : List D} {v : V} (h : Rep K F m (.tup w ds) v) : ∃ a vs, v = .ref a ∧ SqT K F.f a vs ∧ RepL K F m ds vs := by
  cases h with
  | tupW h r => exact ⟨_, _, rfl, h, r⟩
  | tup h r => exact ⟨_, _, rfl, .inl (.inl h), r⟩
theorem Rep.tup_any {w : Bool} {ds : List D} {a : Addr} {vs : List V} (h : F.f a = some (.tup vs)) (r : RepL K F m ds vs) : Rep K F m (.tup w ds) (.ref a) := by
  cases w with
  | true => exact .tupW (.inl (.inl h)) r
  | false => exact .tup h r
end

/-! ### the store -/
/-- an object of the store, at its address -/
def MObj (K : PySem.W.Frag) (F : Wd) (m : List Addr) (H : Hp) (a : Addr) : MO → Prop
  | .lst xs => ∃ vs, H a = some (.lst vs) ∧ RepL K F m xs vs
  | .dk ks xs => ∃ kvs, H a = some (.dK kvs) ∧ ks = kvs.map (·.1) ∧ RepL K F m xs (kvs.map (·.2))
  | .dt ks xs => ∃ kvs, H a = some (.dT kvs) ∧ ks = kvs.map (·.1) ∧ RepL K F m xs (kvs.map (·.2))
  | .dead => ∃ u, H a = some u ∧ ∀ ps, u ≠ .tbl ps
structure SR (K : PySem.W.Frag) (F : Wd) (m : List Addr) (st : Store) (H : Hp) : Prop where
  sub : Same F.f H
  len : m.length = st.length
  nd : m.Nodup
  nf : ∀ (n : Nat) (a : Addr) (o : MO), m[n]? = some a → st[n]? = some o → (match o with | .dead => True | _ => F.f a = none)
  pr : Same F.p H
  prF : ∀ (a : Addr) (o : HO), F.p a = some o → F.f a = none ∧ a ∉ m ∧ ∃ xs, o = .lst xs
  at_ : ∀ (n : Nat) (a : Addr) (o : MO), m[n]? = some a → st[n]? = some o → MObj K F m H a o
  tab : LamX.Tabs TabP.T H
  nt : ∀ a ps, F.f a ≠ some (.tbl ps)
def RepE (K : PySem.W.Frag) (F : Wd) (m : List Addr) (σ : Env) (σv : St) : Prop :=
  σ.length = σv.length ∧ ∀ (i : Nat) (d : D), σ[i]? = some (some d) → ∃ v, σv[i]? = some (some v) ∧ Rep K F m d v
/-- an error -/
def RepX (K : PySem.W.Frag) (mg : Str → Option Value) (F : Wd) (m : List Addr) (H : Hp) (x : Ex) (cls : Value) (dx : Option Addr) : Prop :=
  ∃ C, mg x.c = some (.ref C) ∧ cls = .ref C ∧ match x.f with
    | none => dx = none
    | some (f, d) => ∃ a v, dx = some a ∧ H a = some (.xd [(f, v)]) ∧ Rep K F m d v

/-! ### a later state -/
structure Ext (F F' : Wd) (m m' : List Addr) : Prop where
  f : Same F.f F'.f
  p : F'.p = F.p
  m : m <+: m'
theorem Ext.refl {F : Wd} {m : List Addr} : Ext F F m m := ⟨Same.refl _, rfl, List.prefix_rfl⟩
theorem Ext.trans {F F1 F2 : Wd} {m m1 m2 : List Addr} (a : Ext F F1 m m1) (b : Ext F1 F2 m1 m2) : Ext F F2 m m2 := ⟨a.f.trans b.f, b.p.trans a.p, a.m.trans b.m⟩
theorem Ext.rep {K : PySem.W.Frag} {F F' : Wd} {m m' : List Addr} {d : D} {v : V} (x : Ext F F' m m') (h : Rep K F m d v) : Rep K F' m' d v := h.mono x.f x.m
theorem Ext.repL {K : PySem.W.Frag} {F F' : Wd} {m m' : List Addr} {d : List D} {v : List V} (x : Ext F F' m m') (h : RepL K F m d v) : RepL K F' m' d v := h.mono x.f x.m
theorem Ext.env {K : PySem.W.Frag} {F F' : Wd} {m m' : List Addr} {σ : Env} {σv : St} (x : Ext F F' m m') (h : RepE K F m σ σv) : RepE K F' m' σ σv :=
  ⟨h.1, fun i d e => let ⟨v, a, b⟩ := h.2 i d e; ⟨v, a, x.rep b⟩⟩
theorem MObj.ext {K : PySem.W.Frag} {F F' : Wd} {m m' : List Addr} {H : Hp} {a : Addr} {o : MO} (x : Ext F F' m m') (h : MObj K F m H a o) : MObj K F' m' H a o := by
  cases o with
  | lst xs => obtain ⟨vs, h1, h2⟩ := h; exact ⟨vs, h1, x.repL h2⟩
  | dk ks xs => obtain ⟨kvs, h1, h2, h3⟩ := h; exact ⟨kvs, h1, h2, x.repL h3⟩
  | dt ks xs => obtain ⟨kvs, h1, h2, h3⟩ := h; exact ⟨kvs, h1, h2, x.repL h3⟩
  | dead => exact h
theorem MObj.at' {K : PySem.W.Frag} {F : Wd} {m : List Addr} {H H' : Hp} {a : Addr} {o : MO} (h : MObj K F m H a o) (e : ∀ u, H a = some u → H' a = some u) : MObj K F m H' a o := by
  cases o with
  | lst xs => obtain ⟨vs, h1, h2⟩ := h; exact ⟨vs, e _ h1, h2⟩
  | dk ks xs => obtain ⟨kvs, h1, h2, h3⟩ := h; exact ⟨kvs, e _ h1, h2, h3⟩
  | dt ks xs => obtain ⟨kvs, h1, h2, h3⟩ := h; exact ⟨kvs, e _ h1, h2, h3⟩
  | dead => obtain ⟨u, h, g⟩ := h; exact ⟨u, e _ h, g⟩
theorem MObj.there {K : PySem.W.Frag} {F : Wd} {m : List Addr} {H : Hp} {a : Addr} {o : MO} (h : MObj K F m H a o) : ∃ u, H a = some u := by
  cases o with
  | lst xs => obtain ⟨vs, h1, h2⟩ := h; exact ⟨_, h1⟩
  | dk ks xs => obtain ⟨kvs, h1, h2, h3⟩ := h; exact ⟨_, h1⟩
  | dt ks xs => obtain ⟨kvs, h1, h2, h3⟩ := h; exact ⟨_, h1⟩
  | dead => obtain ⟨u, h, _⟩ := h; exact ⟨u, h⟩
theorem MObj.soft {K : PySem.W.Frag} {F : Wd} {m : List Addr} {H : Hp} {a : Addr} {o : MO} (h : MObj K F m H a o) (hd : o ≠ MO.dead) : ∀ u, H a = some u → soft u := fun u e => by
  cases o with
  | lst xs => obtain ⟨vs, h1, h2⟩ := h; rw [h1] at e; cases e; trivial
  | dk ks xs => obtain ⟨kvs, h1, h2, h3⟩ := h; rw [h1] at e; cases e; trivial
  | dt ks xs => obtain ⟨kvs, h1, h2, h3⟩ := h; rw [h1] at e; cases e; trivial
  | dead => exact absurd rfl hd
/-- only f counts for what stands for what -/
theorem Rep.wd {K : PySem.W.Frag} {f p p' : Hp} {m : List Addr} {d : D} {v : V} (h : Rep K ⟨f, p⟩ m d v) : Rep K ⟨f, p'⟩ m d v := Rep.mono (F := ⟨f, p⟩) (F' := ⟨f, p'⟩) (Same.refl f) List.prefix_rfl h
theorem RepL.wd {K : PySem.W.Frag} {f p p' : Hp} {m : List Addr} {d : List D} {v : List V} (h : RepL K ⟨f, p⟩ m d v) : RepL K ⟨f, p'⟩ m d v := RepL.mono (F := ⟨f, p⟩) (F' := ⟨f, p'⟩) (Same.refl f) List.prefix_rfl h
theorem MObj.wd {K : PySem.W.Frag} {F : Wd} {p' : Hp} {m : List Addr} {H : Hp} {a : Addr} {o : MO} (h : MObj K F m H a o) : MObj K ⟨F.f, p'⟩ m H a o := by
  cases o with
  | lst xs => obtain ⟨vs, h1, h2⟩ := h; exact ⟨vs, h1, h2.wd⟩
  | dk ks xs => obtain ⟨kvs, h1, h2, h3⟩ := h; exact ⟨kvs, h1, h2, h3.wd⟩
  | dt ks xs => obtain ⟨kvs, h1, h2, h3⟩ := h; exact ⟨kvs, h1, h2, h3.wd⟩
  | dead => exact h
theorem nt_upd {f : Hp} {p : Addr} {u : HO} (h : ∀ a ps, f a ≠ some (.tbl ps)) (hu : ∀ ps, u ≠ .tbl ps) : ∀ a ps, upd f p u a ≠ some (.tbl ps) := fun a ps e => by
  by_cases hb : a = p
  · subst hb; rw [upd_same] at e; exact hu ps (Option.some.inj e)
  · rw [upd_ne hb] at e; exact h a ps e
theorem same_upd {H : Hp} {p : Addr} {u : HO} (h : H p = none) : Same H (upd H p u) := fun b o e => by rw [upd_ne (ne_of_none e h)]; exact e

section
variable {K : PySem.W.Frag} {F : Wd} {m : List Addr} {st : Store} {H : Hp}
theorem SR.free (s : SR K F m st H) {p : Addr} (h : H p = none) : F.f p = none := by
  cases e : F.f p with
  | none => rfl
  | some u => rw [s.sub p u e] at h; cases h
theorem SR.freeP (s : SR K F m st H) {p : Addr} (h : H p = none) : F.p p = none := by
  cases e : F.p p with
  | none => rfl
  | some u => rw [s.pr p u e] at h; cases h
theorem SR.in_m (s : SR K F m st H) {p : Addr} (h : H p = none) : p ∉ m := fun hm => by
  obtain ⟨n, hn, e⟩ := List.mem_iff_getElem.mp hm
  have h1 : m[n]? = some p := by rw [List.getElem?_eq_getElem hn, e]
  have hn2 : n < st.length := by rw [← s.len]; exact hn
  obtain ⟨u, hu⟩ := (s.at_ n p _ h1 (List.getElem?_eq_getElem hn2)).there
  rw [h] at hu; cases hu
/-- F may know more of what stands in H -/
theorem SR.know (s : SR K F m st H) {p : Addr} {u : HO} (h : H p = some u) (hm : p ∉ m) (hf : F.f p = none ∨ F.f p = some u) (hp : F.p p = none) (hu : ∀ ps, u ≠ .tbl ps := by intro _ z; cases z) : SR K (F.upd p u) m st H ∧ Ext F (F.upd p u) m m := by
  have sa : Same F.f (upd F.f p u) := fun b o e => by
    by_cases hb : b = p
    · subst hb
      rcases hf with z | z
      · rw [z] at e; cases e
      · rw [z] at e; cases e; exact upd_same
    · rw [upd_ne hb]; exact e
  have x : Ext F (F.upd p u) m m := ⟨sa, rfl, List.prefix_rfl⟩
  refine ⟨⟨fun b o e => ?_, s.len, s.nd, fun n a o h1 h2 => ?_, s.pr, fun a o e => ⟨?_, (s.prF a o e).2⟩, fun n a o h1 h2 => (s.at_ n a o h1 h2).ext x, s.tab, nt_upd s.nt hu⟩, x⟩
  · have e : upd F.f p u b = some o := e
    by_cases hb : b = p
    · subst hb; rw [upd_same] at e; cases e; exact h
    · rw [upd_ne hb] at e; exact s.sub b o e
  · have q := s.nf n a o h1 h2
    cases o with
    | dead => trivial
    | _ =>
      have na : a ≠ p := fun e => by subst e; exact hm (List.mem_of_getElem? h1)
      show upd F.f p u a = none
      rw [upd_ne na]; exact q
  · show upd F.f p u a = none
    rw [upd_ne (fun z => by subst z; rw [hp] at e; cases e)]
    exact (s.prF a o e).1
/-- .. a tuple always -/
theorem SR.knowT (s : SR K F m st H) {p : Addr} {vs : List V} (h : H p = some (.tup vs)) : SR K (F.upd p (.tup vs)) m st H ∧ Ext F (F.upd p (.tup vs)) m m := by
  have hf : F.f p = none ∨ F.f p = some (.tup vs) := by
    cases e : F.f p with
    | none => exact .inl rfl
    | some u =>
      have := s.sub p u e
      rw [h] at this
      exact .inr (by rw [← Option.some.inj this])
  have hp : F.p p = none := by
    cases e : F.p p with
    | none => rfl
    | some u =>
      have h1 := s.pr p u e
      obtain ⟨_, _, xs, h2⟩ := s.prF p u e
      rw [h, h2] at h1
      cases h1
  have sa : Same F.f (upd F.f p (.tup vs)) := fun b o e => by
    by_cases hb : b = p
    · subst hb
      rcases hf with z | z
      · rw [z] at e; cases e
      · rw [z] at e; cases e; exact upd_same
    · rw [upd_ne hb]; exact e
  have x : Ext F (F.upd p (.tup vs)) m m := ⟨sa, rfl, List.prefix_rfl⟩
  refine ⟨⟨fun b o e => ?_, s.len, s.nd, fun n a o h1 h2 => ?_, s.pr, fun a o e => ⟨?_, (s.prF a o e).2⟩, fun n a o h1 h2 => (s.at_ n a o h1 h2).ext x, s.tab, nt_upd s.nt (by intro _ z; cases z)⟩, x⟩
  · have e : upd F.f p (.tup vs) b = some o := e
    by_cases hb : b = p
    · subst hb; rw [upd_same] at e; cases e; exact h
    · rw [upd_ne hb] at e; exact s.sub b o e
  · have q := s.nf n a o h1 h2
    have ob := s.at_ n a o h1 h2
    cases o with
    | dead => trivial
    | lst xs =>
      obtain ⟨us, e, _⟩ := ob
      have na : a ≠ p := fun z => by subst z; rw [h] at e; cases e
      show upd F.f p _ a = none
      rw [upd_ne na]; exact q
    | dk ks xs =>
      obtain ⟨us, e, _⟩ := ob
      have na : a ≠ p := fun z => by subst z; rw [h] at e; cases e
      show upd F.f p _ a = none
      rw [upd_ne na]; exact q
    | dt ks xs =>
      obtain ⟨us, e, _⟩ := ob
      have na : a ≠ p := fun z => by subst z; rw [h] at e; cases e
      show upd F.f p _ a = none
      rw [upd_ne na]; exact q
  · show upd F.f p _ a = none
    rw [upd_ne (fun z => by subst z; rw [hp] at e; cases e)]
    exact (s.prF a o e).1
/-- something stands there that is neither frozen nor the store's -/
theorem SR.extra (s : SR K F m st H) {p : Addr} (h : H p = none) (u : HO) : SR K F m st (upd H p u) :=
  ⟨fun b o e => same_upd h b o (s.sub b o e), s.len, s.nd, s.nf, fun b o e => same_upd h b o (s.pr b o e), s.prF, fun n a o h1 h2 => (s.at_ n a o h1 h2).at' fun u' hu => by rw [upd_ne (ne_of_none hu h)]; exact hu, tabs_soft s.tab u (fun o e => by rw [h] at e; cases e), s.nt⟩
/-- a new object is laid that never changes (u as it stands in F) -/
theorem SR.new (s : SR K F m st H) {p : Addr} (h : H p = none) (u : HO) (hu : ∀ ps, u ≠ .tbl ps := by intro _ z; cases z) : SR K (F.upd p u) m st (upd H p u) ∧ Ext F (F.upd p u) m m :=
  (s.extra h u).know upd_same (s.in_m h) (.inl (s.free h)) (s.freeP h) hu
theorem nodup_get {l : List Addr} (h : l.Nodup) {i j : Nat} {x : Addr} (a : l[i]? = some x) (b : l[j]? = some x) : i = j := by
  obtain ⟨h1, e1⟩ := List.getElem?_eq_some_iff.mp a
  obtain ⟨h2, e2⟩ := List.getElem?_eq_some_iff.mp b
  exact (List.getElem_inj h).mp (e1.trans e2.symm)
theorem SR.ne_p (s : SR K F m st H) {n : Nat} {a : Addr} (h : m[n]? = some a) : F.p a = none := by
  cases e : F.p a with
  | none => rfl
  | some u => exact absurd (List.mem_of_getElem? h) (s.prF a u e).2.1
/-- an object of the store is changed -/
theorem SR.write (s : SR K F m st H) {n : Nat} {p : Addr} {o o' : MO} (h1 : m[n]? = some p) (h2 : st[n]? = some o) (hd : o ≠ MO.dead) {u : HO} (hu : MObj K F m (upd H p u) p o') : SR K F m (st.set n o') (upd H p u) := by
  have fp : F.f p = none := by
    have q := s.nf n p o h1 h2
    cases o with
    | dead => exact absurd rfl hd
    | _ => exact q
  have hn := (List.getElem?_eq_some_iff.mp h2).1
  refine ⟨fun b u' e => ?_, by simp [s.len], s.nd, fun k a q k1 k2 => ?_, fun b u' e => ?_, s.prF, fun k a q k1 k2 => ?_, tabs_soft s.tab u ((s.at_ n p o h1 h2).soft hd), s.nt⟩
  · rw [upd_ne (fun z => by subst z; rw [fp] at e; cases e)]
    exact s.sub b u' e
  · by_cases hk : k = n
    · subst hk
      rw [h1] at k1; cases k1
      cases q with
      | dead => trivial
      | _ => exact fp
    · rw [List.getElem?_set_ne (Ne.symm hk)] at k2
      exact s.nf k a q k1 k2
  · rw [upd_ne (fun z => by subst z; rw [s.ne_p h1] at e; cases e)]
    exact s.pr b u' e
  · by_cases hk : k = n
    · subst hk
      rw [h1] at k1; cases k1
      rw [List.getElem?_set_self hn] at k2; cases k2
      exact hu
    · rw [List.getElem?_set_ne (Ne.symm hk)] at k2
      have na : a ≠ p := fun z => by subst z; exact hk (nodup_get s.nd k1 h1)
      exact (s.at_ k a q k1 k2).at' fun u' hu' => by rw [upd_ne na]; exact hu'
/-- an object of the store never changes from now on: u is how it stands then -/
theorem SR.freeze (s : SR K F m st H) {n : Nat} {p : Addr} {o : MO} (h1 : m[n]? = some p) (h2 : st[n]? = some o) (hd : o ≠ MO.dead) (u : HO) (hu : ∀ ps, u ≠ .tbl ps := by intro _ z; cases z) : SR K (F.upd p u) m (st.set n .dead) (upd H p u) ∧ Ext F (F.upd p u) m m := by
  have fp : F.f p = none := by
    have q := s.nf n p o h1 h2
    cases o with
    | dead => exact absurd rfl hd
    | _ => exact q
  have x : Ext F (F.upd p u) m m := ⟨same_upd fp, rfl, List.prefix_rfl⟩
  have hn := (List.getElem?_eq_some_iff.mp h2).1
  refine ⟨⟨fun b u' e => ?_, by simp [s.len], s.nd, fun k a q k1 k2 => ?_, fun b u' e => ?_, fun a o' e => ⟨?_, (s.prF a o' e).2⟩, fun k a q k1 k2 => ?_, tabs_soft s.tab u ((s.at_ n p o h1 h2).soft hd), nt_upd s.nt hu⟩, x⟩
  · have e : upd F.f p u b = some u' := e
    by_cases hb : b = p
    · subst hb; rw [upd_same] at e ⊢; exact e
    · rw [upd_ne hb] at e ⊢; exact s.sub b u' e
  · by_cases hk : k = n
    · subst hk
      rw [List.getElem?_set_self hn] at k2; cases k2
      trivial
    · rw [List.getElem?_set_ne (Ne.symm hk)] at k2
      have na : a ≠ p := fun z => by subst z; exact hk (nodup_get s.nd k1 h1)
      have q1 := s.nf k a q k1 k2
      cases q with
      | dead => trivial
      | _ =>
        show upd F.f p u a = none
        rw [upd_ne na]; exact q1
  · rw [upd_ne (fun z => by subst z; rw [s.ne_p h1] at e; cases e)]
    exact s.pr b u' e
  · show upd F.f p u a = none
    rw [upd_ne (fun z => by subst z; rw [s.ne_p h1] at e; cases e)]
    exact (s.prF a o' e).1
  · by_cases hk : k = n
    · subst hk
      rw [h1] at k1; cases k1
      rw [List.getElem?_set_self hn] at k2; cases k2
      exact ⟨u, upd_same, hu⟩
    · rw [List.getElem?_set_ne (Ne.symm hk)] at k2
      have na : a ≠ p := fun z => by subst z; exact hk (nodup_get s.nd k1 h1)
      exact ((s.at_ k a q k1 k2).ext x).at' fun u' hu' => by rw [upd_ne na]; exact hu'
theorem SR.at_ref (s : SR K F m st H) {n : Nat} {a : Addr} {o : MO} (h : m[n]? = some a) (e : st[n]? = some o) : MObj K F m H a o := s.at_ n a o h e
/-- it becomes the store's -/
theorem SR.adopt (s : SR K F m st H) {p : Addr} {o : MO} (hf : F.f p = none) (hp : F.p p = none) (hm : p ∉ m) (hu : MObj K F m H p o) : SR K F (m ++ [p]) (st ++ [o]) H ∧ Ext F F m (m ++ [p]) := by
  have x : Ext F F m (m ++ [p]) := ⟨Same.refl _, rfl, List.prefix_append _ _⟩
  have sp : ∀ {n : Nat} {a : Addr} {o' : MO}, (m ++ [p])[n]? = some a → (st ++ [o])[n]? = some o' → (m[n]? = some a ∧ st[n]? = some o') ∨ (n = m.length ∧ a = p ∧ o' = o) := fun {n a o'} h1 h2 => by
    by_cases hn : n < m.length
    · rw [List.getElem?_append_left hn] at h1
      rw [List.getElem?_append_left (by rw [← s.len]; exact hn)] at h2
      exact .inl ⟨h1, h2⟩
    · have hn2 : n = m.length := by
        have := (List.getElem?_eq_some_iff.mp h1).1
        simp at this
        omega
      subst hn2
      rw [List.getElem?_append_right (Nat.le_refl _)] at h1
      rw [List.getElem?_append_right (by rw [s.len]; exact Nat.le_refl _)] at h2
      simp [s.len] at h1 h2
      exact .inr ⟨rfl, h1.symm, h2.symm⟩
  refine ⟨⟨s.sub, by simp [s.len], ?_, fun n a o' h1 h2 => ?_, s.pr, fun a u e => ⟨(s.prF a u e).1, fun hm' => ?_, (s.prF a u e).2.2⟩, fun n a o' h1 h2 => ?_, s.tab, s.nt⟩, x⟩
  · refine List.nodup_append.mpr ⟨s.nd, by simp, fun a ha b hb => ?_⟩
    have eb : b = p := by simpa using hb
    subst eb
    intro e
    subst e
    exact hm ha
  · rcases sp h1 h2 with ⟨h1, h2⟩ | ⟨_, rfl, rfl⟩
    · exact s.nf n a o' h1 h2
    · cases o' with
      | dead => trivial
      | _ => exact hf
  · rcases List.mem_append.mp hm' with q | q
    · exact (s.prF a u e).2.1 q
    · have eb : a = p := by simpa using q
      subst eb
      rw [hp] at e; cases e
  · rcases sp h1 h2 with ⟨h1, h2⟩ | ⟨_, rfl, rfl⟩
    · exact (s.at_ n a o' h1 h2).ext x
    · exact hu.ext x
/-- what is not the store's, not frozen and not put aside may change -/
theorem SR.touch (s : SR K F m st H) {p : Addr} (hf : F.f p = none) (hp : F.p p = none) (hm : p ∉ m) (u : HO) (hs : ∀ o, H p = some o → soft o) : SR K F m st (upd H p u) :=
  ⟨fun b o e => by
    rw [upd_ne (fun z => by subst z; rw [hf] at e; cases e)]
    exact s.sub b o e, s.len, s.nd, s.nf, fun b o e => by
    rw [upd_ne (fun z => by subst z; rw [hp] at e; cases e)]
    exact s.pr b o e, s.prF, fun n a o h1 h2 => (s.at_ n a o h1 h2).at' fun u' hu => by
    rw [upd_ne (fun z => by subst z; exact hm (List.mem_of_getElem? h1))]
    exact hu, tabs_soft s.tab u hs, s.nt⟩
/-- something is put aside, or changes there: F, with p as it is now -/
theorem SR.aside (s : SR K F m st H) {p : Addr} {xs : List V} (h : H p = some (.lst xs)) (hf : F.f p = none) (hm : p ∉ m) : SR K ⟨F.f, upd F.p p (.lst xs)⟩ m st H := by
  refine ⟨s.sub, s.len, s.nd, s.nf, fun b o e => ?_, fun a o e => ?_, fun n a o h1 h2 => (s.at_ n a o h1 h2).wd, s.tab, s.nt⟩
  · have e : upd F.p p (.lst xs) b = some o := e
    by_cases hb : b = p
    · subst hb; rw [upd_same] at e; cases e; exact h
    · rw [upd_ne hb] at e; exact s.pr b o e
  · have e : upd F.p p (.lst xs) a = some o := e
    by_cases hb : a = p
    · subst hb; rw [upd_same] at e; cases e; exact ⟨hf, hm, _, rfl⟩
    · rw [upd_ne hb] at e; exact s.prF a o e
/-- .. and back -/
theorem SR.back {F0 : Wd} (s : SR K F m st H) {p : Addr} {u : HO} (e : F.p = upd F0.p p u) (h0 : F0.p p = none) : SR K ⟨F.f, F0.p⟩ m st H := by
  have sm : ∀ b o, F0.p b = some o → F.p b = some o := fun b o q => by rw [e, upd_ne (ne_of_none q h0)]; exact q
  exact ⟨s.sub, s.len, s.nd, s.nf, fun b o q => s.pr b o (sm b o q), fun a o q => s.prF a o (sm a o q), fun n a o h1 h2 => (s.at_ n a o h1 h2).wd, s.tab, s.nt⟩
end
/-- a value that may be new: a list, a dict that nobody else has -/
def NewR (K : PySem.W.Frag) (F : Wd) (m : List Addr) (H : Hp) (d : D) (v : V) : Prop := match d with
  | .lst xs => ∃ p vs, v = .ref p ∧ H p = some (.lst vs) ∧ F.f p = none ∧ F.p p = none ∧ p ∉ m ∧ RepL K F m xs vs
  | .dk ks xs => ∃ p kvs, v = .ref p ∧ H p = some (.dK kvs) ∧ F.f p = none ∧ F.p p = none ∧ p ∉ m ∧ ks = kvs.map (·.1) ∧ RepL K F m xs (kvs.map (·.2))
  | .dt ks xs => ∃ p kvs, v = .ref p ∧ H p = some (.dT kvs) ∧ F.f p = none ∧ F.p p = none ∧ p ∉ m ∧ ks = kvs.map (·.1) ∧ RepL K F m xs (kvs.map (·.2))
  | d => Rep K F m d v
end MN
set_option Elab.async false
set_option linter.all false
set_option maxRecDepth 100000
/-! MiniE: readings by what is computed; operators. -/
namespace MN
variable [TabP]
open PySem PySem.Spec L2

section
variable {α β γ δ : Type} (X : Cx) (rel : Wd → List Addr → α → β → Prop) (W : WX)
/-- what is wanted behind a computation -/
def PostG (σv : St) (F : Wd) (m : List Addr) (Q : β → Hp → Prop) : R α → Prop
  | .ok a st' => ∀ F' m' H' b, Ext F F' m m' → SR X.K F' m' st' H' → rel F' m' a b → Q b H'
  | .err x st' => ∀ F' m' H' cls dx, Ext F F' m m' → SR X.K F' m' st' H' → RepX X.K X.mg F' m' H' x cls dx → W cls dx σv H'
  | .bad => False
def LG (f : Env → M α) : St → Hp → (β → Hp → Prop) → Prop := fun σv H Q => ∃ F m σ st, SR X.K F m st H ∧ RepE X.K F m σ σv ∧ PostG X rel W σv F m Q (f σ st)
end
section
variable (X : Cx) (W : WX)
/-- as PostG, of a value that may be new -/
def PostN (σv : St) (F : Wd) (m : List Addr) (Q : VK) : R D → Prop
  | .ok d st' => ∀ F' m' H' v, Ext F F' m m' → SR X.K F' m' st' H' → NewR X.K F' m' H' d v → Q v H'
  | .err x st' => ∀ F' m' H' cls dx, Ext F F' m m' → SR X.K F' m' st' H' → RepX X.K X.mg F' m' H' x cls dx → W cls dx σv H'
  | .bad => False
def liftN (f : Env → M D) : TE := fun σv H Q => ∃ F m σ st, SR X.K F m st H ∧ RepE X.K F m σ σv ∧ PostN X W σv F m Q (f σ st)
end
abbrev lift (X : Cx) (W : WX) (f : Env → M D) : TE := LG X (Rep X.K) W f
abbrev liftL (X : Cx) (W : WX) (f : Env → M (List D)) : TA := LG X (RepL X.K) W f
abbrev liftT (X : Cx) (W : WX) (f : Env → M Bool) : TT := LG X (fun _ _ a b => a = b) W f
abbrev liftO (X : Cx) (W : WX) (f : Env → M (Option Int)) : TO := LG X (fun _ _ a b => a = b) W f

section
variable {α β γ δ : Type} {X : Cx} {relA : Wd → List Addr → α → β → Prop} {relC : Wd → List Addr → γ → δ → Prop} {W : WX} {σv : St} {F F' : Wd} {m m' : List Addr}
theorem PostG.ext {Q : β → Hp → Prop} (x : Ext F F' m m') : ∀ {r : R α}, PostG X relA W σv F m Q r → PostG X relA W σv F' m' Q r
  | .ok a st', h => fun F2 m2 H2 b x2 => h F2 m2 H2 b (x.trans x2)
  | .err e st', h => fun F2 m2 H2 c d x2 => h F2 m2 H2 c d (x.trans x2)
  | .bad, h => h
theorem PostG.imp {Q Q' : β → Hp → Prop} (hq : ∀ F' m' H' a b, Ext F F' m m' → relA F' m' a b → Q b H' → Q' b H') : ∀ {r : R α}, PostG X relA W σv F m Q r → PostG X relA W σv F m Q' r
  | .ok a st', h => fun F2 m2 H2 b x2 s r => hq _ _ _ _ _ x2 r (h F2 m2 H2 b x2 s r)
  | .err e st', h => fun F2 m2 H2 c d x2 => h F2 m2 H2 c d x2
  | .bad, h => h
theorem post_bnd {st : Store} {mx : M α} {k : α → M γ} {Q : δ → Hp → Prop} {Q' : β → Hp → Prop} (h : PostG X relC W σv F m Q (M.bnd mx k st))
    (hQ : ∀ F' m' H' st' a b, Ext F F' m m' → SR X.K F' m' st' H' → relA F' m' a b → PostG X relC W σv F' m' Q (k a st') → Q' b H') : PostG X relA W σv F m Q' (mx st) := by
  unfold M.bnd at h
  cases e : mx st with
  | ok a st' =>
    rw [e] at h
    intro F' m' H' b x s r
    exact hQ F' m' H' st' a b x s r (h.ext x)
  | err x st' => rw [e] at h; exact h
  | bad => rw [e] at h; exact h
theorem PostN.ext {Q : VK} (x : Ext F F' m m') : ∀ {r : R D}, PostN X W σv F m Q r → PostN X W σv F' m' Q r
  | .ok a st', h => fun F2 m2 H2 b x2 => h F2 m2 H2 b (x.trans x2)
  | .err e st', h => fun F2 m2 H2 c d x2 => h F2 m2 H2 c d (x.trans x2)
  | .bad, h => h
theorem post_bndN {st : Store} {mx : M α} {k : α → M D} {Q : VK} {Q' : β → Hp → Prop} (h : PostN X W σv F m Q (M.bnd mx k st))
    (hQ : ∀ F' m' H' st' a b, Ext F F' m m' → SR X.K F' m' st' H' → relA F' m' a b → PostN X W σv F' m' Q (k a st') → Q' b H') : PostG X relA W σv F m Q' (mx st) := by
  unfold M.bnd at h
  cases e : mx st with
  | ok a st' =>
    rw [e] at h
    intro F' m' H' b x s r
    exact hQ F' m' H' st' a b x s r (h.ext x)
  | err x st' => rw [e] at h; exact h
  | bad => rw [e] at h; exact h
theorem post_ret {st : Store} {a : α} {b : β} {H : Hp} {Q : β → Hp → Prop} (h : PostG X relA W σv F m Q (R.ok a st)) (s : SR X.K F m st H) (r : relA F m a b) : Q b H := h F m H b Ext.refl s r
end

theorem _root_.L2.PE.imp {X : Cx} {e : Expr} {t t' : TE} (h : PE X e t) (i : ∀ σ H Q, t' σ H Q → t σ H Q) : PE X e t' := ⟨fun pins s σ H Q I q => h.run pins s σ H Q I (i σ H Q q)⟩
theorem _root_.L2.PT.imp {X : Cx} {e : Expr} {t t' : TT} (h : PT X e t) (i : ∀ σ H Q, t' σ H Q → t σ H Q) : PT X e t' := ⟨fun pins s σ H Q I q => h.run pins s σ H Q I (i σ H Q q)⟩
theorem _root_.L2.PW.imp {X : Cx} {e : Expr} {t t' : TT} (h : PW X e t) (i : ∀ σ H Q, t' σ H Q → t σ H Q) : PW X e t' := ⟨fun wh pins s σ H Q I q => h.run wh pins s σ H Q I (i σ H Q q)⟩
theorem _root_.L2.PA.imp {X : Cx} {e : List Expr} {t t' : TA} (h : PA X e t) (i : ∀ σ H Q, t' σ H Q → t σ H Q) : PA X e t' := ⟨fun pos pins s σ H Q I q => h.run pos pins s σ H Q I (i σ H Q q)⟩
theorem _root_.L2.PO.imp {X : Cx} {e : Option Expr} {t t' : TO} (h : PO X e t) (i : ∀ σ H Q, t' σ H Q → t σ H Q) : PO X e t' := ⟨fun pins s σ H Q I q => h.run pins s σ H Q I (i σ H Q q)⟩
theorem _root_.L2.PS.imp {X : Cx} {e : Stmt} {t t' : TS} (h : PS X e t) (i : ∀ D σ H, t' D σ H → t D σ H) : PS X e t' := ⟨fun pins s σ H Q I q => h.run pins s σ H Q I (i Q σ H q)⟩
theorem _root_.L2.PSs.imp {X : Cx} {e : List Stmt} {t t' : TS} (h : PSs X e t) (i : ∀ D σ H, t' D σ H → t D σ H) : PSs X e t' := ⟨fun pins s σ H Q I q => h.run pins s σ H Q I (i Q σ H q)⟩

section
variable {Φ : Str → List D → M D} {G : Str → Option D} {X : Cx} {W : WX} {a b c : Expr} {ea eb ec : E} {pos : Pos}

/-! ### names, constants -/
theorem s_var {i : Nat} {x : Str} (hN : X.N[i]? = some x) (hv : Vis X.env.scope x) (hd : (x == ("__debug__" : Str)) = false) (hcd : (x == ("__classdict__" : Str)) = false) : PE X (.Name x pos) (lift X W (ev Φ G (.var i))) := by
  refine (pe_var hN hv hd hcd).imp fun σv H Q ⟨F, m, σ, st, sr, re, h⟩ => ?_
  unfold ev at h
  cases e : σ[i]? with
  | none => simp only [e] at h; exact h.elim
  | some o =>
    cases o with
    | none => simp only [e] at h; exact h.elim
    | some d =>
      simp only [e] at h
      obtain ⟨v, hv, r⟩ := re.2 i d e
      exact ⟨v, hv, post_ret h sr r⟩
theorem s_cst {k : Const} {j : Nat} {cc : C} (h : (match k with
    | .none => some C.non
    | .bool b => some (.bl b)
    | .int i => some (.int i)
    | .str x => some (.str x)
    | _ => none) = some cc) : PE X (.Constant k j pos) (lift X W (ev Φ G (.cst cc))) := by
  cases k with
  | none => cases h; exact pe_non.imp fun σv H Q ⟨F, m, σ, st, sr, re, h⟩ => post_ret (st := st) (a := D.non) h sr .non
  | bool b => cases h; exact pe_bl.imp fun σv H Q ⟨F, m, σ, st, sr, re, h⟩ => post_ret (st := st) (a := D.bl b) h sr (.bl b)
  | int i => cases h; exact pe_int.imp fun σv H Q ⟨F, m, σ, st, sr, re, h⟩ => post_ret (st := st) (a := D.int i) h sr (.int i)
  | str x => cases h; exact pe_str.imp fun σv H Q ⟨F, m, σ, st, sr, re, h⟩ => post_ret (st := st) (a := D.str x) h sr (.str x)
  | _ => cases h
theorem s_glo {x : Str} {d : D} (hG : G x = some d) (hg : Gl X x) (hm : ∃ u v, X.mg x = some u ∧ RelV v u ∧ ∀ F m, Rep X.K F m d v) (hd : (x == ("__debug__" : Str)) = false) : PE X (.Name x pos) (lift X W (ev Φ G (.glo x))) := by
  obtain ⟨u, v, h1, h2, h3⟩ := hm
  refine (pe_glob hg h1 h2 hd).imp fun σv H Q ⟨F, m, σ, st, sr, re, h⟩ => ?_
  unfold ev ofO at h
  simp only [hG] at h
  exact post_ret h sr (h3 F m)

/-! ### binary operators -/
theorem SqL_of_list {K : PySem.W.Frag} {F : Wd} {m : List Addr} {st : Store} {H : Hp} (sr : SR K F m st H) {d : D} {v : V} {xs : List D} (r : Rep K F m d v) (e : listAt st d = some xs) : ∃ a vs, v = .ref a ∧ H a = some (.lst vs) ∧ RepL K F m xs vs := by
  cases r with
  | lst h r => simp [listAt] at e; subst e; exact ⟨_, _, rfl, sr.sub _ _ h, r⟩
  | ref h =>
    rename_i n a
    unfold listAt at e
    cases q : st[n]? with
    | none => simp [q] at e
    | some o =>
      cases o <;> simp [q] at e
      subst e
      obtain ⟨vs, h1, h2⟩ := sr.at_ref h q
      exact ⟨_, _, rfl, h1, h2⟩
  | _ => simp [listAt] at e
theorem seq_of {K : PySem.W.Frag} {F : Wd} {m : List Addr} {st : Store} {H : Hp} (sr : SR K F m st H) {d : D} {v : V} {xs : List D} (r : Rep K F m d v) (e : seqAt st d = some xs) : ∃ a vs, v = .ref a ∧ (SqL K H a vs ∨ SqT K H a vs) ∧ RepL K F m xs vs := by
  cases d with
  | tup w ds =>
    simp [seqAt] at e
    subst e
    obtain ⟨a, vs, rfl, h, q⟩ := r.tup_inv
    exact ⟨a, vs, rfl, .inr (Same.seqT sr.sub h), q⟩
  | _ =>
    obtain ⟨a, vs, rfl, h, q⟩ := SqL_of_list sr r e
    exact ⟨a, vs, rfl, .inl (SqL.of h), q⟩
theorem szOk {n : Nat} (h : sizeOk n = true) : n ≤ sizeLine := by
  unfold sizeOk at h
  rw [sizeLine_eq]
  have := of_decide_eq_true h
  omega
theorem szLt {n : Nat} (h : sizeOk (n + 1) = true) : n < sizeLine := Nat.lt_of_succ_le (szOk h)

/-- what an operator's rule asks, from what is computed -/
def OpS (X : Cx) (f : D → D → Store → Option D) (r : R2) : Prop := ∀ (F : Wd) (m : List Addr) (st : Store) (H : Hp) (x y : D) (vx vy : V) (d : D) (Q : VK), SR X.K F m st H → Rep X.K F m x vx → Rep X.K F m y vy → f x y st = some d →
  (∀ F' m' H' v, Ext F F' m m' → SR X.K F' m' st H' → NewR X.K F' m' H' d v → Q v H') → r vx vy H Q
theorem s_bin2 {f : D → D → Store → Option D} {r : R2} (hs : OpS X f r) {σv : St} {H : Hp} {Q : VK}
    (h : liftN X W (fun σ => .bnd (ev Φ G ea σ) fun x => .bnd (ev Φ G eb σ) fun y => fun st => match f x y st with
      | some d => .ok d st
      | none => .bad) σv H Q) : tOp r (lift X W (ev Φ G ea)) (lift X W (ev Φ G eb)) σv H Q := by
  obtain ⟨F, m, σ, st, sr, re, h⟩ := h
  refine ⟨F, m, σ, st, sr, re, post_bndN h fun F1 m1 H1 st1 x vx x1 sr1 rx h1 => ?_⟩
  refine ⟨F1, m1, σ, st1, sr1, x1.env re, post_bndN h1 fun F2 m2 H2 st2 y vy x2 sr2 ry h2 => ?_⟩
  cases e : f x y st2 with
  | none => simp only [e] at h2; exact h2.elim
  | some d =>
    simp only [e] at h2
    exact hs F2 m2 st2 H2 x y vx vy d Q sr2 (x2.rep rx) ry e fun F' m' H' v x' s' r' => h2 F' m' H' v x' s' r'
theorem OpS.or {f : D → D → Store → Option D} {r r' : R2} (h : OpS X f fun x y H Q => r x y H Q ∨ r' x y H Q) : OpS X f (fun x y H Q => r x y H Q ∨ r' x y H Q) := h

abbrev rStrCat : R2 := fun x y H Q => ∃ i j, x = .str i ∧ y = .str j ∧ i.length + j.length ≤ sizeLine ∧ Q (.str (i ++ j)) H
abbrev rBI (f : Int → Int → V) : R2 := fun x y H Q => ∃ b j, x = .bl b ∧ y = .int j ∧ Q (f (if b = true then (1 : Int) else 0) j) H
def rAddM (K : PySem.W.Frag) : R2 := fun x y H Q => rI0 (fun i j => .int (i + j)) x y H Q ∨ rBI (fun i j => .int (i + j)) x y H Q ∨ rStrCat x y H Q ∨ rCatA K x y H Q ∨ rCat x y H Q
theorem opr_add : OpR X (binaryOp .Add) (rAddM X.K) := by
  have h1 : OpR X (binaryOp .Add) (rI0 fun i j => .int (i + j)) := op_add
  have h2 : OpR X (binaryOp .Add) (rBI fun i j => .int (i + j)) := by
    intro pins s σ H x y v u Q I rx ry h
    obtain ⟨b, j, rfl, rfl, q⟩ := h
    cases (show v = Value.bool b from rx)
    obtain ⟨t', rfl⟩ := ry
    exact IntBool.add_bool_int ⟨.int _, H, I.tok _, ⟨_, rfl⟩, q⟩
  exact h1.or (h2.or (op_add_str.or (op_catA.or op_cat)))
theorem ops_add : OpS X (binO .Add) (rAddM X.K) := by
  intro F m st H x y vx vy d Q sr rx ry e hq
  have lists : ∀ xs ys, listAt st x = some xs → listAt st y = some ys → sizeOk (xs.length + ys.length) = true → d = .lst (xs ++ ys) → rAddM X.K vx vy H Q := fun xs ys h1 h2 hz hd => by
    obtain ⟨a, vs, rfl, ha, ra⟩ := SqL_of_list sr rx h1
    obtain ⟨b, us, rfl, hb, rb⟩ := SqL_of_list sr ry h2
    refine .inr (.inr (.inr (.inr ⟨a, b, vs, us, rfl, rfl, ha, hb, by rw [← ra.length, ← rb.length]; exact szOk hz, fun p hp => ?_⟩)))
    subst hd
    exact hq _ _ _ _ Ext.refl (sr.extra hp _) ⟨p, vs ++ us, rfl, upd_same, sr.free hp, sr.freeP hp, sr.in_m hp, ra.append rb⟩
  have gen : (match listAt st x, listAt st y with
      | some xs, some ys => if sizeOk (xs.length + ys.length) then some (D.lst (xs ++ ys)) else none
      | _, _ => none) = some d → rAddM X.K vx vy H Q := fun e => by
    cases h1 : listAt st x with
    | none => simp [h1] at e
    | some xs =>
      cases h2 : listAt st y with
      | none => simp [h1, h2] at e
      | some ys =>
        simp only [h1, h2] at e
        by_cases hz : sizeOk (xs.length + ys.length) = true
        · rw [if_pos hz] at e
          exact lists xs ys h1 h2 hz (Option.some.inj e).symm
        · rw [if_neg hz] at e; cases e
  unfold binO at e
  cases x with
  | int i =>
    cases y with
    | int j =>
      cases e
      cases rx; cases ry
      exact .inl ⟨i, j, rfl, rfl, hq _ _ _ _ Ext.refl sr (show Rep _ _ _ (.int _) _ from .int _)⟩
    | _ => exact gen e
  | bl b0 =>
    cases y with
    | int j =>
      cases e
      cases rx; cases ry
      exact .inr (.inl ⟨b0, j, rfl, rfl, hq _ _ _ _ Ext.refl sr (show Rep _ _ _ (.int _) _ from .int _)⟩)
    | _ => exact gen e
  | str i =>
    cases y with
    | str j =>
      simp only at e
      by_cases hz : sizeOk (i.length + j.length) = true
      · rw [if_pos hz] at e
        cases e
        cases rx; cases ry
        exact .inr (.inr (.inl ⟨i, j, rfl, rfl, szOk hz, hq _ _ _ _ Ext.refl sr (show Rep _ _ _ (.str _) _ from .str _)⟩))
      · rw [if_neg hz] at e; cases e
    | _ => exact gen e
  | tup w xs =>
    cases y with
    | tup u ys =>
      simp only at e
      by_cases hz : sizeOk (xs.length + ys.length) = true
      · rw [if_pos hz] at e
        cases e
        have rx0 := rx
        have ry0 := ry
        obtain ⟨a, vs, rfl, ha, ra⟩ := rx.tup_inv
        obtain ⟨b, us, rfl, hb, rb⟩ := ry.tup_inv
        refine .inr (.inr (.inr (.inl ⟨a, b, vs, us, rfl, rfl, Same.seqT sr.sub ha, Same.seqT sr.sub hb, by rw [← ra.length, ← rb.length]; exact szOk hz, fun hv => ?_, fun hv hu => ?_, fun hv hu p hp => ?_⟩)))
        · subst hv
          cases ra
          refine hq _ _ _ _ Ext.refl sr ?_
          show Rep _ _ _ (.tup _ _) _
          rw [List.nil_append]
          cases w with
          | true => exact .tupW hb rb
          | false => rw [Bool.false_or]; exact ry0
        · subst hu
          cases rb
          refine hq _ _ _ _ Ext.refl sr ?_
          show Rep _ _ _ (.tup _ _) _
          rw [List.append_nil]
          cases u with
          | true => rw [Bool.or_true]; exact .tupW ha ra
          | false => rw [Bool.or_false]; exact rx0
        · obtain ⟨s2, x2⟩ := sr.new hp (.tup (vs ++ us))
          exact hq _ _ _ _ x2 s2 (show Rep _ _ _ (.tup _ _) _ from Rep.tup_any upd_same (x2.repL (ra.append rb)))
      · rw [if_neg hz] at e; cases e
    | _ => exact gen e
  | _ => exact gen e
def rRepS : R2 := fun x y H Q => ∃ (a : Str) (j : Int), x = .str a ∧ y = .int j ∧ 2 ≤ j ∧ j ≤ 1000 ∧ 0 < a.length ∧ a.length ≤ 1000 ∧ Q (.str ⟨(List.replicate j.toNat a.cps).foldl (· ++ ·) #[]⟩) H
theorem rep_size (x : Array Nat) : ∀ (n : Nat) (b : Array Nat), ((List.replicate n x).foldl (fun x1 x2 => x1 ++ x2) b).size = b.size + n * x.size
  | 0, b => by simp
  | n + 1, b => by
    rw [List.replicate_succ, List.foldl_cons, rep_size x n, Array.size_append, Nat.succ_mul]
    omega
theorem op_repS : OpR X (binaryOp .Mult) rRepS := by
  intro pins s σ H x y v u Q I rx ry h
  obtain ⟨a, j, rfl, rfl, h1, h2, h3, h4, q⟩ := h
  obtain ⟨t, rfl⟩ := rx
  obtain ⟨t', rfl⟩ := ry
  have e1 : (j == 1) = false := by rw [beq_eq_false_iff_ne]; omega
  have e2 : (a.length == 0) = false := by rw [beq_eq_false_iff_ne]; omega
  refine PySem.P.mul_str ?_ (fun _ _ => ?_) (fun _ _ => ?_) ?_
  · rw [decide_eq_false (by omega), decide_eq_false (by omega)]; rfl
  · have g := Int.le_ediv_of_mul_le (a := 1000000) (b := 2 ^ 63 - 1) (c := j) (by omega) (by omega)
    omega
  · have z : a.length * j.toNat ≤ 1000 * 1000 := Nat.mul_le_mul h4 (by omega)
    unfold Builtin.Str.tooLong
    rw [decide_eq_false]
    rw [sizeLine_eq]; omega
  · rw [if_neg (by omega), if_neg (by rw [e1, e2]; decide)]
    refine ⟨?_, .str _, H, I.tok _, ⟨_, rfl⟩, q⟩
    have z : a.length * j.toNat ≤ 1000 * 1000 := Nat.mul_le_mul h4 (by omega)
    show ((List.replicate j.toNat a.cps).foldl (fun x1 x2 => x1 ++ x2) #[]).size ≤ sizeLine
    rw [rep_size, sizeLine_eq]
    have : a.cps.size = a.length := rfl
    rw [this, Nat.mul_comm]
    simp only [List.size_toArray, List.length_nil]
    omega
def rMulM (K : PySem.W.Frag) : R2 := fun x y H Q => rI CMulW (fun i j => .int (i * j)) x y H Q ∨ rRepT K x y H Q ∨ rRep x y H Q ∨ rRepS x y H Q
theorem opr_mul : OpR X (binaryOp .Mult) (rMulM X.K) := op_mulW.or (op_repT.or (op_rep.or op_repS))
theorem ops_mul : OpS X (binO .Mult) (rMulM X.K) := by
  intro F m st H x y vx vy d Q sr rx ry e hq
  unfold binO at e
  cases x with
  | int i =>
    cases y with
    | int j =>
      simp only at e
      by_cases hz : mulOk i j = true
      · rw [if_pos hz] at e
        cases e; cases rx; cases ry
        exact .inl ⟨i, j, rfl, rfl, of_decide_eq_true (p := i.natAbs.log2 + j.natAbs.log2 < 1000000) hz, hq _ _ _ _ Ext.refl sr (show Rep _ _ _ (.int _) _ from .int _)⟩
      · rw [if_neg hz] at e; cases e
    | _ => cases e
  | tup w xs =>
    cases y with
    | int j =>
      simp only at e
      split at e
      · rename_i hz
        cases e
        cases ry
        obtain ⟨a, vs, rfl, ha, ra⟩ := rx.tup_inv
        simp only [Bool.and_eq_true, decide_eq_true_eq] at hz
        obtain ⟨z1, z2, z3, z4⟩ := hz
        refine .inr (.inl ⟨a, j, vs, rfl, rfl, Same.seqT sr.sub ha, fun q => ?_, z1, z2, by rw [← ra.length]; exact z4, fun p hp => ?_⟩)
        · subst q
          cases ra
          simp at z3
        · obtain ⟨s2, x2⟩ := sr.new hp (.tup (List.replicate j.toNat vs).flatten)
          exact hq _ _ _ _ x2 s2 (show Rep _ _ _ (.tup _ _) _ from Rep.tup_any upd_same (x2.repL (ra.rep _)))
      · cases e
    | _ => cases e
  | lst xs =>
    cases y with
    | int j =>
      simp only at e
      split at e
      · rename_i hz
        cases e
        cases ry
        simp only [Bool.and_eq_true, decide_eq_true_eq] at hz
        obtain ⟨z1, z2, z3⟩ := hz
        obtain ⟨a, vs, rfl, ha, ra⟩ := SqL_of_list sr rx rfl
        refine .inr (.inr (.inl ⟨a, j, vs, rfl, rfl, ha, by omega, by omega, by rw [← ra.length]; exact szOk z3, fun p hp => ?_⟩))
        exact hq _ _ _ _ Ext.refl (sr.extra hp _) ⟨p, _, rfl, upd_same, sr.free hp, sr.freeP hp, sr.in_m hp, ra.rep _⟩
      · cases e
    | _ => cases e
  | str a =>
    cases y with
    | int j =>
      simp only at e
      split at e
      · rename_i hz
        cases e
        cases ry
        cases rx
        simp only [Bool.and_eq_true, decide_eq_true_eq] at hz
        obtain ⟨z1, z2, z3, z4⟩ := hz
        exact .inr (.inr (.inr ⟨a, j, rfl, rfl, z1, z2, z3, z4, hq _ _ _ _ Ext.refl sr (show Rep _ _ _ (.str _) _ from .str _)⟩))
      · cases e
    | _ => cases e
  | _ => cases e
theorem opr_sub : OpR X (binaryOp .Sub) (fun x y H Q => rI0 (fun i j => .int (i - j)) x y H Q ∨ rBI (fun i j => .int (i - j)) x y H Q) := by
  have h1 : OpR X (binaryOp .Sub) (rI0 fun i j => .int (i - j)) := op_sub
  have h2 : OpR X (binaryOp .Sub) (rBI fun i j => .int (i - j)) := by
    intro pins s σ H x y v u Q I rx ry h
    obtain ⟨b, j, rfl, rfl, q⟩ := h
    cases (show v = Value.bool b from rx)
    obtain ⟨t', rfl⟩ := ry
    exact IntBool.sub_bool_int ⟨.int _, H, I.tok _, ⟨_, rfl⟩, q⟩
  exact h1.or h2
theorem ops_sub : OpS X (binO .Sub) (fun x y H Q => rI0 (fun i j => .int (i - j)) x y H Q ∨ rBI (fun i j => .int (i - j)) x y H Q) := by
  intro F m st H x y vx vy d Q sr rx ry e hq
  unfold binO at e
  cases x <;> cases y <;> first
    | (cases e; cases rx; cases ry; exact .inl ⟨_, _, rfl, rfl, hq _ _ _ _ Ext.refl sr (show Rep _ _ _ (.int _) _ from .int _)⟩)
    | (cases e; cases rx; cases ry; exact .inr ⟨_, _, rfl, rfl, hq _ _ _ _ Ext.refl sr (show Rep _ _ _ (.int _) _ from .int _)⟩)
    | cases e
theorem ops_div : OpS X (binO .FloorDiv) (rI CDivW fun i j => .int (i / j)) := by
  intro F m st H x y vx vy d Q sr rx ry e hq
  unfold binO at e
  cases x with
  | int i => cases y with
    | int j =>
      simp only at e
      split at e
      · rename_i hz
        cases e; cases rx; cases ry
        simp only [divOk, Bool.and_eq_true, decide_eq_true_eq] at hz
        exact ⟨i, j, rfl, rfl, hz, hq _ _ _ _ Ext.refl sr (show Rep _ _ _ (.int _) _ from .int _)⟩
      · cases e
    | _ => cases e
  | _ => cases e
theorem ops_mod : OpS X (binO .Mod) (rI (fun _ j => 0 < j) fun i j => .int (i % j)) := by
  intro F m st H x y vx vy d Q sr rx ry e hq
  unfold binO at e
  cases x with
  | int i => cases y with
    | int j =>
      simp only at e
      split at e
      · rename_i hz
        cases e; cases rx; cases ry
        exact ⟨i, j, rfl, rfl, of_decide_eq_true hz, hq _ _ _ _ Ext.refl sr (show Rep _ _ _ (.int _) _ from .int _)⟩
      · cases e
    | _ => cases e
  | _ => cases e
theorem ops_pow : OpS X (binO .Pow) (rI CPow fun i j => .int (i ^ j.toNat)) := by
  intro F m st H x y vx vy d Q sr rx ry e hq
  unfold binO at e
  cases x with
  | int i => cases y with
    | int j =>
      simp only at e
      split at e
      · rename_i hz
        cases e; cases rx; cases ry
        simp only [powOk, Bool.and_eq_true, decide_eq_true_eq] at hz
        exact ⟨i, j, rfl, rfl, hz, hq _ _ _ _ Ext.refl sr (show Rep _ _ _ (.int _) _ from .int _)⟩
      · cases e
    | _ => cases e
  | _ => cases e
theorem n_bin {op : Operator} (ho : op = .Add ∨ op = .Sub ∨ op = .Mult ∨ op = .FloorDiv ∨ op = .Mod ∨ op = .Pow) (ha : PE X a (lift X W (ev Φ G ea))) (hb : PE X b (lift X W (ev Φ G eb))) : PE X (.BinOp a op b pos) (liftN X W (ev Φ G (.bin op ea eb))) := by
  have key : ∀ {r : R2}, OpR X (binaryOp op) r → OpS X (binO op) r → PE X (.BinOp a op b pos) (liftN X W (ev Φ G (.bin op ea eb))) := fun h1 h2 => (pe_op h1 ha hb).imp fun σv H Q h => s_bin2 h2 h
  rcases ho with rfl | rfl | rfl | rfl | rfl | rfl
  · exact key opr_add ops_add
  · exact key opr_sub ops_sub
  · exact key opr_mul ops_mul
  · exact key op_fdivW ops_div
  · exact key op_mod ops_mod
  · exact key op_pow ops_pow

/-! ### a new value: frozen, or the store's -/
/-- ghost: what stands at p is locked from now on -/
theorem pe_ghost {e : Expr} {t : TE} (h : PE X e t) : PE X e (fun σ H Q => t σ H fun v H' => Q v H' ∨ ∃ p u, H' p = some u ∧ Mut (some u) ∧ ∀ od, Q v (upd H' p (.frz od u))) := by
  refine ⟨fun pins s σ H Q I q => thn (h.run pins s σ H _ I q) fun u s' ⟨v, H', I', r, q'⟩ => ?_⟩
  rcases q' with q' | ⟨p, w, hp, mu, q'⟩
  · exact ⟨v, H', I', r, q'⟩
  · obtain ⟨od, I2⟩ := I'.lock hp mu
    exact ⟨v, _, I2, r, q' od⟩
theorem NewR.frozen {F : Wd} {m : List Addr} {st : Store} {H : Hp} {d : D} {v : V} {Q : VK} (sr : SR X.K F m st H) (r : NewR X.K F m H d v) (hq : ∀ F' m' H' v, Ext F F' m m' → SR X.K F' m' st H' → Rep X.K F' m' d v → Q v H') :
    Q v H ∨ ∃ p u, H p = some u ∧ Mut (some u) ∧ ∀ od, Q v (upd H p (.frz od u)) := by
  cases d with
  | lst xs =>
    obtain ⟨p, vs, rfl, h1, h2, hp, h3, h4⟩ := r
    obtain ⟨s2, x2⟩ := sr.know h1 h3 (.inl h2) hp
    exact .inl (hq _ _ _ _ x2 s2 (.lst upd_same (x2.repL h4)))
  | dk ks xs =>
    obtain ⟨p, kvs, rfl, h1, h2, hp, h3, rfl, h4⟩ := r
    refine .inr ⟨p, _, h1, trivial, fun od => ?_⟩
    obtain ⟨s2, x2⟩ := (sr.touch h2 hp h3 (.frz od (.dK kvs)) (fun o e => by rw [h1] at e; cases e; trivial)).know (p := p) upd_same h3 (.inl h2) hp
    exact hq _ _ _ _ x2 s2 (.dk upd_same (x2.repL h4))
  | dt ks xs =>
    obtain ⟨p, kvs, rfl, h1, h2, hp, h3, rfl, h4⟩ := r
    refine .inr ⟨p, _, h1, trivial, fun od => ?_⟩
    obtain ⟨s2, x2⟩ := (sr.touch h2 hp h3 (.frz od (.dT kvs)) (fun o e => by rw [h1] at e; cases e; trivial)).know (p := p) upd_same h3 (.inl h2) hp
    exact hq _ _ _ _ x2 s2 (.dt upd_same (x2.repL h4))
  | _ => exact .inl (hq _ _ _ _ Ext.refl sr r)
theorem s_new {e : Expr} {f : Env → M D} (h : PE X e (liftN X W f)) : PE X e (lift X W f) := by
  refine (pe_ghost h).imp fun σv H Q ⟨F, m, σ, st, sr, re, q⟩ => ⟨F, m, σ, st, sr, re, ?_⟩
  cases e : f σ st with
  | ok d st' =>
    rw [e] at q
    intro F' m' H' v x s r
    exact NewR.frozen s r fun F2 m2 H2 v2 x2 => q F2 m2 H2 v2 (x.trans x2)
  | err x st' => rw [e] at q; exact q
  | bad => rw [e] at q; exact q
theorem s_mu {e : Expr} {ee : E} (h : PE X e (liftN X W (ev Φ G ee))) : PE X e (lift X W (ev Φ G (.mu ee))) := by
  refine h.imp fun σv H Q ⟨F, m, σ, st, sr, re, q⟩ => ⟨F, m, σ, st, sr, re, ?_⟩
  have q : PostG X (Rep X.K) W σv F m Q (M.bnd (ev Φ G ee σ) (fun x => fun st => match x with
    | .lst xs => .ok (.ref st.length) (st ++ [.lst xs])
    | .dk ks vs => .ok (.ref st.length) (st ++ [.dk ks vs])
    | .dt ks vs => .ok (.ref st.length) (st ++ [.dt ks vs])
    | _ => .bad) st) := q
  unfold M.bnd at q
  cases e : ev Φ G ee σ st with
  | err x st' => rw [e] at q; exact q
  | bad => rw [e] at q; exact q
  | ok d st' =>
    rw [e] at q
    intro F' m' H' v x s r
    cases d with
    | lst xs =>
      obtain ⟨p, vs, rfl, h1, h2, hp, h3, h4⟩ := r
      obtain ⟨s2, x2⟩ := s.adopt (o := .lst xs) h2 hp h3 ⟨vs, h1, h4⟩
      exact q _ _ _ _ (x.trans x2) s2 (.ref (by rw [← s.len]; simp))
    | dk ks xs =>
      obtain ⟨p, kvs, rfl, h1, h2, hp, h3, h4, h5⟩ := r
      obtain ⟨s2, x2⟩ := s.adopt (o := .dk ks xs) h2 hp h3 ⟨kvs, h1, h4, h5⟩
      exact q _ _ _ _ (x.trans x2) s2 (.ref (by rw [← s.len]; simp))
    | dt ks xs =>
      obtain ⟨p, kvs, rfl, h1, h2, hp, h3, h4, h5⟩ := r
      obtain ⟨s2, x2⟩ := s.adopt (o := .dt ks xs) h2 hp h3 ⟨kvs, h1, h4, h5⟩
      exact q _ _ _ _ (x.trans x2) s2 (.ref (by rw [← s.len]; simp))
    | _ => exact q.elim
end
end MN
set_option Elab.async false
set_option linter.all false
set_option maxRecDepth 100000
/-! MiniF: comparisons. -/
namespace MN
variable [TabP]
open PySem PySem.Spec L2

/-! ### data as the library's -/
mutual
def toPy (d : D) : PyData := match d with
  | .bl b => .bool b
  | .int i => .int i
  | .str x => .str x
  | .tup _ xs => .tuple (toPys xs)
  | .lst xs => .list (toPys xs)
  | _ => .none
termination_by structural d
def toPys (ds : List D) : List PyData := match ds with
  | [] => []
  | d :: ds => toPy d :: toPys ds
termination_by structural ds
end
mutual
theorem shp_lay (n : Nat) (d : D) (h : shp n d = true) : (toPy d).canLay0 = true ∧ (toPy d).depth ≤ n := by
  match d with
  | .non => exact ⟨by simp [toPy, PyData.canLay0], by simp [toPy, PyData.depth]⟩
  | .bl b => exact ⟨by simp [toPy, PyData.canLay0], by simp [toPy, PyData.depth]⟩
  | .int i => exact ⟨by simp [toPy, PyData.canLay0], by simp [toPy, PyData.depth]⟩
  | .str x => exact ⟨by simp only [toPy, PyData.canLay0]; unfold shp at h; exact h, by simp [toPy, PyData.depth]⟩
  | .tup w xs =>
    unfold shp at h
    simp only [Bool.and_eq_true, decide_eq_true_eq] at h
    obtain ⟨h1, h2, h3⟩ := h
    obtain ⟨a, b⟩ := shps_lay (n - 1) xs h3
    exact ⟨by simp only [toPy, PyData.canLay0]; exact a, by simp only [toPy, PyData.depth]; omega⟩
  | .lst xs =>
    unfold shp at h
    simp only [Bool.and_eq_true, decide_eq_true_eq] at h
    obtain ⟨h1, h2, h3⟩ := h
    obtain ⟨a, b⟩ := shps_lay (n - 1) xs h3
    exact ⟨by simp only [toPy, PyData.canLay0]; exact a, by simp only [toPy, PyData.depth]; omega⟩
  | .dk _ _ => simp [shp] at h
  | .dt _ _ => simp [shp] at h
  | .ref _ => simp [shp] at h
  | .scr _ => simp [shp] at h
  | .glo _ => simp [shp] at h
theorem shps_lay (n : Nat) (ds : List D) (h : shps n ds = true) : PyData.canLayAll0 (toPys ds) = true ∧ PyData.depthAll (toPys ds) ≤ n := by
  match ds with
  | [] => exact ⟨by simp [toPys, PyData.canLayAll0], by simp [toPys, PyData.depthAll]⟩
  | d :: ds =>
    unfold shps at h
    simp only [Bool.and_eq_true] at h
    obtain ⟨a, b⟩ := shp_lay n d h.1
    obtain ⟨c, e⟩ := shps_lay n ds h.2
    exact ⟨by simp only [toPys, PyData.canLayAll0, a, c, Bool.and_self], by simp only [toPys, PyData.depthAll]; omega⟩
end
theorem shp_shaped {d : D} {n : Nat} (h : shp n d = true) (hn : n ≤ 64) : SeqAt.shaped (toPy d) = true := by
  obtain ⟨a, b⟩ := shp_lay n d h
  unfold SeqAt.shaped
  rw [a, Bool.true_and]
  exact decide_eq_true (by omega)
mutual
theorem eqv_eqD (n k : Nat) (a b : D) (ha : shp n a = true) (hb : shp k b = true) : PyData.eqv (toPy a) (toPy b) = eqD a b := by
  match a with
  | .non => cases b <;> simp_all [toPy, PyData.eqv, eqD, shp]
  | .bl x =>
    cases b with
    | int j => cases x <;> simp [toPy, PyData.eqv, eqD, Bool.beq_eq_decide_eq]
    | _ => simp_all [toPy, PyData.eqv, eqD, shp]
  | .int i =>
    cases b with
    | bl y => cases y <;> simp [toPy, PyData.eqv, eqD, Bool.beq_eq_decide_eq]
    | int j => simp [toPy, PyData.eqv, eqD, Bool.beq_eq_decide_eq]
    | _ => simp_all [toPy, PyData.eqv, eqD, shp]
  | .str x =>
    cases b with
    | str y => simp [toPy, PyData.eqv, eqD, Bool.beq_eq_decide_eq]
    | _ => simp_all [toPy, PyData.eqv, eqD, shp]
  | .tup w xs =>
    cases b with
    | tup u ys =>
      unfold shp at ha hb
      simp only [Bool.and_eq_true] at ha hb
      simp only [toPy, PyData.eqv, eqD]
      exact eqv_eqDs (n - 1) (k - 1) xs ys ha.2.2 hb.2.2
    | _ => simp_all [toPy, PyData.eqv, eqD, shp]
  | .lst xs =>
    cases b with
    | lst ys =>
      unfold shp at ha hb
      simp only [Bool.and_eq_true] at ha hb
      simp only [toPy, PyData.eqv, eqD]
      exact eqv_eqDs (n - 1) (k - 1) xs ys ha.2.2 hb.2.2
    | _ => simp_all [toPy, PyData.eqv, eqD, shp]
  | .dk _ _ => simp [shp] at ha
  | .dt _ _ => simp [shp] at ha
  | .ref _ => simp [shp] at ha
  | .scr _ => simp [shp] at ha
  | .glo _ => simp [shp] at ha
theorem eqv_eqDs (n k : Nat) (as bs : List D) (ha : shps n as = true) (hb : shps k bs = true) : PyData.eqvAll (toPys as) (toPys bs) = eqDs as bs := by
  match as with
  | [] => cases bs <;> simp [toPys, PyData.eqvAll, eqDs]
  | a :: as =>
    cases bs with
    | nil => simp [toPys, PyData.eqvAll, eqDs]
    | cons b bs =>
      unfold shps at ha hb
      simp only [Bool.and_eq_true] at ha hb
      simp only [toPys, PyData.eqvAll, eqDs]
      rw [eqv_eqD n k a b ha.1 hb.1, eqv_eqDs n k as bs ha.2 hb.2]
end
section
variable {K : PySem.W.Frag} {F : Wd} {m : List Addr} {H : Hp}
mutual
theorem Rep.dp (hF : Same F.f H) (n : Nat) : ∀ {d : D} {v : V}, Rep K F m d v → shp n d = true → Dp K H v (toPy d)
  | _, _, .non, _ => by simp only [toPy]; exact .non
  | _, _, .bl b, _ => by simp only [toPy]; exact .bl b
  | _, _, .int i, _ => by simp only [toPy]; exact .int i
  | _, _, .str x, _ => by simp only [toPy]; exact .str x
  | _, _, .tupW h r, q => by
    unfold shp at q
    simp only [Bool.and_eq_true] at q
    simp only [toPy]
    exact .tup (Same.seqT hF h) (RepL.dp hF (n - 1) r q.2.2)
  | _, _, .tup h r, q => by
    unfold shp at q
    simp only [Bool.and_eq_true] at q
    simp only [toPy]
    exact .tup (.inl (.inl (hF _ _ h))) (RepL.dp hF (n - 1) r q.2.2)
  | _, _, .lst h r, q => by
    unfold shp at q
    simp only [Bool.and_eq_true] at q
    simp only [toPy]
    exact .lst (.inl (.inl (hF _ _ h))) (RepL.dp hF (n - 1) r q.2.2)
  | _, _, .dk h r, q => by simp [shp] at q
  | _, _, .dt h r, q => by simp [shp] at q
  | _, _, .ref h, q => by simp [shp] at q
  | _, _, .scr h, q => by simp [shp] at q
theorem RepL.dp (hF : Same F.f H) (n : Nat) : ∀ {d : List D} {v : List V}, RepL K F m d v → shps n d = true → DpAll K H v (toPys d)
  | _, _, .nil, _ => by simp only [toPys]; exact .nil
  | _, _, .cons h r, q => by
    unfold shps at q
    simp only [Bool.and_eq_true] at q
    simp only [toPys]
    exact .cons (Rep.dp hF n h q.1) (RepL.dp hF n r q.2)
end
theorem rd_dp {st : Store} (sr : SR K F m st H) {d : D} {v : V} {n : Nat} (r : Rep K F m d v) (h : shp n (rdAt st d) = true) : Dp K H v (toPy (rdAt st d)) := by
  cases r with
  | ref e =>
    rename_i k a
    unfold rdAt at h ⊢
    cases q : st[k]? with
    | none => simp only [q] at h; simp [shp] at h
    | some o =>
      cases o with
      | lst xs =>
        simp only [q] at h ⊢
        obtain ⟨vs, h1, h2⟩ := sr.at_ref e q
        unfold shp at h
        simp only [Bool.and_eq_true] at h
        simp only [toPy]
        exact .lst (.inl (.inl h1)) (h2.dp sr.sub (n - 1) h.2.2)
      | _ => simp only [q] at h; simp [shp] at h
  | non => exact Rep.dp (m := m) sr.sub n .non h
  | bl b => exact Rep.dp (m := m) sr.sub n (.bl b) h
  | int i => exact Rep.dp (m := m) sr.sub n (.int i) h
  | str x => exact Rep.dp (m := m) sr.sub n (.str x) h
  | tupW a b => exact Rep.dp (m := m) sr.sub n (.tupW a b) h
  | tup a b => exact Rep.dp (m := m) sr.sub n (.tup a b) h
  | lst a b => exact Rep.dp (m := m) sr.sub n (.lst a b) h
  | dk a b => exact Rep.dp (m := m) sr.sub n (.dk a b) h
  | dt a b => exact Rep.dp (m := m) sr.sub n (.dt a b) h
  | scr a => exact Rep.dp (m := m) sr.sub n (.scr a) h
  | exn0 a b => simp [rdAt, shp] at h
  | exn1 a b c' d' => simp [rdAt, shp] at h
end

/-! ### comparisons -/
/-- as OpS, for a comparison -/
def CmS (X : Cx) (op : CmpOp) (r : R2) : Prop := ∀ (F : Wd) (m : List Addr) (st : Store) (H : Hp) (x y : D) (vx vy : V) (b : Bool) (Q : VK), SR X.K F m st H → Rep X.K F m x vx → Rep X.K F m y vy → cmpO op x y st = some b → Q (.bl b) H → r vx vy H Q
section
variable {X : Cx}
theorem cms_eq : CmS X .Eq (rEqD X.K) := by
  intro F m st H x y vx vy b Q sr rx ry e q
  simp only [cmpO, eqO] at e
  split at e
  · rename_i h
    simp only [Bool.and_eq_true] at h
    refine ⟨_, _, rd_dp sr rx h.1, rd_dp sr ry h.2, shp_shaped h.1 (by decide), shp_shaped h.2 (by decide), ?_⟩
    rw [eqv_eqD 50 50 _ _ h.1 h.2, Option.some.inj e]
    exact q
  · cases e
theorem cms_ne : CmS X .NotEq (rNeD X.K) := by
  intro F m st H x y vx vy b Q sr rx ry e q
  simp only [cmpO, eqO] at e
  split at e
  · rename_i h
    simp only [Bool.and_eq_true] at h
    refine ⟨_, _, rd_dp sr rx h.1, rd_dp sr ry h.2, shp_shaped h.1 (by decide), shp_shaped h.2 (by decide), ?_⟩
    simp only [Option.map_some, Option.some.injEq] at e
    rw [eqv_eqD 50 50 _ _ h.1 h.2, e]
    exact q
  · cases e
theorem leI_lex : ∀ (ns ms : List Int), Ob.lexAt (fun j => decide (ns.getD j 0 = ms.getD j 0)) (fun j => decide (ns.getD j 0 ≤ ms.getD j 0)) (decide (ns.length ≤ ms.length)) 0 (min ns.length ms.length) = leI ns ms := by
  have shift : ∀ (e r e' r' : Nat → Bool) (z : Bool) (k i : Nat), (∀ j, e (j + 1) = e' j) → (∀ j, r (j + 1) = r' j) → Ob.lexAt e r z (i + 1) k = Ob.lexAt e' r' z i k := by
    intro e r e' r' z k
    induction k with
    | zero => intro i _ _; rfl
    | succ k ih =>
      intro i h1 h2
      rw [Ob.lexAt_succ, Ob.lexAt_succ, h1, h2, ih (i + 1) h1 h2]
  intro ns
  induction ns with
  | nil => intro ms; simp [Ob.lexAt_zero, leI]
  | cons n ns ih =>
    intro ms
    cases ms with
    | nil => simp [Ob.lexAt_zero, leI]
    | cons k ms =>
      have e1 : min (n :: ns).length (k :: ms).length = min ns.length ms.length + 1 := by simp only [List.length_cons]; omega
      rw [e1, Ob.lexAt_succ]
      have e2 : decide ((n :: ns).length ≤ (k :: ms).length) = decide (ns.length ≤ ms.length) := by simp
      rw [e2, shift _ _ (fun j => decide (ns.getD j 0 = ms.getD j 0)) (fun j => decide (ns.getD j 0 ≤ ms.getD j 0)) _ _ _ (fun j => by simp) (fun j => by simp), ih ms]
      show _ = if n = k then leI ns ms else decide (n < k)
      by_cases h : n = k
      · subst h; simp
      · simp [h]
        omega
abbrev rLtStr : R2 := fun x y H Q => ∃ i j, x = .str i ∧ y = .str j ∧ Q (.bl (decide (i.cps.toList < j.cps.toList))) H
abbrev rGeStr : R2 := fun x y H Q => ∃ i j, x = .str i ∧ y = .str j ∧ Q (.bl (!decide (i.cps.toList < j.cps.toList))) H
def rLtM : R2 := fun x y H Q => rI0 (fun i j => .bl (decide (i < j))) x y H Q ∨ rLtStr x y H Q
def rLeM (K : PySem.W.Frag) : R2 := fun x y H Q => rI0 (fun i j => .bl (decide (i ≤ j))) x y H Q ∨ rLeT K x y H Q
def rGeM : R2 := fun x y H Q => rI0 (fun i j => .bl (decide (j ≤ i))) x y H Q ∨ rGeStr x y H Q
theorem cmr_lt : OpR X (compareOp .Lt) rLtM := op_lt.or op_lt_str
theorem cmr_le (hu : X.A.units < cLine) : OpR X (compareOp .LtE) (rLeM X.K) := op_le.or (op_leT hu)
theorem cmr_ge : OpR X (compareOp .GtE) rGeM := op_ge.or op_ge_str
theorem cms_lt : CmS X .Lt rLtM := by
  intro F m st H x y vx vy b Q sr rx ry e q
  simp only [cmpO] at e
  cases x with
  | int i => cases y with
    | int j => cases e; cases rx; cases ry; exact .inl ⟨i, j, rfl, rfl, q⟩
    | _ => cases e
  | str i => cases y with
    | str j => cases e; cases rx; cases ry; exact .inr ⟨i, j, rfl, rfl, q⟩
    | _ => cases e
  | _ => cases e
theorem cms_ge : CmS X .GtE rGeM := by
  intro F m st H x y vx vy b Q sr rx ry e q
  simp only [cmpO] at e
  cases x with
  | int i => cases y with
    | int j => cases e; cases rx; cases ry; exact .inl ⟨i, j, rfl, rfl, q⟩
    | _ => cases e
  | str i => cases y with
    | str j => cases e; cases rx; cases ry; exact .inr ⟨i, j, rfl, rfl, q⟩
    | _ => cases e
  | _ => cases e
theorem cms_gt : CmS X .Gt (rI0 fun i j => .bl (decide (j < i))) := by
  intro F m st H x y vx vy b Q sr rx ry e q
  simp only [cmpO] at e
  cases x with
  | int i => cases y with
    | int j => cases e; cases rx; cases ry; exact ⟨i, j, rfl, rfl, q⟩
    | _ => cases e
  | _ => cases e
theorem cms_le : CmS X .LtE (rLeM X.K) := by
  intro F m st H x y vx vy b Q sr rx ry e q
  simp only [cmpO] at e
  cases x with
  | int i => cases y with
    | int j => cases e; cases rx; cases ry; exact .inl ⟨i, j, rfl, rfl, q⟩
    | _ => cases e
  | tup w xs => cases y with
    | tup u ys =>
      simp only at e
      cases h1 : intsOf xs with
      | none => simp [h1] at e
      | some ns =>
        cases h2 : intsOf ys with
        | none => simp [h1, h2] at e
        | some ms =>
          simp only [h1, h2, Option.some.injEq] at e
          subst e
          obtain ⟨a, vs, rfl, ha, ra⟩ := rx.tup_inv
          obtain ⟨c, us, rfl, hc, rc⟩ := ry.tup_inv
          have e1 := ra.of_ints h1
          have e2 := rc.of_ints h2
          subst e1 e2
          refine .inr ⟨a, c, ns, ms, rfl, rfl, Same.seqT sr.sub ha, Same.seqT sr.sub hc, ?_⟩
          rw [leI_lex]
          exact q
    | _ => cases e
  | _ => cases e
abbrev rIsN : R2 := fun x y H Q => (y = .non ∧ Q (.bl (decide (x = .non))) H) ∨ ∃ a b, x = .bl a ∧ y = .bl b ∧ Q (.bl (decide (a = b))) H
abbrev rNotN : R2 := fun x y H Q => (y = .non ∧ Q (.bl (!decide (x = .non))) H) ∨ ∃ a b, x = .bl a ∧ y = .bl b ∧ Q (.bl (!decide (a = b))) H
theorem cms_is : CmS X .Is rIsN := by
  intro F m st H x y vx vy b Q sr rx ry e q
  simp only [cmpO] at e
  cases y with
  | non =>
    cases ry
    refine .inl ⟨rfl, ?_⟩
    cases x <;> simp only [Option.some.injEq, reduceCtorEq] at e <;> subst e <;> cases rx <;> exact q
  | bl y =>
    cases ry
    cases x with
    | bl x => cases rx; cases e; exact .inr ⟨x, y, rfl, rfl, q⟩
    | _ => cases e
  | _ => cases e
theorem cms_isnot : CmS X .IsNot rNotN := by
  intro F m st H x y vx vy b Q sr rx ry e q
  simp only [cmpO] at e
  cases y with
  | non =>
    cases ry
    refine .inl ⟨rfl, ?_⟩
    cases x <;> simp only [Option.some.injEq, reduceCtorEq] at e <;> subst e <;> cases rx <;> exact q
  | bl y =>
    cases ry
    cases x with
    | bl x => cases rx; cases e; exact .inr ⟨x, y, rfl, rfl, q⟩
    | _ => cases e
  | _ => cases e
end
end MN
set_option Elab.async false
set_option linter.all false
set_option maxRecDepth 100000
/-! MiniG: in, chains, truth, displays, subscripts. -/
namespace L2
open PySem PySem.Spec PyProof.Rows HT
section
variable {prog : Program} {w : World} {A : Around} {E : Value → Shared → Prop} {s : Shared}
theorem fm_congr {α β : Type} {f g : α → Option β} : ∀ l : List α, (∀ k ∈ l, f k = g k) → l.filterMap f = l.filterMap g
  | [], _ => rfl
  | a :: l, h => by
    rw [List.filterMap_cons, List.filterMap_cons, h a List.mem_cons_self, fm_congr l fun k hk => h k (List.mem_cons_of_mem _ hk)]
theorem getItem_tuple_back {t sl : Addr} {items : Array Value} {vs : Value} {Q : Value → Shared → Prop} (ht : IsTup s.heap t items) (hs : s.heap.IsSliceOf sl .none .none vs) (ps : IsPart vs (some (-1))) (hsz : items.size ≤ sizeLine)
    (h : Q (.ref s.heap.objs.size) { s with heap := s.heap.push { cls := .type "tuple", data := .seq items.toList.reverse.toArray } }) : wpAny (model prog w) A (getItem (.ref t) (.ref sl)) Q E s := by
  obtain ⟨os, hos, hcs, hds⟩ := id hs
  have hTs : s.TypeIs (.ref sl) "slice" := ⟨os, hos, hcs⟩
  have htake : sizeOk (.seq items.toList.reverse.toArray) := by
    show items.toList.reverse.toArray.size ≤ sizeLine
    simpa using hsz
  unfold getItem
  try with_reducible refine wpAny_holding ?_
  first | refine wpAny_bind (wpAny_pure ?_) | skip
  refine wpAny_bind (wpAny_sequenceKey ht.typeIs (by decide) ?_)
  refine wpAny_bind (wpAny_callSpecial?_slot (name := Str.ofString "__getitem__") ht.typeIs PyProof.Rows.slot_tuple_getitem
    (wpAny_call_entry PyProof.Rows.slot_tuple_getitem ht.typeIs entry_tuple_getitem ?_ (args_tuple_getitem _ _)))
  show wpAny _ _ (Builtin.Tuple.tupleItemsOf (.ref t) >>= _) _ _ s
  refine wpAny_bind (tupleItemsOf_ ht ?_)
  refine wpAny_bind (wpAny_typeOf hTs ?_)
  rw [if_pos (by decide)]
  have app : ∀ {A' : Around} {E' : Value → Shared → Prop} {Q' : Int × Int × Nat → Shared → Prop}, Q' ((items.size : Int) - 1, -1, items.size) s → wpAny (model prog w) A' (Builtin.Slice.sliceApplied (.ref sl) (pure (items.size : Int))) Q' E' s := fun {A' E' Q'} q => by
    unfold Builtin.Slice.sliceApplied Builtin.Slice.sliceFields
    refine wpAny_bind (wpAny_bind (wpAny_field hos hds (x := .none) rfl (wpAny_bind (wpAny_field hos hds (x := .none) rfl (wpAny_bind (wpAny_field hos hds (x := vs) rfl (wpAny_pure ?_)))))))
    refine wpAny_bind (slicePart_ ps ?_)
    show wpAny _ _ (if ((-1 : Int) == 0) = true then _ else _) _ _ s
    rw [if_neg (by decide)]
    refine wpAny_bind (slicePart_none (wpAny_bind (slicePart_none (wpAny_bind (wpAny_pure ?_)))))
    show wpAny _ _ (match Builtin.Slice.sliceAdjust none none (-1) (items.size : Int) with | (lo, hi) => pure (lo, (-1 : Int), Builtin.Slice.slicePlaces lo hi (-1))) _ _ s
    have e1 : Builtin.Slice.sliceAdjust none none (-1) (items.size : Int) = ((items.size : Int) - 1, -1) := by
      unfold Builtin.Slice.sliceAdjust
      simp
    rw [e1]
    show wpAny _ _ (pure ((items.size : Int) - 1, (-1 : Int), Builtin.Slice.slicePlaces ((items.size : Int) - 1) (-1) (-1))) _ _ s
    have e2 : Builtin.Slice.slicePlaces ((items.size : Int) - 1) (-1) (-1) = items.size := by
      unfold Builtin.Slice.slicePlaces
      by_cases hz : (items.size : Int) - 1 > -1
      · simp only [show ¬ ((-1 : Int) > 0) by decide, if_false, hz, if_true]
        rw [show (- -1 : Int) = 1 by decide, Int.ediv_one]
        omega
      · simp only [show ¬ ((-1 : Int) > 0) by decide, if_false, hz]
        show (0 : Nat) = items.size
        omega
    rw [e2]
    exact wpAny_pure q
  refine wpAny_bind (app ?_)
  have hno : ¬ ((((items.size : Int) - 1) == 0 && (-1 : Int) == 1 && items.size == items.size) = true) := by
    intro q
    simp at q
  show wpAny _ _ (if (((items.size : Int) - 1) == 0 && (-1 : Int) == 1 && items.size == items.size) = true then _ else _) _ _ s
  rw [if_neg hno]
  have e3 : ((List.range items.size).filterMap fun (k : Nat) => items[((items.size : Int) - 1 + (k : Int) * -1).toNat]?).toArray = items.toList.reverse.toArray := by
    rw [← PySem.W.krv_pick]
    unfold slicePick
    rw [PySem.W.krv_bounds]
    show _ = ((sliceRange ((items.size : Int) - 1) (-1) (-1)).filterMap (items[·]?)).toArray
    rw [PySem.W.krv_sliceRange, List.filterMap_map]
    refine congrArg List.toArray (fm_congr _ fun k hk => ?_)
    have := List.mem_range.mp hk
    show items[((items.size : Int) - 1 + (k : Int) * -1).toNat]? = items[items.size - 1 - k]?
    congr 1
    omega
  rw [e3]
  first
    | exact wpAny_bind (m := Builtin.Tuple.tupleExact _) (wpAny_newObj_type (wpAny_pure ⟨_, rfl, wpAny_pure h⟩) htake)
    | exact wpAny_bind (m := Builtin.Tuple.tupleExact _) (wpAny_newObj_type (wpAny_bind (wpAny_pure (wpAny_pure ⟨_, rfl, wpAny_pure h⟩))) htake)
    | exact wpAny_bind (wpAny_bind (m := Builtin.Tuple.tupleExact _) (wpAny_newObj_type (wpAny_pure (wpAny_pure ⟨_, rfl, wpAny_pure h⟩)) htake))
    | exact wpAny_bind (wpAny_bind (m := Builtin.Tuple.tupleExact _) (wpAny_newObj_type (wpAny_pure ⟨_, rfl, wpAny_pure h⟩) htake))
end
/-- x[::-1], a list or a tuple -/
def tRevM (K : PySem.W.Frag) (te : TE) : TE := fun σ H Q => te σ H fun x H1 => (∃ a xs, x = .ref a ∧ SqL K H1 a xs ∧ ∀ p, H1 p = none → Q (.ref p) (upd H1 p (.lst xs.reverse))) ∨ (∃ a xs, x = .ref a ∧ SqT K H1 a xs ∧ ∀ p, H1 p = none → Q (.ref p) (upd H1 p (.tup xs.reverse)))
theorem pe_revM {X : Cx} {e : Expr} {te : TE} {k : Nat} {p1 p2 p3 pos : Pos} (he : PE X e te) : PE X (.Subscript e (.Slice none none (some (.UnaryOp .USub (.Constant (.int 1) k p1) p2)) p3) pos) (tRevM X.K te) := by
  refine ⟨fun pins s σ H Q I h => ?_⟩
  refine Subscript_ (thn (he.run pins s σ H _ I h) fun v s1 ⟨x, H1, I1, r1, q1⟩ => ?_)
  have hst : PO X (some (.UnaryOp .USub (.Constant (.int 1) k p1) p2)) (tPart (tUn (rU fun i => .int (-i)) (tC (.int 1)))) := po_some (pe_un un_neg pe_int)
  refine wpAny_Slice (thn (po_none.run pins s1 σ H1 (fun o H2 => o = none ∧ H2 = H1) I1 ⟨rfl, rfl⟩) fun vl s2 ⟨l, H2, I2, pl, el, e2⟩ => ?_)
  subst el e2
  refine thn (po_none.run pins s2 σ H2 (fun o H3 => o = none ∧ H3 = H2) I2 ⟨rfl, rfl⟩) fun vu s3 ⟨u, H3, I3, pu, eu, e3⟩ => ?_
  subst eu e3
  refine thn (hst.run pins s3 σ H3 (fun o H4 => o = some (-1) ∧ H4 = H3) I3 ⟨1, rfl, -1, rfl, rfl, rfl⟩) fun vs s4 ⟨o, H4, I4, ps, eo, e4⟩ => ?_
  subst eo e4
  have I5 : Inv X pins σ H4 { s4 with heap := s4.heap.push { cls := .type "slice", data := .fields #[vl, vu, vs] } } := I4.kept (t' := s4.toks) fun b ob q => Heap.get?_push_of_some _ q
  show wpAny (model X.prog X.w) X.A (subscriptTail e (.Slice none none (some (.UnaryOp .USub (.Constant (.int 1) k p1) p2)) p3) v (.ref s4.heap.objs.size)) (EP X pins σ Q) X.xe { s4 with heap := s4.heap.push { cls := .type "slice", data := .fields #[vl, vu, vs] } }
  rcases q1 with ⟨a, xs, ex, hx, q⟩ | ⟨a, xs, ex, hx, q⟩
  · subst ex
    cases r1
    obtain ⟨its, r, ht, hz⟩ := I5.list hx
    have hlen := r.length
    refine tail_any (ops := [.ref a, .ref s4.heap.objs.size]) ht.isList.typeIs (PySem.slot_list_getitem.lookup) ?_ (by with_unfolding_all rfl)
    refine wpAny_getItem_list_slice ht.isList (Heap.IsSliceOf.new _ vl vu vs) pl pu ps (by decide) ?_ (by rw [List.size_toArray]; omega)
    rw [PySem.W.krv_pick]
    refine ⟨.ref _, _, I5.laid (t' := s4.toks) (o := .lst xs.reverse) (fun b ob q => Heap.get?_push_of_some _ q) (Nat.le_refl _) ?_, rfl, q _ (I5.hok.fresh (Nat.le_refl _))⟩
    exact ⟨by rw [List.length_reverse]; exact hz, _, 0, r.reverse, Heap.get?_push_size _ rfl⟩
  · subst ex
    cases r1
    cases pl
    cases pu
    obtain ⟨its, r, ht, hz⟩ := I5.tuple hx
    have hlen := r.length
    refine tail_any (ops := [.ref a, .ref s4.heap.objs.size]) ht.typeIs (PyProof.Rows.slot_tuple_getitem.lookup) ?_ (by with_unfolding_all rfl)
    refine getItem_tuple_back ht (Heap.IsSliceOf.new _ .none .none vs) ps (by rw [List.size_toArray]; omega) ?_
    refine ⟨.ref _, _, I5.laid (t' := s4.toks) (o := .tup xs.reverse) (fun b ob q => Heap.get?_push_of_some _ q) (Nat.le_refl _) ?_, rfl, q _ (I5.hok.fresh (Nat.le_refl _))⟩
    exact ⟨by rw [List.length_reverse]; exact hz, _, r.reverse, IsTup.new _ _⟩
/-- d[k] -/
def rIxDm : R2 := fun x y H Q => ∃ a v, x = .ref a ∧ DGet H a y (some v) ∧ Q v H
theorem ix_dictM {X : Cx} (hu : X.A.units + 1 < cLine) : IxR X rIxDm := by
  intro value slice pins s σ H x y v u Q I rx ry h hs
  obtain ⟨a, z, rfl, g, q⟩ := h
  cases rx
  refine tail_any (ops := [.ref a, u]) (dict_typeIs I g) PySem.F.slot_dict_getitem.lookup (d_getItem hu I g ry fun w' s' I' rw' => ⟨z, H, I', rw', q⟩) hs
end L2
set_option Elab.async false
set_option linter.all false
set_option maxRecDepth 100000
/-! MiniH: in, chains, truth, displays, subscripts: from readings to what is computed. -/
namespace MN
variable [TabP]
open PySem PySem.Spec L2
section
variable {K : PySem.W.Frag} {F : Wd} {m : List Addr} {H : Hp} {st : Store}
theorem keyOf_kV {d : D} {v : V} {k : Key} (r : Rep K F m d v) (e : keyOf d = some k) : v = kV k := by
  cases r <;> simp only [keyOf, Option.some.injEq, reduceCtorEq] at e <;> subst e <;> rfl
theorem keysOf_kV : ∀ {ds : List D} {vs : List V} {ks : List Key}, RepL K F m ds vs → keysOf ds = some ks → vs = ks.map kV
  | _, _, _, .nil, e => by simp [keysOf] at e; subst e; rfl
  | _, _, _, .cons (d := d) (ds := ds) h r, e => by
    unfold keysOf at e
    cases h1 : keyOf d with
    | none => simp [h1] at e
    | some k =>
      cases h2 : keysOf ds with
      | none => simp [h1, h2] at e
      | some ks =>
        simp only [h1, h2, Option.some.injEq] at e
        subst e
        rw [keyOf_kV h h1, keysOf_kV r h2]
        rfl
theorem tkeyOf_kV {d : D} {v : V} {k : List Key} (r : Rep K F m d v) (e : tkeyOf d = some k) : ∃ b, v = .ref b ∧ F.f b = some (.tup (k.map kV)) := by
  cases r with
  | tup h r => exact ⟨_, rfl, by rw [← keysOf_kV r e]; exact h⟩
  | _ => simp [tkeyOf] at e
theorem kv_get {κ : Type} [DecidableEq κ] : ∀ {kvs : List (κ × V)} {ds : List D} (k : κ), RepL K F m ds (kvs.map (·.2)) → (∀ d, getKV (kvs.map (·.1)) ds k = some d → ∃ v, valV kvs k = some v ∧ Rep K F m d v) ∧ (getKV (kvs.map (·.1)) ds k = none → valV kvs k = none)
  | [], ds, k, r => ⟨fun d e => by simp [getKV] at e, fun _ => rfl⟩
  | p :: kvs, ds, k, r => by
    cases r with
    | cons h r =>
      rename_i d ds
      have ih := kv_get k r
      by_cases hk : p.1 = k
      · constructor
        · intro d' e
          have e' : (if p.1 = k then some d else getKV (kvs.map (·.1)) ds k) = some d' := e
          rw [if_pos hk] at e'
          cases e'
          exact ⟨p.2, valV_pos hk, h⟩
        · intro e
          have e' : (if p.1 = k then some d else getKV (kvs.map (·.1)) ds k) = none := e
          rw [if_pos hk] at e'
          cases e'
      · constructor
        · intro d' e
          have e' : (if p.1 = k then some d else getKV (kvs.map (·.1)) ds k) = some d' := e
          rw [if_neg hk] at e'
          rw [valV_neg hk]
          exact ih.1 d' e'
        · intro e
          have e' : (if p.1 = k then some d else getKV (kvs.map (·.1)) ds k) = none := e
          rw [if_neg hk] at e'
          rw [valV_neg hk]
          exact ih.2 e'
/-- a dict that may be read -/
theorem dk_of_at (sr : SR K F m st H) {d : D} {v : V} {ks : List Key} {vs : List D} (r : Rep K F m d v) (e : dkAt st d = some (ks, vs)) : ∃ a kvs, v = .ref a ∧ Rd H a (.dK kvs) ∧ ks = kvs.map (·.1) ∧ RepL K F m vs (kvs.map (·.2)) := by
  cases r with
  | dk h r =>
    simp only [dkAt, Option.some.injEq, Prod.mk.injEq] at e
    obtain ⟨rfl, rfl⟩ := e
    exact ⟨_, _, rfl, .inr ⟨_, sr.sub _ _ h⟩, rfl, r⟩
  | ref h =>
    rename_i n a
    unfold dkAt at e
    cases q : st[n]? with
    | none => simp [q] at e
    | some o =>
      cases o <;> simp [q] at e
      obtain ⟨rfl, rfl⟩ := e
      obtain ⟨kvs, h1, h2, h3⟩ := sr.at_ref h q
      exact ⟨_, _, rfl, .inl h1, h2, h3⟩
  | _ => simp [dkAt] at e
theorem dt_of_at (sr : SR K F m st H) {d : D} {v : V} {ks : List (List Key)} {vs : List D} (r : Rep K F m d v) (e : dtAt st d = some (ks, vs)) : ∃ a kvs, v = .ref a ∧ Rd H a (.dT kvs) ∧ ks = kvs.map (·.1) ∧ RepL K F m vs (kvs.map (·.2)) := by
  cases r with
  | dt h r =>
    simp only [dtAt, Option.some.injEq, Prod.mk.injEq] at e
    obtain ⟨rfl, rfl⟩ := e
    exact ⟨_, _, rfl, .inr ⟨_, sr.sub _ _ h⟩, rfl, r⟩
  | ref h =>
    rename_i n a
    unfold dtAt at e
    cases q : st[n]? with
    | none => simp [q] at e
    | some o =>
      cases o <;> simp [q] at e
      obtain ⟨rfl, rfl⟩ := e
      obtain ⟨kvs, h1, h2, h3⟩ := sr.at_ref h q
      exact ⟨_, _, rfl, .inl h1, h2, h3⟩
  | _ => simp [dtAt] at e
theorem flat_of {d : D} {v : V} (r : Rep K F m d v) (h : flatD d = true) : flatV v = true := by
  cases r <;> first | rfl | simp [flatD] at h
theorem flats_of : ∀ {ds : List D} {vs : List V}, RepL K F m ds vs → ds.all flatD = true → vs.all flatV = true
  | _, _, .nil, _ => rfl
  | _, _, .cons h r, e => by
    simp only [List.all_cons, Bool.and_eq_true] at e ⊢
    exact ⟨flat_of h e.1, flats_of r e.2⟩
theorem eqFlat {a b : D} {x y : V} (rx : Rep K F m a x) (ry : Rep K F m b y) (fa : flatD a = true) (fb : flatD b = true) : eqV x y = eqD a b := by
  cases rx <;> simp only [flatD, Bool.false_eq_true] at fa <;> cases ry <;> simp only [flatD, Bool.false_eq_true] at fb <;> simp [eqV, eqD, Bool.beq_eq_decide_eq]
theorem any_eq {a : D} {x : V} (rx : Rep K F m a x) (fa : flatD a = true) : ∀ {ds : List D} {vs : List V}, RepL K F m ds vs → ds.all flatD = true → inV x vs = ds.any fun z => eqD z a
  | _, _, .nil, _ => rfl
  | _, _, .cons h r, e => by
    simp only [List.all_cons, Bool.and_eq_true] at e
    have ih := any_eq rx fa r e.2
    unfold inV at ih ⊢
    rw [List.any_cons, List.any_cons, ih, eqFlat h rx e.1 fa]
theorem any_eqv {a : D} (n k : Nat) (ha : shp n a = true) : ∀ {ds : List D}, shps k ds = true → (toPys ds).any (fun z => PyData.eqv z (toPy a)) = ds.any fun z => eqD z a
  | [], _ => by simp [toPys]
  | d :: ds, h => by
    unfold shps at h
    simp only [Bool.and_eq_true] at h
    simp only [toPys, List.any_cons]
    rw [eqv_eqD k n d a h.1 ha, any_eqv n k ha h.2]
end
section
variable {X : Cx}
abbrev rInDict : R2 := fun x y H Q => ∃ a o, y = .ref a ∧ DGet H a x o ∧ Q (.bl o.isSome) H
abbrev rNotInDict : R2 := fun x y H Q => ∃ a o, y = .ref a ∧ DGet H a x o ∧ Q (.bl (!o.isSome)) H
theorem op_inDict (hu : X.A.units + 1 < cLine) : OpR X (compareOp .In) rInDict := by
  intro pins s σ H x y v u Q I rx ry h
  obtain ⟨a, o, rfl, g, q⟩ := h
  cases ry
  exact d_in hu I g rx fun s' I' => ⟨.bl _, H, I', rfl, q⟩
theorem op_notInDict (hu : X.A.units + 1 < cLine) : OpR X (compareOp .NotIn) rNotInDict := by
  intro pins s σ H x y v u Q I rx ry h
  obtain ⟨a, o, rfl, g, q⟩ := h
  cases ry
  exact d_notIn hu I g rx fun s' I' => ⟨.bl _, H, I', rfl, q⟩
/-- x in a tuple of data -/
def rInDT (K : PySem.W.Frag) : R2 := fun x y H Q => ∃ d ds, Dp K H x d ∧ Dp K H y (.tuple ds) ∧ SeqAt.shaped d = true ∧ SeqAt.shaped (.tuple ds) = true ∧ Q (.bl (ds.any fun z => PyData.eqv z d)) H
def rNotInDT (K : PySem.W.Frag) : R2 := fun x y H Q => ∃ d ds, Dp K H x d ∧ Dp K H y (.tuple ds) ∧ SeqAt.shaped d = true ∧ SeqAt.shaped (.tuple ds) = true ∧ Q (.bl (!ds.any fun z => PyData.eqv z d)) H
theorem op_inDT (hu : X.A.units + 65 < cLine) : OpR X (compareOp .In) (rInDT X.K) := by
  intro pins s σ H x y v u Q I rx ry ⟨d, ds, hd, he, sd, se, q⟩
  obtain ⟨as, r1⟩ := Dp.reads I d x v hd rx
  obtain ⟨bs, r2⟩ := Dp.reads I (.tuple ds) y u he ry
  have room : X.A.units + 1 + min (PyData.depthAll ds) d.depth < cLine := PyProof.Rows.room_in_shaped sd hu
  exact SeqAt.in_tuple_reads r2 r1 (SeqAt.canLay_of_shaped se) (SeqAt.canLay_of_shaped sd) room ⟨.bl _, H, I, rfl, q⟩
theorem op_notInDT (hu : X.A.units + 65 < cLine) : OpR X (compareOp .NotIn) (rNotInDT X.K) := by
  intro pins s σ H x y v u Q I rx ry ⟨d, ds, hd, he, sd, se, q⟩
  obtain ⟨as, r1⟩ := Dp.reads I d x v hd rx
  obtain ⟨bs, r2⟩ := Dp.reads I (.tuple ds) y u he ry
  have room : X.A.units + 1 + min (PyData.depthAll ds) d.depth < cLine := PyProof.Rows.room_in_shaped sd hu
  exact SeqAt.notIn_tuple_reads r2 r1 (SeqAt.canLay_of_shaped se) (SeqAt.canLay_of_shaped sd) room ⟨.bl _, H, I, rfl, q⟩
abbrev rSign : R2 := fun x y H Q => ∃ (c : Nat) (z : Str), x = .str ⟨#[c]⟩ ∧ y = .str z ∧ Q (.bl (decide (c ∈ z.cps.toList))) H
def rInM (K : PySem.W.Frag) : R2 := fun x y H Q => rInDict x y H Q ∨ rIn K false x y H Q ∨ rInD K x y H Q ∨ rInDT K x y H Q ∨ rSign x y H Q
def rNotInM (K : PySem.W.Frag) : R2 := fun x y H Q => rNotInDict x y H Q ∨ rIn K true x y H Q ∨ rNotInD K x y H Q ∨ rNotInDT K x y H Q
theorem cmr_in (hu : X.A.units + 65 < cLine) : OpR X (compareOp .In) (rInM X.K) := (op_inDict (by omega)).or (op_in_seq.or ((op_inD hu).or ((op_inDT hu).or op_in_sign)))
theorem cmr_notIn (hu : X.A.units + 65 < cLine) : OpR X (compareOp .NotIn) (rNotInM X.K) := (op_notInDict (by omega)).or (op_notIn_seq.or ((op_notInD hu).or (op_notInDT hu)))
theorem mem_valV {κ : Type} [DecidableEq κ] (k : κ) (kvs : List (κ × V)) : (valV kvs k).isSome = (kvs.map (·.1)).any fun x => decide (x = k) := by
  rw [← valV_any, List.any_map]
  rfl
/-- x in y, as it is computed, with what is to be said of the answer -/
theorem in_sound {F : Wd} {m : List Addr} {st : Store} {H : Hp} {x y : D} {vx vy : V} {b : Bool} {Q : Bool → Prop} {C : Prop} (sr : SR X.K F m st H) (rx : Rep X.K F m x vx) (ry : Rep X.K F m y vy) (e : inO st x y = some b) (q : Q b)
    (h1 : ∀ a o, vy = .ref a → DGet H a vx o → Q o.isSome → C) (h2 : ∀ p xs, vy = .ref p → (SqL X.K H p xs ∨ SqT X.K H p xs) → flatV vx = true → xs.all flatV = true → Q (inV vx xs) → C)
    (h3 : ∀ d ds, Dp X.K H vx d → Dp X.K H vy (.list ds) → SeqAt.shaped d = true → SeqAt.shaped (.list ds) = true → Q (ds.any fun z => PyData.eqv z d) → C)
    (h4 : ∀ d ds, Dp X.K H vx d → Dp X.K H vy (.tuple ds) → SeqAt.shaped d = true → SeqAt.shaped (.tuple ds) = true → Q (ds.any fun z => PyData.eqv z d) → C) : C := by
  unfold inO at e
  cases hd : dkAt st y with
  | some r =>
    obtain ⟨ks, vs⟩ := r
    simp only [hd] at e
    simp only [Option.map_eq_some_iff] at e
    obtain ⟨k, hk, hb⟩ := e
    obtain ⟨a, kvs, rfl, ha, rfl, rv⟩ := dk_of_at sr ry hd
    refine h1 a _ rfl (.inl ⟨kvs, k, ha, keyOf_kV rx hk, rfl⟩) ?_
    rw [mem_valV, hb]
    exact q
  | none =>
    simp only [hd] at e
    cases hs : seqAt st y with
    | none => simp [hs] at e
    | some xs =>
      simp only [hs] at e
      by_cases hf : (flatD x && xs.all flatD) = true
      · rw [if_pos hf] at e
        rw [Bool.and_eq_true] at hf
        obtain ⟨a, vs, rfl, hq, rv⟩ := seq_of sr ry hs
        refine h2 a vs rfl hq (flat_of rx hf.1) (flats_of rv hf.2) ?_
        rw [any_eq rx hf.1 rv hf.2, Option.some.inj e]
        exact q
      · rw [if_neg hf] at e
        by_cases hz : (shp 50 x && (shps 49 xs && sizeOk xs.length)) = true
        · rw [if_pos hz] at e
          simp only [Bool.and_eq_true] at hz
          obtain ⟨z1, z2, z3⟩ := hz
          obtain ⟨p1, p2⟩ := shps_lay 49 xs z2
          have fin : Q ((toPys xs).any fun z => PyData.eqv z (toPy x)) := by
            rw [any_eqv 50 49 z1 z2, Option.some.inj e]
            exact q
          have list : listAt st y = some xs → C := fun hl => by
            obtain ⟨a, vs, rfl, ha, rv⟩ := SqL_of_list sr ry hl
            refine h3 (toPy x) (toPys xs) (rx.dp sr.sub 50 z1) (.lst (.inl (.inl ha)) (rv.dp sr.sub 49 z2)) (shp_shaped z1 (by decide)) ?_ fin
            unfold SeqAt.shaped
            rw [show (PyData.list (toPys xs)).canLay0 = true by simp only [PyData.canLay0]; exact p1, Bool.true_and]
            exact decide_eq_true (by simp only [PyData.depth]; omega)
          cases y with
          | tup w us =>
            have hs : some us = some xs := hs
            have hs := Option.some.inj hs
            subst hs
            obtain ⟨a, vs, rfl, ha, rv⟩ := ry.tup_inv
            refine h4 (toPy x) (toPys us) (rx.dp sr.sub 50 z1) (.tup (Same.seqT sr.sub ha) (rv.dp sr.sub 49 z2)) (shp_shaped z1 (by decide)) ?_ fin
            unfold SeqAt.shaped
            rw [show (PyData.tuple (toPys us)).canLay0 = true by simp only [PyData.canLay0]; exact p1, Bool.true_and]
            exact decide_eq_true (by simp only [PyData.depth]; omega)
          | _ => exact list hs
        · rw [if_neg hz] at e; cases e
theorem cms_in : CmS X .In (rInM X.K) := by
  intro F m st H x y vx vy b Q sr rx ry e q
  have gen : inO st x y = some b → rInM X.K vx vy H Q := fun e => in_sound (Q := fun b => Q (.bl b) H) sr rx ry e q (fun a o h g q => .inl ⟨a, o, h, g, q⟩) (fun p xs h1 h2 h3 h4 q => .inr (.inl ⟨p, xs, h1, h2, h3, h4, q⟩)) (fun d ds h1 h2 h3 h4 q => .inr (.inr (.inl ⟨d, ds, h1, h2, h3, h4, q⟩))) (fun d ds h1 h2 h3 h4 q => .inr (.inr (.inr (.inl ⟨d, ds, h1, h2, h3, h4, q⟩))))
  cases y with
  | str z =>
    cases x with
    | str s =>
      simp only [cmpO] at e
      split at e
      · rename_i c hc
        cases e
        cases rx; cases ry
        obtain ⟨cs⟩ := s
        have ec : cs = #[c] := by
          apply Array.ext'
          exact hc
        subst ec
        exact .inr (.inr (.inr (.inr ⟨c, z, rfl, rfl, q⟩)))
      · cases e
    | _ => cases e
  | _ => exact gen e
theorem cms_notIn : CmS X .NotIn (rNotInM X.K) := by
  intro F m st H x y vx vy b Q sr rx ry e q
  simp only [cmpO, Option.map_eq_some_iff] at e
  obtain ⟨c, e, rfl⟩ := e
  exact in_sound (Q := fun b => Q (.bl (!b)) H) sr rx ry e q (fun a o h g q => .inl ⟨a, o, h, g, q⟩) (fun p xs h1 h2 h3 h4 q => .inr (.inl ⟨p, xs, h1, h2, h3, h4, q⟩)) (fun d ds h1 h2 h3 h4 q => .inr (.inr (.inl ⟨d, ds, h1, h2, h3, h4, q⟩))) (fun d ds h1 h2 h3 h4 q => .inr (.inr (.inr ⟨d, ds, h1, h2, h3, h4, q⟩)))
theorem op_or2 {f : Value → Value → Sem Value} {r1 r2 : R2} (h1 : OpR X f r1) (h2 : OpR X f r2) : OpR X f (fun x y H Q => r1 x y H Q ∨ r2 x y H Q) := by
  intro pins s σ H x y v u Q I rx ry h
  rcases h with h | h
  · exact h1 pins s σ H x y v u Q I rx ry h
  · exact h2 pins s σ H x y v u Q I rx ry h
/-- every comparison -/
theorem cm_all (hu : X.A.units + 65 < cLine) (op : CmpOp) : ∃ r, OpR X (compareOp op) r ∧ CmS X op r := by
  cases op with
  | Eq => exact ⟨_, op_eqD (by omega), cms_eq⟩
  | NotEq => exact ⟨_, op_neD (by omega), cms_ne⟩
  | Lt => exact ⟨_, cmr_lt, cms_lt⟩
  | LtE => exact ⟨_, cmr_le (by omega), cms_le⟩
  | Gt => exact ⟨_, op_gt, cms_gt⟩
  | GtE => exact ⟨_, cmr_ge, cms_ge⟩
  | Is => exact ⟨_, op_or2 op_isN op_is_bl, cms_is⟩
  | IsNot => exact ⟨_, op_or2 op_notN op_isnot_bl, cms_isnot⟩
  | In => exact ⟨_, cmr_in hu, cms_in⟩
  | NotIn => exact ⟨_, cmr_notIn hu, cms_notIn⟩
end

section
variable {Φ : Str → List D → M D} {G : Str → Option D} {X : Cx} {W : WX} {a b c : Expr} {ea eb ec : E} {pos : Pos}
theorem s_cmp2 {op : CmpOp} {r : R2} (hs : CmS X op r) {σv : St} {H : Hp} {Q : VK}
    (h : lift X W (ev Φ G (.cmp op ea eb)) σv H Q) : tOp r (lift X W (ev Φ G ea)) (lift X W (ev Φ G eb)) σv H Q := by
  obtain ⟨F, m, σ, st, sr, re, h⟩ := h
  refine ⟨F, m, σ, st, sr, re, post_bnd h fun F1 m1 H1 st1 x vx x1 sr1 rx h1 => ?_⟩
  refine ⟨F1, m1, σ, st1, sr1, x1.env re, post_bnd h1 fun F2 m2 H2 st2 y vy x2 sr2 ry h2 => ?_⟩
  cases e : cmpO op x y st2 with
  | none => simp only [e] at h2; exact h2.elim
  | some d =>
    simp only [e] at h2
    exact hs F2 m2 st2 H2 x y vx vy d Q sr2 (x2.rep rx) ry e (post_ret h2 sr2 (.bl d))
theorem s_cmp {op : CmpOp} (hu : X.A.units + 65 < cLine) (hm : behindInMarks op b = false) (ha : PE X a (lift X W (ev Φ G ea))) (hb : PE X b (lift X W (ev Φ G eb))) : PE X (.Compare a [op] [b] pos) (lift X W (ev Φ G (.cmp op ea eb))) := by
  obtain ⟨r, h1, h2⟩ := cm_all (X := X) hu op
  exact (pe_cmpR h1 ha hb hm).imp fun σv H Q h => s_cmp2 h2 h
theorem s_chn2 {op op' : CmpOp} {r r' : R2} (hs : CmS X op r) (hs' : CmS X op' r') {σv : St} {H : Hp} {Q : VK}
    (h : lift X W (ev Φ G (.chn op op' ea eb ec)) σv H Q) : tChain r r' (lift X W (ev Φ G ea)) (lift X W (ev Φ G eb)) (lift X W (ev Φ G ec)) σv H Q := by
  obtain ⟨F, m, σ, st, sr, re, h⟩ := h
  refine ⟨F, m, σ, st, sr, re, post_bnd h fun F1 m1 H1 st1 x vx x1 sr1 rx h1 => ?_⟩
  refine ⟨F1, m1, σ, st1, sr1, x1.env re, post_bnd h1 fun F2 m2 H2 st2 y vy x2 sr2 ry h2 => ?_⟩
  cases e : cmpO op x y st2 with
  | none => simp only [e] at h2; exact h2.elim
  | some d =>
    cases d with
    | false =>
      simp only [e] at h2
      refine hs F2 m2 st2 H2 x y vx vy false _ sr2 (x2.rep rx) ry e ⟨false, rfl, ?_⟩
      rw [if_neg Bool.false_ne_true]
      exact post_ret h2 sr2 (.bl false)
    | true =>
      simp only [e] at h2
      refine hs F2 m2 st2 H2 x y vx vy true _ sr2 (x2.rep rx) ry e ⟨true, rfl, ?_⟩
      rw [if_pos rfl]
      refine ⟨F2, m2, σ, st2, sr2, x2.env (x1.env re), post_bnd h2 fun F3 m3 H3 st3 z vz x3 sr3 rz h3 => ?_⟩
      cases e' : cmpO op' y z st3 with
      | none => simp only [e'] at h3; exact h3.elim
      | some d =>
        simp only [e'] at h3
        exact hs' F3 m3 st3 H3 y z vy vz d Q sr3 (x3.rep ry) rz e' (post_ret h3 sr3 (.bl d))
end
end MN
set_option Elab.async false
set_option linter.all false
set_option maxRecDepth 100000
/-! MiniI: chains, truth, displays, subscripts. -/
namespace MN
variable [TabP]
open PySem PySem.Spec L2
section
variable {Φ : Str → List D → M D} {G : Str → Option D} {X : Cx} {W : WX} {a b c : Expr} {ea eb ec : E} {pos : Pos}
theorem s_chn {op op' : CmpOp} (hu : X.A.units + 65 < cLine) (hm : lastMarks [op, op'] [b, c] = false) (ha : PE X a (lift X W (ev Φ G ea))) (hb : PE X b (lift X W (ev Φ G eb))) (hc : PE X c (lift X W (ev Φ G ec))) :
    PE X (.Compare a [op, op'] [b, c] pos) (lift X W (ev Φ G (.chn op op' ea eb ec))) := by
  obtain ⟨r, h1, h2⟩ := cm_all (X := X) hu op
  obtain ⟨r', h1', h2'⟩ := cm_all (X := X) hu op'
  exact (pe_chain h1 h1' ha hb hc hm).imp fun σv H Q h => s_chn2 h2 h2' h

/-! ### tests -/
/-- a test, from its value: e evaluates to a bool -/
theorem tst_of {e : E} {σv : St} {H : Hp} {Q : Bool → Hp → Prop} (h : liftT X W (evt Φ G (some e)) σv H Q) : tB (lift X W (ev Φ G e)) σv H Q := by
  obtain ⟨F, m, σ, st, sr, re, h⟩ := h
  refine ⟨F, m, σ, st, sr, re, post_bnd h fun F1 m1 H1 st1 x vx x1 sr1 rx h1 => ?_⟩
  cases x with
  | bl b => cases rx; exact ⟨b, rfl, post_ret h1 sr1 rfl⟩
  | _ => exact h1.elim
theorem t_val {e : Expr} {ee : E} (h : PE X e (lift X W (ev Φ G ee))) (he : ∀ whole, isTrue e X.env whole = (do let v ← whole; standAt e.pos; holding [v] (truthy v))) : PT X e (liftT X W (evt Φ G (some ee))) :=
  (pt_val h he).imp fun _ _ _ q => tst_of q
theorem t_cmp {op : CmpOp} (hu : X.A.units + 65 < cLine) (hm : behindInMarks op b = false) (ha : PE X a (lift X W (ev Φ G ea))) (hb : PE X b (lift X W (ev Φ G eb))) : PT X (.Compare a [op] [b] pos) (liftT X W (evt Φ G (some (.cmp op ea eb)))) := by
  obtain ⟨r, h1, h2⟩ := cm_all (X := X) hu op
  exact (pt_cmpR h1 ha hb hm).imp fun σv H Q h => s_cmp2 h2 (tst_of h)
theorem t_chn {op op' : CmpOp} (hu : X.A.units + 65 < cLine) (hm : lastMarks [op, op'] [b, c] = false) (ha : PE X a (lift X W (ev Φ G ea))) (hb : PE X b (lift X W (ev Φ G eb))) (hc : PE X c (lift X W (ev Φ G ec))) :
    PT X (.Compare a [op, op'] [b, c] pos) (liftT X W (evt Φ G (some (.chn op op' ea eb ec)))) := by
  obtain ⟨r, h1, h2⟩ := cm_all (X := X) hu op
  obtain ⟨r', h1', h2'⟩ := cm_all (X := X) hu op'
  exact (pt_chain h1 h1' ha hb hc hm).imp fun σv H Q h => s_chn2 h2 h2' (tst_of h)
theorem evt_and (ea eb : E) (σ : Env) (st : Store) : evt Φ G (some (.and ea eb)) σ st = M.bnd (evt Φ G (some ea) σ) (fun t => if t then evt Φ G (some eb) σ else M.ret false) st := by
  simp only [evt, ev, M.bnd]
  cases ev Φ G ea σ st with
  | ok d st' =>
    cases d with
    | bl b => cases b <;> simp [M.bnd, M.ret]
    | _ => simp [M.bnd, M.ret, M.bad]
  | _ => rfl
theorem evt_or (ea eb : E) (σ : Env) (st : Store) : evt Φ G (some (.or ea eb)) σ st = M.bnd (evt Φ G (some ea) σ) (fun t => if t then M.ret true else evt Φ G (some eb) σ) st := by
  simp only [evt, ev, M.bnd]
  cases ev Φ G ea σ st with
  | ok d st' =>
    cases d with
    | bl b => cases b <;> simp [M.bnd, M.ret]
    | _ => simp [M.bnd, M.ret, M.bad]
  | _ => rfl
theorem evt_not (ea : E) (σ : Env) (st : Store) : evt Φ G (some (.not ea)) σ st = M.bnd (evt Φ G (some ea) σ) (fun t => M.ret (!t)) st := by
  simp only [evt, ev, M.bnd]
  cases ev Φ G ea σ st with
  | ok d st' =>
    cases d with
    | bl b => cases b <;> simp [M.bnd, M.ret]
    | _ => simp [M.bnd, M.ret, M.bad]
  | _ => rfl
theorem evt_ite (ec ea eb : E) (σ : Env) (st : Store) : evt Φ G (some (.ite ec ea eb)) σ st = M.bnd (evt Φ G (some ec) σ) (fun t => if t then evt Φ G (some ea) σ else evt Φ G (some eb) σ) st := by
  simp only [evt, ev, M.bnd]
  cases ev Φ G ec σ st with
  | ok d st' =>
    cases d with
    | bl b => cases b <;> simp [M.bnd, M.ret]
    | _ => simp [M.bnd, M.ret, M.bad]
  | _ => rfl
theorem t_and {rest : List Expr} (ha : PT X a (liftT X W (evt Φ G (some ea)))) (hb : PW X (.BoolOp .And (b :: rest) pos) (liftT X W (evt Φ G (some eb)))) : PW X (.BoolOp .And (a :: b :: rest) pos) (liftT X W (evt Φ G (some (.and ea eb)))) := by
  refine (pw_and ha hb).imp fun σv H Q ⟨F, m, σ, st, sr, re, h⟩ => ?_
  rw [evt_and] at h
  refine ⟨F, m, σ, st, sr, re, post_bnd h fun F1 m1 H1 st1 x vx x1 sr1 rx h1 => ?_⟩
  subst rx
  cases x with
  | true => rw [if_pos rfl]; exact ⟨F1, m1, σ, st1, sr1, x1.env re, by rw [if_pos rfl] at h1; exact h1⟩
  | false => rw [if_neg Bool.false_ne_true]; rw [if_neg Bool.false_ne_true] at h1; exact post_ret h1 sr1 rfl
theorem t_or {rest : List Expr} (ha : PT X a (liftT X W (evt Φ G (some ea)))) (hb : PW X (.BoolOp .Or (b :: rest) pos) (liftT X W (evt Φ G (some eb)))) : PW X (.BoolOp .Or (a :: b :: rest) pos) (liftT X W (evt Φ G (some (.or ea eb)))) := by
  refine (pw_or ha hb).imp fun σv H Q ⟨F, m, σ, st, sr, re, h⟩ => ?_
  rw [evt_or] at h
  refine ⟨F, m, σ, st, sr, re, post_bnd h fun F1 m1 H1 st1 x vx x1 sr1 rx h1 => ?_⟩
  subst rx
  cases x with
  | false => rw [if_neg Bool.false_ne_true]; exact ⟨F1, m1, σ, st1, sr1, x1.env re, by rw [if_neg Bool.false_ne_true] at h1; exact h1⟩
  | true => rw [if_pos rfl]; rw [if_pos rfl] at h1; exact post_ret h1 sr1 rfl
theorem t_not (ha : PT X a (liftT X W (evt Φ G (some ea)))) : PT X (.UnaryOp .Not a pos) (liftT X W (evt Φ G (some (.not ea)))) := by
  refine (pt_not ha).imp fun σv H Q ⟨F, m, σ, st, sr, re, h⟩ => ?_
  rw [evt_not] at h
  refine ⟨F, m, σ, st, sr, re, post_bnd h fun F1 m1 H1 st1 x vx x1 sr1 rx h1 => ?_⟩
  subst rx
  exact post_ret h1 sr1 rfl
theorem t_ite {q : Expr} (hc : PT X q (liftT X W (evt Φ G (some ec)))) (ha : PT X a (liftT X W (evt Φ G (some ea)))) (hb : PT X b (liftT X W (evt Φ G (some eb)))) : PT X (.IfExp q a b pos) (liftT X W (evt Φ G (some (.ite ec ea eb)))) := by
  refine ⟨fun pins s σv H Q I ⟨F, m, σ, st, sr, re, h⟩ => ?_⟩
  rw [evt_ite] at h
  refine PyProof.Rows.isTrue_IfExp (thn (hc.run pins s σv H (fun t H1 => ∃ F' m' st', Ext F F' m m' ∧ SR X.K F' m' st' H1 ∧ PostG X (fun _ _ a b => a = b) W σv F' m' Q ((if t then evt Φ G (some ea) σ else evt Φ G (some eb) σ) st')) I ⟨F, m, σ, st, sr, re, post_bnd h fun F1 m1 H1 st1 x vx x1 sr1 rx h1 => ?_⟩) fun t s1 ⟨H1, I1, F1, m1, st1, x1, sr1, h1⟩ => ?_)
  · subst rx
    exact ⟨F1, m1, st1, x1, sr1, h1⟩
  · cases t with
    | true => rw [if_pos rfl] at h1 ⊢; exact ha.run pins s1 σv H1 Q I1 ⟨F1, m1, σ, st1, sr1, x1.env re, h1⟩
    | false => rw [if_neg Bool.false_ne_true] at h1 ⊢; exact hb.run pins s1 σv H1 Q I1 ⟨F1, m1, σ, st1, sr1, x1.env re, h1⟩

/-! ### and, or, not, .. if .. else as values -/
theorem s_and {rest : List Expr} (ha : PE X a (lift X W (ev Φ G ea))) (hb : PE X (.BoolOp .And (b :: rest) pos) (lift X W (ev Φ G eb))) : PE X (.BoolOp .And (a :: b :: rest) pos) (lift X W (ev Φ G (.and ea eb))) := by
  refine (pe_and ha hb).imp fun σv H Q ⟨F, m, σ, st, sr, re, h⟩ => ?_
  refine ⟨F, m, σ, st, sr, re, post_bnd h fun F1 m1 H1 st1 x vx x1 sr1 rx h1 => ?_⟩
  cases x with
  | bl b =>
    cases rx
    refine ⟨b, rfl, ?_⟩
    cases b with
    | true => rw [if_pos rfl]; exact ⟨F1, m1, σ, st1, sr1, x1.env re, h1⟩
    | false => rw [if_neg Bool.false_ne_true]; exact post_ret h1 sr1 (.bl false)
  | _ => exact h1.elim
theorem s_or {rest : List Expr} (ha : PE X a (lift X W (ev Φ G ea))) (hb : PE X (.BoolOp .Or (b :: rest) pos) (lift X W (ev Φ G eb))) : PE X (.BoolOp .Or (a :: b :: rest) pos) (lift X W (ev Φ G (.or ea eb))) := by
  refine (pe_or ha hb).imp fun σv H Q ⟨F, m, σ, st, sr, re, h⟩ => ?_
  refine ⟨F, m, σ, st, sr, re, post_bnd h fun F1 m1 H1 st1 x vx x1 sr1 rx h1 => ?_⟩
  cases x with
  | bl b =>
    cases rx
    refine ⟨b, rfl, ?_⟩
    cases b with
    | false => rw [if_neg Bool.false_ne_true]; exact ⟨F1, m1, σ, st1, sr1, x1.env re, h1⟩
    | true => rw [if_pos rfl]; exact post_ret h1 sr1 (.bl true)
  | _ => exact h1.elim
theorem pe_notT {ta : TE} (ha : PE X a ta) : PE X (.UnaryOp .Not a pos) (fun σ H Q => ta σ H fun x H1 => ∃ k, TruV X.K x H1 k ∧ Q (.bl (!k)) H1) := by
  refine ⟨fun pins s σ H Q I h => ?_⟩
  refine PyProof.Rows.UnaryOp_ (thn (ha.run pins s σ H _ I h) fun v s1 ⟨x, H1, I1, r1, q1⟩ => ?_)
  obtain ⟨k, hk, q⟩ := q1
  exact PyProof.Rows.not_of (thn (tru_ok pins s1 σ H1 x v (fun b H2 => b = k ∧ H2 = H1) I1 r1 ⟨k, hk, rfl, rfl⟩) fun b s2 ⟨H2, I2, eb, eH⟩ => by
    subst eb eH
    exact ⟨.bl (!b), H2, I2, rfl, q⟩)
theorem s_not (ha : PE X a (lift X W (ev Φ G ea))) : PE X (.UnaryOp .Not a pos) (lift X W (ev Φ G (.notV ea))) := by
  refine (pe_notT ha).imp fun σv H Q ⟨F, m, σ, st, sr, re, h⟩ => ?_
  refine ⟨F, m, σ, st, sr, re, post_bnd h fun F1 m1 H1 st1 x vx x1 sr1 rx h1 => ?_⟩
  cases x with
  | bl b => cases rx; exact ⟨b, rfl, post_ret h1 sr1 (.bl _)⟩
  | int i => cases rx; exact ⟨_, rfl, post_ret h1 sr1 (.bl _)⟩
  | _ => exact h1.elim
theorem un_negB : UnR X (unaryOp .USub) (fun x H Q => ∃ b, x = .bl b ∧ Q (.int (-(if b = true then (1 : Int) else 0))) H) := by
  intro pins s σ H x v Q I rx h
  obtain ⟨b, rfl, q⟩ := h
  cases (show v = Value.bool b from rx)
  have g : Gives (Builtin.«int.__neg__» ⟨[.bool b], []⟩) (.int (-(if b = true then (1 : Int) else 0))) := .of_eq (by cases b <;> rfl)
  exact unaryOp_gives (op := .USub) (PyProof.Rows.typeIs_bool' s b) rfl F.slot_bool_neg F.entry_int_neg (F.args_int_neg_1 _) g ⟨.int _, H, I.tok _, ⟨_, rfl⟩, q⟩
theorem s_neg (ha : PE X a (lift X W (ev Φ G ea))) : PE X (.UnaryOp .USub a pos) (lift X W (ev Φ G (.neg ea))) := by
  refine (pe_un (r := fun x H Q => rU (fun i => .int (-i)) x H Q ∨ ∃ b, x = .bl b ∧ Q (.int (-(if b = true then (1 : Int) else 0))) H) (fun pins s σ H x v Q I rx h => h.elim (un_neg pins s σ H x v Q I rx) (un_negB pins s σ H x v Q I rx)) ha).imp fun σv H Q ⟨F, m, σ, st, sr, re, h⟩ => ?_
  refine ⟨F, m, σ, st, sr, re, post_bnd h fun F1 m1 H1 st1 x vx x1 sr1 rx h1 => ?_⟩
  cases x with
  | int i => cases rx; exact .inl ⟨i, rfl, post_ret h1 sr1 (.int _)⟩
  | bl b => cases rx; exact .inr ⟨b, rfl, post_ret h1 sr1 (.int _)⟩
  | _ => exact h1.elim
theorem s_ite {q : Expr} (hc : PT X q (liftT X W (evt Φ G (some ec)))) (ha : PE X a (lift X W (ev Φ G ea))) (hb : PE X b (lift X W (ev Φ G eb))) : PE X (.IfExp q a b pos) (lift X W (ev Φ G (.ite ec ea eb))) := by
  refine (pe_ifExp hc ha hb).imp fun σv H Q ⟨F, m, σ, st, sr, re, h⟩ => ?_
  have e : ev Φ G (.ite ec ea eb) σ st = M.bnd (evt Φ G (some ec) σ) (fun t => if t then ev Φ G ea σ else ev Φ G eb σ) st := by
    simp only [evt, ev, M.bnd]
    cases ev Φ G ec σ st with
    | ok d st' =>
      cases d with
      | bl b => cases b <;> simp [M.bnd, M.ret]
      | _ => simp [M.bnd, M.ret, M.bad]
    | _ => rfl
  rw [e] at h
  refine ⟨F, m, σ, st, sr, re, post_bnd h fun F1 m1 H1 st1 x vx x1 sr1 rx h1 => ?_⟩
  subst rx
  cases x with
  | true => rw [if_pos rfl]; rw [if_pos rfl] at h1; exact ⟨F1, m1, σ, st1, sr1, x1.env re, h1⟩
  | false => rw [if_neg Bool.false_ne_true]; rw [if_neg Bool.false_ne_true] at h1; exact ⟨F1, m1, σ, st1, sr1, x1.env re, h1⟩

/-! ### argument lists, displays -/
theorem s_nil : PA X [] (liftL X W (evs Φ G [])) := pa_nil.imp fun σv H Q ⟨F, m, σ, st, sr, re, h⟩ => post_ret (st := st) (a := ([] : List D)) h sr .nil
theorem s_cons {es : List Expr} {ees : List E} (ha : PE X a (lift X W (ev Φ G ea))) (hr : PA X es (liftL X W (evs Φ G ees))) (hs : starEach (a :: es) X.env = (false, eval a X.env) :: starEach es X.env) : PA X (a :: es) (liftL X W (evs Φ G (ea :: ees))) := by
  refine (pa_cons ha hr hs).imp fun σv H Q ⟨F, m, σ, st, sr, re, h⟩ => ?_
  refine ⟨F, m, σ, st, sr, re, post_bnd h fun F1 m1 H1 st1 x vx x1 sr1 rx h1 => ?_⟩
  refine ⟨F1, m1, σ, st1, sr1, x1.env re, post_bnd h1 fun F2 m2 H2 st2 y vy x2 sr2 ry h2 => ?_⟩
  exact post_ret h2 sr2 (.cons (x2.rep rx) ry)
theorem s_tup {es : List Expr} {ees : List E} {k : Nat} (h : PA X es (liftL X W (evs Φ G ees))) : PE X (.Tuple es k pos) (lift X W (ev Φ G (.tup ees))) := by
  refine (pe_tup h).imp fun σv H Q ⟨F, m, σ, st, sr, re, h⟩ => ?_
  refine ⟨F, m, σ, st, sr, re, post_bnd h fun F1 m1 H1 st1 x vx x1 sr1 rx h1 => ?_⟩
  by_cases hz : sizeOk x.length = true
  · rw [if_pos hz] at h1
    refine ⟨by rw [← rx.length]; exact szOk hz, fun p hp => ?_⟩
    obtain ⟨s2, x2⟩ := sr1.new hp (.tup vx)
    exact h1 _ _ _ _ x2 s2 (.tup upd_same (x2.repL rx))
  · rw [if_neg hz] at h1; exact h1.elim

end
end MN
set_option Elab.async false
set_option linter.all false
set_option maxRecDepth 100000
/-! MiniJ: displays, subscripts, slices, calls of defs. -/
namespace MN
variable [TabP]
open PySem PySem.Spec L2
section
variable {Φ : Str → List D → M D} {G : Str → Option D} {X : Cx} {W : WX} {a b c : Expr} {ea eb ec : E} {pos : Pos}
theorem n_lst {es : List Expr} {ees : List E} (h : PA X es (liftL X W (evs Φ G ees))) : PE X (.List es pos) (liftN X W (ev Φ G (.lst ees))) := by
  refine (pe_lst h).imp fun σv H Q ⟨F, m, σ, st, sr, re, h⟩ => ?_
  refine ⟨F, m, σ, st, sr, re, post_bndN h fun F1 m1 H1 st1 x vx x1 sr1 rx h1 => ?_⟩
  by_cases hz : sizeOk x.length = true
  · rw [if_pos hz] at h1
    refine ⟨by rw [← rx.length]; exact szOk hz, fun p hp => ?_⟩
    exact h1 _ _ _ _ Ext.refl (sr1.extra hp _) ⟨p, vx, rfl, upd_same, sr1.free hp, sr1.freeP hp, sr1.in_m hp, rx⟩
  · rw [if_neg hz] at h1; exact h1.elim
theorem n_dnewK : PE X (.Dict [] [] pos) (liftN X W (ev Φ G (.dnew false))) := by
  refine pe_dnewK.imp fun σv H Q ⟨F, m, σ, st, sr, re, h⟩ p hp => ?_
  have h : PostN X W σv F m Q (R.ok (D.dk [] []) st) := h
  exact h _ _ _ _ Ext.refl (sr.extra hp _) ⟨p, [], rfl, upd_same, sr.free hp, sr.freeP hp, sr.in_m hp, rfl, .nil⟩
theorem n_dnewT : PE X (.Dict [] [] pos) (liftN X W (ev Φ G (.dnew true))) := by
  refine pe_dnewT.imp fun σv H Q ⟨F, m, σ, st, sr, re, h⟩ p hp => ?_
  have h : PostN X W σv F m Q (R.ok (D.dt [] []) st) := h
  exact h _ _ _ _ Ext.refl (sr.extra hp _) ⟨p, [], rfl, upd_same, sr.free hp, sr.freeP hp, sr.in_m hp, rfl, .nil⟩

/-! ### subscripts -/
def rIxM (K : PySem.W.Frag) : R2 := fun x y H Q => rIx K x y H Q ∨ rIxDm x y H Q
theorem ix_all (hu : X.A.units + 1 < cLine) : IxR X (rIxM X.K) := ix_seq.or (ix_dictM hu)
theorem atI_rep {K : PySem.W.Frag} {F : Wd} {m : List Addr} {ds : List D} {vs : List V} {i : Int} {d : D} (r : RepL K F m ds vs) (e : atI ds i = some d) : ∃ v, atI vs i = some v ∧ Rep K F m d v := by
  unfold atI at e ⊢
  rw [← r.length]
  cases h : ixN ds.length i with
  | none => rw [h] at e; cases e
  | some j =>
    rw [h] at e
    exact r.get e
theorem idx_sound {F : Wd} {m : List Addr} {st : Store} {H : Hp} {x y d : D} {vx vy : V} {Q : VK} (sr : SR X.K F m st H) (rx : Rep X.K F m x vx) (ry : Rep X.K F m y vy) (e : idxO x y st = some d) (q : ∀ v, Rep X.K F m d v → Q v H) : rIxM X.K vx vy H Q := by
  have gen : ∀ xs, seqAt st x = some xs → ∀ i, y = .int i → atI xs i = some d → rIxM X.K vx vy H Q := fun xs hs i hy ha => by
    subst hy
    cases ry
    obtain ⟨a, vs, rfl, hq, rv⟩ := seq_of sr rx hs
    obtain ⟨v, hv, r⟩ := atI_rep rv ha
    rcases hq with hq | hq
    · exact .inl (.inl ⟨a, vs, i, v, rfl, rfl, hq, hv, q v r⟩)
    · exact .inl (.inr (.inl ⟨a, vs, i, v, rfl, rfl, hq, hv, q v r⟩))
  have rest : idxR x y st = some d → rIxM X.K vx vy H Q := fun e => by
    unfold idxR at e
    cases hs : seqAt st x with
    | some xs =>
      simp only [hs] at e
      cases y with
      | int i => exact gen xs hs i rfl e
      | _ => cases e
    | none =>
      simp only [hs] at e
      cases hd : dkAt st x with
      | some r =>
        obtain ⟨ks, vs⟩ := r
        simp only [hd] at e
        cases hk : keyOf y with
        | none => simp [hk] at e
        | some k =>
          simp only [hk] at e
          obtain ⟨a, kvs, rfl, ha, rfl, rv⟩ := dk_of_at sr rx hd
          obtain ⟨v, hv, r⟩ := (kv_get k rv).1 d e
          exact .inr ⟨a, v, rfl, .inl ⟨kvs, k, ha, keyOf_kV ry hk, hv.symm⟩, q v r⟩
      | none =>
        simp only [hd] at e
        cases ht : dtAt st x with
        | none => simp [ht] at e
        | some r =>
          obtain ⟨ks, vs⟩ := r
          simp only [ht] at e
          cases hk : tkeyOf y with
          | none => simp [hk] at e
          | some k =>
            simp only [hk] at e
            obtain ⟨a, kvs, rfl, ha, rfl, rv⟩ := dt_of_at sr rx ht
            obtain ⟨v, hv, r⟩ := (kv_get k rv).1 d e
            obtain ⟨bb, rfl, hb⟩ := tkeyOf_kV ry hk
            exact .inr ⟨a, v, rfl, .inr ⟨kvs, k, bb, ha, rfl, sr.sub _ _ hb, hv.symm⟩, q v r⟩
  unfold idxO at e
  cases x with
  | scr ns =>
    cases y with
    | int i =>
      simp only [Option.map_eq_some_iff] at e
      obtain ⟨z, hz, rfl⟩ := e
      cases rx with
      | scr h =>
        cases ry
        refine .inl (.inl ⟨_, _, i, .int z, rfl, rfl, sr.sub.seq h, ?_, q _ (.int z)⟩)
        unfold atI at hz ⊢
        rw [List.length_map]
        cases hx : ixN ns.length i with
        | none => rw [hx] at hz; cases hz
        | some j =>
          rw [hx] at hz
          have hz : ns[j]? = some z := hz
          show (ns.map V.int)[j]? = _
          rw [List.getElem?_map, hz]
          rfl
    | _ => cases e
  | str z =>
    cases y with
    | int i =>
      simp only at e
      by_cases hz : sizeOk z.length = true
      · rw [if_pos hz] at e
        simp only [Option.map_eq_some_iff] at e
        obtain ⟨c, hc, rfl⟩ := e
        cases rx; cases ry
        exact .inl (.inr (.inr ⟨z, i, c, rfl, rfl, szOk hz, hc, q _ (.str _)⟩))
      · rw [if_neg hz] at e; cases e
    | _ => cases e
  | _ => exact rest e
theorem s_idx (hu : X.A.units + 1 < cLine) (hs : PlainIx b) (ha : PE X a (lift X W (ev Φ G ea))) (hb : PE X b (lift X W (ev Φ G eb))) : PE X (.Subscript a b pos) (lift X W (ev Φ G (.idx ea eb))) := by
  refine (pe_ix (ix_all hu) ha hb hs).imp fun σv H Q ⟨F, m, σ, st, sr, re, h⟩ => ?_
  refine ⟨F, m, σ, st, sr, re, post_bnd h fun F1 m1 H1 st1 x vx x1 sr1 rx h1 => ?_⟩
  refine ⟨F1, m1, σ, st1, sr1, x1.env re, post_bnd h1 fun F2 m2 H2 st2 y vy x2 sr2 ry h2 => ?_⟩
  cases e : idxO x y st2 with
  | none => simp only [e] at h2; exact h2.elim
  | some d =>
    simp only [e] at h2
    exact idx_sound sr2 (x2.rep rx) ry e fun v r => post_ret h2 sr2 r

/-! ### slices -/
def rSlM (K : PySem.W.Frag) : V → Option Int → Option Int → Hp → VK → Prop := fun x lo hi H Q => rSlL K x lo hi H Q ∨ rSlA K x lo hi H Q ∨ rSlS x lo hi H Q
theorem sl_all : SlR X (rSlM X.K) := sl_list.or (sl_tupA.or sl_str)
theorem o_none : PO X none (liftO X W (evo Φ G none)) := po_none.imp fun σv H Q ⟨F, m, σ, st, sr, re, h⟩ => post_ret (st := st) (a := (none : Option Int)) h sr rfl
theorem o_some (ha : PE X a (lift X W (ev Φ G ea))) : PO X (some a) (liftO X W (evo Φ G (some ea))) := by
  refine (po_some ha).imp fun σv H Q ⟨F, m, σ, st, sr, re, h⟩ => ?_
  refine ⟨F, m, σ, st, sr, re, post_bnd h fun F1 m1 H1 st1 x vx x1 sr1 rx h1 => ?_⟩
  cases x with
  | int i => cases rx; exact ⟨i, rfl, post_ret h1 sr1 rfl⟩
  | _ => exact h1.elim
theorem cut_rep {K : PySem.W.Frag} {F : Wd} {m : List Addr} {ds : List D} {vs : List V} (lo hi : Option Int) (r : RepL K F m ds vs) : RepL K F m (cutL ds lo hi) (cutV vs lo hi) := by
  unfold cutL cutV
  rw [r.length]
  exact (r.drop _).take _
theorem n_slc {lo hi : Option Expr} {el eh : Option E} {p2 : Pos} (ha : PE X a (lift X W (ev Φ G ea))) (hl : PO X lo (liftO X W (evo Φ G el))) (hh : PO X hi (liftO X W (evo Φ G eh))) : PE X (.Subscript a (.Slice lo hi none p2) pos) (liftN X W (ev Φ G (.slc ea el eh))) := by
  refine (pe_slice sl_all ha hl hh).imp fun σv H Q ⟨F, m, σ, st, sr, re, h⟩ => ?_
  refine ⟨F, m, σ, st, sr, re, post_bndN h fun F1 m1 H1 st1 x vx x1 sr1 rx h1 => ?_⟩
  refine ⟨F1, m1, σ, st1, sr1, x1.env re, post_bndN h1 fun F2 m2 H2 st2 l l' x2 sr2 rl h2 => ?_⟩
  refine ⟨F2, m2, σ, st2, sr2, x2.env (x1.env re), post_bndN h2 fun F3 m3 H3 st3 u u' x3 sr3 ru h3 => ?_⟩
  subst rl ru
  have rx := x3.rep (x2.rep rx)
  cases e : slcO x l u st3 with
  | none => simp only [e] at h3; exact h3.elim
  | some d =>
    simp only [e] at h3
    have lists : ∀ xs, listAt st3 x = some xs → d = .lst (cutL xs l u) → rSlM X.K vx l u H3 Q := fun xs hx hd => by
      obtain ⟨a, vs, rfl, hq, rv⟩ := SqL_of_list sr3 rx hx
      refine .inl ⟨a, vs, rfl, SqL.of hq, fun p hp => ?_⟩
      subst hd
      exact h3 _ _ _ _ Ext.refl (sr3.extra hp _) ⟨p, _, rfl, upd_same, sr3.free hp, sr3.freeP hp, sr3.in_m hp, cut_rep l u rv⟩
    have gen : ((listAt st3 x).map fun xs => D.lst (cutL xs l u)) = some d → rSlM X.K vx l u H3 Q := fun e => by
      rw [Option.map_eq_some_iff] at e
      obtain ⟨xs, hx, hd⟩ := e
      exact lists xs hx hd.symm
    unfold slcO at e
    cases x with
    | tup w xs =>
      simp only [Option.some.injEq] at e
      subst e
      have rx0 := rx
      obtain ⟨a, vs, rfl, ha, ra⟩ := rx.tup_inv
      refine .inr (.inl ⟨a, vs, rfl, Same.seqT sr3.sub ha, fun hw => ?_, fun hw p hp => ?_⟩)
      · refine h3 _ _ _ _ Ext.refl sr3 (show Rep _ _ _ (.tup _ _) _ from ?_)
        have e1 : cutL xs l u = xs := by
          unfold cutL
          rw [ra.length, hw.1, hw.2, List.drop_zero, Nat.sub_zero, ← ra.length, List.take_length]
        rw [e1]
        exact rx0
      · obtain ⟨s2, x2⟩ := sr3.new hp (.tup (cutV vs l u))
        exact h3 _ _ _ _ x2 s2 (show Rep _ _ _ (.tup _ _) _ from Rep.tup_any upd_same (x2.repL (cut_rep l u ra)))
    | str z =>
      simp only at e
      by_cases hz : sizeOk z.length = true
      · rw [if_pos hz] at e
        cases e
        cases rx
        exact .inr (.inr ⟨z, rfl, szOk hz, h3 _ _ _ _ Ext.refl sr3 (show Rep _ _ _ (.str _) _ from .str _)⟩)
      · rw [if_neg hz] at e; cases e
    | _ => exact gen e
theorem n_rev {k : Nat} {p1 p2 p3 : Pos} (ha : PE X a (lift X W (ev Φ G ea))) : PE X (.Subscript a (.Slice none none (some (.UnaryOp .USub (.Constant (.int 1) k p1) p2)) p3) pos) (liftN X W (ev Φ G (.rev ea))) := by
  refine (pe_revM ha).imp fun σv H Q ⟨F, m, σ, st, sr, re, h⟩ => ?_
  refine ⟨F, m, σ, st, sr, re, post_bndN h fun F1 m1 H1 st1 x vx x1 sr1 rx h1 => ?_⟩
  cases e : revO x st1 with
  | none => simp only [e] at h1; exact h1.elim
  | some d =>
    simp only [e] at h1
    have gen : ((listAt st1 x).map fun xs => D.lst xs.reverse) = some d → (∃ a xs, vx = .ref a ∧ SqL X.K H1 a xs ∧ ∀ p, H1 p = none → Q (.ref p) (upd H1 p (.lst xs.reverse))) := fun e => by
      rw [Option.map_eq_some_iff] at e
      obtain ⟨xs, hx, hd⟩ := e
      obtain ⟨a, vs, rfl, hq, rv⟩ := SqL_of_list sr1 rx hx
      refine ⟨a, vs, rfl, SqL.of hq, fun p hp => ?_⟩
      subst hd
      exact h1 _ _ _ _ Ext.refl (sr1.extra hp _) ⟨p, _, rfl, upd_same, sr1.free hp, sr1.freeP hp, sr1.in_m hp, rv.reverse⟩
    unfold revO at e
    cases x with
    | tup w xs =>
      simp only [Option.some.injEq] at e
      subst e
      obtain ⟨a, vs, rfl, ha, ra⟩ := rx.tup_inv
      refine .inr ⟨a, vs, rfl, Same.seqT sr1.sub ha, fun p hp => ?_⟩
      obtain ⟨s2, x2⟩ := sr1.new hp (.tup vs.reverse)
      exact h1 _ _ _ _ x2 s2 (show Rep _ _ _ (.tup _ _) _ from Rep.tup_any upd_same (x2.repL ra.reverse))
    | _ => exact .inl (gen e)

/-! ### calls of defs -/
/-- what a def promises: what it computes -/
def spM (K : PySem.W.Frag) (mg : Str → Option Value) (np : Nat) (f : List D → M D) : Sp := fun vs H Q E => ∃ F m ds st, SR K F m st H ∧ RepL K F m ds vs ∧ vs.length = np ∧ match f ds st with
  | .ok d st' => ∀ F' m' H' v, Ext F F' m m' → SR K F' m' st' H' → Rep K F' m' d v → Q v H'
  | .err x st' => ∀ F' m' H' cls dx, Ext F F' m m' → SR K F' m' st' H' → RepX K mg F' m' H' x cls dx → E cls dx H'
  | .bad => False
theorem s_fn {f : Str} {fa : Addr} {fd : FuncData} {ps : List Str} {k : Nat} {p : Pos} {es : List Expr} {ees : List E} (Fn : FnOk X.prog X.w X.K X.mg X.base (L2.CX X.prog X.w) k fa fd ps (spM X.K X.mg ps.length (Φ f))) (hr : Room k X.A) (hg : Gl X f) (hm : X.mg f = some (.ref fa))
    (hk : PySem.W.keepIn X.K (.ref fa) = true) (hb : Binds X.K fd ps []) (tk : Takes X W) (ha : PA X (a :: es) (liftL X W (evs Φ G ees))) (hn : ∀ ds st, Φ f ds st ≠ R.bad → ds.length = ps.length) (hdb : (f == ("__debug__" : Str)) = false) (he : starEach (a :: es) X.env = (false, eval a X.env) :: starEach es X.env)
    (hpl : (backTo pos (starEach es X.env)).any (·.1) = false) : PE X (.Call (.Name f p) (a :: es) [] pos) (lift X W (ev Φ G (.fn f ees))) := by
  refine (pe_callS Fn hr hg hm hk hb (fun σ => passAt tk σ) ha hdb he hpl).imp fun σv H Q ⟨F, m, σ, st, sr, re, h⟩ => ?_
  refine ⟨F, m, σ, st, sr, re, post_bnd h fun F1 m1 H1 st1 x vx x1 sr1 rx h1 => ?_⟩
  refine ⟨F1, m1, x, st1, sr1, rx, ?_, ?_⟩
  · rw [← rx.length]
    refine hn x st1 fun e => ?_
    rw [e] at h1
    exact h1
  · cases e : Φ f x st1 with
    | ok d st2 => rw [e] at h1; exact h1
    | err z st2 => rw [e] at h1; exact h1
    | bad => rw [e] at h1; exact h1
end
end MN
set_option Elab.async false
set_option linter.all false
set_option maxRecDepth 100000
/-! MiniK: what a loop goes over; targets; comprehensions. -/
namespace L2
open PySem PySem.Spec
theorem PI.imp {X : Cx} {tg e : Expr} {w w' : TI} (h : PI X tg e w) (i : ∀ σ H R, w' σ H R → w σ H R) : PI X tg e w' := ⟨fun pins s σ H R I q => h.run pins s σ H R I (i σ H R q)⟩
theorem PI.or {X : Cx} {tg e : Expr} {w w' : TI} (h : PI X tg e w) (h' : PI X tg e w') : PI X tg e (fun σ H R => w σ H R ∨ w' σ H R) :=
  ⟨fun pins s σ H R I q => q.elim (h.run pins s σ H R I) (h'.run pins s σ H R I)⟩
theorem PG.imp {X : Cx} {tg : Expr} {t t' : TG} (h : PG X tg t) (i : ∀ v σ H Q, t' v σ H Q → t v σ H Q) : PG X tg t' := ⟨fun pins s σ H v u Q I r q => h.run pins s σ H v u Q I r (i v σ H Q q)⟩
theorem PGs.imp {X : Cx} {tg : List Expr} {t t' : TGs} (h : PGs X tg t) (i : ∀ v σ H Q, t' v σ H Q → t v σ H Q) : PGs X tg t' := ⟨fun pins s σ H v u Q I r q => h.run pins s σ H v u Q I r (i v σ H Q q)⟩
theorem PTs.imp {X : Cx} {e : List Expr} {t t' : TT} (h : PTs X e t) (i : ∀ σ H Q, t' σ H Q → t σ H Q) : PTs X e t' := ⟨fun pins s σ H Q I q => h.run pins s σ H Q I (i σ H Q q)⟩
end L2
namespace MN
variable [TabP]
open PySem PySem.Spec L2

/-! ### what a loop goes over -/
/-- later, whatever is put aside -/
structure Ex0 (F F' : Wd) (m m' : List Addr) : Prop where
  f : Same F.f F'.f
  m : m <+: m'
theorem Ext.ex0 {F F' : Wd} {m m' : List Addr} (x : Ext F F' m m') : Ex0 F F' m m' := ⟨x.f, x.m⟩
theorem Ex0.refl {F : Wd} {m : List Addr} : Ex0 F F m m := ⟨Same.refl _, List.prefix_rfl⟩
theorem Ex0.trans {F F1 F2 : Wd} {m m1 m2 : List Addr} (a : Ex0 F F1 m m1) (b : Ex0 F1 F2 m1 m2) : Ex0 F F2 m m2 := ⟨a.f.trans b.f, a.m.trans b.m⟩
theorem Ex0.rep {K : PySem.W.Frag} {F F' : Wd} {m m' : List Addr} {d : D} {v : V} (x : Ex0 F F' m m') (h : Rep K F m d v) : Rep K F' m' d v := h.mono x.f x.m
theorem Ex0.repL {K : PySem.W.Frag} {F F' : Wd} {m m' : List Addr} {d : List D} {v : List V} (x : Ex0 F F' m m') (h : RepL K F m d v) : RepL K F' m' d v := h.mono x.f x.m
theorem Ex0.env {K : PySem.W.Frag} {F F' : Wd} {m m' : List Addr} {σ : Env} {σv : St} (x : Ex0 F F' m m') (h : RepE K F m σ σv) : RepE K F' m' σ σv :=
  ⟨h.1, fun i d e => let ⟨v, a, b⟩ := h.2 i d e; ⟨v, a, x.rep b⟩⟩
/-- J goes over xs while what F knows stands -/
structure WalkD (K : PySem.W.Frag) (F : Wd) (m : List Addr) (J : It) (xs : List D) : Prop where
  wk : ∃ Y, Walk J xs.length (fun H => Same F.f H) Y ∧ ∀ (i : Nat) (d : D) (F1 : Wd) (m1 : List Addr) (st1 : Store) (H1 : Hp) (v : V) (H2 : Hp), xs[i]? = some d → Ex0 F F1 m m1 → SR K F1 m1 st1 H1 → Y i H1 v H2 →
    ∃ F2, Ext F1 F2 m1 m1 ∧ SR K F2 m1 st1 H2 ∧ Rep K F2 m1 d v
section
variable {X : Cx} {W : WX} {K : PySem.W.Frag} {F : Wd} {m : List Addr}
theorem wd_list {a : Addr} {vs : List V} {xs : List D} (h : F.f a = some (.lst vs)) (r : RepL K F m xs vs) : WalkD K F m (Itl K a) xs := by
  refine ⟨YAt vs, ?_, fun i d F1 m1 st1 H1 v H2 hx x1 sr y => ?_⟩
  · rw [r.length]
    exact walk_list.mono (fun H s => SqL.of (s a _ h)) fun _ _ _ _ _ _ y => y
  · obtain ⟨rfl, hv⟩ := y
    obtain ⟨v', hv', rd⟩ := r.get hx
    rw [hv] at hv'; cases hv'
    exact ⟨F1, Ext.refl, sr, x1.rep rd⟩
theorem wd_tup {a : Addr} {vs : List V} {xs : List D} (h : SqT K F.f a vs) (r : RepL K F m xs vs) : WalkD K F m (Itt K a) xs := by
  refine ⟨YAt vs, ?_, fun i d F1 m1 st1 H1 v H2 hx x1 sr y => ?_⟩
  · rw [r.length]
    exact walk_tup.mono (fun H s => Same.seqT s h) fun _ _ _ _ _ _ y => y
  · obtain ⟨rfl, hv⟩ := y
    obtain ⟨v', hv', rd⟩ := r.get hx
    rw [hv] at hv'; cases hv'
    exact ⟨F1, Ext.refl, sr, x1.rep rd⟩
theorem rep_key {k : L2.Key} : Rep K F m (keyD k) (kV k) := by
  cases k with
  | inl i => exact .int i
  | inr x => exact .str x
theorem rep_keys : ∀ {ks : List L2.Key}, RepL K F m (ks.map keyD) (ks.map kV)
  | [] => .nil
  | _ :: _ => .cons rep_key rep_keys
theorem wd_keys {a : Addr} {o : Obj} {kvs : List (L2.Key × V)} (h : F.f a = some (.frz o (.dK kvs))) : WalkD K F m (Itk a o kvs) ((kvs.map (·.1)).map keyD) := by
  refine ⟨fun i H x H' => H' = H ∧ ∃ k v, kvs[i]? = some (k, v) ∧ x = kV k, ?_, fun i d F1 m1 st1 H1 v H2 hx x1 sr y => ?_⟩
  · rw [List.length_map, List.length_map]
    exact walk_keys.mono (fun H s => s a _ h) fun _ _ _ _ _ _ y => y
  · obtain ⟨rfl, k, w, hk, rfl⟩ := y
    rw [List.getElem?_map, List.getElem?_map, hk] at hx
    cases hx
    exact ⟨F1, Ext.refl, sr, rep_key⟩
theorem wd_keysT {a : Addr} {o : Obj} {kvs : List (List L2.Key × V)} (h : F.f a = some (.frz o (.dT kvs))) : WalkD K F m (Itkt a o kvs) ((kvs.map (·.1)).map fun k => .tup false (k.map keyD)) := by
  refine ⟨fun i H x H' => H' = H ∧ ∃ (k : List L2.Key) (v : V) (q : Addr), kvs[i]? = some (k, v) ∧ x = .ref q ∧ H q = some (.tup (k.map kV)), ?_, fun i d F1 m1 st1 H1 v H2 hx x1 sr y => ?_⟩
  · rw [List.length_map, List.length_map]
    exact walk_keysT.mono (fun H s => s a _ h) fun _ _ _ _ _ _ y => y
  · obtain ⟨rfl, k, w, q, hk, rfl, hq⟩ := y
    rw [List.getElem?_map, List.getElem?_map, hk] at hx
    cases hx
    obtain ⟨s2, x2⟩ := sr.knowT hq
    exact ⟨_, x2, s2, .tup upd_same rep_keys⟩
theorem wd_range (lo : Int) (n : Nat) : WalkD K F m (Itr lo n) ((List.range n).map fun i => .int (lo + (i : Nat))) := by
  refine ⟨YFn fun i => .int (lo + i), ?_, fun i d F1 m1 st1 H1 v H2 hx x1 sr y => ?_⟩
  · rw [List.length_map, List.length_range]
    exact walk_range.mono (fun _ _ => trivial) fun _ _ _ _ _ _ y => y
  · obtain ⟨rfl, rfl⟩ := y
    rw [List.getElem?_map] at hx
    cases e : (List.range n)[i]? with
    | none => rw [e] at hx; cases hx
    | some j =>
      rw [e] at hx
      cases hx
      have : j = i := by
        have := List.getElem?_eq_some_iff.mp e
        obtain ⟨h1, h2⟩ := this
        rw [List.getElem_range] at h2
        exact h2.symm
      subst this
      exact ⟨F1, Ext.refl, sr, .int _⟩
theorem wd_str {z : Str} : WalkD K F m (Its z) (z.cps.toList.map fun c => .str ⟨#[c]⟩) := by
  refine ⟨fun i H v H' => H' = H ∧ ∃ c, z.cps[i]? = some c ∧ v = .str ⟨#[c]⟩, ?_, fun i d F1 m1 st1 H1 v H2 hx x1 sr y => ?_⟩
  · rw [List.length_map, Array.length_toList]
    exact walk_str.mono (fun _ _ => trivial) fun _ _ _ _ _ _ y => y
  · obtain ⟨rfl, c, hc, rfl⟩ := y
    rw [List.getElem?_map, Array.getElem?_toList, hc] at hx
    cases hx
    exact ⟨F1, Ext.refl, sr, .str _⟩
theorem zip_get : ∀ {xs ys : List D} {i : Nat} {d : D}, (zipD xs ys)[i]? = some d → ∃ x y, xs[i]? = some x ∧ ys[i]? = some y ∧ d = .tup false [x, y]
  | [], _, _, _, h => by simp [zipD] at h
  | _ :: _, [], _, _, h => by simp [zipD] at h
  | x :: xs, y :: ys, 0, d, h => by
    simp [zipD] at h
    exact ⟨x, y, rfl, rfl, h.symm⟩
  | x :: xs, y :: ys, i + 1, d, h => by
    simp only [zipD, List.getElem?_cons_succ] at h
    obtain ⟨x', y', h1, h2, h3⟩ := zip_get h
    exact ⟨x', y', by simpa using h1, by simpa using h2, h3⟩
theorem zip_len : ∀ (xs ys : List D), (zipD xs ys).length = min xs.length ys.length
  | [], _ => by simp [zipD]
  | _ :: _, [] => by simp [zipD]
  | x :: xs, y :: ys => by simp [zipD, zip_len xs ys]
/-- pairs: each a new tuple -/
theorem wd_pairs {J : It} {n : Nat} {gx gy : Nat → Option V} {xs : List D} (hn : n = xs.length) (hw : Walk J n (fun H => Same F.f H) (YPair gx gy)) (hx : ∀ i d, xs[i]? = some d → ∃ x y, d = .tup false [x, y] ∧ (∀ v, gx i = some v → Rep K F m x v) ∧ (∀ v, gy i = some v → Rep K F m y v)) : WalkD K F m J xs := by
  subst hn
  refine ⟨YPair gx gy, hw, fun i d F1 m1 st1 H1 v H2 hd x1 sr y => ?_⟩
  obtain ⟨T, a, b, rfl, hT, rfl, ha, hb⟩ := y
  obtain ⟨x, y, rfl, r1, r2⟩ := hx i d hd
  obtain ⟨s2, x2⟩ := sr.new hT (.tup [a, b])
  exact ⟨_, x2, s2, .tup upd_same (.cons ((x1.trans x2.ex0).rep (r1 a ha)) (.cons ((x1.trans x2.ex0).rep (r2 b hb)) .nil))⟩
theorem enum_get : ∀ {xs : List D} {k i : Nat} {d : D}, (enumD k xs)[i]? = some d → ∃ x, xs[i]? = some x ∧ d = .tup false [.int ((k + i : Nat) : Int), x]
  | [], _, _, _, h => by simp [enumD] at h
  | x :: xs, k, 0, d, h => by
    simp [enumD] at h
    exact ⟨x, rfl, h.symm⟩
  | x :: xs, k, i + 1, d, h => by
    simp only [enumD, List.getElem?_cons_succ] at h
    obtain ⟨x', h1, h2⟩ := enum_get h
    exact ⟨x', by simpa using h1, by rw [h2, show k + 1 + i = k + (i + 1) by omega]⟩
theorem enum_len : ∀ (k : Nat) (xs : List D), (enumD k xs).length = xs.length
  | _, [] => rfl
  | k, x :: xs => by simp [enumD, enum_len (k + 1) xs]
end
end MN
set_option Elab.async false
set_option linter.all false
set_option maxRecDepth 100000
/-! MiniZ: zip of a list and a tuple, enumerate of a tuple. -/
namespace L2
open PySem PySem.Spec PyProof.Rows
def IsS (w : Bool) (h : Heap) (l : Addr) (its : Array Value) : Prop := match w with
  | true => h.IsTuple l its
  | false => h.IsList l its
def ItS (w : Bool) (h : Heap) (it l : Addr) (i : Nat) : Prop := match w with
  | true => h.IsTupleIter it l i
  | false => h.IsListIter it l i
def SqS (K : PySem.W.Frag) (w : Bool) (H : Hp) (a : Addr) (xs : List V) : Prop := match w with
  | true => SqT K H a xs
  | false => SqL K H a xs
def itObj (w : Bool) (l : Addr) : Obj := match w with
  | true => { cls := .type "tuple_iterator", data := .fields #[.ref l, .int 0 0] }
  | false => { cls := .type "list_iterator", data := .fields #[.ref l, .int 0 0] }
theorem drS {prog : Program} {w : World} {A : Around} (hh : A.handled = none) (k : Bool) (it l : Addr) (hne : l ≠ it) (its : Array Value) :
    Draws prog w A it [it, l] its.size (fun i v => its[i]? = some v) (fun i h => ItS k h it l i ∧ IsS k h l its) := by
  cases k
  · exact .list hh it l hne its
  · exact .tuple hh it l hne its
theorem begS (k : Bool) (l : Addr) (its : Array Value) : Begins (.ref l) (itObj k l) fun h => IsS k h l its := by
  cases k
  · exact begins_list l its
  · exact begins_tuple l its
theorem itS_new {k : Bool} {h : Heap} {it l : Addr} (e : h.get? it = some (itObj k l)) : ItS k h it l 0 := by
  cases k
  · exact ⟨_, e, rfl, rfl⟩
  · exact ⟨_, e, rfl, rfl⟩
theorem ItS.at {k : Bool} {h h' : Heap} {it l : Addr} {i : Nat} (x : ItS k h it l i) (e : ∀ o, h.get? it = some o → h'.get? it = some o) : ItS k h' it l i := by
  cases k
  · exact Heap.IsListIter.at x e
  · exact Heap.IsTupleIter.at x e
theorem ItS.obj {k : Bool} {h : Heap} {it l : Addr} {i : Nat} (x : ItS k h it l i) : ∃ o, h.get? it = some o ∧ ∀ v, o.data ≠ .cell v := by
  cases k
  · obtain ⟨o, e, _, d⟩ := x; exact ⟨o, e, fun v q => by rw [d] at q; cases q⟩
  · obtain ⟨o, e, _, d⟩ := x; exact ⟨o, e, fun v q => by rw [d] at q; cases q⟩
section
variable {X : Cx} {pins : List (Addr × Obj)} {σ : St} {H : Hp} {s : Shared} {k : Bool} {a : Addr} {xs ys : List V}
theorem Inv.seqS (I : Inv X pins σ H s) (h : SqS X.K k H a xs) : ∃ its : List Value, Vals xs its ∧ IsS k s.heap a its.toArray := by
  cases k
  · obtain ⟨its, r, p, _⟩ := I.list h; exact ⟨its, r, p.isList⟩
  · obtain ⟨its, r, p, _⟩ := I.tuple h; exact ⟨its, r, p⟩
theorem Inv.seqS_inj (I : Inv X pins σ H s) (h : SqS X.K k H a xs) (h' : SqS X.K k H a ys) : xs = ys := by
  cases k
  · exact I.list_inj h h'
  · exact I.tuple_inj h h'
theorem IsS.at {h h' : Heap} {its : Array Value} (x : IsS k h a its) (e : ∀ o, h.get? a = some o → h'.get? a = some o) : IsS k h' a its := by
  cases k
  · exact Heap.IsList.at x e
  · exact Heap.IsTuple.at x e
theorem IsS.there {h : Heap} {its : Array Value} (x : IsS k h a its) : ∃ o, h.get? a = some o := by
  cases k
  · obtain ⟨o, e, _⟩ := x; exact ⟨o, e⟩
  · obtain ⟨o, e, _⟩ := x; exact ⟨o, e⟩
theorem IsS.lt {h : Heap} {its : Array Value} (x : IsS k h a its) : a < h.objs.size := by
  cases k
  · obtain ⟨o, e, _⟩ := x; exact Heap.lt_size e
  · obtain ⟨o, e, _⟩ := x; exact Heap.lt_size e
end
/-- the two as they stand at each turn, the items in new pairs -/
def ItzM (K : PySem.W.Frag) (k l : Bool) (a b : Addr) : It :=
  ⟨fun i H => ∃ (xs ys : List V) (x y : V), SqS K k H a xs ∧ SqS K l H b ys ∧ xs[i]? = some x ∧ ys[i]? = some y,
    fun i H v H' => ∃ T x y, v = .ref T ∧ H T = none ∧ H' = upd H T (.tup [x, y]) ∧ (∀ xs, SqS K k H a xs → xs[i]? = some x) ∧ ∀ ys, SqS K l H b ys → ys[i]? = some y,
    fun i H => ∃ xs ys : List V, SqS K k H a xs ∧ SqS K l H b ys ∧ i ≤ xs.length ∧ i ≤ ys.length ∧ (i = xs.length ∨ i = ys.length)⟩
theorem turn_zipM {P : Program} {w : World} {K : PySem.W.Frag} {elts : List Expr} {kk : Nat} {tpos : Pos} {k l : Bool} {a b z TI TO i1 i2 : Addr} (D : ZipSep2 z TI TO i1 i2 [i1, a] [i2, b]) (ha : a ≠ i1) (hb : b ≠ i2) :
    Turn P w K (.Tuple elts kk tpos) (ItzM K k l a b) [z, TI, TO, i1, i2] z (fun i h => IsZip h z TI TO .none ∧ IsTupOf2 h TI (.ref i1) (.ref i2) ∧ (∃ x y, IsTupOf2 h TO x y) ∧ ItS k h i1 a i ∧ ItS l h i2 b i) where
  mem := by simp
  obj := fun i h st c hc => by
    obtain ⟨hz, hTI, ⟨x, y, hTO⟩, h1, h2⟩ := st
    have e' : c = z ∨ c = TI ∨ c = TO ∨ c = i1 ∨ c = i2 := by simpa using hc
    rcases e' with q | q | q | q | q
    · rw [q]; exact ⟨_, hz, fun v q => nomatch q⟩
    · rw [q]; exact ⟨_, hTI, fun v q => nomatch q⟩
    · rw [q]; exact ⟨_, hTO, fun v q => nomatch q⟩
    · rw [q]; exact h1.obj
    · rw [q]; exact h2.obj
  keep := fun i h h' st kp => by
    obtain ⟨hz, hTI, ⟨x, y, hTO⟩, h1, h2⟩ := st
    exact ⟨kp z (by simp) _ hz, kp TI (by simp) _ hTI, ⟨x, y, kp TO (by simp) _ hTO⟩, h1.at fun o q => kp i1 (by simp) o q, h2.at fun o q => kp i2 (by simp) o q⟩
  item := by
    intro X hP hw hK hc i pins s σ H E I hf st hg
    subst hP hw hK
    obtain ⟨hz, hTI, ⟨x0, y0, hTO⟩, h1, h2⟩ := st
    obtain ⟨xs, ys, x, y, hqx, hqy, hx, hy⟩ := hg
    obtain ⟨its, rv, p⟩ := I.seqS hqx
    obtain ⟨its2, rv2, p2⟩ := I.seqS hqy
    obtain ⟨u, hu, ru⟩ := rv.get hx
    obtain ⟨u2, hu2, ru2⟩ := rv2.get hy
    have hzl : z < s.heap.objs.size := Heap.lt_size hz
    have hlt1 : i < its.toArray.size := by
      rw [List.size_toArray]
      exact (List.getElem?_eq_some_iff.mp hu).1
    have hlt2 : i < its2.toArray.size := by
      rw [List.size_toArray]
      exact (List.getElem?_eq_some_iff.mp hu2).1
    refine wpAny_pyNext_zipD2_item D (drS (by exact I.ok.hd hc) k i1 a ha its.toArray) (drS (by exact I.ok.hd hc) l i2 b hb its2.toArray) hz hTI hTO ⟨h1, p⟩ ⟨h2, p2⟩ hlt1 hlt2 fun w1 w2 h' tk e1 e2 z' TO' h1' h2' hT hsz hk => ?_
    have e1' : w1 = u := by
      have e1 : its.toArray[i]? = some w1 := e1
      simp at e1
      rw [hu] at e1
      exact (Option.some.inj e1).symm
    have e2' : w2 = u2 := by
      have e2 : its2.toArray[i]? = some w2 := e2
      simp at e2
      rw [hu2] at e2
      exact (Option.some.inj e2).symm
    subst e1' e2'
    refine ⟨_, rfl, wpAny_letOwnedTupleGo_zip (s := { s with heap := h', toks := tk }) z' fun h'' z'' sb => ?_⟩
    have hT2 : h''.get? s.heap.objs.size = some { cls := .type "tuple", data := .seq #[w1, w2] } := (sb.2 _ (Nat.ne_of_gt hzl)).trans hT
    have new : ObjOk X.prog X.w (upd H s.heap.objs.size (.tup [x, y])) h'' s.heap.objs.size (.tup [x, y]) :=
      ⟨by show 2 ≤ sizeLine; decide, [w1, w2], .cons ru (.cons ru2 .nil), ⟨_, hT2, rfl, _, rfl⟩⟩
    have I1 : Inv X pins σ (upd H s.heap.objs.size (.tup [x, y])) { s with heap := h'', toks := tk } :=
      I.turnedNew (ch := [z, TI, TO, i1, i2]) (fun c o hb q => (sb.2 c (fun q' => hb (by simp [q']))).trans (hk c o (fun q' => hb (by simp [q'])) (fun q' => hb (by simp [q'])) (fun q' => hb (by simp [q'])) (fun q' => hb (by simp [q'])) q)) hf (Nat.le_refl _) new
    refine ⟨.ref s.heap.objs.size, _, I1, rfl, ⟨_, x, y, rfl, I.hok.fresh (Nat.le_refl _), rfl, fun l hl => by rw [I.seqS_inj hl hqx]; exact hx, fun l hl => by rw [I.seqS_inj hl hqy]; exact hy⟩, ⟨z'', ?_, ⟨w1, w2, ?_⟩, ?_, ?_⟩, fun c hcm => ?_⟩
    · exact (sb.2 _ D.TIz).trans (hk _ _ D.TIz D.TITO D.TIi1 D.TIi2 hTI)
    · exact (sb.2 _ D.TOz).trans TO'
    · exact h1'.1.at fun o q => (sb.2 _ (Ne.symm D.zi1)).trans q
    · exact h2'.1.at fun o q => (sb.2 _ (Ne.symm D.zi2)).trans q
    · have hlt : c < s.heap.objs.size := by
        have e' : c = z ∨ c = TI ∨ c = TO ∨ c = i1 ∨ c = i2 := by simpa using hcm
        rcases e' with q | q | q | q | q
        · rw [q]; exact hzl
        · rw [q]; exact Heap.lt_size hTI
        · rw [q]; exact Heap.lt_size hTO
        · rw [q]; obtain ⟨_, e1, _⟩ := h1.obj; exact Heap.lt_size e1
        · rw [q]; obtain ⟨_, e2, _⟩ := h2.obj; exact Heap.lt_size e2
      rw [upd_ne (Nat.ne_of_lt hlt)]
      exact (hf c hcm).1
  done := by
    intro X hP hw hK hc i pins s σ H E I hf st hg
    subst hP hw hK
    obtain ⟨hz, hTI, ⟨x0, y0, hTO⟩, h1, h2⟩ := st
    obtain ⟨xs, ys, hqx, hqy, hl1, hl2, hend⟩ := hg
    obtain ⟨its, rv, p⟩ := I.seqS hqx
    obtain ⟨its2, rv2, p2⟩ := I.seqS hqy
    have l1 := rv.length
    have l2 := rv2.length
    have s1 : its.toArray.size = xs.length := by rw [List.size_toArray]; omega
    have s2 : its2.toArray.size = ys.length := by rw [List.size_toArray]; omega
    refine wpAny_pyNext_zipD2_end D (drS (by exact I.ok.hd hc) k i1 a ha its.toArray) (drS (by exact I.ok.hd hc) l i2 b hb its2.toArray) hz hTI hTO ⟨h1, p⟩ ⟨h2, p2⟩ (by rw [s1]; exact hl1) (by rw [s2]; exact hl2) (by rw [s1, s2]; exact hend) fun h' tk hk => ?_
    exact ⟨rfl, I.turnedL (ch := [z, TI, TO, i1, i2]) (fun c o hb q =>
      hk c o (fun q' => hb (by simp [q'])) (fun q' => hb (by simp [q'])) (fun q' => hb (by simp [q'])) (fun q' => hb (by simp [q'])) q) hf⟩
  self := fun A i s Q E st h => wpAny_pyIter_zip st.1 h

def iZipM (K : PySem.W.Frag) (ta : TA) : TI := fun σ H R => ta σ H fun vs H1 => ∃ k l a b xs ys, vs = [.ref a, .ref b] ∧ SqS K k H1 a xs ∧ SqS K l H1 b ys ∧ R (ItzM K k l a b) H1
theorem pi_zipM {X : Cx} {e e2 : Expr} {ta : TA} {p pos tpos : Pos} {elts : List Expr} {kk : Nat} (hg : Gl X "zip") (hm : X.mg "zip" = none) (ha : PA X [e, e2] ta)
    (hs : starEach [e, e2] X.env = (false, eval e X.env) :: starEach [e2] X.env := by rfl) (hpl : (backTo pos (starEach [e2] X.env)).any (·.1) = false := by rfl) :
    PI X (.Tuple elts kk tpos) (.Call (.Name "zip" p) [e, e2] [] pos) (iZipM X.K ta) := by
  refine ⟨fun pins s σ H R I h => ?_⟩
  refine Call_ (ld_blt I hg hm PyProof.Rows.boot_zip (PyProof.Rows.callWith_type1 (thn (ha.run pos pins s σ H _ I h) fun us s1 ⟨vs, H1, I1, r1, q1⟩ => ?_) hs hpl))
  obtain ⟨k, l, a, b, xs, ys, ex, hqx, hqy, q⟩ := q1
  subst ex
  cases r1 with
  | cons r rr =>
    cases rr with
    | cons r' rr =>
      cases rr
      cases r
      cases r'
      have fresh5 : ∀ c, c ∈ [s1.heap.objs.size + 4, s1.heap.objs.size + 2, s1.heap.objs.size + 3, s1.heap.objs.size, s1.heap.objs.size + 1] → FpOk X pins H1 c := fun c hcm => by
        have e' : c = s1.heap.objs.size + 4 ∨ c = s1.heap.objs.size + 2 ∨ c = s1.heap.objs.size + 3 ∨ c = s1.heap.objs.size ∨ c = s1.heap.objs.size + 1 := by simpa using hcm
        have hle : s1.heap.objs.size ≤ c := by
          rcases e' with z | z | z | z | z
          · rw [z]; exact Nat.le_add_right _ _
          · rw [z]; exact Nat.le_add_right _ _
          · rw [z]; exact Nat.le_add_right _ _
          · rw [z]; exact Nat.le_refl _
          · rw [z]; exact Nat.le_add_right _ _
        exact I1.fpOk hle (I1.hok.fresh hle)
      obtain ⟨its, rv, p1⟩ := I1.seqS hqx
      obtain ⟨its2, rv2, p2⟩ := I1.seqS hqy
      refine zip_begins2 (begS k a its.toArray) (begS l b its2.toArray) p1 p2 fun h' hz hTI hTO h1 h2 hsz hk => wpAny_pyIter_zip hz ?_
      have I2 : Inv X pins σ H1 { s1 with heap := h' } := I1.kept (t' := s1.toks) hk
      have la : a < s1.heap.objs.size := p1.lt
      have lb : b < s1.heap.objs.size := p2.lt
      exact ⟨s1.heap.objs.size + 4, [s1.heap.objs.size + 4, s1.heap.objs.size + 2, s1.heap.objs.size + 3, s1.heap.objs.size, s1.heap.objs.size + 1], _, _, H1, rfl, I2,
        turn_zipM (zip_sep2 (N := s1.heap.objs.size) (fp1 := [a]) (fp2 := [b]) (by simpa using la) (by simpa using lb)) (Nat.ne_of_lt la) (Nat.ne_of_lt (Nat.lt_succ_of_lt lb)), ⟨hz, hTI, ⟨_, _, hTO⟩, itS_new h1, itS_new h2⟩, fresh5, q⟩

/-! ### enumerate -/
def IteM (K : PySem.W.Frag) (k : Bool) (a : Addr) : It :=
  ⟨fun i H => ∃ (xs : List V) (x : V), SqS K k H a xs ∧ xs[i]? = some x, fun i H v H' => ∃ T x, v = .ref T ∧ H T = none ∧ H' = upd H T (.tup [.int (i : Nat), x]) ∧ ∀ xs, SqS K k H a xs → xs[i]? = some x, fun i H => ∃ xs : List V, SqS K k H a xs ∧ xs.length = i⟩
theorem turn_enumM {P : Program} {w : World} {K : PySem.W.Frag} {elts : List Expr} {kk : Nat} {tpos : Pos} {k : Bool} (a e it : Addr) (ha : a ≠ it) (hea : e ≠ a) :
    Turn P w K (.Tuple elts kk tpos) (IteM K k a) [e, it] e (fun i h => (∃ old, IsEnum h e it ((i : Nat) : Int) old) ∧ ItS k h it a i ∧ e ≠ it) where
  mem := by simp
  obj := fun i h st b hb => by
    obtain ⟨⟨old, he⟩, hi, _⟩ := st
    have e' : b = e ∨ b = it := by simpa using hb
    rcases e' with z | z
    · rw [z]; exact ⟨_, he, fun v q => nomatch q⟩
    · rw [z]; exact hi.obj
  keep := fun i h h' st k => let ⟨⟨old, he⟩, hi, hne⟩ := st; ⟨⟨old, k e (by simp) _ he⟩, hi.at fun o q => k it (by simp) o q, hne⟩
  item := by
    intro X hP hw hK hc i pins s σ H E I hf st hg
    subst hP hw hK
    obtain ⟨⟨old, he⟩, hit, hne⟩ := st
    obtain ⟨xs, x, hq, hx⟩ := hg
    obtain ⟨its, rv, p⟩ := I.seqS hq
    obtain ⟨u, hu, ru⟩ := rv.get hx
    have hel : e < s.heap.objs.size := Heap.lt_size he
    have hil : it < s.heap.objs.size := by obtain ⟨_, q, _⟩ := hit.obj; exact Heap.lt_size q
    have hlt : i < its.toArray.size := by
      rw [List.size_toArray]
      exact (List.getElem?_eq_some_iff.mp hu).1
    refine wpAny_pyNext_enum_itemD (drS (by exact I.ok.hd hc) k it a ha its.toArray) he ⟨hit, p⟩ hlt hne (by simp [hne, hea]) fun w1 h' tk e1 ho hit' hT hsz hk => ?_
    have e1' : w1 = u := by
      have e1 : its.toArray[i]? = some w1 := e1
      simp at e1
      rw [hu] at e1
      exact (Option.some.inj e1).symm
    subst e1'
    refine ⟨_, rfl, wpAny_letOwnedTupleGo_enum (s := { s with heap := h', toks := tk + 1 }) ho fun h'' he' sb => ?_⟩
    have hT2 : h''.get? s.heap.objs.size = some { cls := .type "tuple", data := .seq #[.int i tk, w1] } := (sb.2 _ (Nat.ne_of_gt hel)).trans hT
    have new : ObjOk X.prog X.w (upd H s.heap.objs.size (.tup [.int (i : Nat), x])) h'' s.heap.objs.size (.tup [.int (i : Nat), x]) :=
      ⟨by show 2 ≤ sizeLine; decide, [.int i tk, w1], .cons ⟨_, rfl⟩ (.cons ru .nil), ⟨_, hT2, rfl, _, rfl⟩⟩
    have I1 : Inv X pins σ (upd H s.heap.objs.size (.tup [.int (i : Nat), x])) { s with heap := h'', toks := tk + 1 } :=
      I.turnedNew (ch := [e, it]) (fun b ob hb q => (sb.2 b (fun z => hb (by simp [z]))).trans (hk b ob (fun z => hb (by simp [z])) (fun z => hb (by simp [z])) q)) hf (Nat.le_refl _) new
    refine ⟨.ref s.heap.objs.size, _, I1, rfl, ⟨_, x, rfl, I.hok.fresh (Nat.le_refl _), rfl, fun ys hy => by rw [I.seqS_inj hy hq]; exact hx⟩, ⟨⟨w1, ?_⟩, hit'.1.at fun o q => (sb.2 it (Ne.symm hne)).trans q, hne⟩, fun b hb => ?_⟩
    · have e1 : ((i + 1 : Nat) : Int) = (i : Int) + 1 := by omega
      rw [e1]; exact he'
    · have hb' : b < s.heap.objs.size := by
        have e' : b = e ∨ b = it := by simpa using hb
        rcases e' with z | z
        · rw [z]; exact hel
        · rw [z]; exact hil
      rw [upd_ne (Nat.ne_of_lt hb')]
      exact (hf b hb).1
  done := by
    intro X hP hw hK hc i pins s σ H E I hf st hg
    subst hP hw hK
    obtain ⟨⟨old, he⟩, hit, hne⟩ := st
    obtain ⟨xs, hq, hx⟩ := hg
    obtain ⟨its, rv, p⟩ := I.seqS hq
    obtain ⟨f0, f1, f2, f3, f4, f5⟩ := hf it (by simp)
    have hl := rv.length
    have hsz : i = its.toArray.size := by rw [List.size_toArray]; omega
    rw [hsz] at hit
    exact wpAny_pyNext_enum_endD (drS (by exact I.ok.hd hc) k it a ha its.toArray) he ⟨hit, p⟩ fun h' eb => ⟨rfl, I.turned (t' := s.toks) (fun b o hb q => eb b o hb q) f0 f1 f3 f4 f5⟩
  self := fun A i s Q E st h => let ⟨⟨_, he⟩, _⟩ := st; wpAny_pyIter_enum he h
set_option maxHeartbeats 1000000 in
theorem meets_enum_newB {v : Value} {o : Obj} {H : Heap → Prop} (B : Begins v o H) :
    Meets (Builtin.«enumerate.__new__» ⟨[.type "enumerate", v], []⟩) (fun _ R s => H s.heap ∧
      R (.ok (.ret (.ref (s.heap.push o).objs.size))) { s with heap := (s.heap.push o).push { cls := .type "enumerate", data := .fields #[.none, .bool false, .ref s.heap.objs.size, rawInt 0, .none, .none] } }) :=
  .of_wp fun prog w A R s h => by
    obtain ⟨hp, g, d, tk, os⟩ := s; obtain ⟨h1, h⟩ := h
    have hsub := sub_enumerate
    have q1 : ∀ {A' : Around} {E : Value → Shared → Prop} {Q : Value → Shared → Prop}, Q (.ref hp.objs.size) ⟨hp.push o, g, d, tk, os⟩ → wpAny (model prog w) A' (pyIter v) Q E ⟨hp, g, d, tk, os⟩ :=
      fun q => B.iter prog w _ _ ⟨hp, g, d, tk, os⟩ _ h1 q
    wp_walk using q1
    refine wpAny_stack_any fun st => wpAny_pure ?_
    split
    · rename_i c _ _ _ _ _
      cases (c == Value.type "enumerate")
      · wp_walk using q1
        exact ⟨_, rfl, h⟩
      · wp_walk using q1
        exact ⟨_, rfl, h⟩
    · wp_walk using q1
      exact ⟨_, rfl, h⟩
theorem call_enumS {prog : Program} {w : World} {A : Around} {E : Value → Shared → Prop} {s : Shared} {k : Bool} {a : Addr} {its : Array Value} {Q : Value → Shared → Prop} (p : IsS k s.heap a its)
    (h : ∀ h', IsEnum h' (s.heap.objs.size + 1) s.heap.objs.size 0 .none → h'.get? s.heap.objs.size = some (itObj k a) → h'.objs.size = s.heap.objs.size + 2 →
      (∀ b o, s.heap.get? b = some o → h'.get? b = some o) → Q (.ref (s.heap.objs.size + 1)) { s with heap := h' }) :
    wpAny (model prog w) A (call (.type "enumerate") [.ref a]) Q E s := by
  have B := begS k a its
  refine callType_new F.called_enumerate (by decide) (F.typeCall_enumerate_1 _) (F.newCall_enumerate_1 _) (fun obj => F.args_object_init_2 obj _) F.entry_enumerate_new
    (meets_enum_newB B) ⟨p, ?_⟩
  have hz : (s.heap.push (itObj k a)).objs.size = s.heap.objs.size + 1 := Heap.size_push ..
  show _ ∧ _
  rw [hz]
  have he : IsEnum ((s.heap.push (itObj k a)).push { cls := .type "enumerate", data := .fields #[.none, .bool false, .ref s.heap.objs.size, rawInt 0, .none, .none] }) (s.heap.objs.size + 1) s.heap.objs.size 0 .none := by
    have := Heap.get?_push_size (s.heap.push (itObj k a)) (o := { cls := .type "enumerate", data := .fields #[.none, .bool false, .ref s.heap.objs.size, rawInt 0, .none, .none] }) rfl
    rw [hz] at this; exact this
  refine ⟨⟨_, he, rfl⟩, h _ he (Heap.get?_push_of_some _ (Heap.get?_push_size _ B.free)) (by rw [Heap.size_push, hz]) fun b o x => Heap.get?_push_of_some _ (Heap.get?_push_of_some _ x)⟩
def iEnumM (K : PySem.W.Frag) (ta : TA) : TI := fun σ H R => ta σ H fun vs H1 => ∃ k a xs, vs = [.ref a] ∧ SqS K k H1 a xs ∧ R (IteM K k a) H1
theorem pi_enumM {X : Cx} {e : Expr} {ta : TA} {p pos tpos : Pos} {elts : List Expr} {kk : Nat} (hg : Gl X "enumerate") (hm : X.mg "enumerate" = none) (ha : PA X [e] ta) (hs : starEach [e] X.env = [(false, eval e X.env)] := by rfl) :
    PI X (.Tuple elts kk tpos) (.Call (.Name "enumerate" p) [e] [] pos) (iEnumM X.K ta) := by
  refine ⟨fun pins s σ H R I h => ?_⟩
  refine Call_ (ld_blt I hg hm boot_enumerate (PyProof.Rows.callWith_type1 (thn (ha.run pos pins s σ H _ I h) fun us s1 ⟨vs, H1, I1, r1, q1⟩ => ?_) hs rfl))
  obtain ⟨k, a, xs, ex, hq, q⟩ := q1
  subst ex
  cases r1 with
  | cons r rr =>
    cases rr
    cases r
    obtain ⟨its, rv, p'⟩ := I1.seqS hq
    refine call_enumS p' fun h' he hit hsz hk => wpAny_pyIter_enum he ?_
    have I2 : Inv X pins σ H1 { s1 with heap := h' } := I1.kept (t' := s1.toks) hk
    have la : a < s1.heap.objs.size := p'.lt
    refine ⟨s1.heap.objs.size + 1, [s1.heap.objs.size + 1, s1.heap.objs.size], _, _, H1, rfl, I2, turn_enumM a (s1.heap.objs.size + 1) s1.heap.objs.size (Nat.ne_of_lt la) (Ne.symm (Nat.ne_of_lt (Nat.lt_succ_of_lt la))), ⟨⟨.none, he⟩, itS_new hit, Nat.succ_ne_self _⟩, fun b hb => ?_, q⟩
    have e' : b = s1.heap.objs.size + 1 ∨ b = s1.heap.objs.size := by simpa using hb
    have hle : s1.heap.objs.size ≤ b := by
      rcases e' with z | z
      · rw [z]; exact Nat.le_add_right _ _
      · rw [z]; exact Nat.le_refl _
    exact I1.fpOk hle (I1.hok.fresh hle)
end L2
set_option Elab.async false
set_option linter.all false
set_option maxRecDepth 100000
/-! MiniL: what a loop goes over, targets, comprehensions: from readings to what is computed. -/
namespace L2
open PySem PySem.Spec
theorem walk_zipM {K : PySem.W.Frag} {k l : Bool} {a b : Addr} {xs ys : List V} : Walk (ItzM K k l a b) (min xs.length ys.length) (fun H => SqS K k H a xs ∧ SqS K l H b ys) (YPair (fun i => xs[i]?) (fun i => ys[i]?)) := by
  refine ⟨fun i _ hi q => ?_, fun _ q => ⟨xs, ys, q.1, q.2, by omega, by omega, by omega⟩, fun i H v H' _ q y => ?_⟩
  · have h1 : i < xs.length := by omega
    have h2 : i < ys.length := by omega
    exact ⟨xs, ys, xs[i], ys[i], q.1, q.2, by simp [h1], by simp [h2]⟩
  · obtain ⟨T, x, z, h1, h2, h3, h4, h5⟩ := y
    exact ⟨T, x, z, h1, h2, h3, h4 xs q.1, h5 ys q.2⟩
theorem walk_enumM {K : PySem.W.Frag} {k : Bool} {a : Addr} {xs : List V} : Walk (IteM K k a) xs.length (fun H => SqS K k H a xs) (YPair (fun i => some (.int (i : Nat))) (fun i => xs[i]?)) := by
  refine ⟨fun i _ hi q => ⟨xs, xs[i], q, by simp [hi]⟩, fun _ q => ⟨xs, q, rfl⟩, fun i H v H' _ q y => ?_⟩
  obtain ⟨T, x, h1, h2, h3, h4⟩ := y
  exact ⟨T, .int (i : Nat), x, h1, h2, h3, rfl, h4 xs q⟩
theorem SqS.same {K : PySem.W.Frag} {k : Bool} {H H' : Hp} {a : Addr} {xs : List V} (h : SqS K k H a xs) (s : Same H H') : SqS K k H' a xs := by
  cases k
  · exact Same.seq s h
  · exact MN.Same.seqT s h
theorem wipe_in {σ : St} {j : Nat} : ∀ {vs : List Nat}, j ∈ vs → (wipe σ vs)[j]? = if j < σ.length then some none else none
  | [], h => by simp at h
  | v :: vs, h => by
    unfold wipe
    rw [List.getElem?_set]
    by_cases hv : v = j
    · rw [if_pos hv]
      subst hv
      rw [wipe_length]
    · rw [if_neg hv]
      exact wipe_in (by simpa [Ne.symm hv] using h)
theorem wipe_wipe (σ : St) (vs : List Nat) : wipe (wipe σ vs) vs = wipe σ vs := by
  apply List.ext_getElem?
  intro j
  by_cases hj : j ∈ vs
  · rw [wipe_in hj, wipe_in hj, wipe_length]
  · rw [wipe_out hj]
theorem wipe_set {σ : St} {i : Nat} {x : Option V} {vs : List Nat} (h : i ∈ vs) : wipe (σ.set i x) vs = wipe σ vs := by
  apply List.ext_getElem?
  intro j
  by_cases hj : j ∈ vs
  · rw [wipe_in hj, wipe_in hj, List.length_set]
  · rw [wipe_out hj, wipe_out hj, List.getElem?_set_ne (fun e => hj (by rw [← e]; exact h))]
end L2
namespace MN
variable [TabP]
open PySem PySem.Spec L2

/-! ### sources -/
section
variable {K : PySem.W.Frag} {F : Wd} {m : List Addr}
theorem frz_seq {d : D} {v : V} {xs : List D} (r : Rep K F m d v) (e : frzSeq d = some xs) : ∃ k a vs, v = .ref a ∧ SqS K k F.f a vs ∧ RepL K F m xs vs := by
  cases d with
  | tup w ds =>
    simp [frzSeq] at e
    subst e
    obtain ⟨a, vs, rfl, h, q⟩ := r.tup_inv
    exact ⟨true, a, vs, rfl, h, q⟩
  | lst ds =>
    simp [frzSeq] at e
    subst e
    cases r with
    | lst h r => exact ⟨false, _, _, rfl, SqL.of h, r⟩
  | _ => simp [frzSeq] at e
theorem zipD_get : ∀ {xs ys : List D} {i : Nat} {d : D}, (zipD xs ys)[i]? = some d → ∃ x y, d = .tup false [x, y] ∧ xs[i]? = some x ∧ ys[i]? = some y := fun h => by
  obtain ⟨x, y, h1, h2, h3⟩ := zip_get h
  exact ⟨x, y, h3, h1, h2⟩
theorem wd_zipM {k l : Bool} {a b : Addr} {vs us : List V} {xs ys : List D} (ha : SqS K k F.f a vs) (hb : SqS K l F.f b us) (ra : RepL K F m xs vs) (rb : RepL K F m ys us) : WalkD K F m (ItzM K k l a b) (zipD xs ys) := by
  refine wd_pairs (n := min vs.length us.length) (by rw [zip_len, ra.length, rb.length]) (walk_zipM.mono (fun H s => ⟨ha.same s, hb.same s⟩) fun _ _ _ _ _ _ y => y) fun i d h => ?_
  obtain ⟨x, y, rfl, h1, h2⟩ := zipD_get h
  obtain ⟨v, e1, r1⟩ := ra.get h1
  obtain ⟨u, e2, r2⟩ := rb.get h2
  refine ⟨x, y, rfl, fun w e => ?_, fun w e => ?_⟩
  · have e : vs[i]? = some w := e
    rw [e1] at e; cases e; exact r1
  · have e : us[i]? = some w := e
    rw [e2] at e; cases e; exact r2
theorem wd_enumM {k : Bool} {a : Addr} {vs : List V} {xs : List D} (ha : SqS K k F.f a vs) (ra : RepL K F m xs vs) : WalkD K F m (IteM K k a) (enumD 0 xs) := by
  refine wd_pairs (n := vs.length) (by rw [enum_len, ra.length]) (walk_enumM.mono (fun H s => ha.same s) fun _ _ _ _ _ _ y => y) fun i d h => ?_
  obtain ⟨x, h1, rfl⟩ := enum_get h
  obtain ⟨v, e1, r1⟩ := ra.get h1
  refine ⟨_, x, rfl, fun w e => ?_, fun w e => ?_⟩
  · cases e
    rw [Nat.zero_add]
    exact .int _
  · have e : vs[i]? = some w := e
    rw [e1] at e; cases e; exact r1
theorem rgN (lo hi : Int) : rangeD lo hi = (List.range (hi - lo).toNat).map fun i => .int (lo + (i : Nat)) := rfl
end
section
variable {Φ : Str → List D → M D} {G : Str → Option D} {X : Cx} {W : WX}
abbrev relI (K : PySem.W.Frag) : Wd → List Addr → List D → It → Prop := fun F m xs J => WalkD K F m J xs
def srcM (Φ : Str → List D → M D) (G : Str → Option D) (k : IK) (src : List E) (σ : Env) : M (List D) := .bnd (evs Φ G src σ) fun ds => ofO (iterO k ds)
abbrev liftI (X : Cx) (W : WX) (f : Env → M (List D)) : TI := LG X (relI X.K) W f
theorem evs_one {e : E} {σ : Env} {st : Store} : evs Φ G [e] σ st = match ev Φ G e σ st with
    | .ok d st' => .ok [d] st'
    | .err x st' => .err x st'
    | .bad => .bad := by
  unfold evs evs
  unfold M.bnd
  cases ev Φ G e σ st <;> rfl
theorem post_src {k : IK} {src : List E} {σ : Env} {st : Store} {σv : St} {F : Wd} {m : List Addr} {R : It → Hp → Prop} {T : List V → Hp → Prop} (h : PostG X (relI X.K) W σv F m R (srcM Φ G k src σ st))
    (hT : ∀ F' m' H' st' ds vs xs, Ext F F' m m' → SR X.K F' m' st' H' → RepL X.K F' m' ds vs → iterO k ds = some xs → (∀ F2 m2 H2 J, Ext F' F2 m' m2 → SR X.K F2 m2 st' H2 → WalkD X.K F2 m2 J xs → R J H2) → T vs H') : PostG X (RepL X.K) W σv F m T (evs Φ G src σ st) := by
  refine post_bnd h fun F' m' H' st' ds vs x s r q => ?_
  unfold ofO at q
  cases e : iterO k ds with
  | none => rw [e] at q; exact q.elim
  | some xs =>
    rw [e] at q
    exact hT F' m' H' st' ds vs xs x s r e q
theorem post_src1 {k : IK} {ee : E} {σ : Env} {st : Store} {σv : St} {F : Wd} {m : List Addr} {R : It → Hp → Prop} {T : VK} (h : PostG X (relI X.K) W σv F m R (srcM Φ G k [ee] σ st))
    (hT : ∀ F' m' H' st' d v xs, ev Φ G ee σ st = .ok d st' → Ext F F' m m' → SR X.K F' m' st' H' → Rep X.K F' m' d v → iterO k [d] = some xs → (∀ F2 m2 H2 J, Ext F' F2 m' m2 → SR X.K F2 m2 st' H2 → WalkD X.K F2 m2 J xs → R J H2) → T v H') : PostG X (Rep X.K) W σv F m T (ev Φ G ee σ st) := by
  unfold srcM M.bnd at h
  rw [evs_one] at h
  cases e : ev Φ G ee σ st with
  | bad => simp only [e] at h; exact h
  | err x st' => simp only [e] at h; exact h
  | ok d st' =>
    simp only [e] at h
    intro F' m' H' v x s r
    unfold ofO at h
    cases e2 : iterO k [d] with
    | none => simp only [e2] at h; exact h.elim
    | some xs =>
      simp only [e2] at h
      exact hT F' m' H' st' d v xs e x s r e2 fun F2 m2 H2 J x2 => h F2 m2 H2 J (x.trans x2)
variable {tg e : Expr} {ee : E}
theorem i_seq (he : PE X e (lift X W (ev Φ G ee))) : PI X tg e (liftI X W (srcM Φ G .seq [ee])) := by
  refine ((pi_list he).or ((pi_tup he).or ((pi_keys he).or (pi_str he)))).imp fun σv H R ⟨F, m, σ, st, sr, re, h⟩ => ?_
  have bad : ev Φ G ee σ st = .bad ∨ (∃ x st', ev Φ G ee σ st = .err x st') ∨ (∃ d st', ev Φ G ee σ st = .ok d st' ∧ iterO .seq [d] = none) → iList X.K (lift X W (ev Φ G ee)) σv H R := fun q => by
    refine ⟨F, m, σ, st, sr, re, post_src1 h fun F' m' H' st' d v xs e1 x s r ei hR => ?_⟩
    rcases q with q | ⟨_, _, q⟩ | ⟨d', st2, q, q2⟩
    · rw [e1] at q; cases q
    · rw [e1] at q; cases q
    · rw [e1] at q; cases q; rw [ei] at q2; cases q2
  cases ev1 : ev Φ G ee σ st with
  | bad => exact .inl (bad (.inl ev1))
  | err x st' => exact .inl (bad (.inr (.inl ⟨x, st', ev1⟩)))
  | ok d0 st0 =>
    cases d0 with
    | lst xs0 =>
      refine .inl ⟨F, m, σ, st, sr, re, post_src1 h fun F' m' H' st' d v xs e1 x s r ei hR => ?_⟩
      rw [e1] at ev1; cases ev1; cases ei
      cases r with
      | lst hq rl => exact ⟨_, rfl, ⟨_, SqL.of (s.sub _ _ hq)⟩, hR _ _ _ _ Ext.refl s (wd_list hq rl)⟩
    | tup w xs0 =>
      refine .inr (.inl ⟨F, m, σ, st, sr, re, post_src1 h fun F' m' H' st' d v xs e1 x s r ei hR => ?_⟩)
      rw [e1] at ev1; cases ev1; cases ei
      obtain ⟨a, vs, rfl, hq, rl⟩ := r.tup_inv
      exact ⟨_, rfl, ⟨_, Same.seqT s.sub hq⟩, hR _ _ _ _ Ext.refl s (wd_tup hq rl)⟩
    | dk ks vs0 =>
      refine .inr (.inr (.inl ⟨F, m, σ, st, sr, re, post_src1 h fun F' m' H' st' d v xs e1 x s r ei hR => ?_⟩))
      rw [e1] at ev1; cases ev1; cases ei
      cases r with
      | dk hq rl => exact ⟨_, _, rfl, .inl ⟨_, s.sub _ _ hq, hR _ _ _ _ Ext.refl s (wd_keys hq)⟩⟩
    | dt ks vs0 =>
      refine .inr (.inr (.inl ⟨F, m, σ, st, sr, re, post_src1 h fun F' m' H' st' d v xs e1 x s r ei hR => ?_⟩))
      rw [e1] at ev1; cases ev1; cases ei
      cases r with
      | dt hq rl => exact ⟨_, _, rfl, .inr ⟨_, s.sub _ _ hq, hR _ _ _ _ Ext.refl s (wd_keysT hq)⟩⟩
    | str z =>
      refine .inr (.inr (.inr ⟨F, m, σ, st, sr, re, post_src1 h fun F' m' H' st' d v xs e1 x s r ei hR => ?_⟩))
      rw [e1] at ev1; cases ev1; cases ei
      cases r
      exact ⟨_, rfl, hR _ _ _ _ Ext.refl s wd_str⟩
    | _ => exact .inl (bad (.inr (.inr ⟨_, _, ev1, rfl⟩)))
theorem i_items {elts : List Expr} {kk : Nat} {tpos apos cpos : Pos} (he : PE X e (lift X W (ev Φ G ee))) (hbase : attributeBase e "items" X.env (eval e X.env) = eval e X.env) (hline : (apos.endLine == cpos.line) = true) :
    PI X (.Tuple elts kk tpos) (.Call (.Attribute e "items" apos) [] [] cpos) (liftI X W (srcM Φ G .items [ee])) := by
  refine (pi_items he hbase hline).imp fun σv H R ⟨F, m, σ, st, sr, re, h⟩ => ?_
  refine ⟨F, m, σ, st, sr, re, post_src1 h fun F' m' H' st' d v xs e1 x s r ei hR => ?_⟩
  simp only [iterO] at ei
  cases d with
  | dk ks vs0 =>
    cases ei
    cases r with
    | dk hq rl =>
      rename_i a o kvs
      refine ⟨_, _, _, rfl, s.sub _ _ hq, hR _ _ _ _ Ext.refl s (wd_pairs (n := kvs.length) ?_ (walk_items.mono (fun H s => s _ _ hq) fun _ _ _ _ _ _ y => y) fun i d h => ?_)⟩
      · rw [zip_len]
        have := rl.length
        simp at this ⊢
        omega
      · obtain ⟨x, y, rfl, h1, h2⟩ := zipD_get h
        refine ⟨x, y, rfl, fun w e => ?_, fun w e => ?_⟩
        · rw [List.getElem?_map, List.getElem?_map] at h1
          cases q : kvs[i]? with
          | none => simp [q] at h1
          | some kv =>
            simp [q] at h1 e
            subst h1 e
            exact rep_key
        · obtain ⟨u, e2, r2⟩ := rl.get h2
          have e : kvs[i]?.map Prod.snd = some w := e
          rw [List.getElem?_map] at e2
          rw [e2] at e; cases e; exact r2
  | _ => cases ei
variable {a b : Expr} {ea eb : E} {p pos : Pos}
theorem rgOk {lo hi : Int} (h : rangeOk lo hi = true) : -1000000 ≤ lo ∧ lo ≤ 1000000 ∧ -1000000 ≤ hi ∧ hi ≤ 1000000 := by
  unfold rangeOk at h
  simp only [Bool.and_eq_true, decide_eq_true_eq] at h
  exact h
theorem i_range1 (hg : Gl X "range") (hm : X.mg "range" = none) (ha : PA X [a] (liftL X W (evs Φ G [ea]))) (hs : starEach [a] X.env = [(false, eval a X.env)]) : PI X tg (.Call (.Name "range" p) [a] [] pos) (liftI X W (srcM Φ G .range1 [ea])) := by
  refine (pi_range1 hg hm ha hs).imp fun σv H R ⟨F, m, σ, st, sr, re, h⟩ => ?_
  refine ⟨F, m, σ, st, sr, re, post_src h fun F' m' H' st' ds vs xs x s r ei hR => ?_⟩
  simp only [iterO] at ei
  split at ei
  · rename_i n
    split at ei
    · rename_i hr
      cases ei
      obtain ⟨_, _, h3, h4⟩ := rgOk hr
      cases r with
      | cons r rr =>
        cases rr; cases r
        refine ⟨n, rfl, by omega, by omega, hR _ _ _ _ Ext.refl s ?_⟩
        have := wd_range (K := X.K) (F := F') (m := m') 0 n.toNat
        rw [rgN, Int.sub_zero]
        exact this
    · cases ei
  · cases ei
theorem i_range2 (hg : Gl X "range") (hm : X.mg "range" = none) (ha : PA X [a, b] (liftL X W (evs Φ G [ea, eb]))) (hs : starEach [a, b] X.env = [(false, eval a X.env), (false, eval b X.env)]) (hs2 : starEach [b] X.env = [(false, eval b X.env)]) : PI X tg (.Call (.Name "range" p) [a, b] [] pos) (liftI X W (srcM Φ G .range2 [ea, eb])) := by
  refine (pi_range2 hg hm ha hs hs2).imp fun σv H R ⟨F, m, σ, st, sr, re, h⟩ => ?_
  refine ⟨F, m, σ, st, sr, re, post_src h fun F' m' H' st' ds vs xs x s r ei hR => ?_⟩
  simp only [iterO] at ei
  split at ei
  · rename_i i j
    split at ei
    · rename_i hr
      cases ei
      obtain ⟨h1, h2, h3, h4⟩ := rgOk hr
      cases r with
      | cons r rr =>
        cases r
        cases rr with
        | cons r rr =>
          cases rr; cases r
          exact ⟨i, j, rfl, ⟨by omega, by omega, by omega, by omega⟩, hR _ _ _ _ Ext.refl s (wd_range i (j - i).toNat)⟩
    · cases ei
  · cases ei
theorem i_zip {elts : List Expr} {kk : Nat} {tpos : Pos} (hg : Gl X "zip") (hm : X.mg "zip" = none) (ha : PA X [a, b] (liftL X W (evs Φ G [ea, eb]))) (hs : starEach [a, b] X.env = (false, eval a X.env) :: starEach [b] X.env) (hpl : (backTo pos (starEach [b] X.env)).any (·.1) = false) :
    PI X (.Tuple elts kk tpos) (.Call (.Name "zip" p) [a, b] [] pos) (liftI X W (srcM Φ G .zip [ea, eb])) := by
  refine (pi_zipM hg hm ha hs hpl).imp fun σv H R ⟨F, m, σ, st, sr, re, h⟩ => ?_
  refine ⟨F, m, σ, st, sr, re, post_src h fun F' m' H' st' ds vs xs x s r ei hR => ?_⟩
  simp only [iterO] at ei
  split at ei
  · rename_i d1 d2
    cases e1 : frzSeq d1 with
    | none => simp [e1] at ei
    | some x1 =>
      cases e2 : frzSeq d2 with
      | none => simp [e1, e2] at ei
      | some x2 =>
        simp [e1, e2] at ei
        subst ei
        cases r with
        | cons r rr =>
          cases rr with
          | cons r2 rr =>
            cases rr
            obtain ⟨k, aa, us, rfl, hq, rl⟩ := frz_seq r e1
            obtain ⟨l, bb, ws, rfl, hq2, rl2⟩ := frz_seq r2 e2
            exact ⟨k, l, aa, bb, us, ws, rfl, hq.same s.sub, hq2.same s.sub, hR _ _ _ _ Ext.refl s (wd_zipM hq hq2 rl rl2)⟩
  · cases ei
theorem i_enum {elts : List Expr} {kk : Nat} {tpos : Pos} (hg : Gl X "enumerate") (hm : X.mg "enumerate" = none) (ha : PA X [a] (liftL X W (evs Φ G [ea]))) (hs : starEach [a] X.env = [(false, eval a X.env)]) :
    PI X (.Tuple elts kk tpos) (.Call (.Name "enumerate" p) [a] [] pos) (liftI X W (srcM Φ G .enum [ea])) := by
  refine (pi_enumM hg hm ha hs).imp fun σv H R ⟨F, m, σ, st, sr, re, h⟩ => ?_
  refine ⟨F, m, σ, st, sr, re, post_src h fun F' m' H' st' ds vs xs x s r ei hR => ?_⟩
  simp only [iterO] at ei
  split at ei
  · rename_i d1
    rw [Option.map_eq_some_iff] at ei
    obtain ⟨x1, e1, rfl⟩ := ei
    cases r with
    | cons r rr =>
      cases rr
      obtain ⟨k, aa, us, rfl, hq, rl⟩ := frz_seq r e1
      exact ⟨k, aa, us, rfl, hq.same s.sub, hR _ _ _ _ Ext.refl s (wd_enumM hq rl)⟩
  · cases ei
end

/-! ### targets -/
mutual
def tslots (t : Tg) : List Nat := match t with
  | .name i => [i]
  | .tup ts => tslotss ts
termination_by structural t
def tslotss (ts : List Tg) : List Nat := match ts with
  | [] => []
  | t :: ts => tslots t ++ tslotss ts
termination_by structural ts
end
/-- nothing but the slots vs may change -/
def Only (vs : List Nat) (σv σv' : St) : Prop := σv'.length = σv.length ∧ ∀ ws, (∀ i ∈ vs, i ∈ ws) → wipe σv' ws = wipe σv ws
def gL (K : PySem.W.Frag) (t : Tg) : TG := fun v σv H Q => ∃ F m σ st d σ', SR K F m st H ∧ RepE K F m σ σv ∧ Rep K F m d v ∧ bindT t d σ = some σ' ∧ ∀ σv', RepE K F m σ' σv' → Only (tslots t) σv σv' → Q σv' H
def gLs (K : PySem.W.Frag) (ts : List Tg) : TGs := fun vs σv H Q => ∃ F m σ st ds σ', SR K F m st H ∧ RepE K F m σ σv ∧ RepL K F m ds vs ∧ bindTs ts ds σ = some σ' ∧ ∀ σv', RepE K F m σ' σv' → Only (tslotss ts) σv σv' → Q σv' H
theorem RepE.set {K : PySem.W.Frag} {F : Wd} {m : List Addr} {σ : Env} {σv : St} {d : D} {v : V} (i : Nat) (re : RepE K F m σ σv) (r : Rep K F m d v) : RepE K F m (σ.set i (some d)) (σv.set i (some v)) := by
  refine ⟨by simp [re.1], fun j d' e => ?_⟩
  rw [List.getElem?_set] at e ⊢
  by_cases hj : i = j
  · rw [if_pos hj] at e ⊢
    by_cases hl : i < σ.length
    · rw [if_pos hl] at e
      rw [if_pos (by rw [← re.1]; exact hl)]
      cases e
      exact ⟨v, rfl, r⟩
    · rw [if_neg hl] at e; cases e
  · rw [if_neg hj] at e ⊢
    exact re.2 j d' e
theorem Only.set {σv : St} {i : Nat} {x : Option V} : Only [i] σv (σv.set i x) := ⟨by simp, fun ws h => wipe_set (h i (by simp))⟩
theorem Only.trans {vs us : List Nat} {a b c : St} (h : Only vs a b) (h' : Only us b c) : Only (vs ++ us) a c :=
  ⟨h'.1.trans h.1, fun ws q => (h'.2 ws fun i hi => q i (by simp [hi])).trans (h.2 ws fun i hi => q i (by simp [hi]))⟩
section
variable {X : Cx} {pos : Pos}
theorem pg_nameL {i : Nat} {x : Str} (hN : X.N.Nodup) (hi : X.N[i]? = some x) (hx : Loc X.env.scope x) (hf : X.fn x = true ∨ X.env.scope.names.lookup x = some .local) : PG X (.Name x pos) (gL X.K (.name i)) := by
  refine (pg_name hN hi hx hf).imp fun v σv H Q ⟨F, m, σ, st, d, σ', sr, re, r, e, h⟩ => ?_
  unfold bindT at e
  cases e
  exact h _ (re.set i r) (by unfold tslots; exact Only.set)
theorem pgs_nilL : PGs X [] (gLs X.K []) := by
  refine pgs_nil.imp fun v σv H Q ⟨F, m, σ, st, d, σ', sr, re, r, e, h⟩ => ?_
  unfold bindTs at e
  cases r with
  | nil =>
    cases e
    exact ⟨rfl, h _ re ⟨rfl, fun ws _ => rfl⟩⟩
  | cons _ _ => cases e
theorem pgs_consL {e : Expr} {es : List Expr} {t : Tg} {ts : List Tg} (h1 : PG X e (gL X.K t)) (h2 : PGs X es (gLs X.K ts))
    (hs : (assignEach (e :: es) X.env).map (·.2) = assign e X.env :: (assignEach es X.env).map (·.2)) : PGs X (e :: es) (gLs X.K (t :: ts)) := by
  refine (pgs_cons h1 h2 hs).imp fun v σv H Q ⟨F, m, σ, st, d, σ', sr, re, r, e, h⟩ => ?_
  unfold bindTs at e
  cases r with
  | nil => cases e
  | cons r rr =>
    rename_i d v ds vs _
    cases e1 : bindT t d σ with
    | none => simp [e1] at e
    | some σ1 =>
      simp only [e1] at e
      refine ⟨_, _, rfl, F, m, σ, st, d, σ1, sr, re, r, e1, fun σv1 re1 o1 => ?_⟩
      exact ⟨F, m, σ1, st, ds, σ', sr, re1, rr, e, fun σv2 re2 o2 => h _ re2 (by unfold tslotss; exact o1.trans o2)⟩
theorem pg_tupL {es : List Expr} {k : Nat} {ts : List Tg} {n : Nat} (hc : X.calm = true) (h : PGs X es (gLs X.K ts)) (hl : ts.length = n) (hn : (assignEach es X.env).length = n) (hst : (assignEach es X.env).findIdx? (·.1) = none) : PG X (.Tuple es k pos) (gL X.K (.tup ts)) := by
  refine (pg_tup hc h hn hst).imp fun v σv H Q ⟨F, m, σ, st, d, σ', sr, re, r, e, h⟩ => ?_
  unfold bindT at e
  cases d with
  | tup w ds =>
    simp only at e
    obtain ⟨a, vs, rfl, hq, rl⟩ := r.tup_inv
    have len : ∀ (ts : List Tg) (ds : List D) (σ σ' : Env), bindTs ts ds σ = some σ' → ds.length = ts.length := by
      intro ts
      induction ts with
      | nil => intro ds σ σ' e; unfold bindTs at e; cases ds with
        | nil => rfl
        | cons _ _ => cases e
      | cons t ts ih => intro ds σ σ' e; unfold bindTs at e; cases ds with
        | nil => cases e
        | cons d ds =>
          cases e1 : bindT t d σ with
          | none => simp [e1] at e
          | some σ1 => simp only [e1] at e; simp [ih ds σ1 σ' e]
    refine ⟨a, vs, rfl, Same.seqT sr.sub hq, by rw [← rl.length, len ts ds σ σ' e, hl], F, m, σ, st, ds, σ', sr, re, rl, e, fun σv' re' o => h _ re' (by unfold tslots; exact o)⟩
  | _ => cases e
end

/-! ### comprehensions -/
theorem RepE.wipe {K : PySem.W.Frag} {F : Wd} {m : List Addr} {σ : Env} {σv : St} (re : RepE K F m σ σv) : ∀ vs : List Nat, RepE K F m (wipeE σ vs) (L2.wipe σv vs)
  | [] => re
  | v :: vs => by
    have ih := RepE.wipe re vs
    unfold wipeE L2.wipe
    refine ⟨by simp [ih.1], fun j d' e => ?_⟩
    rw [List.getElem?_set] at e ⊢
    by_cases hj : v = j
    · rw [if_pos hj] at e
      by_cases hl : v < (wipeE σ vs).length
      · rw [if_pos hl] at e; cases e
      · rw [if_neg hl] at e; cases e
    · rw [if_neg hj] at e ⊢
      exact ih.2 j d' e
abbrev W0 : WX := fun _ _ _ _ => False
section
variable {Φ : Str → List D → M D} {G : Str → Option D} {X : Cx} {W : WX}
/-- a comprehension's turn -/
def turnM (Φ : Str → List D → M D) (G : Str → Option D) (own : List Nat) (tg : Tg) (test : Option E) (elt : E) (σ : Env) (x : D) : M (Option D) := match bindT tg x (wipeE σ own) with
  | none => .bad
  | some σ1 => .bnd (evt Φ G test σ1) fun b => if b then .bnd (ev Φ G elt σ1) fun y => .ret (some y) else .ret none
theorem bnd_ok {α β : Type} {x : M α} {f : α → M β} {st st' : Store} {a : α} (h : x st = .ok a st') : M.bnd x f st = f a st' := by unfold M.bnd; rw [h]
theorem bnd_err {α β : Type} {x : M α} {f : α → M β} {st st' : Store} {e : Ex} (h : x st = .err e st') : M.bnd x f st = .err e st' := by unfold M.bnd; rw [h]
theorem bnd_bad {α β : Type} {x : M α} {f : α → M β} {st : Store} (h : x st = .bad) : M.bnd x f st = .bad := by unfold M.bnd; rw [h]
theorem comp_eq {own : List Nat} {tg : Tg} {k : IK} {src : List E} {test : Option E} {elt : E} {σ : Env} {st : Store} :
    ev Φ G (.comp own tg k src test elt) σ st = M.bnd (srcM Φ G k src σ) (fun xs => M.bnd (noErr (compM (turnM Φ G own tg test elt σ) xs [])) fun ys => .ret (.lst ys)) st := by
  have L : ev Φ G (.comp own tg k src test elt) σ st = M.bnd (evs Φ G src σ) (fun ds => fun st => match iterO k ds with
      | some xs => M.bnd (noErr (compM (turnM Φ G own tg test elt σ) xs [])) (fun ys => .ret (.lst ys)) st
      | none => .bad) st := by
    conv => lhs; unfold ev
    rfl
  rw [L]
  unfold srcM
  cases e : evs Φ G src σ st with
  | bad => rw [bnd_bad e, bnd_bad (bnd_bad e)]
  | err x st' => rw [bnd_err e, bnd_err (bnd_err e)]
  | ok ds st' =>
    rw [bnd_ok e]
    cases e2 : iterO k ds with
    | none =>
      rw [bnd_bad (x := M.bnd _ _)]
      rw [bnd_ok e]
      unfold ofO
      rw [e2]
    | some xs =>
      rw [bnd_ok (x := M.bnd _ _) (a := xs) (st' := st')]
      rw [bnd_ok e]
      unfold ofO
      rw [e2]
def readyP (F : Wd) (m : List Addr) (Q : VK) (K : PySem.W.Frag) : R (List D) → Prop
  | .ok ys st' => ∀ F' m' H' v, Ext F F' m m' → SR K F' m' st' H' → NewR K F' m' H' (.lst ys) v → Q v H'
  | _ => False
theorem n_comp {elt tg iter : Expr} {ifs : List Expr} {scope : Scope} {own : List (Str × Nat)} {pos : Pos} {t : Tg} {k : IK} {src : List E} {test : Option E} {eelt : E} (hc : X.calm = true) (hN : X.N.Nodup)
    (hi : PI X tg iter (liftI X W (srcM Φ G k src))) (ok : BlkOk X.N X.env.scope scope own) (hts : ∀ i ∈ tslots t, i ∈ own.map (·.2)) :
    ∀ σv H Q, liftN X W (ev Φ G (.comp (own.map (·.2)) t k src test eelt)) σv H Q → tLc (liftI X W (srcM Φ G k src)) (gL X.K t) (liftT X W0 (evt Φ G test)) (lift X W0 (ev Φ G eelt)) (own.map (·.2)) σv H Q := by
  intro σv H Q ⟨F, m, σ, st, sr, re, h⟩
  rw [comp_eq] at h
  refine ⟨F, m, σ, st, sr, re, post_bndN h fun F1 m1 H1 st1 xs J x1 sr1 wd h1 => ?_⟩
  intro D hD
  have h2 : readyP F1 m1 Q X.K (compM (turnM Φ G (own.map (·.2)) t test eelt σ) xs [] st1) := by
    unfold M.bnd noErr at h1
    cases e : compM (turnM Φ G (own.map (·.2)) t test eelt σ) xs [] st1 with
    | ok ys st' => rw [e] at h1; exact h1
    | err _ _ => rw [e] at h1; exact h1.elim
    | bad => rw [e] at h1; exact h1.elim
  obtain ⟨Y, wk, step⟩ := wd.wk
  let f := turnM Φ G (own.map (·.2)) t test eelt σ
  have fD : F1.f D = none := sr1.free hD
  have pD : F1.p D = none := sr1.freeP hD
  refine lc_it wk (fun i H => ∃ F' m' st' ys vs, Ex0 F1 F' m1 m' ∧ F'.p = upd F1.p D (.lst vs) ∧ SR X.K F' m' st' H ∧ RepL X.K F' m' ys vs ∧ readyP F1 m1 Q X.K (compM f (xs.drop i) ys st')) ?_ (fun i H hi ⟨F', m', st', ys, vs, x0, ep, s', rl, hr⟩ => ?_) (fun i x H H' hi ⟨F', m', st', ys, vs, x0, ep, s', rl, hr⟩ y => ?_) (fun H ⟨F', m', st', ys, vs, x0, ep, s', rl, hr⟩ => ?_)
  · have s0 := sr1.extra hD (.lst [])
    exact ⟨⟨F1.f, upd F1.p D (.lst [])⟩, m1, st1, [], [], ⟨Same.refl _, List.prefix_rfl⟩, rfl, s0.aside upd_same fD (sr1.in_m hD), .nil, h2⟩
  · exact x0.f.trans s'.sub
  · -- a turn
    obtain ⟨d, hd⟩ : ∃ d, xs[i]? = some d := ⟨_, List.getElem?_eq_getElem hi⟩
    have ed : xs.drop i = d :: xs.drop (i + 1) := by
      rw [List.getElem?_eq_getElem hi] at hd
      cases hd
      exact List.drop_eq_getElem_cons hi
    rw [ed] at hr
    obtain ⟨F2, x2, s2, rd⟩ := step i d F' m' st' H x H' hd x0 s' y
    have ex2 : Ex0 F1 F2 m1 m' := x0.trans x2.ex0
    have reW : RepE X.K F2 m' (wipeE σ (own.map (·.2))) (L2.wipe σv (own.map (·.2))) := ((ex2.env (x1.env re))).wipe _
    unfold compM at hr
    cases eb : bindT t d (wipeE σ (own.map (·.2))) with
    | none =>
      have ef : f d st' = .bad := by show turnM _ _ _ _ _ _ _ d st' = _; unfold turnM; rw [eb]
      rw [bnd_bad ef] at hr; exact hr.elim
    | some σ1 =>
      have ef : f d = .bnd (evt Φ G test σ1) fun b => if b then .bnd (ev Φ G eelt σ1) fun y => .ret (some y) else .ret none := by show turnM _ _ _ _ _ _ _ d = _; unfold turnM; rw [eb]
      refine ⟨F2, m', _, st', d, σ1, s2, reW, rd, eb, fun σv1 re1 o1 => ⟨?_, ?_⟩⟩
      · rw [o1.2 _ hts]
        exact wipe_wipe _ _
      · refine ⟨F2, m', σ1, st', s2, re1, ?_⟩
        cases et : evt Φ G test σ1 st' with
        | bad => rw [bnd_bad (by rw [ef]; exact bnd_bad et)] at hr; exact hr.elim
        | err x st2 => rw [bnd_err (by rw [ef]; exact bnd_err et)] at hr; exact hr.elim
        | ok b st2 =>
          intro F3 m3 H3 b' x3 s3 ebb
          subst ebb
          cases b with
          | false =>
            rw [bnd_ok (a := none) (by rw [ef, bnd_ok et]; rfl)] at hr
            rw [if_neg Bool.false_ne_true]
            exact ⟨F3, m3, st2, ys, vs, ex2.trans x3.ex0, x3.p.trans (x2.p.trans ep), s3, (x2.trans x3).repL rl, hr⟩
          | true =>
            rw [if_pos rfl]
            refine ⟨F3, m3, σ1, st2, s3, x3.env re1, ?_⟩
            cases ee : ev Φ G eelt σ1 st2 with
            | bad => rw [bnd_bad (by rw [ef, bnd_ok et]; exact bnd_bad ee)] at hr; exact hr.elim
            | err x st3 => rw [bnd_err (by rw [ef, bnd_ok et]; exact bnd_err ee)] at hr; exact hr.elim
            | ok yd st3 =>
              rw [bnd_ok (a := some yd) (st' := st3) (by rw [ef, bnd_ok et]; exact bnd_ok ee)] at hr
              intro F4 m4 H4 yv x4 s4 ry
              have hr : readyP F1 m1 Q X.K ((if sizeOk (ys.length + 1) then compM f (xs.drop (i + 1)) (ys ++ [yd]) else M.bad) st3) := hr
              have ep4 : F4.p = upd F1.p D (.lst vs) := x4.p.trans (x3.p.trans (x2.p.trans ep))
              have hD4 : H4 D = some (.lst vs) := s4.pr D _ (by rw [ep4]; exact upd_same)
              cases hz : sizeOk (ys.length + 1) with
              | false => rw [hz] at hr; exact hr.elim
              | true =>
                rw [hz] at hr
                have rl4 : RepL X.K F4 m4 ys vs := ((x2.trans x3).trans x4).repL rl
                refine ⟨vs, hD4, by rw [← rl4.length]; exact szLt hz, ?_⟩
                obtain ⟨g1, g2, _⟩ := s4.prF D _ (by rw [ep4]; exact upd_same)
                refine ⟨⟨F4.f, upd F1.p D (.lst (vs ++ [yv]))⟩, m4, st3, ys ++ [yd], vs ++ [yv], ⟨(ex2.trans (x3.trans x4).ex0).f, (ex2.trans (x3.trans x4).ex0).m⟩, rfl, ?_, (rl4.append (.cons ry .nil)).wd, hr⟩
                have sb := s4.back ep4 pD
                have st4 := sb.touch (p := D) g1 pD g2 (.lst (vs ++ [yv])) (fun o e => by rw [hD4] at e; cases e; trivial)
                exact st4.aside upd_same g1 g2
  · have hD' : H D = some (.lst vs) := s'.pr D _ (by rw [ep]; exact upd_same)
    obtain ⟨g1, g2, _⟩ := s'.prF D _ (by rw [ep]; exact upd_same)
    rw [List.drop_length] at hr
    unfold compM at hr
    exact hr ⟨F'.f, F1.p⟩ m' H (.ref D) ⟨x0.f, rfl, x0.m⟩ (s'.back ep pD) ⟨D, vs, rfl, hD', g1, pD, g2, rl.wd⟩
end
end MN
set_option Elab.async false
set_option linter.all false
set_option maxRecDepth 100000
/-! MiniM: statements: from readings to what is computed. -/
namespace MN
variable [TabP]
open PySem PySem.Spec L2

section
variable (X : Cx) (W : WX)
def PostF (D : Ends) (F : Wd) (m : List Addr) : MN.F → Prop
  | .nx σ st => ∀ F' m' σv' H', Ext F F' m m' → SR X.K F' m' st H' → RepE X.K F' m' σ σv' → D.nx σv' H'
  | .ret d st => ∀ F' m' H' v, Ext F F' m m' → SR X.K F' m' st H' → Rep X.K F' m' d v → D.rt v H'
  | .brk σ st => ∀ F' m' σv' H', Ext F F' m m' → SR X.K F' m' st H' → RepE X.K F' m' σ σv' → D.bk σv' H'
  | .ct σ st => ∀ F' m' σv' H', Ext F F' m m' → SR X.K F' m' st H' → RepE X.K F' m' σ σv' → D.ct σv' H'
  | .err x σ st => ∀ F' m' σv' H' cls dx, Ext F F' m m' → SR X.K F' m' st H' → RepE X.K F' m' σ σv' → RepX X.K X.mg F' m' H' x cls dx → W cls dx σv' H'
  | .bad => False
def liftS (f : Env → Store → MN.F) : TS := fun D σv H => ∃ F m σ st, SR X.K F m st H ∧ RepE X.K F m σ σv ∧ PostF X W D F m (f σ st)
end
section
variable {Φ : Str → List D → M D} {G : Str → Option D} {X : Cx} {W : WX}
theorem PostF.ext {D : Ends} {F F' : Wd} {m m' : List Addr} (x : Ext F F' m m') : ∀ {r : MN.F}, PostF X W D F m r → PostF X W D F' m' r
  | .nx _ _, h => fun F2 m2 s H x2 => h F2 m2 s H (x.trans x2)
  | .ret _ _, h => fun F2 m2 s H x2 => h F2 m2 s H (x.trans x2)
  | .brk _ _, h => fun F2 m2 s H x2 => h F2 m2 s H (x.trans x2)
  | .ct _ _, h => fun F2 m2 s H x2 => h F2 m2 s H (x.trans x2)
  | .err _ _ _, h => fun F2 m2 s H c d x2 => h F2 m2 s H c d (x.trans x2)
  | .bad, h => h
theorem post_on {α β : Type} {rel : Wd → List Addr → α → β → Prop} {D : Ends} {F : Wd} {m : List Addr} {σ : Env} {σv : St} {st : Store} {mx : M α} {k : α → Store → MN.F} {Q : β → Hp → Prop} (re : RepE X.K F m σ σv) (h : PostF X W D F m (MN.F.on mx σ st k))
    (hQ : ∀ F' m' H' st' a b, Ext F F' m m' → SR X.K F' m' st' H' → rel F' m' a b → PostF X W D F' m' (k a st') → Q b H') : PostG X rel W σv F m Q (mx st) := by
  unfold MN.F.on at h
  cases e : mx st with
  | ok a st' =>
    rw [e] at h
    intro F' m' H' b x s r
    exact hQ F' m' H' st' a b x s r (PostF.ext x h)
  | err x st' =>
    rw [e] at h
    intro F' m' H' cls dx xx s r
    exact h F' m' σv H' cls dx xx s (xx.env re) r
  | bad => rw [e] at h; exact h
variable {s : S} {ss : List S} {pos : Pos}

/-! ### blocks -/
theorem ss_nil : PSs X [] (liftS X W (execs Φ G [])) := by
  refine pss_nil.imp fun D σv H ⟨F, m, σ, st, sr, re, h⟩ => ?_
  unfold execs at h
  exact h F m σv H Ext.refl sr re
theorem ss_cons {a : Stmt} {as : List Stmt} (h1 : PS X a (liftS X W (exec Φ G s))) (h2 : PSs X as (liftS X W (execs Φ G ss))) : PSs X (a :: as) (liftS X W (execs Φ G (s :: ss))) := by
  refine (pss_cons h1 h2).imp fun D σv H ⟨F, m, σ, st, sr, re, h⟩ => ⟨F, m, σ, st, sr, re, ?_⟩
  unfold execs at h
  cases e : exec Φ G s σ st with
  | nx σ1 st1 =>
    rw [e] at h
    intro F' m' σv' H' x s' r'
    exact ⟨F', m', σ1, st1, s', r', h.ext x⟩
  | ret d st1 => rw [e] at h; exact h
  | brk σ1 st1 => rw [e] at h; exact h
  | ct σ1 st1 => rw [e] at h; exact h
  | err x σ1 st1 => rw [e] at h; exact h
  | bad => rw [e] at h; exact h
/-- ghost: what stands at p is locked from now on -/
theorem pss_ghost {a : List Stmt} {t : TS} (h : PSs X a t) : PSs X a (fun D σ H => t D σ H ∨ ∃ p u, H p = some u ∧ Mut (some u) ∧ ∀ od, t D σ (upd H p (.frz od u))) := by
  refine ⟨fun pins s σ H D I q => ?_⟩
  rcases q with q | ⟨p, u, hp, mu, q⟩
  · exact h.run pins s σ H D I q
  · obtain ⟨od, I2⟩ := I.lock hp mu
    exact h.run pins s σ _ D I2 (q od)
theorem RepE.at_ {K : PySem.W.Frag} {F : Wd} {m : List Addr} {σ : Env} {σv : St} {i : Nat} {d d' : D} {v : V} (re : RepE K F m σ σv) (h : σv[i]? = some (some v)) (r : Rep K F m d v) : RepE K F m (σ.set i (some d)) σv := by
  refine ⟨by simp [re.1], fun j d' e => ?_⟩
  rw [List.getElem?_set] at e
  by_cases hj : i = j
  · rw [if_pos hj] at e
    by_cases hl : i < σ.length
    · rw [if_pos hl] at e; cases e
      subst hj
      exact ⟨v, h, r⟩
    · rw [if_neg hl] at e; cases e
  · rw [if_neg hj] at e
    exact re.2 j d' e
theorem ss_frz {a : List Stmt} {i : Nat} (h : PSs X a (liftS X W (execs Φ G ss))) : PSs X a (liftS X W (execs Φ G (.frz i :: ss))) := by
  refine (pss_ghost h).imp fun D σv H ⟨F, m, σ, st, sr, re, h⟩ => ?_
  unfold execs exec frzF at h
  cases e1 : σ[i]? with
  | none => simp only [e1] at h; exact .inl ⟨F, m, σ, st, sr, re, h⟩
  | some o =>
    cases o with
    | none => simp only [e1] at h; exact .inl ⟨F, m, σ, st, sr, re, h⟩
    | some d =>
      cases d with
      | ref n =>
        simp only [e1] at h
        obtain ⟨v, hv, r⟩ := re.2 i _ e1
        cases r with
        | ref hm =>
          rename_i a0
          cases e2 : st[n]? with
          | none => simp only [e2] at h; exact .inl ⟨F, m, σ, st, sr, re, h⟩
          | some o =>
            have ob := sr.at_ref hm e2
            cases o with
            | dead => simp only [e2] at h; exact .inl ⟨F, m, σ, st, sr, re, h⟩
            | lst xs =>
              simp only [e2] at h
              obtain ⟨vs, h1, h2⟩ := ob
              obtain ⟨s2, x2⟩ := sr.freeze hm e2 (fun z => by cases z) (.lst vs)
              have eu : upd H a0 (.lst vs) = H := by
                funext b
                by_cases hb : b = a0
                · rw [hb, upd_same, h1]
                · rw [upd_ne hb]
              rw [eu] at s2
              refine .inl ⟨_, m, _, _, s2, (x2.env re).at_ (d' := .non) hv (.lst upd_same (x2.repL h2)), h.ext x2⟩
            | dk ks xs =>
              simp only [e2] at h
              obtain ⟨kvs, h1, rfl, h2⟩ := ob
              refine .inr ⟨a0, _, h1, trivial, fun od => ?_⟩
              obtain ⟨s2, x2⟩ := sr.freeze hm e2 (fun z => by cases z) (.frz od (.dK kvs))
              exact ⟨_, m, _, _, s2, (x2.env re).at_ (d' := .non) hv (.dk upd_same (x2.repL h2)), h.ext x2⟩
            | dt ks xs =>
              simp only [e2] at h
              obtain ⟨kvs, h1, rfl, h2⟩ := ob
              refine .inr ⟨a0, _, h1, trivial, fun od => ?_⟩
              obtain ⟨s2, x2⟩ := sr.freeze hm e2 (fun z => by cases z) (.frz od (.dT kvs))
              exact ⟨_, m, _, _, s2, (x2.env re).at_ (d' := .non) hv (.dt upd_same (x2.repL h2)), h.ext x2⟩
      | _ => simp only [e1] at h; exact .inl ⟨F, m, σ, st, sr, re, h⟩

/-! ### small statements -/
theorem s_pass : PS X (.Pass pos) (liftS X W (exec Φ G .pass)) := by
  refine ps_pass.imp fun D σv H ⟨F, m, σ, st, sr, re, h⟩ => ?_
  unfold exec at h
  exact h F m σv H Ext.refl sr re
theorem s_brk : PS X (.Break pos) (liftS X W (exec Φ G .brk)) := by
  refine ps_break.imp fun D σv H ⟨F, m, σ, st, sr, re, h⟩ => ?_
  unfold exec at h
  exact h F m σv H Ext.refl sr re
theorem s_cont : PS X (.Continue pos) (liftS X W (exec Φ G .cont)) := by
  refine ps_continue.imp fun D σv H ⟨F, m, σ, st, sr, re, h⟩ => ?_
  unfold exec at h
  exact h F m σv H Ext.refl sr re
theorem s_retN : PS X (.Return none pos) (liftS X W (exec Φ G .retN)) := by
  refine ps_retN.imp fun D σv H ⟨F, m, σ, st, sr, re, h⟩ => ?_
  unfold exec at h
  exact h F m H .non Ext.refl sr .non
variable {e : Expr} {ee : E}
theorem s_ret (he : PE X e (lift X W (ev Φ G ee))) : PS X (.Return (some e) pos) (liftS X W (exec Φ G (.ret ee))) := by
  refine (ps_ret he).imp fun D σv H ⟨F, m, σ, st, sr, re, h⟩ => ⟨F, m, σ, st, sr, re, ?_⟩
  unfold exec at h
  exact post_on re h fun F' m' H' st' d v x s r q => q F' m' H' v Ext.refl s r
theorem s_expr (he : PE X e (lift X W (ev Φ G ee))) (hs : swapsWith e none pos.line X.env = pure false) : PS X (.Expr e pos) (liftS X W (exec Φ G (.expr ee))) := by
  refine (ps_expr he hs).imp fun D σv H ⟨F, m, σ, st, sr, re, h⟩ => ⟨F, m, σ, st, sr, re, ?_⟩
  unfold exec at h
  exact post_on re h fun F' m' H' st' d v x s r q => q F' m' σv H' Ext.refl s (x.env re)
theorem s_iff {c : Expr} {a b : List Stmt} {ec : E} {ea eb : List S} (hc : PT X c (liftT X W (evt Φ G (some ec)))) (ha : PSs X a (liftS X W (execs Φ G ea))) (hb : PSs X b (liftS X W (execs Φ G eb))) : PS X (.If c a b pos) (liftS X W (exec Φ G (.iff ec ea eb))) := by
  refine (ps_if hc ha hb).imp fun D σv H ⟨F, m, σ, st, sr, re, h⟩ => ⟨F, m, σ, st, sr, re, ?_⟩
  unfold exec at h
  refine post_on re h fun F' m' H' st' d v x s r q => ?_
  subst r
  cases d with
  | true => rw [if_pos rfl]; exact ⟨F', m', σ, st', s, x.env re, q⟩
  | false => rw [if_neg Bool.false_ne_true]; exact ⟨F', m', σ, st', s, x.env re, q⟩
theorem on_setNx {i : Nat} {D : Ends} {F : Wd} {m : List Addr} {σ : Env} {σv : St} {st : Store} (re : RepE X.K F m σ σv) (h : PostF X W D F m (exec Φ G (.set i ee) σ st)) : PostG X (Rep X.K) W σv F m (fun y H1 => gName i y σv H1 D.nx) (ev Φ G ee σ st) := by
  unfold exec at h
  exact post_on re h fun F' m' H' st' d v x s r q => q F' m' _ H' Ext.refl s ((x.env re).set i r)
theorem s_set {i : Nat} {x : Str} {pos' : Pos} (hN : X.N.Nodup) (hi : X.N[i]? = some x) (hx : Loc X.env.scope x) (he : PE X e (lift X W (ev Φ G ee))) (hs : swapsWith e (some (.Name x pos')) pos.line X.env = pure false) (hf : X.fn x = true ∨ X.env.scope.names.lookup x = some .local) :
    PS X (.Assign [.Name x pos'] e pos) (liftS X W (exec Φ G (.set i ee))) := by
  refine (ps_set hN hi hx he hs hf).imp fun D σv H ⟨F, m, σ, st, sr, re, h⟩ => ⟨F, m, σ, st, sr, re, on_setNx re h⟩
theorem s_unp {tg : Expr} {t : Tg} (he : PE X e (lift X W (ev Φ G ee))) (hg : PG X tg (gL X.K t)) (hs : swapsWithSole [tg] e pos.line X.env = pure false) (hw : swappedStores [tg] e X.env = pure none) (h1 : (assignEach [tg] X.env).map (·.2) = [assign tg X.env]) :
    PS X (.Assign [tg] e pos) (liftS X W (exec Φ G (.unp t ee))) := by
  refine (ps_asg he hg hs hw h1).imp fun D σv H ⟨F, m, σ, st, sr, re, h⟩ => ⟨F, m, σ, st, sr, re, ?_⟩
  unfold exec at h
  refine post_on re h fun F' m' H' st' d v x s r q => ?_
  cases eb : bindT t d σ with
  | none => simp only [eb] at q; exact q.elim
  | some σ' =>
    simp only [eb] at q
    exact ⟨F', m', σ, st', d, σ', s, x.env re, r, eb, fun σv' re' _ => q F' m' σv' H' Ext.refl s re'⟩
theorem s_par2 {i j : Nat} {x y : Str} {a b : Expr} {ea eb : E} {px py pt : Pos} {kt k2 pt2} (hc : X.calm = true) (hN : X.N.Nodup) (hi : X.N[i]? = some x) (hj : X.N[j]? = some y) (hij : i ≠ j)
    (hx : X.env.scope.names.lookup x = some .local) (hy : X.env.scope.names.lookup y = some .local) (ha : PA X [a, b] (liftL X W (evs Φ G [ea, eb])))
    (hw : swappedStores [.Tuple [.Name x px, .Name y py] kt pt] (.Tuple [a, b] k2 pt2) X.env = pure (some [x, y])) (hs : swapsWithSole [.Tuple [.Name x px, .Name y py] kt pt] (.Tuple [a, b] k2 pt2) pos.line X.env = pure false) :
    PS X (.Assign [.Tuple [.Name x px, .Name y py] kt pt] (.Tuple [a, b] k2 pt2) pos) (liftS X W (exec Φ G (.par [i, j] [ea, eb]))) := by
  refine (ps_par hc hN hi hj hij hx hy ha hw hs).imp fun D σv H ⟨F, m, σ, st, sr, re, h⟩ => ⟨F, m, σ, st, sr, re, ?_⟩
  unfold exec at h
  refine post_on re h fun F' m' H' st' ds vs x s r q => ?_
  match ds, r with
  | [], _ => exact q.elim
  | [_], _ => exact q.elim
  | [d1, d2], .cons r1 (.cons r2 .nil) =>
    exact ⟨_, _, rfl, q F' m' _ H' Ext.refl s (((x.env re).set i r1).set j r2)⟩
  | _ :: _ :: _ :: _, _ => exact q.elim
theorem s_par3 {i j l : Nat} {x y z : Str} {a b c : Expr} {ea eb ec : E} {px py pz pt : Pos} {kt k2 pt2} (hc : X.calm = true) (hN : X.N.Nodup) (hi : X.N[i]? = some x) (hj : X.N[j]? = some y) (hl : X.N[l]? = some z) (hij : i ≠ j) (hil : i ≠ l) (hjl : j ≠ l)
    (hx : X.env.scope.names.lookup x = some .local) (hy : X.env.scope.names.lookup y = some .local) (hz : X.env.scope.names.lookup z = some .local) (ha : PA X [a, b, c] (liftL X W (evs Φ G [ea, eb, ec])))
    (hw : swappedStores [.Tuple [.Name x px, .Name y py, .Name z pz] kt pt] (.Tuple [a, b, c] k2 pt2) X.env = pure (some [x, y, z])) (hs : swapsWithSole [.Tuple [.Name x px, .Name y py, .Name z pz] kt pt] (.Tuple [a, b, c] k2 pt2) pos.line X.env = pure false) :
    PS X (.Assign [.Tuple [.Name x px, .Name y py, .Name z pz] kt pt] (.Tuple [a, b, c] k2 pt2) pos) (liftS X W (exec Φ G (.par [i, j, l] [ea, eb, ec]))) := by
  refine (ps_par3 hc hN hi hj hl hij hil hjl hx hy hz ha hw hs).imp fun D σv H ⟨F, m, σ, st, sr, re, h⟩ => ⟨F, m, σ, st, sr, re, ?_⟩
  unfold exec at h
  refine post_on re h fun F' m' H' st' ds vs x s r q => ?_
  match ds, r with
  | [], _ => exact q.elim
  | [_], _ => exact q.elim
  | [_, _], _ => exact q.elim
  | [d1, d2, d3], .cons r1 (.cons r2 (.cons r3 .nil)) =>
    exact ⟨_, _, _, rfl, q F' m' _ H' Ext.refl s ((((x.env re).set i r1).set j r2).set l r3)⟩
  | _ :: _ :: _ :: _ :: _, _ => exact q.elim

/-! ### a[i] = v -/
theorem rep_put {κ : Type} [DecidableEq κ] {K : PySem.W.Frag} {F : Wd} {m : List Addr} {d : D} {v : V} (k : κ) (r : Rep K F m d v) (kvs : List (κ × V)) (xs : List D) (rl : RepL K F m xs (kvs.map (·.2))) :
    (putKV (kvs.map (·.1)) xs k d).1 = (putK kvs k v).map (·.1) ∧ RepL K F m (putKV (kvs.map (·.1)) xs k d).2 ((putK kvs k v).map (·.2)) := by
  have ea : ((kvs.map (·.1)).any fun x => decide (x = k)) = kvs.any fun kv => decide (kv.1 = k) := by rw [List.any_map]; rfl
  have rp : ∀ (kvs : List (κ × V)) (xs : List D), RepL K F m xs (kvs.map (·.2)) → RepL K F m (repKV (kvs.map (·.1)) xs k d) ((kvs.map fun kv => if kv.1 = k then (kv.1, v) else kv).map (·.2)) := by
    intro kvs
    induction kvs with
    | nil => intro xs rl; simp [repKV]; exact .nil
    | cons p kvs ih =>
      intro xs rl
      cases rl with
      | cons r1 rl =>
        simp only [List.map_cons, repKV]
        refine .cons ?_ (ih _ rl)
        by_cases hk : p.1 = k
        · rw [if_pos hk, if_pos hk]; exact r
        · rw [if_neg hk, if_neg hk]; exact r1
  unfold putKV putK
  rw [ea]
  by_cases h : (kvs.any fun kv => decide (kv.1 = k)) = true
  · rw [if_pos h, if_pos h]
    refine ⟨?_, rp kvs xs rl⟩
    rw [List.map_map]
    refine (List.map_congr_left fun kv _ => ?_)
    show kv.1 = (if kv.1 = k then (kv.1, v) else kv).1
    split <;> rfl
  · rw [if_neg h, if_neg h]
    refine ⟨by simp, ?_⟩
    rw [List.map_append]
    exact rl.append (.cons r .nil)
def rSetM : TSet := fun o i v H Q => rSetL o i v H Q ∨ rSetD o i v H Q
theorem set_M (hu : X.A.units + 1 < cLine) : PSet X rSetM := by
  intro pins s σ H o i v ov iv u Q I ro ri rv h
  rcases h with h | h
  · exact set_list pins s σ H o i v ov iv u Q I ro ri rv h
  · exact set_dict hu pins s σ H o i v ov iv u Q I ro ri rv h
theorem put_sound {F : Wd} {m : List Addr} {st st' : Store} {H : Hp} {x y d : D} {vx vy v : V} {Q : Hp → Prop} (sr : SR X.K F m st H) (rx : Rep X.K F m x vx) (ry : Rep X.K F m y vy) (rd : Rep X.K F m d v) (e : putO x y d st = some st')
    (h : ∀ H', SR X.K F m st' H' → Q H') : rSetM vx vy v H Q := by
  unfold putO at e
  cases x with
  | ref n =>
    simp only at e
    cases rx with
    | ref hm =>
      rename_i a
      cases e2 : st[n]? with
      | none => simp only [e2] at e; cases e
      | some o =>
        have ob := sr.at_ref hm e2
        cases o with
        | dead => simp only [e2] at e; cases e
        | lst xs =>
          simp only [e2] at e
          obtain ⟨vs, h1, h2⟩ := ob
          cases y with
          | int k =>
            simp only [Option.map_eq_some_iff] at e
            obtain ⟨j, e3, rfl⟩ := e
            cases ry
            refine .inl ⟨a, vs, k, j, rfl, rfl, h1, by rw [← h2.length]; exact e3, h _ (sr.write hm e2 (fun z => by cases z) ⟨_, upd_same, h2.set rd j⟩)⟩
          | _ => cases e
        | dk ks xs =>
          simp only [e2] at e
          obtain ⟨kvs, h1, rfl, h2⟩ := ob
          cases e3 : keyOf y with
          | none => simp only [e3] at e; cases e
          | some k =>
            simp only [e3] at e
            split at e
            · rename_i hz
              cases e
              have ek := keyOf_kV ry e3
              subst ek
              obtain ⟨p1, p2⟩ := rep_put k rd kvs xs h2
              refine .inr ⟨a, _, rfl, DPut.k h1 (by rw [List.length_map] at hz; exact szLt hz), h _ (sr.write hm e2 (fun z => by cases z) ⟨_, upd_same, p1, p2⟩)⟩
            · cases e
        | dt ks xs =>
          simp only [e2] at e
          obtain ⟨kvs, h1, rfl, h2⟩ := ob
          cases e3 : tkeyOf y with
          | none => simp only [e3] at e; cases e
          | some k =>
            simp only [e3] at e
            split at e
            · rename_i hz
              cases e
              obtain ⟨b, rfl, hb⟩ := tkeyOf_kV ry e3
              obtain ⟨p1, p2⟩ := rep_put k rd kvs xs h2
              refine .inr ⟨a, _, rfl, DPut.t h1 (sr.sub _ _ hb) (by rw [List.length_map] at hz; exact szLt hz), h _ (sr.write hm e2 (fun z => by cases z) ⟨_, upd_same, p1, p2⟩)⟩
            · cases e
  | _ => cases e
variable {a b c : Expr} {ea eb ec : E}
/-- the target a[i] -/
def gPut (X : Cx) (W : WX) (Φ : Str → List D → M D) (G : Str → Option D) (ea ei : E) : TG := fun v σv H Q => ∃ F m σ st d, SR X.K F m st H ∧ RepE X.K F m σ σv ∧ Rep X.K F m d v ∧
  PostF X W ⟨Q, fun _ _ => False, fun _ _ => False, fun _ _ => False⟩ F m (MN.F.on (ev Φ G ea σ) σ st fun x st2 => MN.F.on (ev Φ G ei σ) σ st2 fun y st3 => match putO x y d st3 with
    | some st4 => .nx σ st4
    | none => .bad)
theorem pg_put {pos' : Pos} (hu : X.A.units + 1 < cLine) (ha : PE X a (lift X W (ev Φ G ea))) (hb : PE X b (lift X W (ev Φ G eb)))
    (has : ∀ v, assign (.Subscript a b pos') X.env v = (do
      let ov ← holding [v] (eval a X.env)
      let iv ← holding [v, ov] (eval b X.env)
      standAt pos'
      holding [v, ov, iv] (setItem ov iv v)
      release [v, ov, iv] [])) : PG X (.Subscript a b pos') (gPut X W Φ G ea eb) := by
  refine (pg_sub ha hb (set_M hu) has).imp fun v σv H Q ⟨F, m, σ, st, d, sr, re, rd, h⟩ => ?_
  refine ⟨F, m, σ, st, sr, re, post_on re h fun F1 m1 H1 st1 x vx x1 s1 rx h1 => ?_⟩
  refine ⟨F1, m1, σ, st1, s1, x1.env re, post_on (x1.env re) h1 fun F2 m2 H2 st2 y vy x2 s2 ry h2 => ?_⟩
  cases e : putO x y d st2 with
  | none => simp only [e] at h2; exact h2.elim
  | some st3 =>
    simp only [e] at h2
    exact put_sound s2 (x2.rep rx) ry (x2.rep (x1.rep rd)) e fun H' s3 => h2 F2 m2 σv H' Ext.refl s3 (x2.env (x1.env re))
theorem s_put {pos' : Pos} (he : PE X e (lift X W (ev Φ G ee))) (hg : PG X (.Subscript a b pos') (gPut X W Φ G ea eb)) (hs : swapsWithSole [.Subscript a b pos'] e pos.line X.env = pure false) (hw : swappedStores [.Subscript a b pos'] e X.env = pure none) (h1 : (assignEach [.Subscript a b pos'] X.env).map (·.2) = [assign (.Subscript a b pos') X.env]) :
    PS X (.Assign [.Subscript a b pos'] e pos) (liftS X W (exec Φ G (.put ea eb ee))) := by
  refine (ps_asg he hg hs hw h1).imp fun D σv H ⟨F, m, σ, st, sr, re, h⟩ => ⟨F, m, σ, st, sr, re, ?_⟩
  unfold exec at h
  refine post_on re h fun F' m' H' st' d v x s r q => ⟨F', m', σ, st', d, s, x.env re, r, ?_⟩
  -- only a next state is left
  revert q
  unfold MN.F.on
  cases e1 : ev Φ G ea σ st' with
  | bad => exact fun q => q
  | err x st1 => exact fun q => q
  | ok x1 st1 =>
    dsimp only
    cases e2 : ev Φ G eb σ st1 with
    | bad => exact fun q => q
    | err x st1 => exact fun q => q
    | ok y1 st2 =>
      dsimp only
      cases e3 : putO x1 y1 d st2 with
      | none => exact fun q => q
      | some st4 => exact fun q => q

/-! ### loops -/
theorem s_for {tg iter : Expr} {t : Tg} {k : IK} {src : List E} {body : List Stmt} {eb : List S} (hp : PassesOwn (model X.prog X.w) X.A X.env X.xe) (hc : X.calm = true) (hi : PI X tg iter (liftI X W (srcM Φ G k src))) (hg : PG X tg (gL X.K t)) (hb : PSs X body (liftS X W (execs Φ G eb)))
    (hs : ∀ x, foldedSetIterable iter X.env x = pure x) : PS X (.For tg iter body [] pos) (liftS X W (exec Φ G (.for_ t k src eb))) := by
  refine (ps_for hp hc hi hg hb hs).imp fun D σv H ⟨F, m, σ, st, sr, re, h⟩ => ?_
  unfold exec at h
  have h' : PostF X W D F m (MN.F.on (srcM Φ G k src σ) σ st fun xs st' => forF t (fun σ st => execs Φ G eb σ st) xs σ st') := by
    revert h
    unfold MN.F.on srcM
    cases e1 : evs Φ G src σ st with
    | bad => rw [bnd_bad e1]; exact fun q => q
    | err x st1 => rw [bnd_err e1]; exact fun q => q
    | ok ds st1 =>
      rw [bnd_ok e1]
      unfold ofO
      show PostF X W D F m (match iterO k ds with | some xs => _ | none => _) → _
      cases e2 : iterO k ds with
      | none => exact fun q => q
      | some xs => exact fun q => q
  refine ⟨F, m, σ, st, sr, re, post_on re h' fun F1 m1 H1 st1 xs J x1 sr1 wd h1 => ?_⟩
  obtain ⟨Y, wk, step⟩ := wd.wk
  refine for_it wk (fun i σv H => ∃ F' m' σ st', Ext F1 F' m1 m' ∧ SR X.K F' m' st' H ∧ RepE X.K F' m' σ σv ∧ PostF X W D F' m' (forF t (fun σ st => execs Φ G eb σ st) (xs.drop i) σ st')) ⟨F1, m1, σ, st1, Ext.refl, sr1, x1.env re, h1⟩ (fun i σv H hi ⟨F', m', σ, st', x0, s', re', hr⟩ => x0.f.trans s'.sub) (fun i x σv H H' hi ⟨F', m', σ, st', x0, s', re', hr⟩ y => ?_) (fun σv H ⟨F', m', σ, st', x0, s', re', hr⟩ => ?_)
  · obtain ⟨d, hd⟩ : ∃ d, xs[i]? = some d := ⟨_, List.getElem?_eq_getElem hi⟩
    have ed : xs.drop i = d :: xs.drop (i + 1) := by
      rw [List.getElem?_eq_getElem hi] at hd
      cases hd
      exact List.drop_eq_getElem_cons hi
    rw [ed] at hr
    obtain ⟨F2, x2, s2, rd⟩ := step i d F' m' st' H x H' hd x0.ex0 s' y
    unfold forF at hr
    cases eb1 : bindT t d σ with
    | none => simp only [eb1] at hr; exact hr.elim
    | some σ1 =>
      simp only [eb1] at hr
      refine ⟨F2, m', σ, st', d, σ1, s2, x2.env re', rd, eb1, fun σv1 re1 _ => ⟨F2, m', σ1, st', s2, re1, ?_⟩⟩
      cases ex : execs Φ G eb σ1 st' with
      | bad => simp only [ex] at hr; exact hr.elim
      | nx σ2 st2 =>
        simp only [ex] at hr
        exact fun F3 m3 σv3 H3 x3 s3 re3 => ⟨F3, m3, σ2, st2, (x0.trans x2).trans x3, s3, re3, hr.ext (x2.trans x3)⟩
      | ct σ2 st2 =>
        simp only [ex] at hr
        exact fun F3 m3 σv3 H3 x3 s3 re3 => ⟨F3, m3, σ2, st2, (x0.trans x2).trans x3, s3, re3, hr.ext (x2.trans x3)⟩
      | brk σ2 st2 =>
        simp only [ex] at hr
        exact fun F3 m3 σv3 H3 x3 s3 re3 => hr F3 m3 σv3 H3 (x2.trans x3) s3 re3
      | ret d2 st2 =>
        simp only [ex] at hr
        exact fun F3 m3 H3 v3 x3 s3 r3 => hr F3 m3 H3 v3 (x2.trans x3) s3 r3
      | err z σ2 st2 =>
        simp only [ex] at hr
        exact fun F3 m3 σv3 H3 cls dx x3 s3 re3 r3 => hr F3 m3 σv3 H3 cls dx (x2.trans x3) s3 re3 r3
  · rw [List.drop_length] at hr
    unfold forF at hr
    exact hr F' m' σv H Ext.refl s' re'
theorem s_whl {body : List Stmt} {eb : List S} (hp : PassesOwn (model X.prog X.w) X.A X.env X.xe) (hc : PT X c (liftT X W (evt Φ G (some ec)))) (hb : PSs X body (liftS X W (execs Φ G eb))) : PS X (.While c body [] pos) (liftS X W (exec Φ G (.whl ec eb))) := by
  refine (ps_while hp hc hb).imp fun D σv H ⟨F, m, σ, st, sr, re, h⟩ => ?_
  unfold exec at h
  obtain ⟨n, hn⟩ := whlF_some (c := fun σ => evt Φ G (some ec) σ) (b := fun σ st => execs Φ G eb σ st) (σ := σ) (st := st) (fun z => by rw [z] at h; exact h)
  refine ⟨fun n σv H => ∃ F' m' σ st r, SR X.K F' m' st H ∧ RepE X.K F' m' σ σv ∧ whlN (fun σ => evt Φ G (some ec) σ) (fun σ st => execs Φ G eb σ st) n σ st = some r ∧ PostF X W D F' m' r, ⟨n, F, m, σ, st, _, sr, re, hn, h⟩, ?_⟩
  rintro n σv H ⟨F, m, σ, st, r, sr, re, hn, h⟩
  refine ⟨F, m, σ, st, sr, re, ?_⟩
  cases n with
  | zero => cases hn
  | succ n =>
    unfold whlN at hn
    cases et : evt Φ G (some ec) σ st with
    | bad => simp only [et] at hn; cases hn; exact h
    | err x st1 =>
      simp only [et] at hn; cases hn
      exact fun F' m' H' cls dx x s r => h F' m' σv H' cls dx x s (x.env re) r
    | ok b st1 =>
      simp only [et] at hn
      intro F1 m1 H1 b' x1 s1 ebb
      subst ebb
      cases b with
      | false =>
        rw [if_neg Bool.false_ne_true]
        cases hn
        exact h F1 m1 σv H1 x1 s1 (x1.env re)
      | true =>
        rw [if_pos rfl]
        simp only at hn
        refine ⟨fun σv' H' => ∃ F' m' σ st r, SR X.K F' m' st H' ∧ RepE X.K F' m' σ σv' ∧ whlN (fun σ => evt Φ G (some ec) σ) (fun σ st => execs Φ G eb σ st) n σ st = some r ∧ PostF X W D F' m' r, fun σv' H' w => ⟨n, Nat.lt_succ_self n, w⟩, ?_⟩
        refine ⟨F1, m1, σ, st1, s1, x1.env re, ?_⟩
        cases ex : execs Φ G eb σ st1 with
        | bad => simp only [ex] at hn; cases hn; exact h
        | nx σ2 st2 =>
          simp only [ex] at hn
          exact fun F3 m3 σv3 H3 x3 s3 re3 => ⟨F3, m3, σ2, st2, r, s3, re3, hn, h.ext (x1.trans x3)⟩
        | ct σ2 st2 =>
          simp only [ex] at hn
          exact fun F3 m3 σv3 H3 x3 s3 re3 => ⟨F3, m3, σ2, st2, r, s3, re3, hn, h.ext (x1.trans x3)⟩
        | brk σ2 st2 =>
          simp only [ex] at hn; cases hn
          exact fun F3 m3 σv3 H3 x3 s3 re3 => h F3 m3 σv3 H3 (x1.trans x3) s3 re3
        | ret d2 st2 =>
          simp only [ex] at hn; cases hn
          exact fun F3 m3 H3 v3 x3 s3 r3 => h F3 m3 H3 v3 (x1.trans x3) s3 r3
        | err z σ2 st2 =>
          simp only [ex] at hn; cases hn
          exact fun F3 m3 σv3 H3 cls dx x3 s3 re3 r3 => h F3 m3 σv3 H3 cls dx (x1.trans x3) s3 re3 r3
end
end MN
set_option Elab.async false
set_option linter.all false
set_option maxRecDepth 100000
/-! MiniS: sorted: ints, tuples of ints; of a list, of a tuple. -/
namespace MN
theorem leI_refl : ∀ a : List Int, leI a a = true
  | [] => rfl
  | x :: xs => by unfold leI; rw [if_pos rfl]; exact leI_refl xs
theorem leI_total : ∀ a b : List Int, leI a b = true ∨ leI b a = true
  | [], b => .inl rfl
  | x :: xs, [] => .inr rfl
  | x :: xs, y :: ys => by
    unfold leI
    by_cases e : x = y
    · subst e; rw [if_pos rfl, if_pos rfl]; exact leI_total xs ys
    · rw [if_neg e, if_neg (Ne.symm e)]
      simp only [decide_eq_true_eq]; omega
theorem leI_trans : ∀ a b c : List Int, leI a b = true → leI b c = true → leI a c = true
  | [], _, _, _, _ => rfl
  | x :: xs, [], _, h, _ => by simp [leI] at h
  | x :: xs, y :: ys, [], _, h => by simp [leI] at h
  | x :: xs, y :: ys, z :: zs, h1, h2 => by
    unfold leI at h1 h2 ⊢
    by_cases e : x = y
    · subst e
      rw [if_pos rfl] at h1
      by_cases e2 : x = z
      · subst e2
        rw [if_pos rfl] at h2 ⊢
        exact leI_trans xs ys zs h1 h2
      · rw [if_neg e2] at h2 ⊢; exact h2
    · rw [if_neg e] at h1
      simp only [decide_eq_true_eq] at h1
      by_cases e2 : y = z
      · subst e2
        rw [if_neg e]
        exact decide_eq_true h1
      · rw [if_neg e2] at h2
        simp only [decide_eq_true_eq] at h2
        rw [if_neg (by omega)]
        exact decide_eq_true (by omega)
theorem leI_anti : ∀ a b : List Int, leI a b = true → leI b a = true → a = b
  | [], [], _, _ => rfl
  | [], _ :: _, _, h => by simp [leI] at h
  | _ :: _, [], h, _ => by simp [leI] at h
  | x :: xs, y :: ys, h1, h2 => by
    unfold leI at h1 h2
    by_cases e : x = y
    · subst e
      rw [if_pos rfl] at h1 h2
      rw [leI_anti xs ys h1 h2]
    · rw [if_neg e] at h1
      rw [if_neg (Ne.symm e)] at h2
      simp only [decide_eq_true_eq] at h1 h2
      omega
def ltI (a b : List Int) : Bool := !leI b a
theorem insT_perm (x : List Int) : ∀ l, (insT x l).Perm (x :: l)
  | [] => .refl _
  | y :: ys => by
    unfold insT
    split
    · exact .refl _
    · exact ((insT_perm x ys).cons y).trans (.swap x y ys)
theorem sortT_perm : ∀ l, (sortT l).Perm l
  | [] => .refl _
  | x :: xs => (insT_perm x _).trans ((sortT_perm xs).cons x)
theorem insT_srt (x : List Int) : ∀ l, l.Pairwise (fun a b => leI a b = true) → (insT x l).Pairwise (fun a b => leI a b = true)
  | [], _ => List.pairwise_singleton _ _
  | y :: ys, h => by
    unfold insT
    rw [List.pairwise_cons] at h
    by_cases e : leI x y = true
    · rw [if_pos e]
      refine List.pairwise_cons.mpr ⟨fun z hz => ?_, List.pairwise_cons.mpr h⟩
      rcases List.mem_cons.mp hz with rfl | hz
      · exact e
      · exact leI_trans _ _ _ e (h.1 z hz)
    · rw [if_neg e]
      refine List.pairwise_cons.mpr ⟨fun z hz => ?_, insT_srt x ys h.2⟩
      rcases List.mem_cons.mp ((insT_perm x ys).mem_iff.mp hz) with rfl | hz
      · exact (leI_total z y).resolve_left e
      · exact h.1 z hz
theorem sortT_srt : ∀ l, (sortT l).Pairwise (fun a b => leI a b = true)
  | [] => .nil
  | x :: xs => insT_srt x _ (sortT_srt xs)
theorem sortT_eq {l l' : List (List Int)} (p : l'.Perm l) (s : l'.Pairwise (fun a b => leI a b = true)) : l' = sortT l :=
  (p.trans (sortT_perm l).symm).eq_of_pairwise (fun a b _ _ h1 h2 => leI_anti a b h1 h2) s (sortT_srt l)
theorem insI_perm (x : Int) : ∀ l, (insI x l).Perm (x :: l)
  | [] => .refl _
  | y :: ys => by
    unfold insI
    split
    · exact .refl _
    · exact ((insI_perm x ys).cons y).trans (.swap x y ys)
theorem sortI_perm : ∀ l, (sortI l).Perm l
  | [] => .refl _
  | x :: xs => (insI_perm x _).trans ((sortI_perm xs).cons x)
theorem insI_srt (x : Int) : ∀ l, l.Pairwise (· ≤ ·) → (insI x l).Pairwise (· ≤ ·)
  | [], _ => List.pairwise_singleton _ _
  | y :: ys, h => by
    unfold insI
    rw [List.pairwise_cons] at h
    by_cases e : x ≤ y
    · rw [if_pos e]
      refine List.pairwise_cons.mpr ⟨fun z hz => ?_, List.pairwise_cons.mpr h⟩
      rcases List.mem_cons.mp hz with rfl | hz
      · exact e
      · exact Int.le_trans e (h.1 z hz)
    · rw [if_neg e]
      refine List.pairwise_cons.mpr ⟨fun z hz => ?_, insI_srt x ys h.2⟩
      rcases List.mem_cons.mp ((insI_perm x ys).mem_iff.mp hz) with rfl | hz
      · omega
      · exact h.1 z hz
theorem sortI_srt : ∀ l, (sortI l).Pairwise (· ≤ ·)
  | [] => .nil
  | x :: xs => insI_srt x _ (sortI_srt xs)
theorem sortI_eq {l l' : List Int} (p : l'.Perm l) (s : l'.Pairwise (· ≤ ·)) : l' = sortI l :=
  (p.trans (sortI_perm l).symm).eq_of_pairwise (fun a b _ _ h1 h2 => Int.le_antisymm h1 h2) s (sortI_srt l)
end MN
namespace SrtO
open PySem PyProof.Rows Srt TS
section
variable {prog : Program} {w : World} {A : Around} {E : Value → Shared → Prop} {s : Shared}
theorem collect_tuple {l : Addr} {vs : List Value} {Q : List Value → Shared → Prop} (hl : IsTup s.heap l vs.toArray)
    (h : Q vs { s with heap := (s.heap.push (seqObj "list" #[] 0)).update s.heap.objs.size (Obj.mapSeq (· ++ vs.toArray)) }) (hsz : vs.length ≤ sizeLine := by size_fits) :
    wpAny (model prog w) A (collect (.ref l)) Q E s := by
  obtain ⟨o, ho, hc, n, hd⟩ := id hl
  unfold collect
  refine wpAny_bind (wpAny_runValue (codeAny_builtin entry_proto_collect' ?_))
  show wpAny _ _ (do again (.builtin "list.__iadd__" ⟨[← newList [], .ref l], []⟩)) _ _ s
  refine wpAny_bind (wpAny_newList (wpAny_pure ⟨Code.quiet_builtin _ (by decide +kernel), codeAny_builtin entry_list_iadd' ?_⟩))
  show wpAny _ _ (Builtin.List.listExtendWith (.ref s.heap.objs.size) (.ref l) (.ref s.heap.objs.size)) _ _ { s with heap := s.heap.push (seqObj "list" #[] 0) }
  unfold Builtin.List.listExtendWith
  have ho' : (s.heap.push (seqObj "list" #[] 0)).get? l = some o := Heap.get?_push_of_some _ ho
  refine wpAny_bind (wpAny_typeOf (T := "tuple") ⟨o, ho', hc⟩ ?_)
  have ht : (Value.type "tuple" == Value.type "tuple") = true := by rfl
  rw [if_pos (by rw [ht]; simp)]
  refine wpAny_bind (listItems_at ho' hd ?_)
  refine wpAny_bind (listItems_at (xs := #[]) (n := 0) (Heap.get?_push_size _ rfl) rfl ?_)
  rw [if_neg (by simp)]
  refine wpAny_bind (listUpdate_at (xs := #[]) (n := 0) (Heap.get?_push_size _ rfl) rfl ?_ (Nat.zero_le _) (by show (#[] ++ vs.toArray).size ≤ sizeLine + 1; simp only [Array.size_append, List.size_toArray, List.length_nil]; omega))
  refine wpAny_pure ?_
  show wpAny (model prog w) A (do
      let o ← load s.heap.objs.size
      match o.data with
      | .seq xs _ => pure xs.toList
      | _ => unsupported "internal:collect") Q E { s with heap := (s.heap.push (seqObj "list" #[] 0)).update s.heap.objs.size (Obj.mapSeq (· ++ vs.toArray)) }
  refine wpAny_bind (wpAny_load (get?_update_seq (Heap.get?_push_size _ rfl) _) ?_)
  show wpAny _ _ (pure ((#[] : Array Value) ++ vs.toArray).toList) Q E _
  rw [show ((#[] : Array Value) ++ vs.toArray).toList = vs by simp]
  exact wpAny_pure h
theorem sorted_ordT {l : Addr} {vs : List Value} {ltv : Value → Value → Bool} {Q : Value → Shared → Prop} (O : Swo ltv) (hl : IsTup s.heap l vs.toArray) (hz : vs.length ≤ sizeLine)
    (hS : 2 ≤ vs.length → ∀ (h₁ : Heap) (a : Addr), h₁.get? a = some (seqObj "list" vs.toArray 0) → (∀ b o, s.heap.get? b = some o → b ≠ a ∧ h₁.get? b = some o) → SortableO prog w A.in1.in1 { s with heap := h₁ } a vs ltv)
    (h : ∀ out : List Value, Srtd ltv out → Stb ltv out vs → Q (.ref (s.heap.objs.size + 1)) { s with heap := sortedAll s.heap vs out.toArray }) :
    wpAny (model prog w) A (call (.builtin "sorted") [.ref l]) Q E s := by
  refine Calls.call_function_entry kind_sorted plain_sorted entry_sorted (args_sorted1 _) ?_
  unfold Builtin.«sorted»
  refine wpAny_bind (m := checkCount "sorted" 1 1 _) (wpAny_pure ?_)
  refine wpAny_bind (collect_tuple hl ?_ hz)
  refine wpAny_bind (wpAny_newList ?_ hz)
  have hsz : ((s.heap.push (seqObj "list" #[] 0)).update s.heap.objs.size (Obj.mapSeq (· ++ vs.toArray))).objs.size = s.heap.objs.size + 1 := by
    rw [Heap.size_update, size_push']
  have hoL : (((s.heap.push (seqObj "list" #[] 0)).update s.heap.objs.size (Obj.mapSeq (· ++ vs.toArray))).push (seqObj "list" vs.toArray 0)).get? (s.heap.objs.size + 1) = some (seqObj "list" vs.toArray 0) := by
    rw [← hsz]; exact Heap.get?_push_size _ rfl
  have keep : ∀ b o, s.heap.get? b = some o → b ≠ s.heap.objs.size + 1 ∧ (((s.heap.push (seqObj "list" #[] 0)).update s.heap.objs.size (Obj.mapSeq (· ++ vs.toArray))).push (seqObj "list" vs.toArray 0)).get? b = some o := fun b o q => by
    have hlt : b < s.heap.objs.size := Heap.lt_size q
    refine ⟨Nat.ne_of_lt (Nat.lt_succ_of_lt hlt), Heap.get?_push_of_some _ ?_⟩
    rw [Heap.get?_update_ne _ _ _ _ (Nat.ne_of_lt hlt)]
    exact Heap.get?_push_of_some _ q
  show wpAny _ _ _ _ _ { s with heap := ((s.heap.push (seqObj "list" #[] 0)).update s.heap.objs.size (Obj.mapSeq (· ++ vs.toArray))).push (seqObj "list" vs.toArray 0) }
  rw [hsz]
  refine wpAny_bind (wpAny_holding (wpAny_call_entry slot_list_sort ⟨_, hoL, rfl⟩ entry_list_sort (list_sort_ord O hoL hz (fun h2 => hS h2 _ _ hoL keep) fun out hs hb => ⟨_, rfl, ?_⟩) (args_list_sort _)))
  exact wpAny_pure ⟨_, rfl, h out hs hb⟩
/-- lexicographic, any lengths -/
theorem lex_any {b fin : Bool} {Q : Bool → Shared → Prop} {xs ys : List Value} {ns ms : List Int} (i : Nat) (hx : IntsAre xs ns) (hy : IntsAre ys ms) (hf : fin = decide (ns.length < ms.length))
    (h : Q (MN.ltI ns ms) s) : PySem.W.KatLex prog w A b fin Q (xs.zip ys) i s := by
  induction hx generalizing ys ms i with
  | nil =>
    cases hy with
    | nil =>
      refine PySem.W.kat_nil ?_
      subst hf
      simpa [MN.ltI, MN.leI] using h
    | cons q u hy =>
      refine PySem.W.kat_nil ?_
      subst hf
      simpa [MN.ltI, MN.leI] using h
  | @cons p t xs ns hx ih =>
    cases hy with
    | nil =>
      refine PySem.W.kat_nil ?_
      subst hf
      simpa [MN.ltI, MN.leI] using h
    | @cons q u ys ms hy =>
      show PySem.W.KatLex prog w A b fin Q ((Value.int p t, Value.int q u) :: xs.zip ys) i s
      refine PySem.W.kat_cons (wpAny_eqBool_int ?_)
      by_cases e : p = q
      · subst e
        rw [beq_self_eq_true]
        refine PySem.W.kat_yes (ih (i + 1) hy (by subst hf; simp) ?_)
        have e2 : MN.ltI (p :: ns) (p :: ms) = MN.ltI ns ms := by
          unfold MN.ltI
          rw [MN.leI, if_pos rfl]
        rw [← e2]; exact h
      · rw [show (p == q) = false from beq_eq_false_iff_ne.mpr e]
        refine PySem.W.kat_no (oneLt_ints _ ?_)
        have d : MN.ltI (p :: ns) (q :: ms) = decide (p < q) := by
          unfold MN.ltI
          rw [MN.leI, if_neg (Ne.symm e)]
          by_cases h' : p < q
          · rw [decide_eq_true h', decide_eq_false (by omega)]; rfl
          · rw [decide_eq_false h', decide_eq_true (by omega)]; rfl
        rw [← d]
        exact h
theorem swo_tup (k : Value → List Int) : Swo fun v u => MN.ltI (k v) (k u) := by
  refine ⟨fun x y h => ?_, fun x y z h1 h2 => ?_⟩
  · unfold MN.ltI at h ⊢
    have h' : MN.leI (k y) (k x) = false := by simpa using h
    rcases MN.leI_total (k x) (k y) with q | q
    · rw [q]; rfl
    · rw [q] at h'; cases h'
  · unfold MN.ltI at h1 h2 ⊢
    have h1' : MN.leI (k x) (k y) = true := by simpa using h1
    have h2' : MN.leI (k y) (k z) = true := by simpa using h2
    rw [MN.leI_trans _ _ _ h1' h2']; rfl
/-- tuples of ints, none of them empty -/
def TupsNe (h : Heap) (vs : List Value) : Prop := ∀ v, v ∈ vs → ∃ n ns, TupInts h v (n :: ns)
theorem TupsNe.keeps {h h' : Heap} {vs : List Value} (x : TupsNe h vs) (k : ∀ b o, h.get? b = some o → o.cls = .type "tuple" → h'.get? b = some o) : TupsNe h' vs := fun v hv =>
  let ⟨n, ns, t⟩ := x v hv; ⟨n, ns, t.keeps k⟩
theorem firsts_ne {h : Heap} : ∀ vs : List Value, TupsNe h vs → ∃ fs, PySem.W.KatTups h vs fs ∧ fs.length = vs.length ∧ ∀ f, f ∈ fs → ∃ n t, f = Value.int n t
  | [], _ => ⟨[], PySem.W.KatTups.nil, rfl, fun f hf => by simp at hf⟩
  | v :: vs, x => by
    obtain ⟨fs, k, hl, hi⟩ := firsts_ne vs fun u hu => x u (List.mem_cons_of_mem _ hu)
    obtain ⟨n0, ns, ⟨a, xs, rfl, ⟨o, ho, hc, n, hdt⟩, i⟩⟩ := x v (List.mem_cons_self ..)
    obtain ⟨y, ys, e⟩ : ∃ y ys, xs.toList = y :: ys := by
      cases q : xs.toList with
      | nil =>
        rw [q] at i
        cases i
      | cons y ys => exact ⟨y, ys, rfl⟩
    obtain ⟨m, t, hy⟩ := i.all y (by rw [e]; exact List.mem_cons_self ..)
    refine ⟨y :: fs, PySem.W.KatTups.cons ho hc hdt ?_ k, by simp [hl], ?_⟩
    · have z := congrArg (fun l : List Value => l[0]?) e
      simpa using z
    · intro f hf
      rcases List.mem_cons.mp hf with rfl | hf
      · exact ⟨m, t, hy⟩
      · exact hi f hf
theorem tups_cmp {vs : List Value} {k : Value → List Int} (x : ∀ v ∈ vs, TupInts s.heap v (k v)) : Cmp prog w A s (tuples' true) (fun p => p.1 ∈ vs) (lt2 fun v u => MN.ltI (k v) (k u)) := by
  intro p q hm hm'
  have h1 := x _ hm
  have h2 := x _ hm'
  show wpAny (model prog w) A (keyLt' (tuples' true) p.1 q.1) (fun r s' => s' = s ∧ r = MN.ltI (k p.1) (k q.1)) (fun _ _ => False) s
  generalize k p.1 = ns at h1 ⊢
  generalize k q.1 = ms at h2 ⊢
  obtain ⟨a, xs, e1, ⟨o, ho, hc, n, hdt⟩, i⟩ := h1
  obtain ⟨a', ys, e2, ⟨o', ho', hc', n', hdt'⟩, i'⟩ := h2
  rw [e1, e2]
  refine PySem.W.kat_lt ho hdt ho' hdt' ?_
  refine lex_any 0 i i' ?_ ⟨rfl, rfl⟩
  have l1 := i.length
  have l2 := i'.length
  rw [Array.length_toList] at l1 l2
  rw [l1, l2]
theorem tups_sortable {a : Addr} {vs : List Value} {k : Value → List Int} (h0 : 0 < vs.length) (x : ∀ v ∈ vs, TupInts s.heap v (k v)) (ne : ∀ v ∈ vs, k v ≠ []) (ha : ∀ o, s.heap.get? a = some o → o.cls ≠ .type "tuple") : SortableO prog w A s a vs fun v u => MN.ltI (k v) (k u) := by
  intro h' keep
  have x' : ∀ v ∈ vs, TupInts h' v (k v) := fun v hm => (x v hm).keeps fun b o e c => keep b o (fun z => by subst z; exact ha o e c) e
  obtain ⟨fs, h1, h2, h3⟩ := firsts_ne (h := h') vs fun v hm => by
    have q := x' v hm
    cases e : k v with
    | nil => exact absurd e (ne v hm)
    | cons n ns => rw [e] at q; exact ⟨n, ns, q⟩
  refine ⟨tuples' true, fun Q E hq => ?_, tups_cmp x'⟩
  refine PySem.W.kat_kind (T := .type "int") h1 (by omega) (fun f hm => ?_) (by rfl) ?_
  · obtain ⟨y, t, rfl⟩ := h3 f hm
    exact PySem.W.Looks.now
  · have e : (Value.type "int" != Value.type "tuple") = true := by first | decide +kernel | rfl | decide
    rw [e]
    exact hq
end
end SrtO
namespace L2
open PySem PySem.Spec PyProof.Rows
/-- a list, a tuple -/
def SqE (K : PySem.W.Frag) (H : Hp) (a : Addr) (xs : List V) : Prop := SqL K H a xs ∨ SqT K H a xs
/-- sorted(xs), ints -/
def rSrtI (K : PySem.W.Frag) : List V → Hp → VK → Prop := fun vs H Q => ∃ (a : Addr) (ns : List Int), vs = [V.ref a] ∧ SqE K H a (ns.map V.int) ∧
  ∀ (ns' : List Int) (p : Addr), ns'.Perm ns → ns'.Pairwise (· ≤ ·) → H p = none → Q (.ref p) (upd H p (.lst (ns'.map V.int)))
/-- sorted(xs), tuples of ints -/
def rSrtT (K : PySem.W.Frag) : List V → Hp → VK → Prop := fun vs H Q => ∃ (a : Addr) (xs : List V) (k : V → List Int), vs = [V.ref a] ∧ SqE K H a xs ∧ (∀ x ∈ xs, k x ≠ [] ∧ TupI K H x (k x)) ∧
  ∀ (ys : List V) (p : Addr), ys.Perm xs → ys.Pairwise (fun x y => MN.leI (k x) (k y) = true) → H p = none → Q (.ref p) (upd H p (.lst ys))
section
variable {X : Cx}
theorem cr_srtI : CallR X (.builtin "sorted") (rSrtI X.K) := by
  intro pins s σ H vs us Q I r h
  obtain ⟨a, ns, rfl, hs, q⟩ := h
  rcases hs with hs | hs
  · exact cr_sortedI pins s σ H _ us Q I r ⟨a, ns, rfl, hs, q⟩
  · obtain ⟨its, rv, hl, hz⟩ := I.tuple hs
    rw [Vals.ref1 r]
    have hi := rv.ints
    refine SrtO.sorted_ordT SrtO.swo_int hl (by rw [← rv.length]; exact hz) (fun h2 h₁ a' _ _ => SrtO.ints_sortable hi h2) fun out h1 h2 => ?_
    obtain ⟨k1, k2, k3⟩ := SrtO.ints_out hi h1 h2
    obtain ⟨ep, he'⟩ := PyProof.Rows.sortedAll_at s.heap its out.toArray
    have hlen : ((out.map SrtO.iv).map V.int).length ≤ sizeLine := by
      rw [List.length_map, k2.length_eq]
      rw [List.length_map] at hz
      exact hz
    exact ⟨.ref _, upd H (s.heap.objs.size + 1) (.lst ((out.map SrtO.iv).map V.int)), I.laid (t' := s.toks) (fun _ _ => PyProof.Rows.sortedAll_old) (Nat.le_succ _) ⟨hlen, out, ep, vals_of_ints k1, he'⟩, rfl, q _ _ k2 k3 (I.hok.fresh (Nat.le_succ _))⟩
theorem cr_srtT : CallR X (.builtin "sorted") (rSrtT X.K) := by
  intro pins s σ H vs us Q I r h
  obtain ⟨a, xs, k, rfl, hs, hx, q⟩ := h
  rw [Vals.ref1 r]
  obtain ⟨its, rv, hz, hl⟩ : ∃ its, Vals xs its ∧ xs.length ≤ sizeLine ∧ (s.heap.IsList a its.toArray ∨ IsTup s.heap a its.toArray) := by
    rcases hs with hs | hs
    · obtain ⟨its, rv, hl, hz⟩ := I.list hs; exact ⟨its, rv, hz, .inl hl.isList⟩
    · obtain ⟨its, rv, hl, hz⟩ := I.tuple hs; exact ⟨its, rv, hz, .inr hl⟩
  obtain ⟨e1, e2⟩ := bkV_refs rv fun x m => by
    obtain ⟨_, t, e, _⟩ := hx x m
    exact ⟨t, e⟩
  let kv : Value → List Int := fun v => k (bkV v)
  have hmem : ∀ v ∈ its, bkV v ∈ xs := fun v hv => by rw [e1]; exact List.mem_map.mpr ⟨_, hv, rfl⟩
  have tk : ∀ v ∈ its, TS.TupInts s.heap v (kv v) := fun v hv => by
    obtain ⟨_, t, e, ht⟩ := hx _ (hmem v hv)
    rw [bkV_ref e]
    have : kv (Value.ref t) = k (bkV v) := by rw [bkV_ref e]
    rw [this]
    exact tupI_raw I ht
  have hS : 2 ≤ its.length → ∀ (h₁ : Heap) (a : Addr), h₁.get? a = some (seqObj "list" its.toArray 0) → (∀ b o, s.heap.get? b = some o → b ≠ a ∧ h₁.get? b = some o) → SrtO.SortableO X.prog X.w X.A.in1.in1 { s with heap := h₁ } a its (fun v u => MN.ltI (kv v) (kv u)) := fun h2 h₁ a' ha kk => by
    refine SrtO.tups_sortable (s := { s with heap := h₁ }) (by omega) (fun v hm => (tk v hm).keeps fun b o e _ => (kk b o e).2) (fun v hm => (hx _ (hmem v hm)).1) fun o e => ?_
    have e' : some o = some (seqObj "list" its.toArray 0) := e.symm.trans ha
    cases e'
    intro c
    exact absurd (Value.type.inj c) (by decide)
  have fin : ∀ out : List Value, SrtO.Srtd (fun v u => MN.ltI (kv v) (kv u)) out → SrtO.Stb (fun v u => MN.ltI (kv v) (kv u)) out its → EP X pins σ Q (.ref (s.heap.objs.size + 1)) { s with heap := sortedAll s.heap its out.toArray } := fun out h1 h2 => by
    obtain ⟨ep, he'⟩ := PyProof.Rows.sortedAll_at s.heap its out.toArray
    have hperm := h2.perm
    have h3 : ∀ u ∈ out, ∃ a, u = Value.ref a := fun u hu => e2 u (hperm.mem_iff.mp hu)
    have hp : (out.map bkV).Perm xs := by
      rw [e1]
      exact hperm.map bkV
    have hlen : (out.map bkV).length ≤ sizeLine := by
      rw [hp.length_eq]
      exact hz
    refine ⟨.ref _, upd H (s.heap.objs.size + 1) (.lst (out.map bkV)), I.laid (t' := s.toks) (fun _ _ => PyProof.Rows.sortedAll_old) (Nat.le_succ _) ⟨hlen, out, ep, bkV_vals h3, he'⟩, rfl, q _ _ hp ?_ (I.hok.fresh (Nat.le_succ _))⟩
    rw [List.pairwise_map]
    refine List.Pairwise.imp (fun {u v} huv => ?_) h1
    have huv : MN.ltI (kv v) (kv u) = false := huv
    unfold MN.ltI at huv
    simpa using huv
  rcases hl with hl | hl
  · exact SrtO.sorted_ord (SrtO.swo_tup kv) hl (by rw [← rv.length]; exact hz) hS fin
  · exact SrtO.sorted_ordT (SrtO.swo_tup kv) hl (by rw [← rv.length]; exact hz) hS fin
end
end L2

/-! ### tuples of tuples of ints; one item -/
namespace MN
theorem leN_refl : ∀ a : List (List Int), leN a a = true
  | [] => rfl
  | x :: xs => by unfold leN; rw [if_pos rfl]; exact leN_refl xs
theorem leN_total : ∀ a b : List (List Int), leN a b = true ∨ leN b a = true
  | [], b => .inl rfl
  | x :: xs, [] => .inr rfl
  | x :: xs, y :: ys => by
    unfold leN
    by_cases e : x = y
    · subst e; rw [if_pos rfl, if_pos rfl]; exact leN_total xs ys
    · rw [if_neg e, if_neg (Ne.symm e)]
      exact leI_total x y
theorem leN_trans : ∀ a b c : List (List Int), leN a b = true → leN b c = true → leN a c = true
  | [], _, _, _, _ => rfl
  | x :: xs, [], _, h, _ => by simp [leN] at h
  | x :: xs, y :: ys, [], _, h => by simp [leN] at h
  | x :: xs, y :: ys, z :: zs, h1, h2 => by
    unfold leN at h1 h2 ⊢
    by_cases e : x = y
    · subst e
      rw [if_pos rfl] at h1
      by_cases e2 : x = z
      · subst e2
        rw [if_pos rfl] at h2 ⊢
        exact leN_trans xs ys zs h1 h2
      · rw [if_neg e2] at h2 ⊢; exact h2
    · rw [if_neg e] at h1
      by_cases e2 : y = z
      · subst e2
        rw [if_neg e]
        exact h1
      · rw [if_neg e2] at h2
        by_cases e3 : x = z
        · subst e3
          exact absurd (leI_anti _ _ h1 h2) e
        · rw [if_neg e3]
          exact leI_trans _ _ _ h1 h2
theorem leN_anti : ∀ a b : List (List Int), leN a b = true → leN b a = true → a = b
  | [], [], _, _ => rfl
  | [], _ :: _, _, h => by simp [leN] at h
  | _ :: _, [], h, _ => by simp [leN] at h
  | x :: xs, y :: ys, h1, h2 => by
    unfold leN at h1 h2
    by_cases e : x = y
    · subst e
      rw [if_pos rfl] at h1 h2
      rw [leN_anti xs ys h1 h2]
    · rw [if_neg e] at h1
      rw [if_neg (Ne.symm e)] at h2
      exact absurd (leI_anti _ _ h1 h2) e
def ltN (a b : List (List Int)) : Bool := !leN b a
theorem insN_perm (x : List (List Int)) : ∀ l, (insN x l).Perm (x :: l)
  | [] => .refl _
  | y :: ys => by
    unfold insN
    split
    · exact .refl _
    · exact ((insN_perm x ys).cons y).trans (.swap x y ys)
theorem sortN_perm : ∀ l, (sortN l).Perm l
  | [] => .refl _
  | x :: xs => (insN_perm x _).trans ((sortN_perm xs).cons x)
theorem insN_srt (x : List (List Int)) : ∀ l, l.Pairwise (fun a b => leN a b = true) → (insN x l).Pairwise (fun a b => leN a b = true)
  | [], _ => List.pairwise_singleton _ _
  | y :: ys, h => by
    unfold insN
    rw [List.pairwise_cons] at h
    by_cases e : leN x y = true
    · rw [if_pos e]
      refine List.pairwise_cons.mpr ⟨fun z hz => ?_, List.pairwise_cons.mpr h⟩
      rcases List.mem_cons.mp hz with rfl | hz
      · exact e
      · exact leN_trans _ _ _ e (h.1 z hz)
    · rw [if_neg e]
      refine List.pairwise_cons.mpr ⟨fun z hz => ?_, insN_srt x ys h.2⟩
      rcases List.mem_cons.mp ((insN_perm x ys).mem_iff.mp hz) with rfl | hz
      · rcases leN_total z y with q | q
        · exact absurd q e
        · exact q
      · exact h.1 z hz
theorem sortN_srt : ∀ l, (sortN l).Pairwise (fun a b => leN a b = true)
  | [] => .nil
  | x :: xs => insN_srt x _ (sortN_srt xs)
theorem sortN_eq {l l' : List (List (List Int))} (p : l'.Perm l) (s : l'.Pairwise (fun a b => leN a b = true)) : l' = sortN l :=
  (p.trans (sortN_perm l).symm).eq_of_pairwise (fun a b _ _ h1 h2 => leN_anti a b h1 h2) s (sortN_srt l)
end MN
namespace SrtO
open PySem PyProof.Rows Srt TS PySem.W
section
variable {prog : Program} {w : World} {A : Around} {E : Value → Shared → Prop} {s : Shared}
abbrev legT (n : List Int) : Tup Int := ⟨n⟩
abbrev netT (ns : List (List Int)) : Tup (Tup Int) := ⟨ns.map legT⟩
theorem lt_leg : ∀ a b : List Int, DatumOrd.lt (legT a) (legT b) = MN.ltI a b
  | [], [] => rfl
  | [], y :: ys => rfl
  | x :: xs, [] => rfl
  | x :: xs, y :: ys => by
    have ih := lt_leg xs ys
    show (if x = y then listLt xs ys else decide (x < y)) = !(if y = x then MN.leI ys xs else decide (y < x))
    by_cases e : x = y
    · subst e
      rw [if_pos rfl, if_pos rfl]
      exact ih
    · rw [if_neg e, if_neg (Ne.symm e)]
      by_cases h : x < y
      · rw [decide_eq_true h, decide_eq_false (by omega)]; rfl
      · rw [decide_eq_false h, decide_eq_true (by omega)]; rfl
theorem lay_leg (n : List Int) : (Datum.toD (legT n)).canLay0 = true := by
  show (PyData.tuple (n.map Datum.toD)).canLay0 = true
  simp only [PyData.canLay0]
  induction n with
  | nil => simp [PyData.canLayAll0]
  | cons a n ih =>
    rw [List.map_cons]
    simp only [PyData.canLayAll0, ih, Bool.and_true]
    show (PyData.int a).canLay0 = true
    simp [PyData.canLay0]
theorem lex_net {fin : Bool} {Q : Bool → Shared → Prop} (hu : A.units + 10 < cLine) : ∀ {ns ms : List (List Int)} {xs ys : List Value} {as bs : List Addr} (i : Nat), ReadsAll s.heap xs ((ns.map legT).map Datum.toD) as → ReadsAll s.heap ys ((ms.map legT).map Datum.toD) bs →
    fin = decide (ns.length < ms.length) → Q (MN.ltN ns ms) s → PySem.W.KatLex prog w A false fin Q (xs.zip ys) i s
  | [], ms, xs, ys, as, bs, i, hx, hy, hf, h => by
    cases hx
    refine PySem.W.kat_nil ?_
    subst hf
    cases ms with
    | nil => simpa [MN.ltN, MN.leN] using h
    | cons m ms => simpa [MN.ltN, MN.leN] using h
  | n :: ns, [], xs, ys, as, bs, i, hx, hy, hf, h => by
    cases hy
    rw [List.zip_nil_right]
    refine PySem.W.kat_nil ?_
    subst hf
    simpa [MN.ltN, MN.leN] using h
  | n :: ns, m :: ms, xs, ys, as, bs, i, hx, hy, hf, h => by
    have hx : ReadsAll s.heap xs (Datum.toD (legT n) :: (ns.map legT).map Datum.toD) as := hx
    have hy : ReadsAll s.heap ys (Datum.toD (legT m) :: (ms.map legT).map Datum.toD) bs := hy
    cases hx with
    | cons r1 r1s =>
      cases hy with
      | cons r2 r2s =>
        rename_i p xs a1 as' q ys b1 bs'
        show PySem.W.KatLex prog w A false fin Q ((p, q) :: xs.zip ys) i s
        have d1 : (Datum.toD (legT n)).depth ≤ 1 := Datum.depth_le (legT n)
        refine PySem.W.kat_cons (SeqAt.eqAt_reads _ _ A s p q _ _ r1 r2 (lay_leg n) (lay_leg m) (by have := Nat.min_le_left (Datum.toD (legT n)).depth (Datum.toD (legT m)).depth; omega) prog w _ _ ?_)
        rw [Datum.eqv]
        by_cases e : n = m
        · subst e
          rw [decide_eq_true rfl]
          refine PySem.W.kat_yes (lex_net hu (i + 1) r1s r2s (by subst hf; simp) ?_)
          have e2 : MN.ltN (n :: ns) (n :: ms) = MN.ltN ns ms := by
            unfold MN.ltN
            rw [MN.leN, if_pos rfl]
          rw [← e2]; exact h
        · rw [decide_eq_false fun z => e (Tup.mk.inj z)]
          refine PySem.W.kat_no ?_
          rw [Bool.false_and]
          have g : DatumOrd.lt (legT n) (legT m) = MN.ltN (n :: ns) (m :: ms) := by
            rw [lt_leg]
            unfold MN.ltN MN.ltI
            rw [MN.leN, if_neg (Ne.symm e)]
          exact PySem.W.kat_one p q (lt_datum (x := legT n) (y := legT m) ⟨_, r1⟩ ⟨_, r2⟩ (by show A.units + 1 < cLine; omega) (by
            show Q _ s
            rw [g]; exact h))
theorem swo_net (k : Value → List (List Int)) : Swo fun v u => MN.ltN (k v) (k u) := by
  refine ⟨fun x y h => ?_, fun x y z h1 h2 => ?_⟩
  · unfold MN.ltN at h ⊢
    have h' : MN.leN (k y) (k x) = false := by simpa using h
    rcases MN.leN_total (k x) (k y) with q | q
    · rw [q]; rfl
    · rw [q] at h'; cases h'
  · unfold MN.ltN at h1 h2 ⊢
    have h1' : MN.leN (k x) (k y) = true := by simpa using h1
    have h2' : MN.leN (k y) (k z) = true := by simpa using h2
    rw [MN.leN_trans _ _ _ h1' h2']; rfl
theorem nets_cmp {vs : List Value} {k : Value → List (List Int)} (hu : A.units + 10 < cLine) (x : ∀ v ∈ vs, Holds s.heap v (netT (k v))) : Cmp prog w A s (tuples' false) (fun p => p.1 ∈ vs) (lt2 fun v u => MN.ltN (k v) (k u)) := by
  intro p q hm hm'
  obtain ⟨as, h1⟩ := x _ hm
  obtain ⟨bs, h2⟩ := x _ hm'
  show wpAny (model prog w) A (keyLt' (tuples' false) p.1 q.1) (fun r s' => s' = s ∧ r = MN.ltN (k p.1) (k q.1)) (fun _ _ => False) s
  generalize k p.1 = ns at h1 ⊢
  generalize k q.1 = ms at h2 ⊢
  generalize p.1 = a at h1 ⊢
  generalize q.1 = b at h2 ⊢
  have h1 : Reads s.heap a (.tuple ((ns.map legT).map Datum.toD)) as := h1
  have h2 : Reads s.heap b (.tuple ((ms.map legT).map Datum.toD)) bs := h2
  cases h1 with
  | tuple ho hc hd hr =>
    cases h2 with
    | tuple ho' hc' hd' hr' =>
      refine PySem.W.kat_lt ho hd ho' hd' ?_
      refine lex_net hu 0 hr hr' ?_ ⟨rfl, rfl⟩
      have l1 := SeqAt.ReadsAll.length _ _ _ hr
      have l2 := SeqAt.ReadsAll.length _ _ _ hr'
      rw [Array.length_toList, List.length_map, List.length_map] at l1 l2
      rw [l1, l2]
theorem firsts_net {h : Heap} {k : Value → List (List Int)} : ∀ vs : List Value, (∀ v ∈ vs, Holds h v (netT (k v)) ∧ k v ≠ []) → ∃ fs, PySem.W.KatTups h vs fs ∧ fs.length = vs.length ∧ ∀ f ∈ fs, ∃ a o, f = Value.ref a ∧ h.get? a = some o ∧ o.cls = .type "tuple"
  | [], _ => ⟨[], PySem.W.KatTups.nil, rfl, fun f hf => by simp at hf⟩
  | v :: vs, x => by
    obtain ⟨fs, g1, g2, g3⟩ := firsts_net vs fun u hu => x u (List.mem_cons_of_mem _ hu)
    obtain ⟨⟨as, hv⟩, ne⟩ := x v (List.mem_cons_self ..)
    generalize k v = ns at hv ne
    have hv : Reads h v (.tuple ((ns.map legT).map Datum.toD)) as := hv
    cases ns with
    | nil => exact absurd rfl ne
    | cons n ns =>
      cases hv with
      | @tuple b o its c _ _ ho hc hd hr =>
        have hr : ReadsAll h its.toList (Datum.toD (legT n) :: (ns.map legT).map Datum.toD) _ := hr
        generalize el : its.toList = l at hr
        cases hr with
        | cons r1 rs =>
          rename_i p xs a1 as2
          have hp : its[0]? = some p := by
            have z := congrArg (fun l : List Value => l[0]?) el
            simpa using z
          have r1 : Reads h p (.tuple (n.map Datum.toD)) a1 := r1
          cases r1 with
          | tuple ho2 hc2 hd2 hr2 =>
            refine ⟨_ :: fs, PySem.W.KatTups.cons ho hc hd hp g1, by simp [g2], fun f hf => ?_⟩
            rcases List.mem_cons.mp hf with rfl | hf
            · exact ⟨_, _, rfl, ho2, hc2⟩
            · exact g3 f hf
theorem nets_sortable {a : Addr} {vs : List Value} {k : Value → List (List Int)} (hu : A.units + 10 < cLine) (h0 : 0 < vs.length) (x : ∀ v ∈ vs, Holds s.heap v (netT (k v))) (ne : ∀ v ∈ vs, k v ≠ []) (kp : ∀ h' : Heap, (∀ b o, b ≠ a → s.heap.get? b = some o → h'.get? b = some o) → ∀ v ∈ vs, Holds h' v (netT (k v))) : SortableO prog w A s a vs fun v u => MN.ltN (k v) (k u) := by
  intro h' keep
  have x' := kp h' keep
  obtain ⟨fs, h1, h2, h3⟩ := firsts_net (h := h') vs fun v hm => ⟨x' v hm, ne v hm⟩
  refine ⟨tuples' false, fun Q E hq => ?_, nets_cmp hu x'⟩
  refine PySem.W.kat_kind (T := .type "tuple") h1 (by omega) (fun f hm => ?_) (by rfl) ?_
  · obtain ⟨b, o, rfl, hb, hc⟩ := h3 f hm
    exact fun A Q E s k q => wpAny_typeOf (T := "tuple") ⟨o, k _ _ hb, hc⟩ q
  · have e : (Value.type "tuple" != Value.type "tuple") = false := by first | decide +kernel | rfl | decide
    rw [e]
    exact hq
theorem swo_no : Swo fun (_ _ : Value) => false := ⟨fun _ _ h => (by cases h), fun _ _ _ _ _ => rfl⟩
end
end SrtO

namespace L2
open PySem PySem.Spec PyProof.Rows
/-- sorted(xs): at most one item -/
def rSrt1 (K : PySem.W.Frag) : List V → Hp → VK → Prop := fun vs H Q => ∃ (a : Addr) (xs : List V), vs = [V.ref a] ∧ SqE K H a xs ∧ xs.length ≤ 1 ∧ ∀ p : Addr, H p = none → Q (.ref p) (upd H p (.lst xs))
/-- sorted(xs), tuples of tuples of ints -/
def rSrtN (K : PySem.W.Frag) : List V → Hp → VK → Prop := fun vs H Q => ∃ (a : Addr) (xs : List V) (k : V → List (List Int)), vs = [V.ref a] ∧ SqE K H a xs ∧ (∀ x ∈ xs, (∃ t, x = .ref t) ∧ k x ≠ [] ∧ Dp K H x (PySem.W.Datum.toD (SrtO.netT (k x)))) ∧
  ∀ (ys : List V) (p : Addr), ys.Perm xs → ys.Pairwise (fun x y => MN.leN (k x) (k y) = true) → H p = none → Q (.ref p) (upd H p (.lst ys))
section
variable {X : Cx}
theorem perm_short {α : Type} {l l' : List α} (h : l.Perm l') (hl : l'.length ≤ 1) : l = l' := by
  match l', hl with
  | [], _ => exact h.eq_nil
  | [a], _ => exact h.eq_singleton
theorem cr_srt1 : CallR X (.builtin "sorted") (rSrt1 X.K) := by
  intro pins s σ H vs us Q I r h
  obtain ⟨a, xs, rfl, hs, hl1, q⟩ := h
  rw [Vals.ref1 r]
  obtain ⟨its, rv, hz, hl⟩ : ∃ its, Vals xs its ∧ xs.length ≤ sizeLine ∧ (s.heap.IsList a its.toArray ∨ IsTup s.heap a its.toArray) := by
    rcases hs with hs | hs
    · obtain ⟨its, rv, hl, hz⟩ := I.list hs; exact ⟨its, rv, hz, .inl hl.isList⟩
    · obtain ⟨its, rv, hl, hz⟩ := I.tuple hs; exact ⟨its, rv, hz, .inr hl⟩
  have len := rv.length
  have fin : ∀ out : List Value, SrtO.Srtd (fun _ _ => false) out → SrtO.Stb (fun _ _ => false) out its → EP X pins σ Q (.ref (s.heap.objs.size + 1)) { s with heap := sortedAll s.heap its out.toArray } := fun out h1 h2 => by
    obtain ⟨ep, he'⟩ := PyProof.Rows.sortedAll_at s.heap its out.toArray
    have e := perm_short h2.perm (by omega)
    subst e
    exact ⟨.ref _, upd H (s.heap.objs.size + 1) (.lst xs), I.laid (t' := s.toks) (fun _ _ => PyProof.Rows.sortedAll_old) (Nat.le_succ _) ⟨hz, out, ep, rv, he'⟩, rfl, q _ (I.hok.fresh (Nat.le_succ _))⟩
  rcases hl with hl | hl
  · exact SrtO.sorted_ord SrtO.swo_no hl (by omega) (fun h2 => by omega) fin
  · exact SrtO.sorted_ordT SrtO.swo_no hl (by omega) (fun h2 => by omega) fin
theorem cr_srtN (hu : X.A.units + 65 < cLine) : CallR X (.builtin "sorted") (rSrtN X.K) := by
  intro pins s σ H vs us Q I r h
  obtain ⟨a, xs, k, rfl, hs, hx, q⟩ := h
  rw [Vals.ref1 r]
  obtain ⟨its, rv, hz, hl⟩ : ∃ its, Vals xs its ∧ xs.length ≤ sizeLine ∧ (s.heap.IsList a its.toArray ∨ IsTup s.heap a its.toArray) := by
    rcases hs with hs | hs
    · obtain ⟨its, rv, hl, hz⟩ := I.list hs; exact ⟨its, rv, hz, .inl hl.isList⟩
    · obtain ⟨its, rv, hl, hz⟩ := I.tuple hs; exact ⟨its, rv, hz, .inr hl⟩
  obtain ⟨e1, e2⟩ := bkV_refs rv fun x m => (hx x m).1
  let kv : Value → List (List Int) := fun v => k (bkV v)
  have hmem : ∀ v ∈ its, bkV v ∈ xs := fun v hv => by rw [e1]; exact List.mem_map.mpr ⟨_, hv, rfl⟩
  have tk : ∀ v ∈ its, PySem.W.Holds s.heap v (SrtO.netT (kv v)) := fun v hv => by
    obtain ⟨⟨t, e⟩, _, hd⟩ := hx _ (hmem v hv)
    obtain ⟨b, rfl⟩ := e2 v hv
    exact Dp.reads I _ _ _ hd (show RelV (bkV (Value.ref b)) (Value.ref b) from rfl)
  have un : X.A.in1.in1.units + 10 < cLine := by
    have : X.A.in1.in1.units = X.A.units + 2 := rfl
    omega
  have hS : 2 ≤ its.length → ∀ (h₁ : Heap) (a : Addr), h₁.get? a = some (seqObj "list" its.toArray 0) → (∀ b o, s.heap.get? b = some o → b ≠ a ∧ h₁.get? b = some o) → SrtO.SortableO X.prog X.w X.A.in1.in1 { s with heap := h₁ } a its (fun v u => MN.ltN (kv v) (kv u)) := fun h2 h₁ a' ha kk => by
    refine SrtO.nets_sortable (s := { s with heap := h₁ }) un (by omega) (fun v hm => ?_) (fun v hm => (hx _ (hmem v hm)).2.1) fun h2 keep v hm => ?_
    · obtain ⟨as, hr⟩ := tk v hm
      exact ⟨as, PyProof.Rows.Reads.keeps (fun b o e => (kk b o e).2) hr⟩
    · obtain ⟨as, hr⟩ := tk v hm
      exact ⟨as, PyProof.Rows.Reads.keeps (fun b o e => keep b o (kk b o e).1 (kk b o e).2) hr⟩
  have fin : ∀ out : List Value, SrtO.Srtd (fun v u => MN.ltN (kv v) (kv u)) out → SrtO.Stb (fun v u => MN.ltN (kv v) (kv u)) out its → EP X pins σ Q (.ref (s.heap.objs.size + 1)) { s with heap := sortedAll s.heap its out.toArray } := fun out h1 h2 => by
    obtain ⟨ep, he'⟩ := PyProof.Rows.sortedAll_at s.heap its out.toArray
    have hperm := h2.perm
    have h3 : ∀ u ∈ out, ∃ a, u = Value.ref a := fun u hu => e2 u (hperm.mem_iff.mp hu)
    have hp : (out.map bkV).Perm xs := by
      rw [e1]
      exact hperm.map bkV
    have hlen : (out.map bkV).length ≤ sizeLine := by
      rw [hp.length_eq]
      exact hz
    refine ⟨.ref _, upd H (s.heap.objs.size + 1) (.lst (out.map bkV)), I.laid (t' := s.toks) (fun _ _ => PyProof.Rows.sortedAll_old) (Nat.le_succ _) ⟨hlen, out, ep, bkV_vals h3, he'⟩, rfl, q _ _ hp ?_ (I.hok.fresh (Nat.le_succ _))⟩
    rw [List.pairwise_map]
    refine List.Pairwise.imp (fun {u v} huv => ?_) h1
    have huv : MN.ltN (kv v) (kv u) = false := huv
    unfold MN.ltN at huv
    simpa using huv
  rcases hl with hl | hl
  · exact SrtO.sorted_ord (SrtO.swo_net kv) hl (by rw [← rv.length]; exact hz) hS fin
  · exact SrtO.sorted_ordT (SrtO.swo_net kv) hl (by rw [← rv.length]; exact hz) hS fin
end
end L2
set_option Elab.async false
set_option linter.all false
set_option maxRecDepth 100000
/-! MiniY: dict(zip(xs, ys)), the keys tuples. -/
namespace PySem
section
variable {prog : Program} {w : World} {A : Around} {E : Value → Shared → Prop} {s : Shared} {z TI TO T i1 i2 : Addr} {fp1 fp2 : List Addr} {n1 n2 i : Nat} {P1 P2 : Nat → Value → Prop} {St1 St2 : Nat → Heap → Prop} {f : Bool} {oT : Obj}
theorem zipH_next_item {Q : Value → Shared → Prop} (S : ZipSep2 z TI TO i1 i2 fp1 fp2) (D1 : Draws prog w A i1 fp1 n1 P1 St1) (D2 : Draws prog w A i2 fp2 n2 P2 St2)
    (hz : IsZipHeld s.heap z TI TO T f) (hT : s.heap.get? T = some oT) (hTI : IsTupOf2 s.heap TI (.ref i1) (.ref i2)) (st1 : St1 i s.heap) (st2 : St2 i s.heap) (hlt1 : i < n1) (hlt2 : i < n2)
    (hQ : ∀ x y h' tk, P1 i x → P2 i y → IsZipHeld h' z TI TO T true → St1 (i + 1) h' → St2 (i + 1) h' → IsTupOf2 h' s.heap.objs.size x y → h'.objs.size = s.heap.objs.size + 1 →
      (∀ c o, c ≠ z → c ≠ i1 → c ≠ i2 → s.heap.get? c = some o → h'.get? c = some o) → Q (.ref s.heap.objs.size) { s with heap := h', toks := tk }) :
    wpAny (model prog w) A (Builtin.«zip.__next__» ⟨[.ref z], []⟩) (fun fin s' => ∃ v, fin = .done (.ret v) ∧ Q v s') E s := by
  obtain ⟨hp, g, d, tk0, os⟩ := s
  show wpAny _ _ (field (.ref z) 2 >>= _) _ _ _
  refine wpAny_bind (wpAny_field hz rfl (x := .bool false) rfl ?_)
  show wpAny _ _ (field (.ref z) 3 >>= _) _ _ _
  refine wpAny_bind (wpAny_field hz rfl (x := .ref TI) rfl ?_)
  refine wpAny_bind (wpAny_seqItems hTI rfl ?_)
  show wpAny _ _ (Builtin.SmallTypes.ownedTupleIsFree (.ref z) >>= _) _ _ _
  refine wpAny_bind (wpAny_tupleHeld_zip hz hT fun h₁ hz₁ hs₁ => ?_)
  replace hs₁ : Heap.SameBut z hp h₁ := hs₁
  simp only [Bool.false_eq_true, if_false]
  refine wpAny_bind ?_
  rw [← Array.forIn_toList]
  simp only [List.forIn_cons, List.forIn_nil]
  refine wpAny_bind (wpAny_bind (wpAny_holding ?_))
  show wpAny _ _ (Builtin.SmallTypes.nextOf (.ref i1) >>= _) _ _ ⟨h₁, g, d, tk0, os⟩
  refine wpAny_bind (D1.item i _ _ _ hlt1 (D1.over st1 hs₁ S.zf1) fun x1 h₂ tk1 hx1 sn1 hs₂ => wpAny_pure ?_)
  replace hs₂ : Heap.SameBut i1 h₁ h₂ := hs₂
  refine wpAny_pure ?_
  refine wpAny_bind (wpAny_bind (wpAny_holding ?_))
  show wpAny _ _ (Builtin.SmallTypes.nextOf (.ref i2) >>= _) _ _ ⟨h₂, g, d, tk1, os⟩
  refine wpAny_bind (D2.item i _ _ _ hlt2 (D2.over (D2.over st2 hs₁ S.zf2) hs₂ S.sep1_2) fun x2 h₃ tk2 hx2 sn2 hs₃ => wpAny_pure ?_)
  replace hs₃ : Heap.SameBut i2 h₂ h₃ := hs₃
  refine wpAny_pure (wpAny_pure ?_)
  show wpAny _ _ (newTuple [x1, x2] >>= _) _ _ ⟨h₃, g, d, tk2, os⟩
  refine wpAny_bind (wpAny_newTuple ?_)
  have hsz : h₃.objs.size = hp.objs.size := by rw [hs₃.1, hs₂.1, hs₁.1]
  have hz₃ : IsZipHeld h₃ z TI TO T true := hs₃.extBut _ _ S.zi2 (hs₂.extBut _ _ S.zi1 hz₁)
  have hk : ∀ c o, c ≠ z → c ≠ i1 → c ≠ i2 → hp.get? c = some o → h₃.get? c = some o := fun c o c1 c2 c3 e => hs₃.extBut _ _ c3 (hs₂.extBut _ _ c2 (hs₁.extBut _ _ c1 e))
  have h1₃ : St1 (i + 1) h₃ := D1.over sn1 hs₃ S.sep2_1
  refine wpAny_pure ⟨_, rfl, ?_⟩
  show Q (.ref h₃.objs.size) ⟨h₃.push { cls := .type "tuple", data := .seq #[x1, x2] }, g, d, tk2, os⟩
  have hp' : IsTupOf2 (h₃.push { cls := .type "tuple", data := .seq #[x1, x2] }) h₃.objs.size x1 x2 := Heap.get?_push_size _ rfl
  have hz4 : (h₃.push { cls := .type "tuple", data := .seq #[x1, x2] }).objs.size = h₃.objs.size + 1 := Heap.size_push ..
  rw [hsz] at hp' hz4 ⊢
  exact hQ x1 x2 _ tk2 hx1 hx2 (Heap.get?_push_of_some _ hz₃) (D1.frame _ _ _ h1₃ fun b hb o e => Heap.get?_push_of_some _ e) (D2.frame _ _ _ sn2 fun b hb o e => Heap.get?_push_of_some _ e) hp' hz4 fun c o c1 c2 c3 e => Heap.get?_push_of_some _ (hk c o c1 c2 c3 e)
theorem zipH_next_end {Q : Fin → Shared → Prop} (S : ZipSep2 z TI TO i1 i2 fp1 fp2) (D1 : Draws prog w A i1 fp1 n1 P1 St1) (D2 : Draws prog w A i2 fp2 n2 P2 St2)
    (hz : IsZipHeld s.heap z TI TO T f) (hT : s.heap.get? T = some oT) (hTI : IsTupOf2 s.heap TI (.ref i1) (.ref i2)) (st1 : St1 i s.heap) (st2 : St2 i s.heap) (hle1 : i ≤ n1) (hle2 : i ≤ n2) (hend : i = n1 ∨ i = n2)
    (hE : ∀ h' tk e, (∀ c o, c ≠ z → c ≠ i1 → c ≠ i2 → s.heap.get? c = some o → h'.get? c = some o) → (∃ o, h'.get? e = some o ∧ o.cls = .type "StopIteration") → E (.ref e) { s with heap := h', toks := tk }) :
    wpAny (model prog w) A (Builtin.«zip.__next__» ⟨[.ref z], []⟩) Q E s := by
  obtain ⟨hp, g, d, tk0, os⟩ := s
  show wpAny _ _ (field (.ref z) 2 >>= _) _ _ _
  refine wpAny_bind (wpAny_field hz rfl (x := .bool false) rfl ?_)
  show wpAny _ _ (field (.ref z) 3 >>= _) _ _ _
  refine wpAny_bind (wpAny_field hz rfl (x := .ref TI) rfl ?_)
  refine wpAny_bind (wpAny_seqItems hTI rfl ?_)
  show wpAny _ _ (Builtin.SmallTypes.ownedTupleIsFree (.ref z) >>= _) _ _ _
  refine wpAny_bind (wpAny_tupleHeld_zip hz hT fun h₁ hz₁ hs₁ => ?_)
  replace hs₁ : Heap.SameBut z hp h₁ := hs₁
  simp only [Bool.false_eq_true, if_false]
  refine wpAny_bind ?_
  rw [← Array.forIn_toList]
  simp only [List.forIn_cons, List.forIn_nil]
  refine wpAny_bind (wpAny_bind (wpAny_holding ?_))
  show wpAny _ _ (Builtin.SmallTypes.nextOf (.ref i1) >>= _) _ _ ⟨h₁, g, d, tk0, os⟩
  by_cases hlt1 : i < n1
  · refine wpAny_bind (D1.item i _ _ _ hlt1 (D1.over st1 hs₁ S.zf1) fun x1 h₂ tk1 hx1 sn1 hs₂ => wpAny_pure ?_)
    replace hs₂ : Heap.SameBut i1 h₁ h₂ := hs₂
    refine wpAny_pure ?_
    refine wpAny_bind (wpAny_bind (wpAny_holding ?_))
    have hi2 : i = n2 := by omega
    show wpAny _ _ (Builtin.SmallTypes.nextOf (.ref i2) >>= _) _ _ ⟨h₂, g, d, tk1, os⟩
    refine wpAny_bind (D2.done ⟨h₂, g, d, tk1, os⟩ _ _ (by rw [← hi2]; exact D2.over (D2.over st2 hs₁ S.zf2) hs₂ S.sep1_2) fun h₃ e hs₃ he => ?_)
    replace hs₃ : Heap.ExtBut i2 h₂ h₃ := hs₃
    exact hE h₃ tk1 e (fun c o c1 c2 c3 x => hs₃ _ _ c3 (hs₂.extBut _ _ c2 (hs₁.extBut _ _ c1 x))) he
  · have hi1 : i = n1 := by omega
    refine wpAny_bind (D1.done ⟨h₁, g, d, tk0, os⟩ _ _ (by rw [← hi1]; exact D1.over st1 hs₁ S.zf1) fun h₂ e hs₂ he => ?_)
    replace hs₂ : Heap.ExtBut i1 h₁ h₂ := hs₂
    exact hE h₂ tk0 e (fun c o c1 c2 _ x => hs₂ _ _ c2 (hs₁.extBut _ _ c1 x)) he
theorem pyNext_zipH_item {Q : Option Value → Shared → Prop} (S : ZipSep2 z TI TO i1 i2 fp1 fp2) (D1 : Draws prog w A.in1 i1 fp1 n1 P1 St1) (D2 : Draws prog w A.in1 i2 fp2 n2 P2 St2)
    (hz : IsZipHeld s.heap z TI TO T f) (hT : s.heap.get? T = some oT) (hTI : IsTupOf2 s.heap TI (.ref i1) (.ref i2)) (st1 : St1 i s.heap) (st2 : St2 i s.heap) (hlt1 : i < n1) (hlt2 : i < n2)
    (hQ : ∀ x y h' tk, P1 i x → P2 i y → IsZipHeld h' z TI TO T true → St1 (i + 1) h' → St2 (i + 1) h' → IsTupOf2 h' s.heap.objs.size x y → h'.objs.size = s.heap.objs.size + 1 →
      (∀ c o, c ≠ z → c ≠ i1 → c ≠ i2 → s.heap.get? c = some o → h'.get? c = some o) → Q (some (.ref s.heap.objs.size)) { s with heap := h', toks := tk }) :
    wpAny (model prog w) A (pyNext (.ref z)) Q E s := by
  have hTy : s.TypeIs (.ref z) "zip" := ⟨_, hz, rfl⟩
  unfold pyNext
  exact wpAny_bind (wpAny_attempt (wpAny_callSpecial?_slot (name := Str.ofString "__next__") hTy F.slot_zip_next
    (wpAny_call_entry F.slot_zip_next hTy F.entry_zip_next
      (zipH_next_item S D1 D2 hz hT hTI st1 st2 hlt1 hlt2 fun x y h' tk a1 a3 a4 a5 a6 a7 a8 a9 => wpAny_pure (hQ x y h' tk a1 a3 a4 a5 a6 a7 a8 a9)) (F.args_zip_next_1 _))))
theorem pyNext_zipH_end {Q : Option Value → Shared → Prop} (S : ZipSep2 z TI TO i1 i2 fp1 fp2) (D1 : Draws prog w A.in1 i1 fp1 n1 P1 St1) (D2 : Draws prog w A.in1 i2 fp2 n2 P2 St2)
    (hz : IsZipHeld s.heap z TI TO T f) (hT : s.heap.get? T = some oT) (hTI : IsTupOf2 s.heap TI (.ref i1) (.ref i2)) (st1 : St1 i s.heap) (st2 : St2 i s.heap) (hle1 : i ≤ n1) (hle2 : i ≤ n2) (hend : i = n1 ∨ i = n2)
    (hQ : ∀ h' tk, (∀ c o, c ≠ z → c ≠ i1 → c ≠ i2 → s.heap.get? c = some o → h'.get? c = some o) → Q none { s with heap := h', toks := tk }) : wpAny (model prog w) A (pyNext (.ref z)) Q E s := by
  have hTy : s.TypeIs (.ref z) "zip" := ⟨_, hz, rfl⟩
  unfold pyNext
  refine wpAny_bind (wpAny_attempt (wpAny_callSpecial?_slot (name := Str.ofString "__next__") hTy F.slot_zip_next
    (wpAny_call_entry F.slot_zip_next hTy F.entry_zip_next (zipH_next_end S D1 D2 hz hT hTI st1 st2 hle1 hle2 hend fun h' tk e hk he => ?_) (F.args_zip_next_1 _))))
  obtain ⟨o, ho, hc⟩ := he
  refine wpAny_bind (wpAny_isInstance (T := "StopIteration") (b := true) ⟨o, ho, hc⟩ isSubtype_stop ?_)
  exact wpAny_pure (hQ _ _ hk)
end
open L2 in
theorem PairArg.zipS {prog : Program} {w : World} (k l : Bool) (z TI TO i1 i2 l1 l2 : Addr) (S : ZipSep2 z TI TO i1 i2 [i1, l1] [i2, l2]) (e1 : l1 ≠ i1) (e2 : l2 ≠ i2) (q : ∀ b ∈ [l1, l2], b ≠ z ∧ b ≠ TO ∧ b ≠ i1 ∧ b ≠ i2) (xs ys : Array Value) :
    PairArg prog w "zip" z [z, TI, TO, i1, i2, l1, l2] [z, TO, i1, i2] (min xs.size ys.size) (fun i k v => xs[i]? = some k ∧ ys[i]? = some v)
      (fun h => IsZip h z TI TO .none ∧ IsTupOf2 h TI (.ref i1) (.ref i2) ∧ (∃ a b, IsTupOf2 h TO a b) ∧ ItS k h i1 l1 0 ∧ ItS l h i2 l2 0 ∧ IsS k h l1 xs ∧ IsS l h l2 ys) where
  type := fun s ok => ⟨_, ok.1, rfl⟩
  notDict := by decide
  keep := fun h h' ok hk => by
    obtain ⟨hz, hTI, ⟨a, b, hTO⟩, h1, h2, hl1, hl2⟩ := ok
    exact ⟨hk _ _ hz, hk _ _ hTI, ⟨a, b, hk _ _ hTO⟩, h1.at fun o e => hk _ o e, h2.at fun o e => hk _ o e, hl1.at fun o e => hk _ o e, hl2.at fun o e => hk _ o e⟩
  there := fun h ok b hb => by
    obtain ⟨hz, hTI, ⟨a, c, hTO⟩, h1, h2, hl1, hl2⟩ := ok
    obtain ⟨o1, h1, _⟩ := h1.obj
    obtain ⟨o2, h2, _⟩ := h2.obj
    obtain ⟨o3, hl1⟩ := hl1.there
    obtain ⟨o4, hl2⟩ := hl2.there
    simp only [List.mem_cons, List.not_mem_nil, or_false] at hb
    rcases hb with rfl | rfl | rfl | rfl | rfl | rfl | rfl
    all_goals first | exact ⟨_, hz⟩ | exact ⟨_, hTI⟩ | exact ⟨_, hTO⟩ | exact ⟨_, h1⟩ | exact ⟨_, h2⟩ | exact ⟨_, hl1⟩ | exact ⟨_, hl2⟩
  sub := fun b hb => by simp at hb ⊢; rcases hb with rfl | rfl | rfl | rfl <;> simp
  noKeys := fun A s Q E hA ok h => getAttrOr_miss_zip ok.1 rfl rfl rfl zip_no_keys (by decide +kernel) hA h
  iter := fun A s d Q E hA ok hd hdf h => by
    obtain ⟨hz, hTI, ⟨a, b, hTO⟩, h1, h2, hl1, hl2⟩ := ok
    simp only [List.mem_cons, List.not_mem_nil, or_false, not_or] at hdf
    obtain ⟨dz, dTI, dTO, di1, di2, dl1, dl2⟩ := hdf
    obtain ⟨ql1, ql2⟩ : (l1 ≠ z ∧ l1 ≠ TO ∧ l1 ≠ i1 ∧ l1 ≠ i2) ∧ (l2 ≠ z ∧ l2 ≠ TO ∧ l2 ≠ i1 ∧ l2 ≠ i2) := ⟨q l1 (by simp), q l2 (by simp)⟩
    have D1 : Draws prog w A.in1 i1 [i1, l1] xs.size (fun i v => xs[i]? = some v) (fun i h => ItS k h i1 l1 i ∧ IsS k h l1 xs) := drS (show A.in1.handled = none from hA) k i1 l1 e1 xs
    have D2 : Draws prog w A.in1 i2 [i2, l2] ys.size (fun i v => ys[i]? = some v) (fun i h => ItS l h i2 l2 i ∧ IsS l h l2 ys) := drS (show A.in1.handled = none from hA) l i2 l2 e2 ys
    refine wpAny_pyIter_zip hz (h z [z, TO, i1, i2] (fun i h => IsTupOf2 h TI (.ref i1) (.ref i2) ∧ ItS k h i1 l1 i ∧ ItS l h i2 l2 i ∧ IsS k h l1 xs ∧ IsS l h l2 ys ∧
      ((IsZip h z TI TO .none ∧ ∃ a b, IsTupOf2 h TO a b) ∨ ∃ T f oT, IsZipHeld h z TI TO T f ∧ h.get? T = some oT ∧ T ≠ z ∧ T ≠ i1 ∧ T ≠ i2 ∧ T ≠ d)) s.heap s.toks ?_
      ⟨hTI, h1, h2, hl1, hl2, .inl ⟨hz, a, b, hTO⟩⟩ (fun _ _ e => e) fun b hb => .inl hb)
    exact {
      off := fun hm => by
        simp only [List.mem_cons, List.not_mem_nil, or_false] at hm
        rcases hm with e | e | e | e
        · exact dz e
        · exact dTO e
        · exact di1 e
        · exact di2 e
      frame := fun i h₁ h₂ st hk => by
        obtain ⟨hTI, h1, h2, hl1, hl2, hz⟩ := st
        refine ⟨hk _ _ (Ne.symm dTI) hTI, h1.at fun o e => hk _ o (Ne.symm di1) e, h2.at fun o e => hk _ o (Ne.symm di2) e, hl1.at fun o e => hk _ o (Ne.symm dl1) e, hl2.at fun o e => hk _ o (Ne.symm dl2) e, ?_⟩
        rcases hz with ⟨hz, a, b, hTO⟩ | ⟨T, f, oT, hz, hT, r1, r2, r3, r4⟩
        · exact .inl ⟨hk _ _ (Ne.symm dz) hz, a, b, hk _ _ (Ne.symm dTO) hTO⟩
        · exact .inr ⟨T, f, oT, hk _ _ (Ne.symm dz) hz, hk _ _ r4 hT, r1, r2, r3, r4⟩
      item := fun i s₁ Q₁ E₁ hi st hds hQ => by
        obtain ⟨hTI, h1, h2, hl1, hl2, hz⟩ := st
        have hix : i < xs.size := Nat.lt_of_lt_of_le hi (Nat.min_le_left ..)
        have hiy : i < ys.size := Nat.lt_of_lt_of_le hi (Nat.min_le_right ..)
        have lt : ∀ {c o}, s₁.heap.get? c = some o → s₁.heap.objs.size ≠ c := fun e => Nat.ne_of_gt (Heap.lt_size e)
        have n1 : s₁.heap.objs.size ≠ i1 := let ⟨_, e, _⟩ := h1.obj; lt e
        have n2 : s₁.heap.objs.size ≠ i2 := let ⟨_, e, _⟩ := h2.obj; lt e
        rcases hz with ⟨hz, a, b, hTO⟩ | ⟨T, f, oT, hz, hT, r1, r2, r3, r4⟩
        · refine wpAny_pyNext_zipD2_item S D1 D2 hz hTI hTO ⟨h1, hl1⟩ ⟨h2, hl2⟩ hix hiy fun x y h' tk ex ey a1 a2 a3 a4 a5 a6 hk => ?_
          exact hQ s₁.heap.objs.size _ _ h' tk ⟨ex, ey⟩ (.inl ⟨_, a5, rfl, _, rfl⟩)
            ⟨hk _ _ S.TIz S.TITO S.TIi1 S.TIi2 hTI, a3.1, a4.1, a3.2, a4.2,
              .inr ⟨s₁.heap.objs.size, false, _, a1, a5, lt hz, n1, n2, Nat.ne_of_gt hds⟩⟩
            fun c o hc e => hk c o (fun x => hc (by simp [x])) (fun x => hc (by simp [x])) (fun x => hc (by simp [x])) (fun x => hc (by simp [x])) e
        · refine pyNext_zipH_item S D1 D2 hz hT hTI ⟨h1, hl1⟩ ⟨h2, hl2⟩ hix hiy fun x y h' tk ex ey a1 a3 a4 a5 a6 hk => ?_
          exact hQ s₁.heap.objs.size _ _ h' tk ⟨ex, ey⟩ (.inl ⟨_, a5, rfl, _, rfl⟩)
            ⟨hk _ _ S.TIz S.TIi1 S.TIi2 hTI, a3.1, a4.1, a3.2, a4.2,
              .inr ⟨T, true, oT, a1, hk _ _ r1 r2 r3 hT, r1, r2, r3, r4⟩⟩
            fun c o hc e => hk c o (fun x => hc (by simp [x])) (fun x => hc (by simp [x])) (fun x => hc (by simp [x])) e
      done := fun s₁ Q₁ E₁ st hQ => by
        obtain ⟨hTI, h1, h2, hl1, hl2, hz⟩ := st
        have hle1 : min xs.size ys.size ≤ xs.size := Nat.min_le_left ..
        have hle2 : min xs.size ys.size ≤ ys.size := Nat.min_le_right ..
        have hend : min xs.size ys.size = xs.size ∨ min xs.size ys.size = ys.size := by omega
        rcases hz with ⟨hz, a, b, hTO⟩ | ⟨T, f, oT, hz, hT, r1, r2, r3, r4⟩
        · exact wpAny_pyNext_zipD2_end S D1 D2 hz hTI hTO ⟨h1, hl1⟩ ⟨h2, hl2⟩ hle1 hle2 hend fun h' tk hk => hQ h' tk fun c o hc e => hk c o (fun x => hc (by simp [x])) (fun x => hc (by simp [x])) (fun x => hc (by simp [x])) (fun x => hc (by simp [x])) e
        · exact pyNext_zipH_end S D1 D2 hz hT hTI ⟨h1, hl1⟩ ⟨h2, hl2⟩ hle1 hle2 hend fun h' tk hk => hQ h' tk fun c o hc e => hk c o (fun x => hc (by simp [x])) (fun x => hc (by simp [x])) (fun x => hc (by simp [x])) e }
end PySem
namespace L2
open PySem PySem.Spec PyProof.Rows
def mergeT (acc more : List (List Key × V)) : List (List Key × V) := more.foldl (fun a kv => putK a kv.1 kv.2) acc
theorem KT.merge {H : Hp} : ∀ {more : List (List Key × V)} {rs : List (List Key × Addr × Value)} {kvs : List (List Key × V)} {vs : List (List Key × Addr × Value)}, KT H more rs → KT H kvs vs → KT H (mergeT kvs more) (storedAllH vs rs) := by
  intro more rs kvs vs r
  unfold KT at r
  induction r generalizing kvs vs with
  | nil => intro q; exact q
  | @cons p q ps qs h t ih =>
    obtain ⟨e, hb, ry⟩ := h
    intro r0
    have := KT.put r0 p.1 hb ry
    rw [e] at this
    have z := ih this
    unfold mergeT storedAllH at z ⊢
    rw [List.foldl_cons, List.foldl_cons, e]
    exact z
theorem length_mergeT (more : List (List Key × V)) : ∀ acc : List (List Key × V), (mergeT acc more).length ≤ acc.length + more.length := by
  induction more with
  | nil => intro acc; exact Nat.le_refl _
  | cons p ps ih =>
    intro acc
    have h1 := ih (putK acc p.1 p.2)
    have h2 := length_putK acc p.1 p.2
    unfold mergeT at h1 ⊢
    rw [List.foldl_cons, List.length_cons]
    omega
/-- the pairs that zip makes: keys that are tuples -/
def ZipKV (H : Hp) (kvs : List (List Key × V)) (bs : List Addr) : Prop := bs.length = kvs.length ∧ ∀ (i : Nat) (k : List Key) (v : V) (b : Addr), kvs[i]? = some (k, v) → bs[i]? = some b → H b = some (.tup (k.map kV))
def tDictZip (K : PySem.W.Frag) (ta : TA) : TE := fun σ H Q => ta σ H fun vs H1 => ∃ (k l : Bool) (a b : Addr) (xs ys : List V) (kvs : List (List Key × V)) (bs : List Addr), vs = [.ref a, .ref b] ∧ SqS K k H1 a xs ∧ SqS K l H1 b ys ∧ ZipKV H1 kvs bs ∧ kvs.length = min xs.length ys.length ∧
  (∀ (i : Nat) (b : Addr), bs[i]? = some b → xs[i]? = some (.ref b)) ∧ (∀ (i : Nat) (kv : List Key × V), kvs[i]? = some kv → ys[i]? = some kv.2) ∧ ∀ p, H1 p = none → Q (.ref p) (upd H1 p (.dT (mergeT [] kvs)))
theorem pe_dictZip {X : Cx} {e e2 : Expr} {ta : TA} {p p2 q pos : Pos} (hu : X.A.units + 2 < cLine) (hc : X.calm = true) (hg : Gl X "dict") (hm : X.mg "dict" = none) (hg2 : Gl X "zip") (hm2 : X.mg "zip" = none) (ha : PA X [e, e2] ta)
    (hs : starEach [e, e2] X.env = (false, eval e X.env) :: starEach [e2] X.env) (hpl : (backTo q (starEach [e2] X.env)).any (·.1) = false)
    (na : starEach [.Call (.Name "zip" p2) [e, e2] [] q] X.env = (false, eval (.Call (.Name "zip" p2) [e, e2] [] q) X.env) :: starEach [] X.env) :
    PE X (.Call (.Name "dict" p) [.Call (.Name "zip" p2) [e, e2] [] q] [] pos) (tDictZip X.K ta) := by
  refine ⟨fun pins s σ H Q I h => ?_⟩
  refine Call_ (ld_blt I hg hm boot_dict ?_)
  refine PyProof.Rows.callWith_type1 (PyProof.Rows.args_cons ?_ na) na rfl
  refine Call_ (ld_blt I hg2 hm2 PyProof.Rows.boot_zip (PyProof.Rows.callWith_type1 (thn (ha.run q pins s σ H _ I h) fun us s1 ⟨vs, H1, I1, r1, q1⟩ => ?_) hs hpl))
  obtain ⟨k, l, a, b, xs, ys, kvs, bs, ex, hqx, hqy, zk, hlen, gx, gy, qq⟩ := q1
  subst ex
  cases r1 with
  | cons r rr =>
    cases rr with
    | cons r' rr =>
      cases rr
      cases r
      cases r'
      obtain ⟨its, rv, p1⟩ := I1.seqS hqx
      obtain ⟨its2, rv2, p2⟩ := I1.seqS hqy
      have l1 := rv.length
      have l2 := rv2.length
      refine zip_begins2 (begS k a its.toArray) (begS l b its2.toArray) p1 p2 fun h' hz hTI hTO h1 h2 hsz hk => ?_
      have I2 : Inv X pins σ H1 { s1 with heap := h' } := I1.kept (t' := s1.toks) hk
      refine PyProof.Rows.args_nil ?_
      have la : a < s1.heap.objs.size := p1.lt
      have lb : b < s1.heap.objs.size := p2.lt
      have S : ZipSep2 (s1.heap.objs.size + 4) (s1.heap.objs.size + 2) (s1.heap.objs.size + 3) s1.heap.objs.size (s1.heap.objs.size + 1) [s1.heap.objs.size, a] [s1.heap.objs.size + 1, b] := zip_sep2 (N := s1.heap.objs.size) (fp1 := [a]) (fp2 := [b]) (by simpa using la) (by simpa using lb)
      have PAz := PairArg.zipS (prog := X.prog) (w := X.w) k l (s1.heap.objs.size + 4) (s1.heap.objs.size + 2) (s1.heap.objs.size + 3) s1.heap.objs.size (s1.heap.objs.size + 1) a b S (Nat.ne_of_lt la) (Nat.ne_of_lt (Nat.lt_succ_of_lt lb)) (fun c hcm => by
        have e' : c = a ∨ c = b := by simpa using hcm
        have hlt : c < s1.heap.objs.size := by rcases e' with z | z <;> (rw [z]; assumption)
        exact ⟨Nat.ne_of_lt (Nat.lt_add_right 4 hlt), Nat.ne_of_lt (Nat.lt_add_right 3 hlt), Nat.ne_of_lt hlt, Nat.ne_of_lt (Nat.lt_succ_of_lt hlt)⟩) its.toArray its2.toArray
      have sx : its.toArray.size = xs.length := by rw [List.size_toArray]; omega
      have sy : its2.toArray.size = ys.length := by rw [List.size_toArray]; omega
      -- the pairs
      obtain ⟨ps, rel, hps⟩ : ∃ ps : List (List Key × Addr × Value), KT H1 kvs ps ∧ ∀ (i : Nat) (k : List Key) (b : Addr) (v : Value), ps[i]? = some (k, b, v) ↔ (∃ w, kvs[i]? = some (k, w)) ∧ bs[i]? = some b ∧ its2[i]? = some v := by
        have gen : ∀ (kvs : List (List Key × V)) (bs : List Addr) (vs : List V) (us : List Value), bs.length = kvs.length → (∀ (i : Nat) (k : List Key) (v : V) (b : Addr), kvs[i]? = some (k, v) → bs[i]? = some b → H1 b = some (.tup (k.map kV))) → (∀ (i : Nat) (kv : List Key × V), kvs[i]? = some kv → vs[i]? = some kv.2) → Vals vs us →
            ∃ ps : List (List Key × Addr × Value), KT H1 kvs ps ∧ ∀ (i : Nat) (k : List Key) (b : Addr) (v : Value), ps[i]? = some (k, b, v) ↔ (∃ w, kvs[i]? = some (k, w)) ∧ bs[i]? = some b ∧ us[i]? = some v := by
          intro kvs
          induction kvs with
          | nil => intro bs vs us hl _ _ _; exact ⟨[], .nil, fun i k b v => by simp⟩
          | cons kv kvs ih =>
            intro bs vs us hl h1 h2 rv
            cases bs with
            | nil => simp at hl
            | cons b bs =>
              have h20 := h2 0 kv rfl
              cases rv with
              | nil => simp at h20
              | cons r rr =>
                rename_i v0 u0 vs us
                simp at h20
                subst h20
                obtain ⟨ps, rel, hps⟩ := ih bs vs us (by simpa using hl) (fun i k v b e1 e2 => h1 (i + 1) k v b (by simpa using e1) (by simpa using e2)) (fun i kv e => by simpa using h2 (i + 1) kv (by simpa using e)) rr
                refine ⟨(kv.1, b, u0) :: ps, .cons ⟨rfl, h1 0 kv.1 kv.2 b rfl rfl, r⟩ rel, fun i k b' v => ?_⟩
                cases i with
                | zero =>
                  simp only [List.getElem?_cons_zero, Option.some.injEq, Prod.mk.injEq]
                  constructor
                  · rintro ⟨rfl, rfl, rfl⟩; exact ⟨⟨kv.2, rfl⟩, rfl, rfl⟩
                  · rintro ⟨⟨w, e⟩, rfl, rfl⟩
                    refine ⟨?_, rfl, rfl⟩
                    rw [e]
                | succ i =>
                  simp only [List.getElem?_cons_succ]
                  exact hps i k b' v
        exact gen kvs bs ys its2 zk.1 zk.2 gy rv2
      have hpl : ps.length = kvs.length := (Paired.length rel).symm
      have hidx : ∀ i, i < kvs.length → ∃ k w b v, kvs[i]? = some (k, w) ∧ bs[i]? = some b ∧ its2[i]? = some v ∧ its[i]? = some (.ref b) := fun i hi => by
        have hb : i < bs.length := by rw [zk.1]; exact hi
        have h3 := gx i bs[i] (List.getElem?_eq_getElem hb)
        obtain ⟨u, hu, ru⟩ := rv.get h3
        have ru : u = .ref bs[i] := ru
        have hi2 : i < its2.length := by omega
        exact ⟨_, _, _, _, List.getElem?_eq_getElem hi, List.getElem?_eq_getElem hb, List.getElem?_eq_getElem hi2, by rw [hu, ru]⟩
      refine call_dict_pairsH (knd := tupleKind (mixKind X.prog X.w)) (ps := ps) PAz (I.ok.hd hc) (show X.A.in1.in1.units < cLine from by show X.A.units + 1 + 1 < cLine; omega) ⟨hz, hTI, ⟨_, _, hTO⟩, itS_new h1, itS_new h2, p1.at (fun o e => hk _ o e), p2.at (fun o e => hk _ o e)⟩ ⟨by rw [hpl, hlen, sx, sy], fun i key v hr => ?_⟩ (fun h2 hk2 x hx => ?_) ?_ fun h2 tk hd hk2 => ?_
      · obtain ⟨hr1, hr2⟩ := hr
        have hr1 : its.toArray[i]? = some key := hr1
        have hr2 : its2.toArray[i]? = some v := hr2
        have hi : i < kvs.length := by
          have a1 := (Array.getElem?_eq_some_iff.mp hr1).1
          have a2 := (Array.getElem?_eq_some_iff.mp hr2).1
          omega
        obtain ⟨kk, w, bb, vv, g1, g2, g3, g4⟩ := hidx i hi
        simp at hr1 hr2
        rw [g4] at hr1
        rw [g3] at hr2
        cases hr1; cases hr2
        exact ⟨kk, bb, (hps i kk bb _).mpr ⟨⟨w, g1⟩, g2, g3⟩, rfl⟩
      · obtain ⟨i, hi, ei⟩ := List.mem_iff_getElem.mp hx
        have ex : ps[i]? = some (x.1, x.2.1, x.2.2) := by rw [List.getElem?_eq_getElem hi, ei]
        obtain ⟨⟨w, g1⟩, g2, g3⟩ := (hps i x.1 x.2.1 x.2.2).mp ex
        have eb := zk.2 i x.1 w x.2.1 g1 g2
        obtain ⟨o, its0, n0, g1', g2', g3', g4'⟩ := (show (tupleKind (mixKind X.prog X.w)).is s1.heap x.1 x.2.1 from key_of I1.hok eb)
        have hlt : x.2.1 < s1.heap.objs.size := Heap.lt_size g1'
        have hne : ∀ j : Nat, x.2.1 ≠ s1.heap.objs.size + j := fun j => Nat.ne_of_lt (Nat.lt_add_right j hlt)
        exact ⟨o, its0, n0, hk2 x.2.1 o (by
          show x.2.1 ≠ h'.objs.size
          rw [hsz]; exact hne 5) (fun hmm => by
          have e' : x.2.1 = s1.heap.objs.size + 4 ∨ x.2.1 = s1.heap.objs.size + 3 ∨ x.2.1 = s1.heap.objs.size ∨ x.2.1 = s1.heap.objs.size + 1 := by simpa using hmm
          rcases e' with z | z | z | z
          · exact hne 4 z
          · exact hne 3 z
          · exact hne 0 z
          · exact hne 1 z) (hk x.2.1 o g1'), g2', g3', g4'⟩
      · rw [sx, sy]
        rcases k
        · obtain ⟨_, _, _, hz1⟩ := I1.list hqx
          exact Nat.le_trans (Nat.min_le_left _ _) hz1
        · obtain ⟨_, _, _, hz1⟩ := I1.tuple hqx
          exact Nat.le_trans (Nat.min_le_left _ _) hz1
      · have hn : H1 h'.objs.size = none := I2.hok.fresh (Nat.le_refl _)
        have hfp : ∀ c ∈ [s1.heap.objs.size + 4, s1.heap.objs.size + 3, s1.heap.objs.size, s1.heap.objs.size + 1], FpOk X pins H1 c := fun c hcm => by
          have e' : c = s1.heap.objs.size + 4 ∨ c = s1.heap.objs.size + 3 ∨ c = s1.heap.objs.size ∨ c = s1.heap.objs.size + 1 := by simpa using hcm
          have hle : s1.heap.objs.size ≤ c := by
            show s1.heap.objs.size ≤ c
            rcases e' with z | z | z | z <;> (rw [z]; first | exact Nat.le_add_right _ _ | exact Nat.le_refl _)
          exact I1.fpOk hle (I1.hok.fresh hle)
        have hsz2 : (mergeT [] kvs).length ≤ sizeLine := by
          refine Nat.le_trans (length_mergeT kvs []) ?_
          rw [List.length_nil, Nat.zero_add, hlen]
          rcases k
          · obtain ⟨_, _, _, hz1⟩ := I1.list hqx
            exact Nat.le_trans (Nat.min_le_left _ _) hz1
          · obtain ⟨_, _, _, hz1⟩ := I1.tuple hqx
            exact Nat.le_trans (Nat.min_le_left _ _) hz1
        have hsys : (h'.objs.size == sysModules) = false := beq_eq_false_iff_ne.mpr (Nat.ne_of_gt I2.big)
        obtain ⟨o, es, ep, d1, d2, d3, d4, _, d6⟩ := hd
        have relM : KT (upd H1 h'.objs.size (.dT (mergeT [] kvs))) (mergeT [] kvs) (storedAllH [] ps) :=
          (KT.merge rel .nil).keeps fun c zs ec => by rw [upd_ne (ne_of_none ec hn)]; exact ec
        refine ⟨.ref h'.objs.size, _, I2.turnedNew (t' := tk) (ch := [s1.heap.objs.size + 4, s1.heap.objs.size + 3, s1.heap.objs.size, s1.heap.objs.size + 1]) (fun c o hb q => hk2 c o hb q) hfp (Nat.le_refl _) (show ObjOk X.prog X.w _ h2 _ (.dT (mergeT [] kvs)) from ⟨hsz2, hsys, _, relM, o, es, ep, d1, d2, d3, d4, d6⟩), rfl, qq _ hn⟩
end L2
set_option Elab.async false
set_option linter.all false
set_option maxRecDepth 100000
/-! MiniN: built-in functions, methods: from readings to what is computed. -/
namespace L2
open PySem PySem.Spec PyProof.Rows
theorem pe_tyN {X : Cx} {x : Str} {T : String} {p : Pos} (hg : Gl X x) (hm : X.mg x = none) (hv : bootBuiltins x = some (.type T)) (hn : x ≠ "__name__") (hdb : (x == ("__debug__" : Str)) = false) : PE X (.Name x p) (fun _ H Q => Q (.ty T) H) :=
  ⟨fun pins s σ H Q I h => ld_blt I hg hm hv ⟨.ty T, H, I, rfl, h⟩ hn hdb⟩
theorem firstMet_ded (ns : List Int) : ∀ i, i ≤ ns.length → PyProof.Rows.firstMet (fun i => ns.getD i 0) i = (ns.take i).foldl (fun acc x => if acc.any (· == x) then acc else acc ++ [x]) []
  | 0, _ => rfl
  | i + 1, hi => by
    have hlt : i < ns.length := hi
    have e2 : ns.take (i + 1) = ns.take i ++ [ns[i]] := by
      rw [List.take_add_one, List.getElem?_eq_getElem hlt] <;> rfl
    have e1 : ns.getD i 0 = ns[i] := by
      rw [List.getD_eq_getElem?_getD, List.getElem?_eq_getElem hlt] <;> rfl
    rw [PyProof.Rows.firstMet_succ, firstMet_ded ns i (Nat.le_of_lt hlt), e2, List.foldl_append]
    show (if _ then _ else _ ++ [ns.getD i 0]) = _
    rw [e1]
    rfl
def tLenSetM (K : PySem.W.Frag) (ta : TE) : TE := fun σ H Q => ta σ H fun x H1 => ∃ (l : Addr) (ns : List Int), x = .ref l ∧ SqL K H1 l (ns.map V.int) ∧ ns.length ≤ 4000 ∧ Q (.int ((MN.dedI ns).length : Nat)) H1
theorem ded_len (ns : List Int) : (MN.dedI ns).length ≤ ns.length := by
  have : ∀ (ns acc : List Int), (ns.foldl (fun acc x => if acc.any (· == x) then acc else acc ++ [x]) acc).length ≤ acc.length + ns.length := by
    intro ns
    induction ns with
    | nil => intro acc; exact Nat.le_refl _
    | cons n ns ih =>
      intro acc
      rw [List.foldl_cons]
      refine Nat.le_trans (ih _) ?_
      split
      · simp only [List.length_cons]; omega
      · simp only [List.length_append, List.length_cons, List.length_nil]; omega
  have := this ns []
  simpa [MN.dedI] using this
theorem pe_lenSetM {X : Cx} {a : Expr} {ta : TE} {p p2 q pos : Pos} (hg : Gl X "len") (hm : X.mg "len" = none) (hg2 : Gl X "set") (hm2 : X.mg "set" = none) (ha : PE X a ta) (hc : X.calm = true)
    (na : starEach [a] X.env = (false, eval a X.env) :: starEach [] X.env) (na2 : starEach [.Call (.Name "set" p2) [a] [] q] X.env = (false, eval (.Call (.Name "set" p2) [a] [] q) X.env) :: starEach [] X.env) : PE X (.Call (.Name "len" p) [.Call (.Name "set" p2) [a] [] q] [] pos) (tLenSetM X.K ta) := by
  refine ⟨fun pins s σ H Q I h => ?_⟩
  refine Call_ (ld_blt I hg hm boot_len ?_)
  refine PyProof.Rows.callWith_builtin1 (PyProof.Rows.args_cons ?_ na2) na2 rfl
  refine Call_ (ld_blt I hg2 hm2 boot_set ?_)
  refine PyProof.Rows.callWith_type1 (PyProof.Rows.args_cons (thn (ha.run pins s σ H _ I h) fun v s1 ⟨x, H1, I1, r1, q1⟩ => PyProof.Rows.args_nil ?_) na) na rfl
  obtain ⟨l, ns, rfl, hq, hl, q1⟩ := q1
  cases r1
  obtain ⟨its, r, pl, hz⟩ := I1.list hq
  have hlen : its.toArray.size = ns.length := by rw [List.size_toArray, ← r.length, List.length_map]
  refine call_set_list (I1.ok.hd hc) pl.isList (by simpa using RZ.intsAre_vals r) (by rw [hlen]; unfold scanBound; omega) fun h' tk hS hk => ?_
  refine PyProof.Rows.args_nil ?_
  have hd := ded_len ns
  rw [hlen, firstMet_ded ns ns.length (Nat.le_refl _), List.take_length] at hS
  obtain ⟨o, es, ep, t, ho, hex, hd', _, _, _, hf, hn⟩ := hS
  have I2 : Inv X pins σ H1 { s1 with heap := h', toks := tk } := I1.kept fun b o e => hk b o (Heap.lt_size e) e
  have hn : es.size = (MN.dedI ns).length := hn
  exact call_len_set ho hex hd' hf (by rw [hn]; omega) ⟨.int (MN.dedI ns).length, H1, I2.tok _, ⟨_, by rw [hn]⟩, q1⟩
end L2
namespace MN
variable [TabP]
open PySem PySem.Spec L2
section
variable {Φ : Str → List D → M D} {G : Str → Option D} {X : Cx} {W : WX} {pos : Pos}
/-- what a built-in function's rule asks, from what is computed -/
def BiS (X : Cx) (b : B) (r : List V → Hp → VK → Prop) : Prop := ∀ (F : Wd) (m : List Addr) (st : Store) (H : Hp) (ds : List D) (vs : List V) (d : D) (Q : VK), SR X.K F m st H → RepL X.K F m ds vs → biO b ds st = some d →
  (∀ F' m' H' v, Ext F F' m m' → SR X.K F' m' st H' → NewR X.K F' m' H' d v → Q v H') → r vs H Q
theorem n_bi {c : Expr} {b : B} {ees : List E} {r : List V → Hp → VK → Prop} (hs : BiS X b r) (h : PE X c (tCB r (liftL X W (evs Φ G ees)))) : PE X c (liftN X W (ev Φ G (.bi b ees))) := by
  refine h.imp fun σv H Q ⟨F, m, σ, st, sr, re, h⟩ => ⟨F, m, σ, st, sr, re, ?_⟩
  unfold ev at h
  refine post_bndN h fun F1 m1 H1 st1 ds vs x1 sr1 rx h1 => ?_
  cases e : biO b ds st1 with
  | none => simp only [e] at h1; exact h1.elim
  | some d =>
    simp only [e] at h1
    exact hs F1 m1 st1 H1 ds vs d Q sr1 rx e fun F' m' H' v x' s' r' => h1 F' m' H' v x' s' r'
theorem rep1 {K : PySem.W.Frag} {F : Wd} {m : List Addr} {d : D} {vs : List V} (r : RepL K F m [d] vs) : ∃ v, vs = [v] ∧ Rep K F m d v := by
  cases r with
  | cons r rr => cases rr; exact ⟨_, rfl, r⟩
theorem rep2 {K : PySem.W.Frag} {F : Wd} {m : List Addr} {d e : D} {vs : List V} (r : RepL K F m [d, e] vs) : ∃ v u, vs = [v, u] ∧ Rep K F m d v ∧ Rep K F m e u := by
  cases r with
  | cons r rr =>
    obtain ⟨u, rfl, r2⟩ := rep1 rr
    exact ⟨_, u, rfl, r, r2⟩
theorem ints_at {K : PySem.W.Frag} {F : Wd} {m : List Addr} {st : Store} {H : Hp} (sr : SR K F m st H) {d : D} {v : V} {xs : List D} {ns : List Int} (r : Rep K F m d v) (e : listAt st d = some xs) (ei : intsOf xs = some ns) : ∃ a, v = .ref a ∧ SqL K H a (ns.map V.int) := by
  obtain ⟨a, vs, rfl, h, rl⟩ := SqL_of_list sr r e
  have := rl.of_ints ei
  subst this
  exact ⟨a, rfl, SqL.of h⟩
theorem bls_at {K : PySem.W.Frag} {F : Wd} {m : List Addr} {st : Store} {H : Hp} (sr : SR K F m st H) {d : D} {v : V} {xs : List D} {ns : List Bool} (r : Rep K F m d v) (e : listAt st d = some xs) (ei : blsOf xs = some ns) : ∃ a, v = .ref a ∧ SqL K H a (ns.map V.bl) := by
  obtain ⟨a, vs, rfl, h, rl⟩ := SqL_of_list sr r e
  have := rl.of_bls ei
  subst this
  exact ⟨a, rfl, SqL.of h⟩

abbrev rLen (K : PySem.W.Frag) : List V → Hp → VK → Prop := fun xs H Q => (∃ p ys, xs = [.ref p] ∧ (SqL K H p ys ∨ SqT K H p ys) ∧ Q (.int ys.length) H) ∨ ∃ z, xs = [.str z] ∧ z.length ≤ sizeLine ∧ Q (.int z.length) H
theorem cr_lenM : CallR X (.builtin "len") (rLen X.K) := call_len_seq.or call_len_str
theorem bi_len : BiS X .len (rLen X.K) := by
  intro F m st H ds vs d Q sr r e hq
  simp only [biO] at e
  split at e
  · rename_i x
    obtain ⟨v, rfl, rv⟩ := rep1 r
    split at e
    · rename_i hz
      cases e; cases rv
      exact .inr ⟨x, rfl, szOk hz, hq _ _ _ _ Ext.refl sr (show Rep _ _ _ (.int _) _ from .int _)⟩
    · cases e
  · rename_i ns
    obtain ⟨v, rfl, rv⟩ := rep1 r
    cases e
    cases rv with
    | scr h => exact .inl ⟨_, _, rfl, .inl (sr.sub.seq h), by
        rw [List.length_map]
        exact hq _ _ _ _ Ext.refl sr (show Rep _ _ _ (.int _) _ from .int _)⟩
  · rename_i d1 _ _
    obtain ⟨v, rfl, rv⟩ := rep1 r
    cases e1 : seqAt st d1 with
    | none => simp [e1] at e
    | some xs =>
      simp [e1] at e
      subst e
      obtain ⟨a, ws, rfl, hsq, rl⟩ := seq_of sr rv e1
      exact .inl ⟨a, ws, rfl, hsq, by
        rw [← rl.length]
        exact hq _ _ _ _ Ext.refl sr (show Rep _ _ _ (.int _) _ from .int _)⟩
  · cases e
theorem bi_abs : BiS X .abs (fun xs H Q => ∃ i, xs = [.int i] ∧ Q (.int (if i < 0 then -i else i)) H) := by
  intro F m st H ds vs d Q sr r e hq
  simp only [biO] at e
  split at e
  · obtain ⟨v, rfl, rv⟩ := rep1 r
    cases e; cases rv
    exact ⟨_, rfl, hq _ _ _ _ Ext.refl sr (show Rep _ _ _ (.int _) _ from .int _)⟩
  · cases e
theorem bi_int : BiS X .int (fun xs H Q => ((∃ i, xs = [.int i] ∧ Q (.int i) H) ∨ ∃ k, xs = [.bl k] ∧ Q (.int (if k then 1 else 0)) H) ∨ ∃ a n, xs = [.str a] ∧ PySem.intText? a = some n ∧ a.length ≤ 640 ∧ Q (.int n) H) := by
  intro F m st H ds vs d Q sr r e hq
  simp only [biO] at e
  split at e
  · obtain ⟨v, rfl, rv⟩ := rep1 r
    cases e; cases rv
    exact .inl (.inl ⟨_, rfl, hq _ _ _ _ Ext.refl sr (show Rep _ _ _ (.int _) _ from .int _)⟩)
  · obtain ⟨v, rfl, rv⟩ := rep1 r
    cases e; cases rv
    exact .inl (.inr ⟨_, rfl, hq _ _ _ _ Ext.refl sr (show Rep _ _ _ (.int _) _ from .int _)⟩)
  · obtain ⟨v, rfl, rv⟩ := rep1 r
    cases rv
    split at e
    · rename_i hz
      rw [Option.map_eq_some_iff] at e
      obtain ⟨n, hn, rfl⟩ := e
      exact .inr ⟨_, n, rfl, hn, of_decide_eq_true hz, hq _ _ _ _ Ext.refl sr (show Rep _ _ _ (.int _) _ from .int _)⟩
    · cases e
  · cases e
theorem bi_bool : BiS X .bool (fun xs H Q => (∃ i, xs = [.int i] ∧ Q (.bl (i != 0)) H) ∨ ∃ k, xs = [.bl k] ∧ Q (.bl k) H) := by
  intro F m st H ds vs d Q sr r e hq
  simp only [biO] at e
  split at e
  · obtain ⟨v, rfl, rv⟩ := rep1 r
    cases e; cases rv
    exact .inr ⟨_, rfl, hq _ _ _ _ Ext.refl sr (show Rep _ _ _ (.bl _) _ from .bl _)⟩
  · cases e
theorem bi_strI : BiS X .strI (fun xs H Q => ∃ i, xs = [.int i] ∧ i.natAbs.log2 < 1920 ∧ Q (.str (toString i)) H) := by
  intro F m st H ds vs d Q sr r e hq
  simp only [biO] at e
  split at e
  · obtain ⟨v, rfl, rv⟩ := rep1 r
    split at e
    · rename_i hz
      cases e; cases rv
      have := of_decide_eq_true hz
      exact ⟨_, rfl, by omega, hq _ _ _ _ Ext.refl sr (show Rep _ _ _ (.str _) _ from .str _)⟩
    · cases e
  · cases e
theorem bi_max2 : BiS X .max2 (fun xs H Q => ∃ i j, xs = [.int i, .int j] ∧ Q (.int (if j > i then j else i)) H) := by
  intro F m st H ds vs d Q sr r e hq
  simp only [biO] at e
  split at e
  · obtain ⟨v, u, rfl, rv, ru⟩ := rep2 r
    cases e; cases rv; cases ru
    exact ⟨_, _, rfl, hq _ _ _ _ Ext.refl sr (show Rep _ _ _ (.int _) _ from .int _)⟩
  · cases e
theorem bi_min2 : BiS X .min2 (fun xs H Q => ∃ i j, xs = [.int i, .int j] ∧ Q (.int (if j < i then j else i)) H) := by
  intro F m st H ds vs d Q sr r e hq
  simp only [biO] at e
  split at e
  · obtain ⟨v, u, rfl, rv, ru⟩ := rep2 r
    cases e; cases rv; cases ru
    exact ⟨_, _, rfl, hq _ _ _ _ Ext.refl sr (show Rep _ _ _ (.int _) _ from .int _)⟩
  · cases e
theorem bi_all : BiS X .all (rAll X.K) := by
  intro F m st H ds vs d Q sr r e hq
  simp only [biO] at e
  split at e
  · obtain ⟨v, rfl, rv⟩ := rep1 r
    split at e
    · rename_i xs ex
      rw [Option.map_eq_some_iff] at e
      obtain ⟨bs, eb, rfl⟩ := e
      obtain ⟨a, rfl, h⟩ := bls_at sr rv ex eb
      exact ⟨a, bs, rfl, h, hq _ _ _ _ Ext.refl sr (show Rep _ _ _ (.bl _) _ from .bl _)⟩
    · cases e
  · cases e
theorem bi_any : BiS X .any (rAny X.K) := by
  intro F m st H ds vs d Q sr r e hq
  simp only [biO] at e
  split at e
  · obtain ⟨v, rfl, rv⟩ := rep1 r
    split at e
    · rename_i xs ex
      rw [Option.map_eq_some_iff] at e
      obtain ⟨bs, eb, rfl⟩ := e
      obtain ⟨a, rfl, h⟩ := bls_at sr rv ex eb
      exact ⟨a, bs, rfl, h, hq _ _ _ _ Ext.refl sr (show Rep _ _ _ (.bl _) _ from .bl _)⟩
    · cases e
  · cases e
theorem bi_sum : BiS X .sum (rSum X.K) := by
  intro F m st H ds vs d Q sr r e hq
  simp only [biO] at e
  split at e
  · obtain ⟨v, rfl, rv⟩ := rep1 r
    split at e
    · rename_i xs ex
      rw [Option.map_eq_some_iff] at e
      obtain ⟨bs, eb, rfl⟩ := e
      obtain ⟨a, rfl, h⟩ := ints_at sr rv ex eb
      exact ⟨a, bs, rfl, h, hq _ _ _ _ Ext.refl sr (show Rep _ _ _ (.int _) _ from .int _)⟩
    · cases e
  · cases e
theorem maxI_is : ∀ {ns : List Int} {k : Int}, maxI ns = some k → 0 < ns.length ∧ ∀ m, m ∈ ns → (∀ y, y ∈ ns → y ≤ m) → m = k
  | [], _, h => by cases h
  | x :: xs, k, h => by
    refine ⟨Nat.succ_pos _, fun m hm hy => ?_⟩
    have key : ∀ (xs : List Int) (x : Int), (∀ y, y ∈ xs → y ≤ xs.foldl (fun a b => if a < b then b else a) x) ∧ x ≤ xs.foldl (fun a b => if a < b then b else a) x ∧ (xs.foldl (fun a b => if a < b then b else a) x = x ∨ xs.foldl (fun a b => if a < b then b else a) x ∈ xs) := by
      intro xs
      induction xs with
      | nil => intro x; exact ⟨fun y h => by simp at h, Int.le_refl _, .inl rfl⟩
      | cons z zs ih =>
        intro x
        rw [List.foldl_cons]
        obtain ⟨h1, h2, h3⟩ := ih (if x < z then z else x)
        have hx : x ≤ (if x < z then z else x) ∧ z ≤ (if x < z then z else x) := by split <;> omega
        refine ⟨fun y hy => ?_, Int.le_trans hx.1 h2, ?_⟩
        · rcases List.mem_cons.mp hy with rfl | hy
          · exact Int.le_trans hx.2 h2
          · exact h1 y hy
        · rcases h3 with h3 | h3
          · rw [h3]
            split
            · exact .inr List.mem_cons_self
            · exact .inl rfl
          · exact .inr (List.mem_cons_of_mem _ h3)
    obtain ⟨h1, h2, h3⟩ := key xs x
    have h : some (xs.foldl (fun a b => if a < b then b else a) x) = some k := h
    have e := Option.some.inj h
    have a1 : k ≤ m := by
      rcases h3 with h3 | h3
      · exact hy k (by rw [← e, h3]; exact List.mem_cons_self)
      · exact hy k (by rw [← e]; exact List.mem_cons_of_mem _ h3)
    have a2 : m ≤ k := by
      rcases List.mem_cons.mp hm with rfl | hm
      · rw [← e]; exact h2
      · rw [← e]; exact h1 m hm
    omega
theorem minI_is : ∀ {ns : List Int} {k : Int}, minI ns = some k → 0 < ns.length ∧ ∀ m, m ∈ ns → (∀ y, y ∈ ns → m ≤ y) → m = k
  | [], _, h => by cases h
  | x :: xs, k, h => by
    refine ⟨Nat.succ_pos _, fun m hm hy => ?_⟩
    have key : ∀ (xs : List Int) (x : Int), (∀ y, y ∈ xs → xs.foldl (fun a b => if b < a then b else a) x ≤ y) ∧ xs.foldl (fun a b => if b < a then b else a) x ≤ x ∧ (xs.foldl (fun a b => if b < a then b else a) x = x ∨ xs.foldl (fun a b => if b < a then b else a) x ∈ xs) := by
      intro xs
      induction xs with
      | nil => intro x; exact ⟨fun y h => by simp at h, Int.le_refl _, .inl rfl⟩
      | cons z zs ih =>
        intro x
        rw [List.foldl_cons]
        obtain ⟨h1, h2, h3⟩ := ih (if z < x then z else x)
        have hx : (if z < x then z else x) ≤ x ∧ (if z < x then z else x) ≤ z := by split <;> omega
        refine ⟨fun y hy => ?_, Int.le_trans h2 hx.1, ?_⟩
        · rcases List.mem_cons.mp hy with rfl | hy
          · exact Int.le_trans h2 hx.2
          · exact h1 y hy
        · rcases h3 with h3 | h3
          · rw [h3]
            split
            · exact .inr List.mem_cons_self
            · exact .inl rfl
          · exact .inr (List.mem_cons_of_mem _ h3)
    obtain ⟨h1, h2, h3⟩ := key xs x
    have h : some (xs.foldl (fun a b => if b < a then b else a) x) = some k := h
    have e := Option.some.inj h
    have a1 : m ≤ k := by
      rcases h3 with h3 | h3
      · exact hy k (by rw [← e, h3]; exact List.mem_cons_self)
      · exact hy k (by rw [← e]; exact List.mem_cons_of_mem _ h3)
    have a2 : k ≤ m := by
      rcases List.mem_cons.mp hm with rfl | hm
      · rw [← e]; exact h2
      · rw [← e]; exact h1 m hm
    omega
theorem bi_maxL : BiS X .maxL (rMax X.K) := by
  intro F m st H ds vs d Q sr r e hq
  simp only [biO] at e
  split at e
  · obtain ⟨v, rfl, rv⟩ := rep1 r
    split at e
    · rename_i xs ex
      split at e
      · rename_i ns ei
        rw [Option.map_eq_some_iff] at e
        obtain ⟨k, ek, rfl⟩ := e
        obtain ⟨a, rfl, h⟩ := ints_at sr rv ex ei
        obtain ⟨h1, h2⟩ := maxI_is ek
        exact ⟨a, ns, rfl, h, h1, fun y hy hm => by rw [h2 y hy hm]; exact hq _ _ _ _ Ext.refl sr (show Rep _ _ _ (.int _) _ from .int _)⟩
      · cases e
    · cases e
  · cases e
theorem bi_minL : BiS X .minL (rMin X.K) := by
  intro F m st H ds vs d Q sr r e hq
  simp only [biO] at e
  split at e
  · obtain ⟨v, rfl, rv⟩ := rep1 r
    split at e
    · rename_i xs ex
      split at e
      · rename_i ns ei
        rw [Option.map_eq_some_iff] at e
        obtain ⟨k, ek, rfl⟩ := e
        obtain ⟨a, rfl, h⟩ := ints_at sr rv ex ei
        obtain ⟨h1, h2⟩ := minI_is ek
        exact ⟨a, ns, rfl, h, h1, fun y hy hm => by rw [h2 y hy hm]; exact hq _ _ _ _ Ext.refl sr (show Rep _ _ _ (.int _) _ from .int _)⟩
      · cases e
    · cases e
  · cases e
theorem bi_lstOf : BiS X .lstOf (fun xs H Q => ∃ p ys, xs = [.ref p] ∧ (SqL X.K H p ys ∨ SqT X.K H p ys) ∧ ∀ l, H l = none → Q (.ref l) (upd H l (.lst ys))) := by
  intro F m st H ds vs d Q sr r e hq
  simp only [biO] at e
  split at e
  · obtain ⟨v, rfl, rv⟩ := rep1 r
    rw [Option.map_eq_some_iff] at e
    obtain ⟨xs, ex, rfl⟩ := e
    obtain ⟨a, ws, rfl, hsq, rl⟩ := seq_of sr rv ex
    exact ⟨a, ws, rfl, hsq, fun p hp => hq _ _ _ _ Ext.refl (sr.extra hp _) ⟨p, ws, rfl, upd_same, sr.free hp, sr.freeP hp, sr.in_m hp, rl⟩⟩
  · cases e
theorem bi_tupOf : BiS X .tupOf (fun xs H Q => ∃ p ys, xs = [.ref p] ∧ ((SqL X.K H p ys ∧ ∀ l, H l = none → Q (.ref l) (upd H l (.tup ys))) ∨ (SqT X.K H p ys ∧ Q (.ref p) H))) := by
  intro F m st H ds vs d Q sr r e hq
  simp only [biO] at e
  split at e
  · obtain ⟨v, rfl, rv⟩ := rep1 r
    cases e
    have rv0 := rv
    obtain ⟨a, ws, rfl, hsq, rl⟩ := rv.tup_inv
    exact ⟨a, ws, rfl, .inr ⟨Same.seqT sr.sub hsq, hq _ _ _ _ Ext.refl sr (show Rep _ _ _ (.tup _ _) _ from rv0)⟩⟩
  · obtain ⟨v, rfl, rv⟩ := rep1 r
    rw [Option.map_eq_some_iff] at e
    obtain ⟨xs, ex, rfl⟩ := e
    obtain ⟨a, ws, rfl, h, rl⟩ := SqL_of_list sr rv ex
    refine ⟨a, ws, rfl, .inl ⟨SqL.of h, fun p hp => ?_⟩⟩
    obtain ⟨s2, x2⟩ := sr.new hp (.tup ws)
    exact hq _ _ _ _ x2 s2 (show Rep _ _ _ (.tup _ _) _ from .tup upd_same (x2.repL rl))
  · cases e

/-! ### sorted -/
/-- the ints of a tuple that stands -/
def keyV (f : Hp) : V → List Int
  | .ref a => match f a with
    | some (.tup vs) => vs.map fun v => match v with
      | .int i => i
      | _ => 0
    | _ => []
  | _ => []
theorem tups_rep {K : PySem.W.Frag} {F : Wd} {m : List Addr} : ∀ {ds : List D} {vs : List V} {ts : List (List Int)}, RepL K F m ds vs → tupsOf ds = some ts → vs.map (keyV F.f) = ts ∧ ∀ v ∈ vs, ∃ a, v = .ref a ∧ F.f a = some (.tup ((keyV F.f v).map V.int))
  | _, _, _, .nil, e => by simp [tupsOf] at e; subst e; exact ⟨rfl, fun v h => by simp at h⟩
  | _, _, ts, .cons (d := d) (ds := ds) h r, e => by
    cases h with
    | tup hf rl =>
      rename_i a us xs
      simp only [tupsOf] at e
      cases e1 : intsOf xs with
      | none => simp [e1] at e
      | some ns =>
        cases e2 : tupsOf ds with
        | none => simp [e1, e2] at e
        | some r' =>
          simp [e1, e2] at e
          subst e
          obtain ⟨h1, h2⟩ := tups_rep r e2
          have eu := rl.of_ints e1
          subst eu
          have ek : keyV F.f (.ref a) = ns := by
            unfold keyV
            simp only [hf, List.map_map]
            show List.map (fun x => x) ns = ns
            exact List.map_id' ns
          refine ⟨by rw [List.map_cons, ek, h1], fun v hv => ?_⟩
          rcases List.mem_cons.mp hv with rfl | hv
          · exact ⟨a, rfl, by rw [ek]; exact hf⟩
          · exact h2 v hv
    | _ => simp [tupsOf] at e
theorem rep_tupI {K : PySem.W.Frag} {F : Wd} {m : List Addr} : ∀ {vs : List V}, (∀ v ∈ vs, ∃ a, v = .ref a ∧ F.f a = some (.tup ((keyV F.f v).map V.int))) → RepL K F m ((vs.map (keyV F.f)).map tupI) vs
  | [], _ => .nil
  | v :: vs, h => by
    obtain ⟨a, e, hf⟩ := h v List.mem_cons_self
    refine .cons ?_ (rep_tupI fun u hu => h u (List.mem_cons_of_mem _ hu))
    rw [e] at hf ⊢
    exact .tup hf (RepL.ints _)
/-- the tuples of a tuple that stands -/
def netV (f : Hp) : V → List (List Int)
  | .ref a => match f a with
    | some (.tup vs) => vs.map (keyV f)
    | _ => []
  | _ => []
theorem nets_rep {K : PySem.W.Frag} {F : Wd} {m : List Addr} : ∀ {ds : List D} {vs : List V} {ts : List (List (List Int))}, RepL K F m ds vs → netsOf ds = some ts → vs.map (netV F.f) = ts ∧ ∀ v ∈ vs, ∃ a us, v = .ref a ∧ F.f a = some (.tup us) ∧ netV F.f v = us.map (keyV F.f) ∧ ∀ u ∈ us, ∃ b, u = .ref b ∧ F.f b = some (.tup ((keyV F.f u).map V.int))
  | _, _, _, .nil, e => by simp [netsOf] at e; subst e; exact ⟨rfl, fun v h => by simp at h⟩
  | _, _, ts, .cons (d := d) (ds := ds) h r, e => by
    cases h with
    | tup hf rl =>
      rename_i a us xs
      simp only [netsOf] at e
      cases e1 : tupsOf xs with
      | none => simp [e1] at e
      | some ns =>
        cases e2 : netsOf ds with
        | none => simp [e1, e2] at e
        | some r' =>
          simp [e1, e2] at e
          subst e
          obtain ⟨h1, h2⟩ := nets_rep r e2
          obtain ⟨g1, g2⟩ := tups_rep rl e1
          have ek : netV F.f (.ref a) = us.map (keyV F.f) := by
            unfold netV
            simp only [hf]
          refine ⟨by rw [List.map_cons, ek, g1, h1], fun v hv => ?_⟩
          rcases List.mem_cons.mp hv with rfl | hv
          · exact ⟨a, us, rfl, hf, ek, g2⟩
          · exact h2 v hv
    | _ => simp [netsOf] at e
theorem rep_netI {K : PySem.W.Frag} {F : Wd} {m : List Addr} : ∀ {vs : List V}, (∀ v ∈ vs, ∃ a us, v = .ref a ∧ F.f a = some (.tup us) ∧ netV F.f v = us.map (keyV F.f) ∧ ∀ u ∈ us, ∃ b, u = .ref b ∧ F.f b = some (.tup ((keyV F.f u).map V.int))) → RepL K F m ((vs.map (netV F.f)).map netI) vs
  | [], _ => .nil
  | v :: vs, h => by
    obtain ⟨a, us, e, hf, ek, g⟩ := h v List.mem_cons_self
    refine .cons ?_ (rep_netI fun u hu => h u (List.mem_cons_of_mem _ hu))
    rw [ek]
    subst e
    exact .tup hf (rep_tupI g)
theorem dp_leg {K : PySem.W.Frag} {H f : Hp} (hs : Same f H) {u : V} (h : ∃ b, u = .ref b ∧ f b = some (.tup ((keyV f u).map V.int))) : Dp K H u (PySem.W.Datum.toD (SrtO.legT (keyV f u))) := by
  obtain ⟨b, e, hb⟩ := h
  generalize keyV f u = ns at hb ⊢
  subst e
  refine .tup (.inl (.inl (hs _ _ hb))) ?_
  induction ns with
  | nil => exact .nil
  | cons n ns ih =>
    have : ∀ ns : List Int, DpAll K H (ns.map V.int) (ns.map PySem.W.Datum.toD) := fun ns => by
      induction ns with
      | nil => exact .nil
      | cons n ns ih => exact .cons (.int n) ih
    exact this _
theorem dp_net {K : PySem.W.Frag} {H f : Hp} (hs : Same f H) : ∀ us : List V, (∀ u ∈ us, ∃ b, u = .ref b ∧ f b = some (.tup ((keyV f u).map V.int))) → DpAll K H us (((us.map (keyV f)).map SrtO.legT).map PySem.W.Datum.toD)
  | [], _ => .nil
  | u :: us, h => .cons (dp_leg hs (h u List.mem_cons_self)) (dp_net hs us fun w hw => h w (List.mem_cons_of_mem _ hw))
theorem bi_sorted : BiS X .sorted (fun vs H Q => rSrtI X.K vs H Q ∨ rSrtT X.K vs H Q ∨ rSrt1 X.K vs H Q ∨ rSrtN X.K vs H Q) := by
  intro F m st H ds vs d Q sr r e hq
  simp only [biO] at e
  split at e
  · obtain ⟨v, rfl, rv⟩ := rep1 r
    split at e
    · rename_i xs ex
      obtain ⟨a, ws, rfl, hsq, rl⟩ := seq_of sr rv ex
      unfold sortedO at e
      cases e1 : intsOf xs with
      | some ns =>
        simp only [e1] at e
        cases e
        have ew := rl.of_ints e1
        subst ew
        refine .inl ⟨a, ns, rfl, hsq, fun ns' p hp hs hn => ?_⟩
        rw [sortI_eq hp hs]
        exact hq _ _ _ _ Ext.refl (sr.extra hn _) ⟨p, _, rfl, upd_same, sr.free hn, sr.freeP hn, sr.in_m hn, RepL.ints _⟩
      | none =>
        simp only [e1] at e
        cases e2 : tupsOf xs with
        | none =>
          simp only [e2] at e
          cases e3 : netsOf xs with
          | none => simp only [e3] at e; cases e
          | some ts =>
            simp only [e3] at e
            split at e
            · rename_i hne
              cases e
              rw [Bool.and_eq_true] at hne
              obtain ⟨h1, h2⟩ := nets_rep rl e3
              refine .inr (.inr (.inr ⟨a, ws, netV F.f, rfl, hsq, fun x hx => ?_, fun ys p hp hs hn => ?_⟩))
              · obtain ⟨b, us, eb, hf, ek, g⟩ := h2 x hx
                refine ⟨⟨b, eb⟩, fun z => ?_, ?_⟩
                · have : netV F.f x ∈ ts := by rw [← h1]; exact List.mem_map_of_mem hx
                  have q := List.all_eq_true.mp hne.1 _ this
                  rw [z] at q
                  exact absurd q (by simp)
                · rw [ek]
                  subst eb
                  exact .tup (.inl (.inl (sr.sub _ _ hf))) (dp_net sr.sub us g)
              · have es : ys.map (netV F.f) = sortN ts := sortN_eq (by rw [← h1]; exact hp.map _) (List.pairwise_map.mpr hs)
                refine hq _ _ _ _ Ext.refl (sr.extra hn _) ⟨p, ys, rfl, upd_same, sr.free hn, sr.freeP hn, sr.in_m hn, ?_⟩
                rw [← es]
                exact rep_netI fun v hv => h2 v (hp.mem_iff.mp hv)
            · cases e
        | some ts =>
          simp only [e2] at e
          split at e
          · rename_i hne
            cases e
            obtain ⟨h1, h2⟩ := tups_rep rl e2
            refine .inr (.inl ⟨a, ws, keyV F.f, rfl, hsq, fun x hx => ?_, fun ys p hp hs hn => ?_⟩)
            · obtain ⟨b, eb, hf⟩ := h2 x hx
              refine ⟨fun z => ?_, b, eb, .inl (.inl (sr.sub _ _ hf))⟩
              have : keyV F.f x ∈ ts := by rw [← h1]; exact List.mem_map_of_mem hx
              have q := List.all_eq_true.mp hne _ this
              rw [z] at q
              exact absurd q (by simp)
            · have es : ys.map (keyV F.f) = sortT ts := sortT_eq (by rw [← h1]; exact hp.map _) (List.pairwise_map.mpr hs)
              refine hq _ _ _ _ Ext.refl (sr.extra hn _) ⟨p, ys, rfl, upd_same, sr.free hn, sr.freeP hn, sr.in_m hn, ?_⟩
              rw [← es]
              exact rep_tupI fun v hv => h2 v (hp.mem_iff.mp hv)
          · split at e
            · rename_i hle
              cases e
              have hle := of_decide_eq_true hle
              obtain ⟨h1, _⟩ := tups_rep rl e2
              have hw : ws.length ≤ 1 := by rw [← List.length_map (f := keyV F.f), h1]; exact hle
              exact .inr (.inr (.inl ⟨a, ws, rfl, hsq, hw, fun p hn => hq _ _ _ _ Ext.refl (sr.extra hn _) ⟨p, _, rfl, upd_same, sr.free hn, sr.freeP hn, sr.in_m hn, rl⟩⟩))
            · cases e
    · cases e
  · cases e
end
end MN
set_option Elab.async false
set_option linter.all false
set_option maxRecDepth 100000
/-! MiniO: isinstance, ranges, dicts, methods: from readings to what is computed. -/
namespace MN
variable [TabP]
open PySem PySem.Spec L2
section
variable {Φ : Str → List D → M D} {G : Str → Option D} {X : Cx} {W : WX} {pos : Pos}

/-! ### isinstance -/
def tyD : D → Option String
  | .non => some "NoneType"
  | .bl _ => some "bool"
  | .int _ => some "int"
  | .str _ => some "str"
  | .tup _ _ => some "tuple"
  | .lst _ => some "list"
  | _ => none
theorem tyx_of {F : Wd} {m : List Addr} {st : Store} {H : Hp} {d : D} {v : V} {T : String} (sr : SR X.K F m st H) (r : Rep X.K F m d v) (e : tyD d = some T) : TyX X.K H v (.type T) := by
  cases r with
  | non => cases e; exact .base .non
  | bl b => cases e; exact .base (.bl b)
  | int i => cases e; exact .base (.int i)
  | str x => cases e; exact .base (.str x)
  | tup h r => cases e; exact .base (.tup (sr.sub _ _ h))
  | tupW h r =>
    cases e
    rcases h with (h | ⟨o, h⟩) | ⟨o, its, n, hk, hc, hs, hz, hr⟩
    · exact .base (.tup (sr.sub _ _ h))
    · exact .fTuple (sr.sub _ _ h)
    · exact .kTuple hk hc
  | lst h r => cases e; exact .base (.lst (sr.sub _ _ h))
  | _ => cases e
/-- the class that a test names -/
def isT : B → Option String
  | .isTup => some "tuple"
  | .isInt => some "int"
  | .isBool => some "bool"
  | .isStr => some "str"
  | .isLst => some "list"
  | _ => none
theorem is_kit {b : B} {T U : String} {d d' : D} {st : Store} (hb : isT b = some U) (ht : tyD d = some T) (h : biO b [d] st = some d') : ∃ r, d' = .bl r ∧ kitB T U = some r := by
  cases b <;> simp only [isT, Option.some.injEq, reduceCtorEq] at hb <;> subst hb <;> cases d <;> simp only [tyD, Option.some.injEq, reduceCtorEq] at ht <;> subst ht <;> simp only [biO, Option.some.injEq] at h <;> subst h <;> exact ⟨_, rfl, by decide +kernel⟩
theorem is_ty {b : B} {U : String} {d d' : D} {st : Store} (hb : isT b = some U) (h : biO b [d] st = some d') : ∃ T, tyD d = some T := by
  cases b <;> simp only [isT, reduceCtorEq] at hb <;> cases d <;> simp only [biO, reduceCtorEq] at h <;> exact ⟨_, rfl⟩
theorem is_one {b : B} {U : String} {ds : List D} {d' : D} {st : Store} (hb : isT b = some U) (h : biO b ds st = some d') : ∃ d, ds = [d] := by
  cases b <;> simp only [isT, reduceCtorEq] at hb <;> (simp only [biO] at h; split at h <;> first | exact ⟨_, rfl⟩ | cases h)
theorem n_isi {b : B} {U : String} {e : Expr} {ee : E} {x : Str} {p q : Pos} (hb : isT b = some U) (hg : Gl X "isinstance") (hm : X.mg "isinstance" = none) (hg2 : Gl X x) (hm2 : X.mg x = none) (hv : bootBuiltins x = some (.type U)) (hn : x ≠ "__name__") (hdb : (x == ("__debug__" : Str)) = false)
    (ha : PE X e (lift X W (ev Φ G ee))) (hs : starEach [e, .Name x q] X.env = (false, eval e X.env) :: starEach [.Name x q] X.env) : PE X (.Call (.Name "isinstance" p) [e, .Name x q] [] pos) (liftN X W (ev Φ G (.bi b [ee]))) := by
  refine (pe_callB call_isi hg hm PyProof.Rows.boot_isinstance (pa_cons ha (pa_cons (pe_tyN hg2 hm2 hv hn hdb) pa_nil) hs) (he := hs)).imp fun σv H Q ⟨F, m, σ, st, sr, re, h⟩ => ?_
  refine ⟨F, m, σ, st, sr, re, ?_⟩
  unfold ev at h
  have e1 : evs Φ G [ee] σ st = _ := evs_one
  cases e0 : ev Φ G ee σ st with
  | bad => rw [e0] at e1; rw [bnd_bad e1] at h; exact h
  | err y st1 => rw [e0] at e1; rw [bnd_err e1] at h; exact h
  | ok d st1 =>
    rw [e0] at e1
    rw [bnd_ok e1] at h
    intro F1 m1 H1 v x1 s1 r1
    cases eb : biO b [d] st1 with
    | none => simp only [eb] at h; exact h.elim
    | some d' =>
      simp only [eb] at h
      obtain ⟨T, ht⟩ := is_ty hb eb
      obtain ⟨k, rfl, hk⟩ := is_kit hb ht eb
      exact ⟨v, .ty U, _, _, k, rfl, .ty U, tyx_of s1 r1 ht, kit_ty hk, h F1 m1 H1 _ x1 s1 (show Rep _ _ _ (.bl _) _ from .bl k)⟩

/-! ### list(range(..)), tuple(range(..)) -/
theorem rgRep {K : PySem.W.Frag} {F : Wd} {m : List Addr} (a b : Int) : RepL K F m (rangeD a b) (rgV a b) := by
  unfold rangeD rgV
  have : ∀ n : List Nat, RepL K F m (n.map fun i => D.int (a + (i : Nat))) (n.map fun i => V.int (a + (i : Nat))) := by
    intro n
    induction n with
    | nil => exact .nil
    | cons i n ih => exact .cons (.int _) ih
  exact this _
theorem rgOk' {a b : Int} (h : rangeOk a b = true) : RgOk a b := by
  obtain ⟨h1, h2, h3, h4⟩ := rgOk h
  exact ⟨by omega, by omega, by omega, by omega, by omega⟩
theorem evs_two {e f : E} {σ : Env} {st : Store} : evs Φ G [e, f] σ st = match ev Φ G e σ st with
    | .ok d st' => (match ev Φ G f σ st' with
      | .ok d2 st2 => .ok [d, d2] st2
      | .err x st2 => .err x st2
      | .bad => .bad)
    | .err x st' => .err x st'
    | .bad => .bad := by
  unfold evs
  unfold M.bnd
  cases ev Φ G e σ st with
  | bad => rfl
  | err x st' => rfl
  | ok d st' =>
    dsimp only
    rw [evs_one]
    cases ev Φ G f σ st' <;> rfl
theorem post_bi1 {b : B} {ee : E} {σ : Env} {st : Store} {σv : St} {F : Wd} {m : List Addr} {Q T : VK} (h : PostN X W σv F m Q (ev Φ G (.bi b [ee]) σ st))
    (hT : ∀ F1 m1 H1 st1 d v d', Ext F F1 m m1 → SR X.K F1 m1 st1 H1 → Rep X.K F1 m1 d v → biO b [d] st1 = some d' → (∀ F2 m2 H2 v2, Ext F1 F2 m1 m2 → SR X.K F2 m2 st1 H2 → NewR X.K F2 m2 H2 d' v2 → Q v2 H2) → T v H1) : PostG X (Rep X.K) W σv F m T (ev Φ G ee σ st) := by
  unfold ev at h
  have e1 : evs Φ G [ee] σ st = _ := evs_one
  cases e0 : ev Φ G ee σ st with
  | bad => rw [e0] at e1; rw [bnd_bad e1] at h; exact h
  | err y st1 => rw [e0] at e1; rw [bnd_err e1] at h; exact h
  | ok d st1 =>
    rw [e0] at e1
    rw [bnd_ok e1] at h
    intro F1 m1 H1 v x1 s1 r1
    cases eb : biO b [d] st1 with
    | none => simp only [eb] at h; exact h.elim
    | some d' =>
      simp only [eb] at h
      exact hT F1 m1 H1 st1 d v d' x1 s1 r1 eb fun F2 m2 H2 v2 x2 => h F2 m2 H2 v2 (x1.trans x2)
theorem post_bi2 {b : B} {ee ff : E} {σ : Env} {st : Store} {σv : St} {F : Wd} {m : List Addr} {Q : VK} {T : V → Hp → VK} (re : RepE X.K F m σ σv) (h : PostN X W σv F m Q (ev Φ G (.bi b [ee, ff]) σ st))
    (hT : ∀ F1 m1 H1 st1 d e v u d' w H0, Ext F F1 m m1 → SR X.K F1 m1 st1 H1 → Rep X.K F1 m1 d v → Rep X.K F1 m1 e u → biO b [d, e] st1 = some d' → (∀ F2 m2 H2 v2, Ext F1 F2 m1 m2 → SR X.K F2 m2 st1 H2 → NewR X.K F2 m2 H2 d' v2 → Q v2 H2) → v = w → T w H0 u H1) :
    PostG X (Rep X.K) W σv F m (fun v H1 => lift X W (ev Φ G ff) σv H1 (T v H1)) (ev Φ G ee σ st) := by
  unfold ev at h
  have e1 : evs Φ G [ee, ff] σ st = _ := evs_two
  cases e0 : ev Φ G ee σ st with
  | bad => rw [e0] at e1; rw [bnd_bad e1] at h; exact h
  | err y st1 => rw [e0] at e1; rw [bnd_err e1] at h; exact h
  | ok d st1 =>
    simp only [e0] at e1
    intro F1 m1 H1 v x1 s1 r1
    refine ⟨F1, m1, σ, st1, s1, x1.env re, ?_⟩
    cases e2 : ev Φ G ff σ st1 with
    | bad => simp only [e2] at e1; rw [bnd_bad e1] at h; exact h
    | err y st2 =>
      simp only [e2] at e1; rw [bnd_err e1] at h
      exact fun F' m' H' cls dx x => h F' m' H' cls dx (x1.trans x)
    | ok d2 st2 =>
      simp only [e2] at e1
      rw [bnd_ok e1] at h
      intro F2 m2 H2 u x2 s2 r2
      cases eb : biO b [d, d2] st2 with
      | none => simp only [eb] at h; exact h.elim
      | some d' =>
        simp only [eb] at h
        exact hT F2 m2 H2 st2 d d2 v u d' v H1 (x1.trans x2) s2 (x2.rep r1) r2 eb (fun F3 m3 H3 v3 x3 => h F3 m3 H3 v3 ((x1.trans x2).trans x3)) rfl
variable {a b : Expr} {ea eb : E} {p q : Pos}
theorem n_lstRg1 (hc : X.calm = true) (hg : Gl X "list") (hm : X.mg "list" = none) (hg2 : Gl X "range") (hm2 : X.mg "range" = none) (ha : PE X a (lift X W (ev Φ G ea))) (na : starEach [a] X.env = (false, eval a X.env) :: starEach [] X.env)
    {p2 : Pos} (nb : starEach [.Call (.Name "range" p2) [a] [] q] X.env = (false, eval (.Call (.Name "range" p2) [a] [] q) X.env) :: starEach [] X.env) : PE X (.Call (.Name "list" p) [.Call (.Name "range" p2) [a] [] q] [] pos) (liftN X W (ev Φ G (.bi .lstRange1 [ea]))) := by
  refine (pe_listRg hc hg hm (prg_1 hg2 hm2 ha na) nb).imp fun σv H Q ⟨F, m, σ, st, sr, re, h⟩ => ?_
  refine ⟨F, m, σ, st, sr, re, post_bi1 h fun F1 m1 H1 st1 d v d' x1 s1 r1 eb hq => ?_⟩
  simp only [biO] at eb
  split at eb
  · rename_i n e
    cases e
    split at eb
    · rename_i hr
      cases eb; cases r1
      exact ⟨n, rfl, rgOk' hr, fun p hp => hq _ _ _ _ Ext.refl (s1.extra hp _) ⟨p, _, rfl, upd_same, s1.free hp, s1.freeP hp, s1.in_m hp, rgRep 0 n⟩⟩
    · cases eb
  · cases eb
theorem n_tupRg1 (hc : X.calm = true) (hg : Gl X "tuple") (hm : X.mg "tuple" = none) (hg2 : Gl X "range") (hm2 : X.mg "range" = none) (ha : PE X a (lift X W (ev Φ G ea))) (na : starEach [a] X.env = (false, eval a X.env) :: starEach [] X.env)
    {p2 : Pos} (nb : starEach [.Call (.Name "range" p2) [a] [] q] X.env = (false, eval (.Call (.Name "range" p2) [a] [] q) X.env) :: starEach [] X.env) : PE X (.Call (.Name "tuple" p) [.Call (.Name "range" p2) [a] [] q] [] pos) (liftN X W (ev Φ G (.bi .tupRange1 [ea]))) := by
  refine (pe_tupRg hc hg hm (prg_1 hg2 hm2 ha na) nb).imp fun σv H Q ⟨F, m, σ, st, sr, re, h⟩ => ?_
  refine ⟨F, m, σ, st, sr, re, post_bi1 h fun F1 m1 H1 st1 d v d' x1 s1 r1 eb hq => ?_⟩
  simp only [biO] at eb
  split at eb
  · rename_i n e
    cases e
    split at eb
    · rename_i hr
      cases eb; cases r1
      refine ⟨n, rfl, rgOk' hr, fun p hp => ?_⟩
      obtain ⟨s2, x2⟩ := s1.new hp (.tup (rgV 0 n))
      exact hq _ _ _ _ x2 s2 (show Rep _ _ _ (.tup _ _) _ from .tup upd_same (rgRep 0 n))
    · cases eb
  · cases eb
theorem n_lstRg2 (hc : X.calm = true) (hg : Gl X "list") (hm : X.mg "list" = none) (hg2 : Gl X "range") (hm2 : X.mg "range" = none) (ha : PE X a (lift X W (ev Φ G ea))) (hb : PE X b (lift X W (ev Φ G eb))) (na : starEach [a, b] X.env = (false, eval a X.env) :: starEach [b] X.env) (nb : starEach [b] X.env = (false, eval b X.env) :: starEach [] X.env) (hp : (backTo q (starEach [b] X.env)).any (·.1) = false)
    {p2 : Pos} (nc : starEach [.Call (.Name "range" p2) [a, b] [] q] X.env = (false, eval (.Call (.Name "range" p2) [a, b] [] q) X.env) :: starEach [] X.env) : PE X (.Call (.Name "list" p) [.Call (.Name "range" p2) [a, b] [] q] [] pos) (liftN X W (ev Φ G (.bi .lstRange2 [ea, eb]))) := by
  refine (pe_listRg hc hg hm (prg_2 hg2 hm2 ha hb na nb hp) nc).imp fun σv H Q ⟨F, m, σ, st, sr, re, h⟩ => ?_
  refine ⟨F, m, σ, st, sr, re, post_bi2 re h (T := fun x _ y H2 => ∃ i j, x = .int i ∧ y = .int j ∧ RgOk i j ∧ ∀ q, H2 q = none → Q (.ref q) (upd H2 q (.lst (rgV i j)))) fun F1 m1 H1 st1 d e v u d' w H0 x1 s1 r1 r2 eb hq ew => ?_⟩
  subst ew
  simp only [biO] at eb
  split at eb
  · rename_i i j e
    cases e
    split at eb
    · rename_i hr
      cases eb; cases r1; cases r2
      exact ⟨i, j, rfl, rfl, rgOk' hr, fun p hp => hq _ _ _ _ Ext.refl (s1.extra hp _) ⟨p, _, rfl, upd_same, s1.free hp, s1.freeP hp, s1.in_m hp, rgRep i j⟩⟩
    · cases eb
  · cases eb
theorem n_tupRg2 (hc : X.calm = true) (hg : Gl X "tuple") (hm : X.mg "tuple" = none) (hg2 : Gl X "range") (hm2 : X.mg "range" = none) (ha : PE X a (lift X W (ev Φ G ea))) (hb : PE X b (lift X W (ev Φ G eb))) (na : starEach [a, b] X.env = (false, eval a X.env) :: starEach [b] X.env) (nb : starEach [b] X.env = (false, eval b X.env) :: starEach [] X.env) (hp : (backTo q (starEach [b] X.env)).any (·.1) = false)
    {p2 : Pos} (nc : starEach [.Call (.Name "range" p2) [a, b] [] q] X.env = (false, eval (.Call (.Name "range" p2) [a, b] [] q) X.env) :: starEach [] X.env) : PE X (.Call (.Name "tuple" p) [.Call (.Name "range" p2) [a, b] [] q] [] pos) (liftN X W (ev Φ G (.bi .tupRange2 [ea, eb]))) := by
  refine (pe_tupRg hc hg hm (prg_2 hg2 hm2 ha hb na nb hp) nc).imp fun σv H Q ⟨F, m, σ, st, sr, re, h⟩ => ?_
  refine ⟨F, m, σ, st, sr, re, post_bi2 re h (T := fun x _ y H2 => ∃ i j, x = .int i ∧ y = .int j ∧ RgOk i j ∧ ∀ q, H2 q = none → Q (.ref q) (upd H2 q (.tup (rgV i j)))) fun F1 m1 H1 st1 d e v u d' w H0 x1 s1 r1 r2 eb hq ew => ?_⟩
  subst ew
  simp only [biO] at eb
  split at eb
  · rename_i i j e
    cases e
    split at eb
    · rename_i hr
      cases eb; cases r1; cases r2
      refine ⟨i, j, rfl, rfl, rgOk' hr, fun p hp => ?_⟩
      obtain ⟨s2, x2⟩ := s1.new hp (.tup (rgV i j))
      exact hq _ _ _ _ x2 s2 (show Rep _ _ _ (.tup _ _) _ from .tup upd_same (rgRep i j))
    · cases eb
  · cases eb

/-! ### len(set(..)) -/
theorem n_lenSet (hg : Gl X "len") (hm : X.mg "len" = none) (hg2 : Gl X "set") (hm2 : X.mg "set" = none) (ha : PE X a (lift X W (ev Φ G ea))) (hc : X.calm = true) {p2 : Pos}
    (na : starEach [a] X.env = (false, eval a X.env) :: starEach [] X.env) (na2 : starEach [.Call (.Name "set" p2) [a] [] q] X.env = (false, eval (.Call (.Name "set" p2) [a] [] q) X.env) :: starEach [] X.env) : PE X (.Call (.Name "len" p) [.Call (.Name "set" p2) [a] [] q] [] pos) (liftN X W (ev Φ G (.bi .lenSet [ea]))) := by
  refine (pe_lenSetM hg hm hg2 hm2 ha hc na na2).imp fun σv H Q ⟨F, m, σ, st, sr, re, h⟩ => ?_
  refine ⟨F, m, σ, st, sr, re, post_bi1 h fun F1 m1 H1 st1 d v d' x1 s1 r1 eb hq => ?_⟩
  simp only [biO] at eb
  split at eb
  · rename_i xs ex
    split at eb
    · rename_i ns ei
      split at eb
      · rename_i hz
        cases eb
        obtain ⟨a, rfl, hl⟩ := ints_at s1 r1 ex ei
        have := of_decide_eq_true hz
        exact ⟨a, ns, rfl, hl, by omega, hq _ _ _ _ Ext.refl s1 (show Rep _ _ _ (.int _) _ from .int _)⟩
      · cases eb
    · cases eb
  · cases eb

/-! ### dict(pairs) -/
theorem put_all {κ : Type} [DecidableEq κ] {K : PySem.W.Frag} {F : Wd} {m : List Addr} : ∀ (more : List (κ × V)) (xs : List D) (acc : List (κ × V)) (ys : List D), RepL K F m xs (more.map (·.2)) → RepL K F m ys (acc.map (·.2)) →
    (putAllKV (acc.map (·.1)) ys (more.map (·.1)) xs).1 = (more.foldl (fun a kv => putK a kv.1 kv.2) acc).map (·.1) ∧ RepL K F m (putAllKV (acc.map (·.1)) ys (more.map (·.1)) xs).2 ((more.foldl (fun a kv => putK a kv.1 kv.2) acc).map (·.2))
  | [], xs, acc, ys, r, r2 => by
    cases r
    unfold putAllKV
    exact ⟨rfl, r2⟩
  | kv :: more, xs, acc, ys, r, r2 => by
    cases r with
    | cons h r =>
      rename_i d ds
      obtain ⟨h1, h2⟩ := rep_put kv.1 h acc ys r2
      have ih := put_all more ds (putK acc kv.1 kv.2) (putKV (acc.map (·.1)) ys kv.1 d).2 r h2
      rw [← h1] at ih
      simp only [List.map_cons, List.foldl_cons]
      unfold putAllKV
      exact ih
theorem pairs_dk {K : PySem.W.Frag} {F : Wd} {m : List Addr} {H : Hp} (sb : Same F.f H) : ∀ {ds : List D} {vs : List V} {ks : List Key} {ys : List D}, RepL K F m ds vs → pairsO keyOf ds = some (ks, ys) →
    ∃ (ps : List Addr) (kvs : List (L2.Key × V)), vs = ps.map V.ref ∧ Paired (fun p kv => SqT K H p [kV kv.1, kv.2]) ps kvs ∧ ks = kvs.map (·.1) ∧ RepL K F m ys (kvs.map (·.2))
  | _, _, _, _, .nil, e => by
    simp [pairsO] at e
    obtain ⟨rfl, rfl⟩ := e
    exact ⟨[], [], rfl, .nil, rfl, .nil⟩
  | _, _, ks, ys, .cons (d := d) (ds := ds) h r, e => by
    unfold pairsO at e
    split at e
    · rename_i ds0 eq; cases eq
    · rename_i w k v ds1 eq
      cases eq
      obtain ⟨a, us, rfl, hq, rl⟩ := h.tup_inv
      obtain ⟨vk, vv, rfl, rk, rv⟩ := rep2 rl
      cases e1 : keyOf k with
      | none => simp [e1] at e
      | some k' =>
        cases e2 : pairsO keyOf ds with
        | none => simp [e1, e2] at e
        | some r2 =>
          obtain ⟨ks2, ys2⟩ := r2
          simp [e1, e2] at e
          obtain ⟨rfl, rfl⟩ := e
          obtain ⟨ps, kvs, rfl, h1, rfl, h3⟩ := pairs_dk sb r e2
          have ek := keyOf_kV rk e1
          subst ek
          exact ⟨a :: ps, (k', vv) :: kvs, rfl, .cons (Same.seqT sb hq) h1, rfl, .cons rv h3⟩
    · cases e
abbrev rDictP (K : PySem.W.Frag) : List V → Hp → VK → Prop := fun xs H Q => ∃ (a : Addr) (ps : List Addr) (kvs : List (L2.Key × V)), xs = [.ref a] ∧ SqL K H a (ps.map V.ref) ∧ Paired (fun p kv => SqT K H p [kV kv.1, kv.2]) ps kvs ∧
    ∀ p, H p = none → Q (.ref p) (upd H p (.dK (mergeK [] kvs)))
theorem bi_dictK : BiS X .dictK (rDictP X.K) := by
  intro F m st H ds vs d Q sr r e hq
  simp only [biO] at e
  split at e
  · obtain ⟨v, rfl, rv⟩ := rep1 r
    split at e
    · rename_i xs ex
      rw [Option.map_eq_some_iff] at e
      obtain ⟨⟨ks, ys⟩, ep, rfl⟩ := e
      obtain ⟨a, ws, rfl, hl, rl⟩ := SqL_of_list sr rv ex
      obtain ⟨ps, kvs, rfl, h1, rfl, h3⟩ := pairs_dk sr.sub rl ep
      refine ⟨a, ps, kvs, rfl, SqL.of hl, h1, fun p hp => ?_⟩
      obtain ⟨g1, g2⟩ := put_all kvs ys ([] : List (L2.Key × V)) [] h3 .nil
      exact hq _ _ _ _ Ext.refl (sr.extra hp _) ⟨p, _, rfl, upd_same, sr.free hp, sr.freeP hp, sr.in_m hp, g1, g2⟩
    · cases e
  · cases e

/-! ### dict(zip(..)) -/
theorem pairs_dt {K : PySem.W.Frag} {F : Wd} {m : List Addr} : ∀ {xs ys : List D} {vs us : List V} {ks : List (List Key)} {zs : List D}, RepL K F m xs vs → RepL K F m ys us → pairsO tkeyOf (zipD xs ys) = some (ks, zs) →
    ∃ (kvs : List (List L2.Key × V)) (bs : List Addr), bs.length = kvs.length ∧ (∀ (i : Nat) (k : List L2.Key) (v : V) (b : Addr), kvs[i]? = some (k, v) → bs[i]? = some b → F.f b = some (.tup (k.map kV))) ∧ kvs.length = min vs.length us.length ∧
      (∀ (i : Nat) (b : Addr), bs[i]? = some b → vs[i]? = some (.ref b)) ∧ (∀ (i : Nat) (kv : List L2.Key × V), kvs[i]? = some kv → us[i]? = some kv.2) ∧ ks = kvs.map (·.1) ∧ RepL K F m zs (kvs.map (·.2))
  | _, _, _, _, ks, zs, .nil, r2, e => by
    simp [zipD, pairsO] at e
    obtain ⟨rfl, rfl⟩ := e
    exact ⟨[], [], rfl, fun i k v b h => by simp at h, by simp, fun i b h => by simp at h, fun i kv h => by simp at h, rfl, .nil⟩
  | _, _, _, _, ks, zs, .cons _ _, .nil, e => by
    simp [zipD, pairsO] at e
    obtain ⟨rfl, rfl⟩ := e
    exact ⟨[], [], rfl, fun i k v b h => by simp at h, by simp, fun i b h => by simp at h, fun i kv h => by simp at h, rfl, .nil⟩
  | _, _, _, _, ks, zs, .cons (d := x) (ds := xs) hx rx, .cons (d := y) (ds := ys) hy ry, e => by
    simp only [zipD, pairsO] at e
    cases e1 : tkeyOf x with
    | none => simp [e1] at e
    | some k =>
      cases e2 : pairsO tkeyOf (zipD xs ys) with
      | none => simp [e1, e2] at e
      | some r2 =>
        obtain ⟨ks2, zs2⟩ := r2
        simp [e1, e2] at e
        obtain ⟨rfl, rfl⟩ := e
        obtain ⟨kvs, bs, h1, h2, h3, h4, h5, rfl, h7⟩ := pairs_dt rx ry e2
        obtain ⟨b, rfl, hb⟩ := tkeyOf_kV hx e1
        refine ⟨(k, _) :: kvs, b :: bs, by simp [h1], fun i k' v b' g1 g2 => ?_, by simp [h3], fun i b' g => ?_, fun i kv g => ?_, rfl, .cons hy h7⟩
        · cases i with
          | zero => simp at g1 g2; obtain ⟨rfl, rfl⟩ := g1; subst g2; exact hb
          | succ i => exact h2 i k' v b' (by simpa using g1) (by simpa using g2)
        · cases i with
          | zero => simp at g; subst g; rfl
          | succ i => simpa using h4 i b' (by simpa using g)
        · cases i with
          | zero => simp at g; subst g; rfl
          | succ i => simpa using h5 i kv (by simpa using g)
theorem seqS_of {K : PySem.W.Frag} {F : Wd} {m : List Addr} {st : Store} {H : Hp} (sr : SR K F m st H) {d : D} {v : V} {xs : List D} (r : Rep K F m d v) (e : seqAt st d = some xs) : ∃ k a vs, v = .ref a ∧ SqS K k H a vs ∧ RepL K F m xs vs := by
  obtain ⟨a, vs, rfl, h, rl⟩ := seq_of sr r e
  rcases h with h | h
  · exact ⟨false, a, vs, rfl, h, rl⟩
  · exact ⟨true, a, vs, rfl, h, rl⟩
theorem n_dictZip (hu : X.A.units + 65 < cLine) (hc : X.calm = true) (hg : Gl X "dict") (hm : X.mg "dict" = none) (hg2 : Gl X "zip") (hm2 : X.mg "zip" = none) (ha : PA X [a, b] (liftL X W (evs Φ G [ea, eb]))) {p2 : Pos}
    (hs : starEach [a, b] X.env = (false, eval a X.env) :: starEach [b] X.env) (hpl : (backTo q (starEach [b] X.env)).any (·.1) = false)
    (na : starEach [.Call (.Name "zip" p2) [a, b] [] q] X.env = (false, eval (.Call (.Name "zip" p2) [a, b] [] q) X.env) :: starEach [] X.env) :
    PE X (.Call (.Name "dict" p) [.Call (.Name "zip" p2) [a, b] [] q] [] pos) (liftN X W (ev Φ G (.bi .dictZipT [ea, eb]))) := by
  refine (pe_dictZip (by omega) hc hg hm hg2 hm2 ha hs hpl na).imp fun σv H Q ⟨F, m, σ, st, sr, re, h⟩ => ?_
  unfold ev at h
  refine ⟨F, m, σ, st, sr, re, post_bndN h fun F1 m1 H1 st1 ds vs x1 s1 rx h1 => ?_⟩
  cases e : biO .dictZipT ds st1 with
  | none => simp only [e] at h1; exact h1.elim
  | some d =>
    simp only [e] at h1
    simp only [biO] at e
    split at e
    · rename_i d1 d2
      obtain ⟨v, u, rfl, rv, ru⟩ := rep2 rx
      split at e
      · rename_i xs ys ex ey
        rw [Option.map_eq_some_iff] at e
        obtain ⟨⟨ks, zs⟩, ep, rfl⟩ := e
        obtain ⟨k, aa, ws, rfl, hq1, rl1⟩ := seqS_of s1 rv ex
        obtain ⟨l, bb, us, rfl, hq2, rl2⟩ := seqS_of s1 ru ey
        obtain ⟨kvs, bs, g1, g2, g3, g4, g5, rfl, g7⟩ := pairs_dt rl1 rl2 ep
        refine ⟨k, l, aa, bb, ws, us, kvs, bs, rfl, hq1, hq2, ⟨g1, fun i k v b z1 z2 => s1.sub _ _ (g2 i k v b z1 z2)⟩, g3, g4, g5, fun p hp => ?_⟩
        obtain ⟨z1, z2⟩ := put_all kvs zs ([] : List (List L2.Key × V)) [] g7 .nil
        exact h1 _ _ _ _ Ext.refl (s1.extra hp _) ⟨p, _, rfl, upd_same, s1.free hp, s1.freeP hp, s1.in_m hp, z1, z2⟩
      · cases e
    · cases e

/-! ### methods -/
theorem n_mth {mt : Mt} {o : Expr} {eo : E} {ees : List E} {c : Expr} {T : String} {r : V → List V → Hp → VK → Prop} (h : PE X c (tBM X.K T r (lift X W (ev Φ G eo)) (liftL X W (evs Φ G ees))))
    (hp : ∀ (F : Wd) (m : List Addr) (st : Store) (H : Hp) (d : D) (v : V), SR X.K F m st H → Rep X.K F m d v → mthPre mt d st = true → tyV X.K T v H)
    (hs : ∀ (F : Wd) (m : List Addr) (st : Store) (H : Hp) (d : D) (v : V) (ds : List D) (vs : List V) (σv : St) (Q : VK), SR X.K F m st H → Rep X.K F m d v → RepL X.K F m ds vs → PostG X (Rep X.K) W σv F m Q (mthM mt d ds st) → r v vs H Q) : PE X c (lift X W (ev Φ G (.mth mt eo ees))) := by
  refine h.imp fun σv H Q ⟨F, m, σ, st, sr, re, h⟩ => ⟨F, m, σ, st, sr, re, ?_⟩
  unfold ev at h
  refine post_bnd h fun F1 m1 H1 st1 d v x1 s1 rv h1 => ?_
  by_cases hpre : mthPre mt d st1 = true
  · rw [if_pos hpre] at h1
    refine ⟨hp F1 m1 st1 H1 d v s1 rv hpre, F1, m1, σ, st1, s1, x1.env re, post_bnd h1 fun F2 m2 H2 st2 ds vs x2 s2 rl h2 => ?_⟩
    exact hs F2 m2 st2 H2 d v ds vs σv Q s2 (x2.rep rv) rl h2
  · rw [if_neg hpre] at h1; exact h1.elim
theorem n_mthN {mt : Mt} {o : Expr} {eo : E} {ees : List E} {c : Expr} {T : String} {r : V → List V → Hp → VK → Prop} (h : PE X c (tBM X.K T r (lift X W (ev Φ G eo)) (liftL X W (evs Φ G ees))))
    (hp : ∀ (F : Wd) (m : List Addr) (st : Store) (H : Hp) (d : D) (v : V), SR X.K F m st H → Rep X.K F m d v → mthPre mt d st = true → tyV X.K T v H)
    (hs : ∀ (F : Wd) (m : List Addr) (st : Store) (H : Hp) (d : D) (v : V) (ds : List D) (vs : List V) (σv : St) (Q : VK), SR X.K F m st H → Rep X.K F m d v → RepL X.K F m ds vs → PostN X W σv F m Q (mthM mt d ds st) → r v vs H Q) : PE X c (liftN X W (ev Φ G (.mth mt eo ees))) := by
  refine h.imp fun σv H Q ⟨F, m, σ, st, sr, re, h⟩ => ⟨F, m, σ, st, sr, re, ?_⟩
  unfold ev at h
  refine post_bndN h fun F1 m1 H1 st1 d v x1 s1 rv h1 => ?_
  by_cases hpre : mthPre mt d st1 = true
  · rw [if_pos hpre] at h1
    refine ⟨hp F1 m1 st1 H1 d v s1 rv hpre, F1, m1, σ, st1, s1, x1.env re, post_bndN h1 fun F2 m2 H2 st2 ds vs x2 s2 rl h2 => ?_⟩
    exact hs F2 m2 st2 H2 d v ds vs σv Q s2 (x2.rep rv) rl h2
  · rw [if_neg hpre] at h1; exact h1.elim
theorem n_mth0 {mt : Mt} {o : Expr} {eo : E} {c : Expr} {T : String} {r : V → List V → Hp → VK → Prop} (h : PE X c (tBM0 X.K T r (lift X W (ev Φ G eo))))
    (hp : ∀ (F : Wd) (m : List Addr) (st : Store) (H : Hp) (d : D) (v : V), SR X.K F m st H → Rep X.K F m d v → mthPre mt d st = true → tyV X.K T v H)
    (hs : ∀ (F : Wd) (m : List Addr) (st : Store) (H : Hp) (d : D) (v : V) (σv : St) (Q : VK), SR X.K F m st H → Rep X.K F m d v → PostG X (Rep X.K) W σv F m Q (mthM mt d [] st) → r v [] H Q) : PE X c (lift X W (ev Φ G (.mth mt eo []))) := by
  refine h.imp fun σv H Q ⟨F, m, σ, st, sr, re, h⟩ => ⟨F, m, σ, st, sr, re, ?_⟩
  unfold ev at h
  refine post_bnd h fun F1 m1 H1 st1 d v x1 s1 rv h1 => ?_
  by_cases hpre : mthPre mt d st1 = true
  · rw [if_pos hpre] at h1
    refine ⟨hp F1 m1 st1 H1 d v s1 rv hpre, ?_⟩
    have e1 : evs Φ G [] σ st1 = .ok [] st1 := by unfold evs; rfl
    rw [bnd_ok e1] at h1
    exact hs F1 m1 st1 H1 d v σv Q s1 rv h1
  · rw [if_neg hpre] at h1; exact h1.elim
theorem lst_tyV {F : Wd} {m : List Addr} {st : Store} {H : Hp} {d : D} {v : V} (s : SR X.K F m st H) (r : Rep X.K F m d v) (h : (listAt st d).isSome = true) : tyV X.K "list" v H := by
  cases e : listAt st d with
  | none => rw [e] at h; cases h
  | some xs =>
    obtain ⟨a, vs, rfl, hl, _⟩ := SqL_of_list s r e
    exact .inl ⟨rfl, vs, SqL.of hl⟩
theorem s_append {c : Expr} {eo : E} {ees : List E} (h : PE X c (tBM X.K "list" rAppend (lift X W (ev Φ G eo)) (liftL X W (evs Φ G ees)))) : PE X c (lift X W (ev Φ G (.mth .append eo ees))) := by
  refine n_mth (o := c) h (fun F m st H d v s r hp => lst_tyV s r hp) fun F m st H d v ds vs σv Q s rv rl hq => ?_
  simp only [mthM] at hq
  split at hq
  · rename_i n d1
    obtain ⟨w, rfl, rw'⟩ := rep1 rl
    split at hq
    · rename_i xs ex
      split at hq
      · rename_i hz
        cases rv with
        | ref hm =>
          rename_i a
          obtain ⟨us, h1, h2⟩ := s.at_ref hm ex
          refine ⟨a, us, w, rfl, rfl, h1, by rw [← h2.length]; exact szLt hz, ?_⟩
          exact hq F m _ .non Ext.refl (s.write hm ex (fun z => by cases z) ⟨_, upd_same, h2.append (.cons rw' .nil)⟩) .non
      · exact hq.elim
    · exact hq.elim
  · exact hq.elim
theorem index_at {d : D} : ∀ {xs : List D} {j : Nat}, indexO d xs = some j → (∃ x, xs[j]? = some x ∧ eqD x d = true) ∧ ∀ (k : Nat) (x : D), k < j → xs[k]? = some x → eqD x d = false
  | [], _, h => by cases h
  | x :: xs, j, h => by
    unfold indexO at h
    by_cases e : eqD x d = true
    · rw [if_pos e] at h
      cases h
      exact ⟨⟨x, rfl, e⟩, fun k y hk => absurd hk (Nat.not_lt_zero _)⟩
    · rw [if_neg e] at h
      rw [Option.map_eq_some_iff] at h
      obtain ⟨i, hi, rfl⟩ := h
      obtain ⟨⟨y, h1, h2⟩, h3⟩ := index_at hi
      refine ⟨⟨y, by simpa using h1, h2⟩, fun k z hk hz => ?_⟩
      cases k with
      | zero => simp at hz; subst hz; simpa using e
      | succ k => exact h3 k z (by omega) (by simpa using hz)
theorem toPys_get : ∀ {ds : List D} {i : Nat} {d : D}, ds[i]? = some d → (toPys ds)[i]? = some (toPy d)
  | [], _, _, h => by simp at h
  | _ :: _, 0, _, h => by simp at h; subst h; simp [toPys]
  | _ :: ds, i + 1, _, h => by simpa [toPys] using toPys_get (ds := ds) (by simpa using h)
theorem toPys_get' : ∀ {ds : List D} {i : Nat} {z : PyData}, (toPys ds)[i]? = some z → ∃ d, ds[i]? = some d ∧ z = toPy d
  | [], _, _, h => by simp [toPys] at h
  | d :: _, 0, _, h => by simp [toPys] at h; exact ⟨d, rfl, h.symm⟩
  | _ :: ds, i + 1, _, h => by
    obtain ⟨d, h1, h2⟩ := toPys_get' (ds := ds) (i := i) (by simpa [toPys] using h)
    exact ⟨d, by simpa using h1, h2⟩
theorem shps_at {n : Nat} : ∀ {ds : List D} {i : Nat} {d : D}, shps n ds = true → ds[i]? = some d → shp n d = true
  | [], _, _, _, h => by simp at h
  | d :: ds, i, x, hs, h => by
    unfold shps at hs
    simp only [Bool.and_eq_true] at hs
    cases i with
    | zero => simp at h; subst h; exact hs.1
    | succ i => exact shps_at hs.2 (by simpa using h)
theorem toPys_len : ∀ ds : List D, (toPys ds).length = ds.length
  | [] => by simp [toPys]
  | d :: ds => by simp [toPys, toPys_len ds]
theorem s_index {c : Expr} {eo : E} {ees : List E} (h : PE X c (tBM X.K "list" (rIndexD X.K) (lift X W (ev Φ G eo)) (liftL X W (evs Φ G ees)))) : PE X c (lift X W (ev Φ G (.mth .index eo ees))) := by
  refine n_mth (o := c) h (fun F m st H d v s r hp => lst_tyV s r hp) fun F m st H d v ds vs σv Q s rv rl hq => ?_
  simp only [mthM] at hq
  split at hq
  · rename_i d1
    obtain ⟨w, rfl, rw'⟩ := rep1 rl
    split at hq
    · rename_i xs ex
      split at hq
      · rename_i hz
        simp only [Bool.and_eq_true] at hz
        obtain ⟨z1, z2, z3⟩ := hz
        split at hq
        · rename_i j ej
          obtain ⟨⟨y, hy1, hy2⟩, hno⟩ := index_at ej
          obtain ⟨a, us, rfl, hl, rl'⟩ := SqL_of_list s rv ex
          have zl : shp 50 (.lst xs) = true := by
            unfold shp
            simp only [Bool.and_eq_true, decide_eq_true_eq]
            exact ⟨by omega, z3, z2⟩
          refine ⟨a, w, toPy d1, toPys xs, j, toPy y, rfl, rfl, Dp.lst (SqL.of hl) (RepL.dp s.sub 49 rl' z2), Rep.dp s.sub 50 rw' z1, ?_, shp_shaped z1 (by omega), toPys_get hy1, ?_, fun k z hk hz => ?_, ?_⟩
          · have := shp_shaped zl (by omega)
            simpa [toPy] using this
          · rw [eqv_eqD 49 50 y d1 (shps_at z2 hy1) z1]
            exact hy2
          · obtain ⟨x, hx1, rfl⟩ := toPys_get' hz
            rw [eqv_eqD 49 50 x d1 (shps_at z2 hx1) z1]
            exact hno k x hk hx1
          · exact post_ret hq s (.int _)
        · exact hq.elim
      · exact hq.elim
    · exact hq.elim
  · exact hq.elim
theorem strs_rep {K : PySem.W.Frag} {F : Wd} {m : List Addr} : ∀ {ds : List D} {vs : List V} {ys : List Str}, RepL K F m ds vs → strsOf ds = some ys → vs = ys.map V.str
  | _, _, _, .nil, e => by simp [strsOf] at e; subst e; rfl
  | _, _, _, .cons (d := d) h r, e => by
    cases h <;> simp only [strsOf, reduceCtorEq] at e
    simp only [Option.map_eq_some_iff] at e
    obtain ⟨ys', h1, rfl⟩ := e
    rw [strs_rep r h1]
    rfl
theorem str_tyV {F : Wd} {m : List Addr} {st : Store} {H : Hp} {d : D} {v : V} (r : Rep X.K F m d v) (h : ∃ x, d = .str x) : tyV X.K "str" v H := by
  obtain ⟨x, rfl⟩ := h
  cases r
  exact rfl
theorem reps_strs {K : PySem.W.Frag} {F : Wd} {m : List Addr} : ∀ ys : List Str, RepL K F m (ys.map D.str) (ys.map V.str)
  | [] => .nil
  | y :: ys => .cons (.str y) (reps_strs ys)
abbrev rSplitS : V → List V → Hp → VK → Prop := fun x xs H Q => ∃ a b, x = .str a ∧ xs = [.str b] ∧ (b.length == 0) = false ∧ a.length + 2 ≤ sizeLine ∧ rNewStrs (Txt.split a b) H Q
abbrev rJoinS (K : PySem.W.Frag) : V → List V → Hp → VK → Prop := fun x xs H Q => ∃ a p, ∃ ys : List Str, x = .str a ∧ xs = [.ref p] ∧ (SqL K H p (ys.map V.str) ∨ SqT K H p (ys.map V.str)) ∧ (ys.map (·.length)).sum + ys.length * a.length ≤ 16777216 ∧ Q (.str (Txt.join a ys)) H
theorem s_split {c : Expr} {eo : E} {ees : List E} (h : PE X c (tBM X.K "str" rSplitS (lift X W (ev Φ G eo)) (liftL X W (evs Φ G ees)))) : PE X c (liftN X W (ev Φ G (.mth .split eo ees))) := by
  refine n_mthN (o := c) h (fun F m st H d v s r hp => str_tyV (st := st) r (by cases d <;> first | exact ⟨_, rfl⟩ | cases hp)) fun F m st H d v ds vs σv Q s rv rl hq => ?_
  simp only [mthM] at hq
  split at hq
  · rename_i a b
    obtain ⟨w, rfl, rw'⟩ := rep1 rl
    cases rw'
    cases rv
    split at hq
    · rename_i hz
      simp only [Bool.and_eq_true, Bool.not_eq_true', decide_eq_true_eq] at hz
      obtain ⟨z1, z2⟩ := hz
      refine ⟨a, b, rfl, rfl, z1, by rw [sizeLine_eq]; omega, fun p hp => ?_⟩
      exact hq _ _ _ _ Ext.refl (s.extra hp _) ⟨p, _, rfl, upd_same, s.free hp, s.freeP hp, s.in_m hp, reps_strs _⟩
    · exact hq.elim
  · exact hq.elim
theorem s_join {c : Expr} {eo : E} {ees : List E} (h : PE X c (tBM X.K "str" (rJoinS X.K) (lift X W (ev Φ G eo)) (liftL X W (evs Φ G ees)))) : PE X c (lift X W (ev Φ G (.mth .join eo ees))) := by
  refine n_mth (o := c) h (fun F m st H d v s r hp => str_tyV (st := st) r (by cases d <;> first | exact ⟨_, rfl⟩ | cases hp)) fun F m st H d v ds vs σv Q s rv rl hq => ?_
  simp only [mthM] at hq
  split at hq
  · rename_i a d1
    obtain ⟨w, rfl, rw'⟩ := rep1 rl
    cases rv
    split at hq
    · rename_i xs ex
      split at hq
      · rename_i ys ey
        split at hq
        · rename_i hz
          obtain ⟨b, us, rfl, hsq, rl'⟩ := seq_of s rw' ex
          have eu := strs_rep rl' ey
          subst eu
          exact ⟨a, b, ys, rfl, rfl, hsq, of_decide_eq_true hz, post_ret hq s (.str _)⟩
        · exact hq.elim
      · exact hq.elim
    · exact hq.elim
  · exact hq.elim
theorem isD_of {F : Wd} {m : List Addr} {st : Store} {H : Hp} {d : D} {v : V} (s : SR X.K F m st H) (r : Rep X.K F m d v) (h : mthPre .get2 d st = true) : ∃ a, v = .ref a ∧ IsD H a := by
  unfold mthPre at h
  simp only [Bool.or_eq_true] at h
  rcases h with h | h
  · cases e : dkAt st d with
    | none => rw [e] at h; cases h
    | some p =>
      obtain ⟨ks, xs⟩ := p
      obtain ⟨a, kvs, rfl, hr, _⟩ := dk_of_at s r e
      exact ⟨a, rfl, .inl ⟨kvs, hr⟩⟩
  · cases e : dtAt st d with
    | none => rw [e] at h; cases h
    | some p =>
      obtain ⟨ks, xs⟩ := p
      obtain ⟨a, kvs, rfl, hr, _⟩ := dt_of_at s r e
      exact ⟨a, rfl, .inr ⟨kvs, hr⟩⟩
theorem s_get2 {o e f : Expr} {eo ee ef : E} {apos cpos : Pos} (hu : X.A.units + 65 < cLine) (ho : PE X o (lift X W (ev Φ G eo))) (he : PE X e (lift X W (ev Φ G ee))) (hf : PE X f (lift X W (ev Φ G ef))) (mm : M2 X o "get" apos e f cpos) : PE X (.Call (.Attribute o "get" apos) [e, f] [] cpos) (lift X W (ev Φ G (.mth .get2 eo [ee, ef]))) := by
  refine (pe_dget2 (by omega) ho he hf mm).imp fun σv H Q ⟨F, m, σ, st, sr, re, h⟩ => ⟨F, m, σ, st, sr, re, ?_⟩
  unfold ev at h
  refine post_bnd h fun F1 m1 H1 st1 d v x1 s1 rv h1 => ?_
  by_cases hpre : mthPre .get2 d st1 = true
  · rw [if_pos hpre] at h1
    obtain ⟨a, rfl, hd⟩ := isD_of s1 rv hpre
    refine ⟨a, rfl, hd, F1, m1, σ, st1, s1, x1.env re, ?_⟩
    have e1 : evs Φ G [ee, ef] σ st1 = _ := evs_two
    cases e0 : ev Φ G ee σ st1 with
    | bad => rw [e0] at e1; rw [bnd_bad e1] at h1; exact h1
    | err y st2 => rw [e0] at e1; rw [bnd_err e1] at h1; exact h1
    | ok dk st2 =>
      simp only [e0] at e1
      intro F2 m2 H2 vk x2 s2 rk
      refine ⟨F2, m2, σ, st2, s2, x2.env (x1.env re), ?_⟩
      cases e2 : ev Φ G ef σ st2 with
      | bad => simp only [e2] at e1; rw [bnd_bad e1] at h1; exact h1
      | err y st3 =>
        simp only [e2] at e1; rw [bnd_err e1] at h1
        exact fun F' m' H' cls dx x => h1 F' m' H' cls dx (x2.trans x)
      | ok dd st3 =>
        simp only [e2] at e1
        rw [bnd_ok e1] at h1
        intro F3 m3 H3 vd x3 s3 rd
        have rv3 := x3.rep (x2.rep rv)
        have rk3 := x3.rep rk
        have h2 : PostG X (Rep X.K) W σv F3 m3 Q (mthM .get2 d [dk, dd] st3) := PostG.ext (x2.trans x3) h1
        simp only [mthM] at h2
        split at h2
        · rename_i ks xs edk
          split at h2
          · rename_i k ek
            obtain ⟨a', kvs, ea, hr, rfl, rl⟩ := dk_of_at s3 rv3 edk
            cases ea
            have ek' := keyOf_kV rk3 ek
            subst ek'
            refine ⟨valV kvs k, .inl ⟨kvs, k, hr, rfl, rfl⟩, ?_⟩
            obtain ⟨g1, g2⟩ := kv_get k rl
            cases eg : getKV (kvs.map (·.1)) xs k with
            | none =>
              rw [eg] at h2
              rw [g2 eg]
              exact post_ret h2 s3 rd
            | some dv =>
              rw [eg] at h2
              obtain ⟨w, hw, rw'⟩ := g1 dv eg
              rw [hw]
              exact post_ret h2 s3 rw'
          · exact h2.elim
        · split at h2
          · rename_i ks xs edt
            split at h2
            · rename_i k ek
              obtain ⟨a', kvs, ea, hr, rfl, rl⟩ := dt_of_at s3 rv3 edt
              cases ea
              obtain ⟨b, rfl, hb⟩ := tkeyOf_kV rk3 ek
              refine ⟨valV kvs k, .inr ⟨kvs, k, b, hr, rfl, s3.sub _ _ hb, rfl⟩, ?_⟩
              obtain ⟨g1, g2⟩ := kv_get k rl
              cases eg : getKV (kvs.map (·.1)) xs k with
              | none =>
                rw [eg] at h2
                rw [g2 eg]
                exact post_ret h2 s3 rd
              | some dv =>
                rw [eg] at h2
                obtain ⟨w, hw, rw'⟩ := g1 dv eg
                rw [hw]
                exact post_ret h2 s3 rw'
            · exact h2.elim
          · exact h2.elim
  · rw [if_neg hpre] at h1; exact h1.elim
theorem s_upper {c : Expr} {eo : E} (h : PE X c (tBM0 X.K "str" (fun x xs H Q => ∃ a, x = .str a ∧ xs = [] ∧ a.length ≤ 5592405 ∧ Q (.str (Txt.upper a)) H) (lift X W (ev Φ G eo)))) : PE X c (lift X W (ev Φ G (.mth .upper eo []))) := by
  refine n_mth0 (o := c) h (fun F m st H d v s r hp => ?_) fun F m st H d v σv Q s rv hq => ?_
  · unfold mthPre at hp
    cases d <;> simp at hp
    cases r
    exact rfl
  · simp only [mthM] at hq
    split at hq
    · rename_i x _
      split at hq
      · rename_i hz
        cases rv
        exact ⟨x, rfl, rfl, of_decide_eq_true hz, post_ret hq s (.str _)⟩
      · exact hq.elim
    · exact hq.elim
end
end MN
set_option Elab.async false
set_option linter.all false
set_option maxRecDepth 100000
/-! MiniAA: list(enumerate(..)). -/
namespace L2
open PySem PySem.Spec PyProof.Rows
/-- an enumerate whose tuple a was handed out -/
def enO (a : Addr) (f : Bool) (it : Addr) (i : Int) (old : Value) : Obj := { cls := .type "enumerate", dict := none, data := .fields #[rawInt a, .bool f, .ref it, rawInt i, .none, old], slots := #[] }
def EnSt (h : Heap) (e it S : Addr) (i : Nat) : Prop :=
  (∃ old, IsEnum h e it (i : Int) old) ∨ ∃ (a : Addr) (f : Bool) (oa : Obj) (old : Value), h.get? e = some (enO a f it (i : Int) old) ∧ h.get? a = some oa ∧ a ≠ e ∧ a ≠ it ∧ a ≠ S
section
variable {prog : Program} {w : World} {A : Around} {E : Value → Shared → Prop} {s : Shared} {e it : Addr} {fp : List Addr} {n i : Nat} {P : Nat → Value → Prop} {St : Nat → Heap → Prop}
theorem en_out_code {a : Addr} {f : Bool} {oa : Obj} {old : Value} {Q : Value → Shared → Prop}
    (D : Draws prog w A it fp n P St) (z0 : s.heap.get? e = some (enO a f it (i : Int) old)) (za : s.heap.get? a = some oa) (hae : a ≠ e) (hai : a ≠ it) (hst : St i s.heap) (hlt : i < n) (hne : e ≠ it) (hef : e ∉ fp)
    (hQ : ∀ x h' tk, P i x → h'.get? e = some (enO a true it ((i : Int) + 1) old) → St (i + 1) h' → h'.get? s.heap.objs.size = some { cls := .type "tuple", data := .seq #[.int i tk, x] } →
      h'.objs.size = s.heap.objs.size + 1 → (∀ b o, b ≠ e → b ≠ it → s.heap.get? b = some o → h'.get? b = some o) → Q (.ref s.heap.objs.size) { s with heap := h', toks := tk + 1 }) :
    wpAny (model prog w) A (Builtin.«enumerate.__next__» ⟨[.ref e], []⟩) (fun fin s' => ∃ v, fin = .done (.ret v) ∧ Q v s') E s := by
  obtain ⟨hp, gg, dd, tk0, oo⟩ := s
  show wpAny _ _ (field (.ref e) 2 >>= _) _ _ _
  refine wpAny_bind (wpAny_field z0 rfl (x := .ref it) rfl ?_)
  refine wpAny_bind (D.item i _ _ _ hlt hst fun x w1 tk px t1 b1 => ?_)
  replace b1 : Heap.SameBut it hp w1 := b1
  have z1 : w1.get? e = some (enO a f it (i : Int) old) := (b1.2 e hne).trans z0
  show wpAny _ _ (field (.ref e) 3 >>= _) _ _ ⟨w1, gg, dd, tk, oo⟩
  refine wpAny_bind (wpAny_field z1 rfl (x := rawInt i) rfl ?_)
  show wpAny _ _ (field (.ref e) 4 >>= _) _ _ ⟨w1, gg, dd, tk, oo⟩
  refine wpAny_bind (wpAny_field z1 rfl (x := .none) rfl ?_)
  show wpAny _ _ (mkInt i >>= _) _ _ ⟨w1, gg, dd, tk, oo⟩
  refine wpAny_bind (wpAny_mkInt ?_)
  show wpAny _ _ (setField (.ref e) 3 (rawInt ((i : Int) + 1)) >>= _) _ _ ⟨w1, gg, dd, tk + 1, oo⟩
  refine wpAny_bind (wpAny_setField_rec z1 (by simp) fun w2 z2 b2 => ?_)
  replace b2 : Heap.SameBut e w1 w2 := b2
  replace z2 : w2.get? e = some (enO a f it ((i : Int) + 1) old) := z2
  show wpAny _ _ (setField (.ref e) 4 .none >>= _) _ _ ⟨w2, gg, dd, tk + 1, oo⟩
  refine wpAny_bind (wpAny_setField_rec z2 (by simp) fun w3 z3 b3 => ?_)
  replace b3 : Heap.SameBut e w2 w3 := b3
  replace z3 : w3.get? e = some (enO a f it ((i : Int) + 1) old) := z3
  show wpAny _ _ (newTuple [.int i tk, x] >>= _) _ _ ⟨w3, gg, dd, tk + 1, oo⟩
  refine wpAny_bind (wpAny_newTuple ?_)
  have z4 : (w3.push { cls := .type "tuple", data := .seq #[.int i tk, x] }).get? e = some (enO a f it ((i : Int) + 1) old) := Heap.get?_push_of_some _ z3
  generalize hw4 : w3.push { cls := .type "tuple", data := .seq #[.int i tk, x] } = w4 at z4
  have n3 : w3.objs.size = hp.objs.size := by rw [b3.1, b2.1, b1.1]
  have lte : e < hp.objs.size := Heap.lt_size z0
  have tup4 : w4.get? hp.objs.size = some { cls := .type "tuple", data := .seq #[.int i tk, x] } := by rw [← hw4, ← n3]; exact Heap.get?_push_size _ rfl
  have n4 : w4.objs.size = hp.objs.size + 1 := by rw [← hw4, Heap.size_push, n3]
  have k4 : ∀ b o, b ≠ e → b ≠ it → hp.get? b = some o → w4.get? b = some o := fun b o h1 h2 h3 => by
    rw [← hw4]; exact Heap.get?_push_of_some _ (b3.extBut b o h1 (b2.extBut b o h1 (b1.extBut b o h2 h3)))
  have st4 : St (i + 1) w4 := D.frame _ _ _ t1 fun b hb o y => by
    have h1 : b ≠ e := fun q => hef (q ▸ hb)
    rw [← hw4]; exact Heap.get?_push_of_some _ (b3.extBut b o h1 (b2.extBut b o h1 y))
  have a4 : w4.get? a = some oa := k4 a oa hae hai za
  show wpAny _ _ (Builtin.SmallTypes.ownedTupleIsFree (.ref e) >>= _) _ _ ⟨w4, gg, dd, tk + 1, oo⟩
  rw [n3]
  clear hw4 z3 b3 z2 b2 z1 b1 t1 n3
  have fin : ∀ w5 : Heap, w5.get? e = some (enO a true it ((i : Int) + 1) old) → Heap.SameBut e w4 w5 → Q (.ref hp.objs.size) ⟨w5, gg, dd, tk + 1, oo⟩ := fun w5 z5 b5 =>
    hQ x w5 tk px z5 (D.frame _ _ _ st4 fun b hb o y => b5.extBut b o (fun q => hef (q ▸ hb)) y) (b5.extBut _ _ (Nat.ne_of_gt lte) tup4) (by show w5.objs.size = hp.objs.size + 1; rw [b5.1, n4])
      fun b o h1 h2 h3 => b5.extBut b o h1 (k4 b o h1 h2 h3)
  refine wpAny_bind ?_
  unfold Builtin.SmallTypes.ownedTupleIsFree
  refine wpAny_bind (wpAny_field z4 rfl (x := rawInt a) rfl ?_)
  show wpAny _ _ (loadIfAlive ((a : Int).toNat) >>= _) _ _ ⟨w4, gg, dd, tk + 1, oo⟩
  rw [Int.toNat_natCast]
  refine wpAny_bind (PySem.W.kdx_alive a4 ?_)
  simp only [Option.isNone_some, Bool.false_eq_true, if_false]
  refine wpAny_bind (wpAny_field z4 rfl (x := .bool f) rfl ?_)
  cases f with
  | true =>
    rw [if_neg (show ¬ ((Value.bool true != Value.bool true) = true) from Bool.false_ne_true)]
    refine wpAny_pure ?_
    simp only [Bool.false_eq_true, if_false]
    exact wpAny_pure ⟨_, rfl, fin w4 z4 (Heap.SameBut.refl _ _)⟩
  | false =>
    rw [if_pos (show (Value.bool false != Value.bool true) = true from rfl)]
    refine wpAny_bind (wpAny_setField_rec z4 (by simp) fun w5 z5 b5 => ?_)
    replace b5 : Heap.SameBut e w4 w5 := b5
    refine wpAny_pure ?_
    simp only [Bool.false_eq_true, if_false]
    exact wpAny_pure ⟨_, rfl, fin w5 z5 b5⟩
theorem en_next {S : Addr} {Q : Option Value → Shared → Prop} (D : Draws prog w A.in1 it fp n P St) (z : EnSt s.heap e it S i) (hst : St i s.heap) (hlt : i < n) (hne : e ≠ it) (hef : e ∉ fp) (hi : it < s.heap.objs.size) (hS : S < s.heap.objs.size)
    (hQ : ∀ x h' tk, P i x → EnSt h' e it S (i + 1) → St (i + 1) h' → h'.get? s.heap.objs.size = some { cls := .type "tuple", data := .seq #[.int i tk, x] } →
      h'.objs.size = s.heap.objs.size + 1 → (∀ b o, b ≠ e → b ≠ it → s.heap.get? b = some o → h'.get? b = some o) → Q (some (.ref s.heap.objs.size)) { s with heap := h', toks := tk + 1 }) :
    wpAny (model prog w) A (pyNext (.ref e)) Q E s := by
  have ei : ((i + 1 : Nat) : Int) = (i : Int) + 1 := by omega
  rcases z with ⟨old, z⟩ | ⟨a, f, oa, old, z, za, h1, h2, h3⟩
  · have le : e < s.heap.objs.size := Heap.lt_size z
    refine wpAny_pyNext_enum_itemD D z hst hlt hne hef fun x h' tk px zo st' ht hz hk => hQ x h' tk px (.inr ⟨s.heap.objs.size, false, _, x, ?_, ht, Nat.ne_of_gt le, Nat.ne_of_gt hi, Nat.ne_of_gt hS⟩) st' ht hz hk
    rw [ei]; exact zo
  · have ty : s.TypeIs (.ref e) "enumerate" := ⟨_, z, rfl⟩
    unfold pyNext
    refine wpAny_bind (wpAny_attempt (wpAny_callSpecial?_slot (name := Str.ofString "__next__") ty F.slot_enumerate_next (wpAny_call_entry F.slot_enumerate_next ty F.entry_enumerate_next
      (en_out_code D z za h1 h2 hst hlt hne hef fun x h' tk px zo st' ht hz hk => wpAny_pure (hQ x h' tk px (.inr ⟨a, true, oa, old, ?_, hk a oa h1 h2 za, h1, h2, h3⟩) st' ht hz hk)) (F.args_enumerate_next_1 _))))
    rw [ei]; exact zo
theorem en_done {S : Addr} {Q : Option Value → Shared → Prop} (D : Draws prog w A.in1 it fp n P St) (z : EnSt s.heap e it S n) (hst : St n s.heap)
    (hQ : ∀ h', Heap.ExtBut it s.heap h' → Q none { s with heap := h' }) : wpAny (model prog w) A (pyNext (.ref e)) Q E s := by
  rcases z with ⟨old, z⟩ | ⟨a, f, oa, old, z, za, h1, h2, h3⟩
  · exact wpAny_pyNext_enum_endD D z hst hQ
  · have ty : s.TypeIs (.ref e) "enumerate" := ⟨_, z, rfl⟩
    unfold pyNext
    refine wpAny_bind (wpAny_attempt (wpAny_callSpecial?_slot (name := Str.ofString "__next__") ty F.slot_enumerate_next
      (wpAny_call_entry F.slot_enumerate_next ty F.entry_enumerate_next ?_ (F.args_enumerate_next_1 _))))
    show wpAny _ _ (field (.ref e) 2 >>= _) _ _ _
    refine wpAny_bind (wpAny_field z rfl (x := .ref it) rfl ?_)
    refine wpAny_bind (D.done _ _ _ hst fun h' x q1 q2 => ?_)
    obtain ⟨o, q3, q4⟩ := q2
    refine wpAny_bind (wpAny_isInstance (T := "StopIteration") (b := true) ⟨o, q3, q4⟩ isSubtype_stop ?_)
    exact wpAny_pure (hQ _ q1)
end
/-- the tuples made so far: they rise above lo -/
structure EnG (P : Nat → Value → Prop) (lo : Addr) (h : Heap) (as : List Addr) : Prop where
  rise : as.Pairwise (· < ·)
  above : ∀ a ∈ as, lo < a
  pairs : ∀ (j : Nat) (a : Addr), as[j]? = some a → ∃ (t : Tok) (x : Value), P j x ∧ h.get? a = some { cls := .type "tuple", data := .seq #[.int j t, x] }
theorem EnG.there {P : Nat → Value → Prop} {lo : Addr} {h : Heap} {as : List Addr} (g : EnG P lo h as) {a : Addr} (ha : a ∈ as) : a < h.objs.size := by
  obtain ⟨j, hj⟩ := List.mem_iff_getElem?.mp ha
  obtain ⟨_, _, _, q⟩ := g.pairs j a hj
  exact Heap.lt_size q
theorem EnSt.keep {h h' : Heap} {e it S : Addr} {i : Nat} (z : EnSt h e it S i) (up : ∀ b o, b ≠ S → h.get? b = some o → h'.get? b = some o) (he : e ≠ S) : EnSt h' e it S i := by
  rcases z with ⟨old, z⟩ | ⟨a, f, oa, old, z, za, h1, h2, h3⟩
  · exact .inl ⟨old, up _ _ he z⟩
  · exact .inr ⟨a, f, oa, old, up _ _ he z, up _ _ h3 za, h1, h2, h3⟩
section
variable {prog : Program} {w : World} {A : Around} {s : Shared} {R : Result → Shared → Prop} {n : Nat} {P : Nat → Value → Prop} {St : Nat → Heap → Prop} {fp : List Addr} {it e S : Addr}
theorem en_loop (D : Draws prog w A.in1.in1 it fp n P St) {lo : Addr} (hlS : S ≤ lo) (hle : e ≤ lo) (hli : it ≤ lo) (hne : S ≠ e) (hSi : S ≠ it) (hei : e ≠ it) (hef : e ∉ fp) (hSf : S ∉ fp) (hn : n ≤ sizeLine) (res : Value) {h0 : Heap}
    (hR : ∀ h' tk acc c as, (∀ b o, b ≠ S → b ≠ e → b ≠ it → h0.get? b = some o → h'.get? b = some o) → h'.get? S = some { cls := .type "list", dict := none, data := .seq acc c, slots := #[] } → as.length = n → EnG P lo h' as →
      acc.toList = as.map Value.ref → R (.ok (.ret res)) { s with heap := h', toks := tk }) :
    ∀ (k i : Nat) (h : Heap) (tk c : Nat) (acc : Array Value) (as : List Addr), n - i = k → i ≤ n → EnSt h e it S i → St i h → (∀ b o, b ≠ S → b ≠ e → b ≠ it → h0.get? b = some o → h.get? b = some o) →
      h.get? S = some { cls := .type "list", dict := none, data := .seq acc c, slots := #[] } → acc.toList = as.map Value.ref → as.length = i → EnG P lo h as → lo < h.objs.size →
      codeAny (model prog w) A (.builtin "list.extend.loop" ⟨[.ref S, .ref e, res], []⟩) R { s with heap := h, toks := tk } := by
  intro k
  induction k with
  | zero =>
    intro i h tk c acc as hk hi z st kp hS hacc hal hG hlo
    have hin : i = n := by omega
    subst hin
    refine codeAny_builtin PySem.F.entry_extend_loop ?_
    rw [Around.under_plainId PySem.F.plain_extend_loop _]
    show wpAny _ A.in1 (pyNext (.ref e) >>= _) _ _ _
    refine wpAny_bind (en_done (s := { s with heap := h, toks := tk }) (A := A.in1) D z st fun h' x => ?_)
    refine wpAny_pure (hR h' tk acc c as (fun b o h1 h2 h3 q => x b o h3 (kp b o h1 h2 h3 q)) (x S _ hSi hS) hal ⟨hG.rise, hG.above, fun j a hj => ?_⟩ hacc)
    obtain ⟨t, v, p1, p2⟩ := hG.pairs j a hj
    have := hG.above a (List.mem_of_getElem? hj)
    exact ⟨t, v, p1, x a _ (Nat.ne_of_gt (Nat.lt_of_le_of_lt hli this)) p2⟩
  | succ k ih =>
    intro i h tk c acc as hk hi z st kp hS hacc hal hG hlo
    have hlt : i < n := by omega
    have hsz : acc.size = i := by rw [← Array.length_toList, hacc, List.length_map, hal]
    refine codeAny_builtin PySem.F.entry_extend_loop ?_
    rw [Around.under_plainId PySem.F.plain_extend_loop _]
    show wpAny _ A.in1 (pyNext (.ref e) >>= _) _ _ _
    refine wpAny_bind (en_next (s := { s with heap := h, toks := tk }) (S := S) (A := A.in1) D z st hlt hei hef (Nat.lt_of_le_of_lt hli hlo) (Heap.lt_size hS) fun x h' tk' px z' st' ht hz hkp => ?_)
    dsimp only at ht hz hkp ⊢
    have hS' := hkp S _ hne hSi hS
    have up : ∀ b o, b ≠ S → h'.get? b = some o → (h'.update S (Obj.mapSeq (·.push (Value.ref h.objs.size)))).get? b = some o := fun b o hb q => (Heap.get?_update_other _ _ (Ne.symm hb)).trans q
    have lS : S < h.objs.size := Heap.lt_size hS
    show wpAny _ A.in1 (updateSeq S (·.push (Value.ref h.objs.size)) >>= _) _ _ _
    refine wpAny_bind ?_
    refine wpAny_updateSeq hS' rfl (wpAny_pure ⟨plainId_quiet PySem.F.plain_extend_loop _, ih (i + 1) _ (tk' + 1) _ (acc.push (Value.ref h.objs.size)) (as ++ [h.objs.size]) (by omega) hlt (z'.keep up (Ne.symm hne))
      (D.frame _ _ _ st' fun b hb o q => up b o (fun y => hSf (y ▸ hb)) q)
      (fun b o h1 h2 h3 q => up b o h1 (hkp b o h2 h3 (kp b o h1 h2 h3 q))) (Heap.get?_update_self _ hS' rfl) (by rw [Array.toList_push, hacc, List.map_append]; rfl) (by rw [List.length_append, hal]; rfl) ⟨?_, ?_, ?_⟩ ?_⟩) (by rw [hsz]; omega) (by show (acc.push (Value.ref h.objs.size)).size ≤ sizeLine + 1; rw [Array.size_push, hsz]; omega)
    · refine List.pairwise_append.mpr ⟨hG.rise, List.pairwise_singleton _ _, fun a ha b hb => ?_⟩
      rw [List.mem_singleton.mp hb]
      exact hG.there ha
    · intro a ha
      rcases List.mem_append.mp ha with ha | ha
      · exact hG.above a ha
      · rw [List.mem_singleton.mp ha]; exact hlo
    · intro j b hj
      rcases Nat.lt_trichotomy j as.length with h1 | h1 | h1
      · rw [List.getElem?_append_left h1] at hj
        obtain ⟨t, v, p1, p2⟩ := hG.pairs j b hj
        have hb := hG.above b (List.mem_of_getElem? hj)
        exact ⟨t, v, p1, up b _ (Nat.ne_of_gt (Nat.lt_of_le_of_lt hlS hb)) (hkp b _ (Nat.ne_of_gt (Nat.lt_of_le_of_lt hle hb)) (Nat.ne_of_gt (Nat.lt_of_le_of_lt hli hb)) p2)⟩
      · subst h1
        have hb : h.objs.size = b := by simpa using hj
        subst hb
        subst hal
        exact ⟨_, _, px, up _ _ (Nat.ne_of_gt lS) ht⟩
      · have hnone : (as ++ [h.objs.size])[j]? = none := List.getElem?_eq_none (by rw [List.length_append, List.length_singleton]; omega)
        rw [hnone] at hj; cases hj
    · have q : (h'.update S (Obj.mapSeq (·.push (Value.ref h.objs.size)))).get? h.objs.size = _ := up _ _ (Nat.ne_of_gt lS) ht
      exact Nat.lt_trans hlo (Heap.lt_size q)
end
section
variable {prog : Program} {w : World} {A : Around} {E : Value → Shared → Prop} {s : Shared} {n : Nat} {P : Nat → Value → Prop} {St : Nat → Heap → Prop} {fp : List Addr} {it e : Addr}
theorem en_nolen : typeLookup (.type "enumerate") "__len__" = pure none := by rw [typeLookup_type, builtinLookup_eq_fast]; kernel_rfl
theorem en_nohint : typeLookup (.type "enumerate") "__length_hint__" = pure none := by rw [typeLookup_type, builtinLookup_eq_fast]; kernel_rfl
theorem en_hint (hT : s.TypeIs (.ref e) "enumerate") {Q : Bool → Shared → Prop} (h : Q true s) : wpAny (model prog w) A (Builtin.List.listLengthHint (.ref e)) Q E s := by
  unfold Builtin.List.listLengthHint
  refine wpAny_bind (wpAny_specialOf hT en_nolen ?_)
  show wpAny _ _ (specialOf (Value.ref e) (Str.ofString "__length_hint__") >>= _) _ _ _
  refine wpAny_bind (wpAny_specialOf hT en_nohint ?_)
  exact wpAny_pure h
/-- what a list of it becomes -/
def EnEnd (n : Nat) (P : Nat → Value → Prop) (s : Shared) (S e it : Addr) (s' : Shared) : Prop := ∃ (h' : Heap) (tk : Nat) (acc : Array Value) (c : Nat) (as : List Addr), s' = { s with heap := h', toks := tk } ∧
  (∀ b o, b ≠ S → b ≠ e → b ≠ it → s.heap.get? b = some o → h'.get? b = some o) ∧ h'.get? S = some { cls := .type "list", dict := none, data := .seq acc c, slots := #[] } ∧ as.length = n ∧ EnG P S h' as ∧ acc.toList = as.map Value.ref
theorem en_extend {R : Result → Shared → Prop} {old : Value} {S : Addr} (D : Draws prog w A.in1.in1 it fp n P St) (z : IsEnum s.heap e it 0 old) (st : St 0 s.heap) (hei : e ≠ it) (hef : e ∉ fp) (hSf : S ∉ fp) (hn : n ≤ sizeLine)
    (heS : e < S) (hiS : it < S) (res : Value) (c₀ : Nat) (hS : s.heap.get? S = some { cls := .type "list", data := .seq #[] c₀ }) (hR : ∀ s', EnEnd n P s S e it s' → R (.ok (.ret res)) s') :
    wpAny (model prog w) A.in1 (Builtin.List.listExtendWith (.ref S) (.ref e) res)
      (fun fin s' => match fin with | .done f => R (.ok f) s' | .again c' => c'.quiet = true ∧ codeAny (model prog w) A c' R s') (fun e s' => R (.error e) s') s := by
  have nSe : S ≠ e := Nat.ne_of_gt heS
  have ty : s.TypeIs (.ref e) "enumerate" := ⟨_, z, rfl⟩
  unfold Builtin.List.listExtendWith
  refine wpAny_bind (wpAny_typeOf (T := "enumerate") ty ?_)
  have g1 : Builtin.List.listSameRef (.ref S) (.ref e) = false := by simp [Builtin.List.listSameRef, nSe]
  have g2 : (Value.type "enumerate" == Value.type "list") = false := by decide
  have g3 : (Value.type "enumerate" == Value.type "tuple") = false := by decide
  simp only [g1, g2, g3, Bool.or_false, Bool.false_eq_true, if_false]
  refine wpAny_bind (wpAny_pyIter_enum z ?_)
  refine wpAny_bind (wpAny_holding (en_hint ty ?_))
  have go : ∀ (h : Heap) (c1 : Nat), (∀ b o, b ≠ S → s.heap.get? b = some o → h.get? b = some o) → h.get? S = some { cls := .type "list", data := .seq #[] c1 } → codeAny (model prog w) A (.builtin "list.extend.loop" ⟨[.ref S, .ref e, res], []⟩) R { s with heap := h } := fun h c1 k q =>
    en_loop (s := s) (h0 := s.heap) D (Nat.le_refl S) (Nat.le_of_lt heS) (Nat.le_of_lt hiS) nSe (Nat.ne_of_gt hiS) hei hef hSf hn res (fun h' tk acc c as k1 k2 k3 k4 k5 => hR _ ⟨h', tk, acc, c, as, rfl, k1, k2, k3, k4, k5⟩) n 0 h s.toks c1 #[] []
      (Nat.sub_zero _) (Nat.zero_le _) (.inl ⟨old, k e _ (Ne.symm nSe) z⟩) (D.frame _ _ _ st fun b hb o y => k b o (fun q => hSf (q ▸ hb)) y) (fun b o hb _ _ y => k b o hb y) q rfl rfl
      ⟨List.Pairwise.nil, (fun _ ha => nomatch ha), (fun j a hj => by simp at hj)⟩ (Heap.lt_size q)
  refine wpAny_ite_split (fun _ => ?_) (fun _ => wpAny_pure ⟨plainId_quiet PySem.F.plain_extend_loop _, go _ c₀ (fun b o _ y => y) hS⟩)
  refine wpAny_bind (wpAny_rule ?_)
  refine wpAny_bind ?_
  show wpAny _ _ (updateSeq S (·.push .none) >>= fun _ => updateSeq S (·.pop)) _ _ _
  refine wpAny_bind (wpAny_updateSeq hS rfl ?_)
  have q2 := Heap.get?_update_self (Obj.mapSeq (·.push Value.none)) hS rfl
  refine wpAny_updateSeq (hz := by seq_fits) q2 rfl ?_
  have q3 := Heap.get?_update_self (Obj.mapSeq (·.pop)) q2 rfl
  refine wpAny_pure ⟨plainId_quiet PySem.F.plain_extend_loop _, go _ _ (fun b o hb y => ?_) q3⟩
  exact (Heap.get?_update_other _ _ (Ne.symm hb)).trans ((Heap.get?_update_other _ _ (Ne.symm hb)).trans y)
theorem en_call {Q : Value → Shared → Prop} {old : Value} (D : ∀ A', A'.handled = none → Draws prog w A' it fp n P St) (hh : A.handled = none) (z : IsEnum s.heap e it 0 old) (st : St 0 s.heap) (hei : e ≠ it) (hef : e ∉ fp) (hfp : ∀ b ∈ fp, b < s.heap.objs.size) (hn : n ≤ sizeLine) (hit : it < s.heap.objs.size)
    (hQ : ∀ s', EnEnd n P s s.heap.objs.size e it s' → Q (.ref s.heap.objs.size) s') : wpAny (model prog w) A (call (.type "list") [.ref e]) Q E s := by
  refine callType_codes (Q₁ := fun obj s₁ => obj = .ref s.heap.objs.size ∧ s₁ = { s with heap := s.heap.push { cls := .type "list", data := .seq #[] } }) PySem.F.called_list (PySem.F.typeCall_list_1 _) PySem.F.entry_list_init
    (code_list_new _ ⟨rfl, rfl⟩) fun obj s₁ h₁ => ?_
  obtain ⟨rfl, rfl⟩ := h₁
  have hS : (s.heap.push { cls := .type "list", data := .seq #[] }).get? s.heap.objs.size = some { cls := .type "list", data := .seq #[] } := Heap.get?_push_size _ rfl
  have he : e < s.heap.objs.size := Heap.lt_size z
  refine ⟨⟨_, hS, rfl⟩, PySem.F.args_list_init_2 _ _, ?_⟩
  show wpAny _ _ (do let old ← Builtin.List.listItems (.ref s.heap.objs.size); Builtin.List.listUpdate (.ref s.heap.objs.size) (fun _ => #[]); letGo old.toList.reverse; Builtin.List.listExtendWith (.ref s.heap.objs.size) (.ref e) .none) _ _ _
  refine wpAny_bind ?_
  unfold Builtin.List.listItems
  refine wpAny_bind (wpAny_seqItems hS rfl (wpAny_pure ?_))
  show wpAny _ _ (updateSeq s.heap.objs.size (fun _ => #[]) >>= fun _ => letGo (#[] : Array Value).toList.reverse >>= fun _ => Builtin.List.listExtendWith (.ref s.heap.objs.size) (.ref e) .none) _ _ _
  refine wpAny_bind (wpAny_updateSeq hS rfl ?_)
  have q2 := Heap.get?_update_self (Obj.mapSeq (fun _ => (#[] : Array Value))) hS rfl
  have oth : ∀ b o, b ≠ s.heap.objs.size → s.heap.get? b = some o → ((s.heap.push { cls := .type "list", data := .seq #[] }).update s.heap.objs.size (Obj.mapSeq (fun _ => (#[] : Array Value)))).get? b = some o :=
    fun b o hb y => (Heap.get?_update_other _ _ (Ne.symm hb)).trans (Heap.get?_push_of_some _ y)
  refine wpAny_bind (wpAny_letGo ?_)
  refine en_extend (A := A.in1) (s := { s with heap := (s.heap.push { cls := .type "list", data := .seq #[] }).update s.heap.objs.size (Obj.mapSeq (fun _ => (#[] : Array Value))) }) (n := n) (P := P) (St := St) (fp := fp) (it := it) (D _ hh) (oth e _ (Nat.ne_of_lt he) z) ((D _ hh).frame _ _ _ st fun b hb o y => oth b o (Nat.ne_of_lt (hfp b hb)) y) hei hef (fun h => Nat.lt_irrefl _ (hfp _ h)) hn he hit .none _ q2 fun s' x => ?_
  obtain ⟨h', tk, acc, c, as, rfl, k1, k2, k3, k4, k5⟩ := x
  exact ⟨rfl, hQ _ ⟨h', tk, acc, c, as, rfl, fun b o n1 n2 n3 y => k1 b o n1 n2 n3 (oth b o n1 y), k2, k3, k4, k5⟩⟩
end
/-- the tuples (i, x_i) tracked -/
def putE : Hp → Nat → List Addr → List V → Hp
  | H, i, a :: as, x :: xs => putE (upd H a (.tup [.int (i : Nat), x])) (i + 1) as xs
  | H, _, _, _ => H
theorem putE_off {b : Addr} : ∀ (as : List Addr) (i : Nat) (xs : List V) (H : Hp), b ∉ as → putE H i as xs b = H b
  | [], _, _, _, _ => rfl
  | _ :: _, _, [], _, _ => rfl
  | a :: as, i, x :: xs, H, h => by
    unfold putE
    rw [putE_off as (i + 1) xs _ (fun z => h (List.mem_cons_of_mem _ z)), upd_ne (fun z => h (by rw [z]; exact List.mem_cons_self))]
theorem putE_at : ∀ (as : List Addr) (i : Nat) (xs : List V) (H : Hp), as.length = xs.length → as.Nodup → ∀ (j : Nat) (a : Addr), as[j]? = some a → ∃ x, xs[j]? = some x ∧ putE H i as xs a = some (.tup [.int ((i + j : Nat) : Int), x])
  | [], _, _, _, _, _, j, a, h => by simp at h
  | _ :: _, _, [], _, hl, _, _, _, _ => by simp at hl
  | a :: as, i, x :: xs, H, hl, hn, 0, b, h => by
    have hn' := List.nodup_cons.mp hn
    simp at h
    subst h
    refine ⟨x, rfl, ?_⟩
    unfold putE
    rw [putE_off as (i + 1) xs _ hn'.1, upd_same]
    rfl
  | a :: as, i, x :: xs, H, hl, hn, j + 1, b, h => by
    have hn' := List.nodup_cons.mp hn
    obtain ⟨y, e1, e2⟩ := putE_at as (i + 1) xs (upd H a (.tup [.int (i : Nat), x])) (by simpa using hl) hn'.2 j b (by simpa using h)
    refine ⟨y, by simpa using e1, ?_⟩
    unfold putE
    rw [e2, show i + 1 + j = i + (j + 1) by omega]
/-- list(enumerate(e)) -/
def tListEnum (K : PySem.W.Frag) (te : TE) : TE := fun σ H Q => te σ H fun x H1 => ∃ (k : Bool) (a : Addr) (xs : List V), x = .ref a ∧ SqS K k H1 a xs ∧
  ∀ (H' : Hp) (p : Addr) (ts : List Addr), Same H1 H' → H1 p = none → (∀ t ∈ ts, H1 t = none) → p ∉ ts → H' p = some (.lst (ts.map V.ref)) → ts.length = xs.length → (∀ (j : Nat) (t : Addr), ts[j]? = some t → ∃ x, xs[j]? = some x ∧ H' t = some (.tup [.int (j : Nat), x])) → Q (.ref p) H'
section
variable {X : Cx} {e : Expr} {te : TE} {p p2 q pos : Pos}
theorem refs_vals : ∀ as : List Addr, Vals (as.map V.ref) (as.map Value.ref)
  | [] => .nil
  | _ :: as => .cons rfl (refs_vals as)
theorem enum_laid {pins : List (Addr × Obj)} {σ : L2.St} {H : Hp} {s : Shared} {h' : Heap} {tk : Nat} {xs : List V} {its : List Value} {acc : Array Value} {c : Nat} {as : List Addr} {S : Addr} (I : Inv X pins σ H s) (hz : xs.length ≤ sizeLine) (rv : Vals xs its)
    (hge : s.heap.objs.size ≤ S) (hk : ∀ b o, s.heap.get? b = some o → h'.get? b = some o) (hS : h'.get? S = some { cls := .type "list", dict := none, data := .seq acc c, slots := #[] }) (hl : as.length = its.length) (hG : EnG (fun i v => its.toArray[i]? = some v) S h' as) (hacc : acc.toList = as.map Value.ref) :
    ∃ H' : Hp, Same H H' ∧ H S = none ∧ (∀ t ∈ as, H t = none) ∧ S ∉ as ∧ H' S = some (.lst (as.map V.ref)) ∧ (∀ (j : Nat) (t : Addr), as[j]? = some t → ∃ x, xs[j]? = some x ∧ H' t = some (.tup [.int (j : Nat), x])) ∧ Inv X pins σ H' { s with heap := h', toks := tk } := by
  have lk : xs.length = its.length := rv.length
  have g1 : S ∉ as := fun z => Nat.lt_irrefl _ (hG.above _ z)
  have nd : as.Nodup := List.Pairwise.imp (fun {a b} (h : a < b) => Nat.ne_of_lt h) hG.rise
  have new : ∀ t ∈ as, H t = none := fun t ht => I.hok.fresh (Nat.le_of_lt (Nat.lt_of_le_of_lt hge (hG.above t ht)))
  have newS : H S = none := I.hok.fresh hge
  have atP := putE_at as 0 xs (upd H S (.lst (as.map V.ref))) (by omega) nd
  have off : ∀ b, b ∉ as → b ≠ S → putE (upd H S (.lst (as.map V.ref))) 0 as xs b = H b := fun b h1 h2 => by rw [putE_off as 0 xs _ h1, upd_ne h2]
  have low : ∀ b o, s.heap.get? b = some o → b ∉ as ∧ b ≠ S := fun b o y => ⟨fun z => absurd (Heap.lt_size y) (Nat.not_lt.mpr (Nat.le_of_lt (Nat.lt_of_le_of_lt hge (hG.above b z)))), Nat.ne_of_lt (Nat.lt_of_lt_of_le (Heap.lt_size y) hge)⟩
  have kp : ∀ b u, H b = some u → (putE (upd H S (.lst (as.map V.ref))) 0 as xs) b = some u := fun b u y => by
    rw [off b (fun z => by rw [new b z] at y; cases y) (fun z => by rw [z, newS] at y; cases y)]
    exact y
  have eS : putE (upd H S (.lst (as.map V.ref))) 0 as xs S = some (.lst (as.map V.ref)) := by rw [putE_off as 0 xs _ g1, upd_same]
  refine ⟨putE (upd H S (.lst (as.map V.ref))) 0 as xs, kp, newS, new, g1, eS, fun j t hj => ?_, ?_⟩
  · obtain ⟨x, e1, e2⟩ := atP j t hj
    rw [Nat.zero_add] at e2
    exact ⟨x, e1, e2⟩
  refine I.call' (ch := []) rfl ⟨fun b o q _ _ _ => hk b o q, fun b o q _ _ _ => ⟨o.slots, hk b o q⟩, fun b o q n _ => ?_, fun b o q _ => ⟨o, hk b o q⟩, fun b xs q => kp b _ q, fun b o u q => kp b _ q, fun b ps q => ⟨#[], by rw [kp b _ q]; simp⟩⟩ (fun b u q => ?_) I.bare fun b z => by simp at z
  · obtain ⟨z1, z2⟩ := low b o q
    rw [off b z1 z2]
    exact n
  · by_cases hb : b ∈ as
    · obtain ⟨j, e1⟩ := List.mem_iff_getElem?.mp hb
      obtain ⟨x, e2, e3⟩ := atP j b e1
      rw [e3] at q
      cases q
      obtain ⟨t, y, f1, f2⟩ := hG.pairs j b e1
      obtain ⟨y', g2, g3⟩ := rv.get e2
      have g2' : its[j]? = some y := by simpa using f1
      rw [g2] at g2'
      cases g2'
      exact ⟨by show 2 ≤ sizeLine; decide, [.int j t, _], .cons ⟨t, by rw [Nat.zero_add]⟩ (.cons g3 .nil), ⟨_, f2, rfl, _, rfl⟩⟩
    · by_cases hb2 : b = S
      · rw [hb2] at q ⊢
        rw [eS] at q
        cases q
        refine ⟨by rw [List.length_map]; omega, acc.toList, c, by rw [hacc]; exact refs_vals as, ?_⟩
        rw [Array.toArray_toList]
        exact hS
      · rw [off b hb hb2] at q
        exact (I.hok b u q).stay (fun d v _ y => hk d v y) (fun d y => kp d _ y) fun d xs y => kp d _ y
theorem pe_listEnum (hc : X.calm = true) (he : PE X e te) (hg : Gl X "list") (hm : X.mg "list" = none) (hg2 : Gl X "enumerate") (hm2 : X.mg "enumerate" = none) (hv : bootBuiltins "list" = some (.type "list"))
    (na : starEach [e] X.env = (false, eval e X.env) :: starEach [] X.env)
    (na2 : starEach [.Call (.Name "enumerate" p2) [e] [] q] X.env = (false, eval (.Call (.Name "enumerate" p2) [e] [] q) X.env) :: starEach [] X.env) :
    PE X (.Call (.Name "list" p) [.Call (.Name "enumerate" p2) [e] [] q] [] pos) (tListEnum X.K te) := by
  refine ⟨fun pins s σ H Q I hq => ?_⟩
  refine Call_ (ld_blt I hg hm hv ?_)
  refine PyProof.Rows.callWith_type1 (PyProof.Rows.args_cons ?_ na2) na2 rfl
  refine Call_ (ld_blt I hg2 hm2 boot_enumerate ?_)
  refine PyProof.Rows.callWith_type1 (PyProof.Rows.args_cons (thn (he.run pins s σ H _ I hq) fun v s1 ⟨x, H1, I1, r1, q1⟩ => PyProof.Rows.args_nil ?_) na) na rfl
  obtain ⟨k, a, xs, rfl, sq, q1⟩ := q1
  cases r1
  obtain ⟨its, rv, pa⟩ := I1.seqS sq
  refine call_enumS pa fun h1 z hit hsz hk => PyProof.Rows.args_nil ?_
  have la : a < s1.heap.objs.size := pa.lt
  have I2 : Inv X pins σ H1 { s1 with heap := h1 } := I1.kept (t' := s1.toks) hk
  have hz : its.length ≤ sizeLine := by
    cases k with
    | true => obtain ⟨its', rv', _, hz⟩ := I1.tuple sq; rw [← rv.length]; exact hz
    | false => obtain ⟨its', rv', _, hz⟩ := I1.list sq; rw [← rv.length]; exact hz
  refine en_call (s := { s1 with heap := h1 }) (fun A' hA => drS hA k s1.heap.objs.size a (Nat.ne_of_lt la) its.toArray) (by first | exact I2.ok.hd hc | rfl) z ⟨itS_new hit, pa.at fun o y => hk a o y⟩ (Nat.succ_ne_self _)
    (by simp only [List.mem_cons, List.not_mem_nil, or_false, not_or]; exact ⟨Nat.succ_ne_self _, fun y => by have := Nat.lt_succ_of_lt la; rw [← y] at this; exact Nat.lt_irrefl _ this⟩) (fun b hb => ?_) (by simpa using hz) (by show s1.heap.objs.size < h1.objs.size; omega) fun s' x => ?_
  · simp only [List.mem_cons, List.not_mem_nil, or_false] at hb
    show b < h1.objs.size
    rcases hb with hb | hb
    · rw [hb, hsz]; exact Nat.lt_of_lt_of_le (Nat.lt_succ_self _) (Nat.le_succ _)
    · rw [hb, hsz]; exact Nat.lt_of_lt_of_le la (Nat.le_add_right _ _)
  · obtain ⟨h', tk, acc, c, as, rfl, k1, k2, k3, k4, k5⟩ := x
    obtain ⟨H', j1, j2, j3, j4, j5, j6, J⟩ := enum_laid (tk := tk) (S := h1.objs.size) I1 (by rw [rv.length]; exact hz) rv (by omega) (fun b o y => k1 b o (Nat.ne_of_lt (Nat.lt_of_lt_of_le (Heap.lt_size y) (by show _ ≤ h1.objs.size; rw [hsz]; exact Nat.le_add_right _ _))) (Nat.ne_of_lt (Nat.lt_succ_of_lt (Heap.lt_size y))) (Nat.ne_of_lt (Heap.lt_size y)) (hk b o y)) k2 (by simpa using k3) k4 k5
    refine ⟨.ref _, H', J, rfl, q1 H' _ as j1 j2 j3 j4 j5 ?_ j6⟩
    rw [k3, rv.length]; simp
end
end L2
set_option Elab.async false
set_option linter.all false
set_option maxRecDepth 100000
/-! MiniAB: list(d.items()) of a dict that never changes. -/
namespace L2
open PySem PySem.Spec PyProof.Rows
def tListItemsF (te : TE) : TE := fun σ H Q => te σ H fun x H1 => ∃ (d : Addr) (o : Obj) (kvs : List (L2.Key × V)), x = .ref d ∧ H1 d = some (.frz o (.dK kvs)) ∧
  ∀ (H' : Hp) (p : Addr) (ts : List Addr), Same H1 H' → H1 p = none → (∀ t ∈ ts, H1 t = none) → p ∉ ts → H' p = some (.lst (ts.map V.ref)) → Paired (fun (t : Addr) (q : L2.Key × V) => H' t = some (.tup [kV q.1, q.2])) ts kvs → Q (.ref p) H'
section
variable {X : Cx} {e : Expr} {te : TE} {p apos cpos pos : Pos}
theorem pe_listItemsF (hc : X.calm = true) (he : PE X e te) (hg : Gl X "list") (hm : X.mg "list" = none) (hv : bootBuiltins "list" = some (.type "list")) (hbase : attributeBase e "items" X.env (eval e X.env) = eval e X.env) (hline : (apos.endLine == cpos.line) = true)
    (hs : starEach [.Call (.Attribute e "items" apos) [] [] cpos] X.env = (false, eval (.Call (.Attribute e "items" apos) [] [] cpos) X.env) :: starEach [] X.env) :
    PE X (.Call (.Name "list" p) [.Call (.Attribute e "items" apos) [] [] cpos] [] pos) (tListItemsF te) := by
  refine ⟨fun pins s σ H Q I hq => ?_⟩
  refine Call_ (ld_blt I hg hm hv ?_)
  refine PyProof.Rows.callWith_type1 (PyProof.Rows.args_cons ?_ hs) hs rfl
  refine wpAny_Call_method (T := "dict") (id := "dict.items") hbase rfl hline F.plainAttrs_dict F.slot_dict_items F.type_dict_items (thn (he.run pins s σ H _ I hq) fun u s1 ⟨x, H1, I1, rx, dd, ob, kvs, ex, hd, q⟩ => ?_)
  subst ex
  obtain rfl : u = Value.ref dd := rx
  obtain ⟨_, hz, hs0, vs, kv, hdo⟩ := I1.hok dd _ hd
  obtain ⟨ep, hat⟩ := hdo.dictAt
  have lk : kvs.length = vs.length := Paired.length kv
  have I2 : Inv X pins σ H1 { s1 with heap := s1.heap.push { cls := .type "dict_items", data := .fields #[.ref dd] } } := I1.kept (t' := s1.toks) fun b ob q => Heap.get?_push_of_some _ q
  refine ⟨hdo.typeIs, hdo.mapOf.noDict, ?_⟩
  show wpAny _ _ (callWith cpos (.builtin "dict.items") [.ref dd] [] []) _ X.xe s1
  refine method_meetsIn F.slot_dict_items F.entry_dict_items rfl (PySem.evalArgs_none ⟨rfl, hdo.typeIs, F.args_dict_items_1 _, _, meets_dict_items (mixKind X.prog X.w) dd hs0, ⟨vs, hdo⟩, ?_⟩)
  refine PyProof.Rows.args_nil ?_
  refine PySem.W.kdx_call (knd := mixKind X.prog X.w) (kvs := vs) (ep := ep) (I1.ok.hd hc) ⟨_, Heap.get?_push_size _ rfl, rfl, rfl⟩ (hat.push _) (by omega) fun h' tk acc c as hk hS hl hG hacc => ?_
  obtain ⟨H', k1, k2, k3, k4, k5, k6, J⟩ := LiI.items_laid (tk := tk) I2 hz kv hk hS hl hG hacc
  exact ⟨.ref _, H', J, rfl, q H' _ as (fun b o => k1 b o) k2 k3 k4 k5 k6⟩
end
end L2
set_option Elab.async false
set_option linter.all false
set_option maxRecDepth 100000
/-! MiniAC: list(enumerate(..)), list(d.items()), {k: v}. -/
namespace MN
variable [TabP]
open PySem PySem.Spec L2
section
variable {K : PySem.W.Frag} {F : Wd} {m : List Addr} {st : Store} {H H' : Hp}
theorem SR.same (s : SR K F m st H) (e : Same H H') : SR K F m st H' :=
  ⟨fun b o h => e b o (s.sub b o h), s.len, s.nd, s.nf, fun b o h => e b o (s.pr b o h), s.prF, fun n a o h1 h2 => (s.at_ n a o h1 h2).at' fun u hu => e _ _ hu, s.tab.ext e, s.nt⟩
/-- tuples are learnt -/
theorem SR.knowTs : ∀ (ts : List Addr) {F : Wd}, SR K F m st H → (∀ t ∈ ts, ∃ xs, H t = some (.tup xs)) → ∃ F', SR K F' m st H ∧ Ext F F' m m ∧ (∀ t ∈ ts, ∀ xs, H t = some (.tup xs) → F'.f t = some (.tup xs)) ∧ ∀ b, b ∉ ts → F'.f b = F.f b
  | [], F, s, _ => ⟨F, s, Ext.refl, by simp, fun _ _ => rfl⟩
  | t :: ts, F, s, h => by
    obtain ⟨xs, hx⟩ := h t List.mem_cons_self
    obtain ⟨s1, x1⟩ := s.knowT hx
    obtain ⟨F', s2, x2, k1, k2⟩ := SR.knowTs ts s1 fun u hu => h u (List.mem_cons_of_mem _ hu)
    refine ⟨F', s2, x1.trans x2, fun u hu ys hy => ?_, fun b hb => ?_⟩
    · rcases List.mem_cons.mp hu with rfl | hu
      · by_cases q : u ∈ ts
        · exact k1 u q ys hy
        · rw [k2 u q]
          rw [hx] at hy
          cases hy
          exact upd_same
      · exact k1 u hu ys hy
    · rw [k2 b fun q => hb (List.mem_cons_of_mem _ q)]
      show upd F.f t (.tup xs) b = F.f b
      rw [upd_ne fun q => hb (by rw [q]; exact List.mem_cons_self)]
end
theorem rep_pair {K : PySem.W.Frag} {F : Wd} {m : List Addr} {a : Addr} {x y : V} {d e : D} (h : F.f a = some (.tup [x, y])) (hx : Rep K F m d x) (hy : Rep K F m e y) : Rep K F m (.tup false [d, e]) (.ref a) := .tup h (.cons hx (.cons hy .nil))
theorem repL_enum {K : PySem.W.Frag} {F : Wd} {m : List Addr} : ∀ (ts : List Addr) (i : Nat) (ds : List D) (xs : List V), RepL K F m ds xs → ts.length = xs.length → (∀ (j : Nat) (t : Addr), ts[j]? = some t → ∃ x, xs[j]? = some x ∧ F.f t = some (.tup [.int ((i + j : Nat) : Int), x])) → RepL K F m (enumD i ds) (ts.map V.ref)
  | [], i, ds, xs, r, hl, _ => by
    cases r with
    | nil => exact .nil
    | cons _ _ => simp at hl
  | t :: ts, i, _, _, .nil, hl, _ => by simp at hl
  | t :: ts, i, _, _, .cons (d := d) (v := v) h r, hl, hj => by
    obtain ⟨x, e1, e2⟩ := hj 0 t rfl
    simp at e1
    subst e1
    refine .cons (rep_pair e2 (.int _) h) (repL_enum ts (i + 1) _ _ r (by simpa using hl) fun j u hu => ?_)
    obtain ⟨y, e3, e4⟩ := hj (j + 1) u (by simpa using hu)
    exact ⟨y, by simpa using e3, by rw [e4, show i + 1 + j = i + (j + 1) by omega]⟩
theorem repL_items {K : PySem.W.Frag} {F : Wd} {m : List Addr} : ∀ (ts : List Addr) (kvs : List (L2.Key × V)) (ds : List D), Paired (fun (t : Addr) (q : L2.Key × V) => F.f t = some (.tup [kV q.1, q.2])) ts kvs → RepL K F m ds (kvs.map (·.2)) → RepL K F m (zipD ((kvs.map (·.1)).map keyD) ds) (ts.map V.ref)
  | _, _, ds, .nil, r => by cases r; exact .nil
  | _, _, _, .cons (b := q) h t, r => by
    cases r with
    | cons hd r => exact .cons (rep_pair h rep_key hd) (repL_items _ _ _ t r)
section
variable {Φ : Str → List D → M D} {G : Str → Option D} {X : Cx} {W : WX} {a : Expr} {ea : E} {p p2 q pos : Pos}
theorem n_lstEnum (hg : Gl X "list") (hm : X.mg "list" = none) (hg2 : Gl X "enumerate") (hm2 : X.mg "enumerate" = none) (ha : PE X a (lift X W (ev Φ G ea))) (hc : X.calm = true)
    (na : starEach [a] X.env = (false, eval a X.env) :: starEach [] X.env) (na2 : starEach [.Call (.Name "enumerate" p2) [a] [] q] X.env = (false, eval (.Call (.Name "enumerate" p2) [a] [] q) X.env) :: starEach [] X.env) :
    PE X (.Call (.Name "list" p) [.Call (.Name "enumerate" p2) [a] [] q] [] pos) (liftN X W (ev Φ G (.bi .lstEnum [ea]))) := by
  refine (pe_listEnum hc ha hg hm hg2 hm2 PyProof.Rows.boot_list na na2).imp fun σv H Q ⟨F, m, σ, st, sr, re, h⟩ => ?_
  refine ⟨F, m, σ, st, sr, re, post_bi1 h fun F1 m1 H1 st1 d v d' x1 s1 r1 eb hq => ?_⟩
  simp only [biO] at eb
  split at eb
  · rename_i xs ex
    cases eb
    obtain ⟨k, b, ws, rfl, hs, rl⟩ := seqS_of s1 r1 ex
    refine ⟨k, b, ws, rfl, hs, fun H' p ts k1 k2 k3 k4 k5 k6 k7 => ?_⟩
    obtain ⟨F', s2, x2, g1, g2⟩ := SR.knowTs ts (s1.same k1) fun t ht => by
      obtain ⟨j, hj⟩ := List.mem_iff_getElem?.mp ht
      obtain ⟨x, _, e⟩ := k7 j t hj
      exact ⟨_, e⟩
    refine hq F' _ H' _ x2 s2 ⟨p, _, rfl, k5, ?_, ?_, s1.in_m k2, ?_⟩
    · rw [g2 p k4]; exact s1.free k2
    · rw [x2.p]; exact s1.freeP k2
    · refine repL_enum ts 0 xs ws (x2.repL rl) k6 fun j t hj => ?_
      obtain ⟨x, e1, e2⟩ := k7 j t hj
      exact ⟨x, e1, by rw [Nat.zero_add]; exact g1 t (List.mem_of_getElem? hj) _ e2⟩
  · cases eb
theorem paired_mapF {α β : Type} {F G : α → β → Prop} {ts : List α} : ∀ {us : List α} {ks : List β}, Paired F us ks → (∀ t ∈ us, t ∈ ts) → (∀ t ∈ ts, ∀ k, F t k → G t k) → Paired G us ks
  | _, _, .nil, _, _ => .nil
  | _, _, .cons h t, hs, hf => .cons (hf _ (hs _ List.mem_cons_self) _ h) (paired_mapF t (fun u hu => hs u (List.mem_cons_of_mem _ hu)) hf)
theorem paired_ex {α β : Type} {F : α → β → Prop} : ∀ {us : List α} {ks : List β}, Paired F us ks → ∀ t ∈ us, ∃ k, F t k
  | _, _, .cons h t, u, hu => by
    rcases List.mem_cons.mp hu with rfl | hu
    · exact ⟨_, h⟩
    · exact paired_ex t u hu
theorem n_lstItems (hg : Gl X "list") (hm : X.mg "list" = none) (ha : PE X a (lift X W (ev Φ G ea))) (hc : X.calm = true) {apos cpos : Pos} (hbase : attributeBase a "items" X.env (eval a X.env) = eval a X.env) (hline : (apos.endLine == cpos.line) = true)
    (hs : starEach [.Call (.Attribute a "items" apos) [] [] cpos] X.env = (false, eval (.Call (.Attribute a "items" apos) [] [] cpos) X.env) :: starEach [] X.env) :
    PE X (.Call (.Name "list" p) [.Call (.Attribute a "items" apos) [] [] cpos] [] pos) (liftN X W (ev Φ G (.bi .lstItems [ea]))) := by
  refine (pe_listItemsF hc ha hg hm PyProof.Rows.boot_list hbase hline hs).imp fun σv H Q ⟨F, m, σ, st, sr, re, h⟩ => ?_
  refine ⟨F, m, σ, st, sr, re, post_bi1 h fun F1 m1 H1 st1 d v d' x1 s1 r1 eb hq => ?_⟩
  simp only [biO] at eb
  split at eb
  · rename_i ks vs e
    cases e
    cases eb
    cases r1 with
    | dk hf rl =>
      rename_i ad ob kvs
      refine ⟨ad, ob, kvs, rfl, s1.sub _ _ hf, fun H' p ts k1 k2 k3 k4 k5 k6 => ?_⟩
      obtain ⟨F', s2, x2, g1, g2⟩ := SR.knowTs ts (s1.same k1) fun t ht => by
        obtain ⟨q, e⟩ := paired_ex k6 t ht
        exact ⟨_, e⟩
      refine hq F' _ H' _ x2 s2 ⟨p, _, rfl, k5, ?_, ?_, s1.in_m k2, ?_⟩
      · rw [g2 p k4]; exact s1.free k2
      · rw [x2.p]; exact s1.freeP k2
      · exact repL_items ts kvs _ (paired_mapF k6 (fun _ h => h) fun t ht q e => g1 t ht _ e) (x2.repL rl)
  · cases eb
end

/-! ### a display of one pair -/
/-- what leaves all as it is -/
def atomE : E → Bool
  | .var _ => true
  | .cst _ => true
  | .glo _ => true
  | .neg (.cst (.int _)) => true
  | _ => false
def teA (X : Cx) (Φ : Str → List D → M D) (G : Str → Option D) (t : E) : TE := fun σv H Q => ∃ F m σ st d, SR X.K F m st H ∧ RepE X.K F m σ σv ∧ ev Φ G t σ st = .ok d st ∧ ∀ v, Rep X.K F m d v → Q v H
theorem atom_ev {Φ : Str → List D → M D} {G : Str → Option D} {t : E} (h : atomE t = true) (σ : Env) (st : Store) : (∃ d, ev Φ G t σ st = .ok d st) ∨ ev Φ G t σ st = .bad := by
  cases t with
  | var i =>
    unfold ev
    cases e : σ[i]? with
    | none => exact .inr rfl
    | some o => cases o with
      | none => exact .inr rfl
      | some d => exact .inl ⟨d, rfl⟩
  | cst c => exact .inl ⟨c.d, rfl⟩
  | glo x =>
    unfold ev ofO
    cases e : G x with
    | none => exact .inr rfl
    | some d => exact .inl ⟨d, rfl⟩
  | neg a => cases a with
    | cst c => cases c with
      | int i => exact .inl ⟨.int (-i), rfl⟩
      | _ => cases h
    | _ => cases h
  | _ => cases h
section
variable {Φ : Str → List D → M D} {G : Str → Option D} {X : Cx} {W : WX} {pos : Pos}
theorem a_var {i : Nat} {x : Str} (hN : X.N[i]? = some x) (hv : Vis X.env.scope x) (hd : (x == ("__debug__" : Str)) = false) (hcd : (x == ("__classdict__" : Str)) = false) : PE X (.Name x pos) (teA X Φ G (.var i)) := by
  refine (pe_var hN hv hd hcd).imp fun σv H Q ⟨F, m, σ, st, d, sr, re, e, h⟩ => ?_
  have e1 : σ[i]? = some (some d) := by
    unfold ev at e
    cases e2 : σ[i]? with
    | none => rw [e2] at e; cases e
    | some o => cases o with
      | none => rw [e2] at e; cases e
      | some d2 => rw [e2] at e; cases e; rfl
  obtain ⟨v, hv, r⟩ := re.2 i d e1
  exact ⟨v, hv, h v r⟩
theorem a_int {i : Int} {j : Nat} : PE X (.Constant (.int i) j pos) (teA X Φ G (.cst (.int i))) :=
  pe_int.imp fun σv H Q ⟨F, m, σ, st, d, sr, re, e, h⟩ => by cases e; exact h _ (.int i)
theorem a_neg {i : Int} {j : Nat} {p2 : Pos} : PE X (.UnaryOp .USub (.Constant (.int i) j p2) pos) (teA X Φ G (.neg (.cst (.int i)))) :=
  (pe_un un_neg pe_int).imp fun σv H Q ⟨F, m, σ, st, d, sr, re, e, h⟩ => by cases e; exact ⟨i, rfl, h _ (.int _)⟩
theorem a_glo {x : Str} {d : D} (hG : G x = some d) (hg : Gl X x) (hm : ∃ u v, X.mg x = some u ∧ RelV v u ∧ ∀ F m, Rep X.K F m d v) (hd : (x == ("__debug__" : Str)) = false) : PE X (.Name x pos) (teA X Φ G (.glo x)) := by
  obtain ⟨u, v, h1, h2, h3⟩ := hm
  refine (pe_glob hg h1 h2 hd).imp fun σv H Q ⟨F, m, σ, st, d2, sr, re, e, h⟩ => ?_
  unfold ev ofO at e
  rw [hG] at e
  cases e
  exact h v (h3 F m)
theorem n_disp {k v : Expr} {ek ey : E} (ak : atomE ek = true) (ay : atomE ey = true) (hk : PE X k (teA X Φ G ek)) (hv : PE X v (teA X Φ G ey)) : PE X (.Dict [some k] [v] pos) (liftN X W (ev Φ G (.disp ek ey))) := by
  refine (pe_disp (pps_cons hk hv pps_nil) rfl rfl (by simp) (by simp)).imp fun σv H Q ⟨F, m, σ, st, sr, re, h⟩ p hp => ?_
  have e0 : ev Φ G (.disp ek ey) σ st = M.bnd (ev Φ G ek σ) (fun x => .bnd (ev Φ G ey σ) fun y => match keyOf x with
    | some z => .ret (.dk [z] [y])
    | none => .bad) st := by
    conv => lhs; unfold ev
    all_goals rfl
  rw [e0] at h
  rcases atom_ev (Φ := Φ) (G := G) ak σ st with ⟨x, ex⟩ | ex
  · rcases atom_ev (Φ := Φ) (G := G) ay σ st with ⟨y, ey'⟩ | ey'
    · unfold M.bnd at h
      rw [ex] at h
      dsimp only at h
      rw [ey'] at h
      dsimp only at h
      cases ek' : keyOf x with
      | none => rw [ek'] at h; exact h.elim
      | some z =>
        rw [ek'] at h
        refine ⟨F, m, σ, st, x, sr.extra hp _, re, ex, fun vx rx => ⟨F, m, σ, st, y, sr.extra hp _, re, ey', fun vy ry => ⟨upd_same, [(z, vy)], ?_, by simp, ?_⟩⟩⟩
        · have : vx = kV z := by
            cases x with
            | int i => cases ek'; cases rx; rfl
            | str s => cases ek'; cases rx; rfl
            | _ => cases ek'
          rw [this]; rfl
        · have e1 : mergeK [] [(z, vy)] = [(z, vy)] := rfl
          have e2 : upd (upd H p (.dK [])) p (.dK (mergeK [] [(z, vy)])) = upd H p (.dK [(z, vy)]) := by
            funext b
            by_cases hb : b = p
            · subst hb; rw [upd_same, upd_same, e1]
            · rw [upd_ne hb, upd_ne hb, upd_ne hb]
          rw [e2]
          exact h F m _ _ Ext.refl (sr.extra hp _) ⟨p, [(z, vy)], rfl, upd_same, sr.free hp, sr.freeP hp, sr.in_m hp, rfl, .cons ry .nil⟩
    · unfold M.bnd at h
      rw [ex] at h
      dsimp only at h
      rw [ey'] at h
      exact h.elim
  · unfold M.bnd at h
    rw [ex] at h
    exact h.elim
end
end MN
set_option Elab.async false
set_option linter.all false
set_option maxRecDepth 100000
/-! MiniBd: parameters are bound. -/
namespace MN
open PySem PySem.Spec L2

/-! ### parameters are bound -/
theorem zip_look : ∀ {ps : List Str} {us : List Value}, us.length = ps.length → ∀ x ∈ ps, ((ps.zip us).lookup x).isNone = false
  | [], _, _, x, h => absurd h (by simp)
  | p :: ps, [], hl, _, _ => by simp at hl
  | p :: ps, u :: us, hl, x, h => by
    rw [List.zip_cons_cons, List.lookup_cons]
    cases e : x == p with
    | true => rfl
    | false =>
      rcases List.mem_cons.mp h with rfl | h
      · simp at e
      · exact zip_look (by simpa using hl) x h
theorem zip_map : ∀ {ps : List Str} {us : List Value}, ps.Nodup → us.length = ps.length → (ps.filterMap fun n => ((ps.zip us).lookup n).map (n, ·)) = ps.zip us
  | [], us, _, hl => by
    cases us with
    | nil => rfl
    | cons _ _ => simp at hl
  | p :: ps, [], _, hl => by simp at hl
  | p :: ps, u :: us, nd, hl => by
    have nd' := List.nodup_cons.mp nd
    have key : ∀ qs : List Str, p ∉ qs → (qs.filterMap fun n => (((p :: ps).zip (u :: us)).lookup n).map (n, ·)) = qs.filterMap fun n => ((ps.zip us).lookup n).map (n, ·) := by
      intro qs
      induction qs with
      | nil => intro _; rfl
      | cons q qs ih =>
        intro h
        have hq : (q == p) = false := by
          cases e : q == p with
          | false => rfl
          | true => exact absurd (eq_of_beq e) fun e => h (by simp [e])
        have := ih fun hh => h (List.mem_cons_of_mem _ hh)
        rw [List.filterMap_cons, List.filterMap_cons, this]
        rw [List.zip_cons_cons, List.lookup_cons, hq]
    rw [List.filterMap_cons, key ps nd'.1, zip_map nd'.2 (by simpa using hl)]
    rw [List.zip_cons_cons, List.lookup_cons]
    simp
/-- positional parameters only -/
def argB (a : Arguments) (ps : List Str) : Bool := match a with
  | ⟨[], as, none, [], _, none, _⟩ => decide (as.map (·.arg) = ps)
  | _ => false
theorem bind_all {x qual : Str} {a : Arguments} {body : List Stmt} {scope : Scope} {kV doc pm cdv ct : Value} {an : Option Addr} {ps : List Str} {us : List Value} {cl : List (Str × Addr)} (h : argB a ps = true) (nd : ps.Nodup) (hl : us.length = ps.length) :
    bindArgs (PySem.W.fnX x qual a body scope cl .none kV doc pm an cdv ct) ⟨us, []⟩ = pure (ps.zip us) := by
  unfold argB at h
  split at h
  · rename_i as kd df
    have e := of_decide_eq_true h
    subst e
    have h1 : (List.map (fun x : Arg => x.arg) as).filter (fun n => ((List.zip (List.map (fun x : Arg => x.arg) as) us).lookup n).isNone) = [] := by
      rw [List.filter_eq_nil_iff]
      intro n hn
      rw [zip_look hl n hn]
      decide
    have h2 := zip_map nd hl
    unfold bindArgs PySem.W.fnX
    simp only [List.map_nil, List.nil_append, List.append_nil]
    have h3 : ¬ (us.length > as.length ∧ True) := by
      rw [hl, List.length_map]; omega
    simp only [seqItems?]
    simp [h2, hl, h1]
    have e0 : notAStandIn Value.none = pure () := rfl
    rw [e0, pure_bind, if_neg]
    · exact congrArg pure (by rw [← List.filterMap_map]; exact h2)
    · rw [List.drop_nil, List.length_nil, Nat.sub_zero, List.take_length, h1]
      decide
  · cases h

end MN
set_option Elab.async false
set_option linter.all false
set_option maxRecDepth 100000
set_option maxHeartbeats 1000000
/-! MiniEx0: an own error whose __init__ says super().__init__(text) and notes one field. -/
namespace MX
open PySem PySem.W PySem.Calls PyProof.Rows
def iniA (f : Str) (p1 p2 : Pos) : Arguments := { posonlyargs := [], args := [{ arg := "self", annotation := none, pos := p1 }, { arg := f, annotation := none, pos := p2 }], vararg := none, kwonlyargs := [], kw_defaults := [], kwarg := none, defaults := [] }
def iniB (f msg : Str) (j : Nat) (p0 p1 p2 p3 p4 p5 q1 q2 q3 q4 : Pos) : List Stmt := [.Expr (.Call (.Attribute (.Call (.Name "super" p0) [] [] p1) "__init__" p2) [.Constant (.str msg) j p3] [] p4) p5, .Assign [.Attribute (.Name "self" q1) f q2] (.Name f q3) q4]
def iniS (f : Str) : Scope := { kind := .function, names := [("self", .local), (f, .local), ("__class__", .free), ("super", .globalImplicit)], isGenerator := false, isCoroutine := false, more := [] }
/-- what the module's part K says of such a class at C -/
structure IniC (prog : Program) (K : Frag) (C : Addr) (f : Str) : Prop where
  oex : L2.OexC K C
  exi : excInitIn K C [.type "ValueError", .type "Exception", .type "BaseException", .type "object"] "ValueError.__new__" = true
  sup : ks_superIn K C C "__init__" = some (some (.builtin "ValueError.__init__"))
  isV : subIn K (.ref C) (.type "ValueError") = some true
  op : nsIn K cStatics "thirdparty.any" = some none
  noF : findIn K (.ref C) f = some none
  mro : mroIn K C (.ref C) = some true
  nsup : nsIn K mainGlobals "super" = some none
  htop : (prog.main.scope.names.lookup ("super" : Str)).isSome = false
  fn : ∃ (fI : Addr) (oc : Value) (od : Option Addr) (doc pm : Value) (an : Option Addr) (cda cc : Addr) (ct : Value) (osl : Array (Option Value)) (q msg : Str) (j : Nat) (r1 r2 p0 p1 p2 p3 p4 p5 q1 q2 q3 q4 : Pos) (ccl : Value) (cdd : Option Addr) (vs : Array Value) (ccs : Array (Option Value)) (file : Str) (tf : Tok) (cl : Value) (cld : Option Addr) (csl : Array (Option Value)),
    findIn K (.ref C) "__init__" = some (some (.ref fI)) ∧ typeIn K (.ref fI) = some (.type "function") ∧
    K.lookup fI = some ⟨oc, od, .func (ksFn "__init__" q (iniA f r1 r2) (iniB f msg j p0 p1 p2 p3 p4 p5 q1 q2 q3 q4) (iniS f) .none .none doc pm an (.ref cda) ct cc), osl⟩ ∧ codeIn K (.ref cda) q = true ∧
    K.lookup cda = some ⟨ccl, cdd, .fields vs, ccs⟩ ∧ vs[2]? = some (.str file tf) ∧ ((prog.main.file : Str) == file) = true ∧ (p2.endLine == p4.line) = true ∧ K.lookup cc = some ⟨cl, cld, .cell (some (.ref C)), csl⟩
/-- a made one: the object at e, its own dict at d -/
structure Made1 (h h' : Heap) (e C d : Addr) (f : Str) (v : Value) : Prop where
  keep : ∀ b o, h.get? b = some o → h'.get? b = some o
  new : h.objs.size ≤ e
  obj : ∃ t1 : Addr, h'.get? e = some { cls := .ref C, dict := some d, data := .fields #[.ref t1, .none, .none, .none, .bool false, .none] }
  dbig : h.objs.size ≤ d
  dne : d ≠ e
  ns : h'.Ns1 d (fun y => if y = f then some v else none)
theorem mc_eq {o : Expr} {name : Str} {apos pos : Pos} {args : List Expr} {env : Env} (hfew : methodCallForm (args.length + ([] : List Keyword).length) (backTo pos (starEach args env)) (backToKw pos (keywordEach [] env)) = true) (hline : (apos.endLine == pos.line) = true) :
    eval (.Call (.Attribute o name apos) args [] pos) env = (do
      let ov ← attributeBase o name env (eval o env)
      standAt apos.atName
      let (f, first) ← holding [ov] (getMethod ov name (do return (← importBound o env).getD true))
      callWith pos f first (backTo pos (starEach args env)) []) := by
  have hpos : methodCallPos true o env apos pos = pure pos := by unfold methodCallPos; simp [hline]
  rw [arm_eval_Call]
  unfold methodCall
  rw [hfew]
  simp only [hpos, pure_bind]
  rfl
section
variable {prog : Program} {w : World} {A : Around} {R : Result → Shared → Prop} {s : Shared} {K : Frag} {mg mb : Str → Option Value} {C : Addr} {f : Str}
theorem ini_run (T : IniC prog K C f) {h₀ : Heap} {x t0 : Addr} {v : Value} (hne : f ≠ "self") (hf1 : f ≠ "__class__") (hf2 : f ≠ "super") (hf3 : (f == ("__debug__" : Str)) = false) (X₀ : K.In h₀) (gl : h₀.Ns mainGlobals mg) (bl : h₀.Ns builtinsNs mb) (hbb : ∀ x : Str, x ≠ "__name__" → mb x = bootBuiltins x) (hlim : s.heap.NoLimit)
    (k0 : ∀ b o, h₀.get? b = some o → s.heap.get? b = some o) (x0 : h₀.get? x = none) (hsz : h₀.objs.size ≤ s.heap.objs.size) (hx : s.heap.get? x = some (HandSPX.excO C t0)) (hroom : A.depth < recursionLimit) {fI : Addr} (hi : findIn K (.ref C) "__init__" = some (some (.ref fI)))
    (hq : ∀ h' tk dx t1, (∀ b o, b ≠ x → h₀.get? b = some o → h'.get? b = some o) → h'.get? x = some { cls := .ref C, dict := some dx, data := .fields #[.ref t1, .none, .none, .none, .bool false, .none] } → s.heap.objs.size ≤ dx → dx ≠ x → h'.Ns1 dx (fun y => if y = f then some v else none) → R (.ok (.ret .none)) { s with heap := h', toks := tk }) :
    codeAny (model prog w) A (.call (.ref fI) ⟨[.ref x, v], []⟩) R s := by
  obtain ⟨fI', oc, od, doc, pm, an, cda, cc, ct, osl, q, msg, j, r1, r2, p0, p1, p2, p3, p4, p5, q1, q2, q3, q4, ccl, cdd, vs, ccs, file, tf, cl, cld, csl, hi', tI, ho, hcd, hcode, hvs, hfile, hline, hcell⟩ := T.fn
  rw [hi] at hi'
  cases hi'
  have X : K.In s.heap := X₀.keeps k0
  refine ks_codeAny_call_defAt (fd := ksFn "__init__" q (iniA f r1 r2) (iniB f msg j p0 p1 p2 p3 p4 p5 q1 q2 q3 q4) (iniS f) .none .none doc pm an (.ref cda) ct cc) (binds := [("self", .ref x), (f, v)]) hroom (X _ _ ho) rfl hlim (codeRec_of X hcd) rfl (BindsTo.of_eq (MN.bind_all (ps := ["self", f]) (us := [.ref x, v]) (by unfold MN.argB iniA; exact decide_eq_true rfl) (by simp [Ne.symm hne]) rfl)) ?_ ?_ (fun h₁ hns hk₁ => ?_)
  · intro y hy
    simp only [ksFn, fnX, iniS, List.mem_cons, List.not_mem_nil, or_false] at hy
    rcases hy with rfl | rfl | rfl | rfl <;> simp
  · intro y hy
    simp only [List.mem_cons, List.not_mem_nil, or_false] at hy
    have e2 : (f == ("self" : Str)) = false := by simpa using hne
    rcases hy with rfl | rfl
    · rfl
    · show List.lookup f [("self", NameKind.local), (f, .local), ("__class__", .free), ("super", .globalImplicit)] = _
      rw [List.lookup_cons, e2, List.lookup_cons, beq_self_eq_true]
  have F1 : Fr h₀ s.heap.objs.size h₁ (fun y => [(("self" : Str), Value.ref x), (f, v)].reverse.lookup y) := ⟨hns, fun b o e => hk₁ b o (k0 b o e), hsz⟩
  have hx1 := hk₁ _ _ hx
  have N1 : News h₀ s.heap.objs.size h₁ [(x, HandSPX.excO C t0)] := fun p hp => by
    rw [List.mem_singleton.mp hp]
    exact ⟨hx1, Nat.ne_of_lt (Heap.lt_size hx), x0⟩
  have X1 : K.In h₁ := X.keeps hk₁
  obtain ⟨nm, qn, Nn, bs, bm, sn, sub, ab, col, dd, k0', k1', k2', k3', k5', hC, hbm⟩ := T.oex.cls
  have hcl : clsIn K C = some { name := nm, bases := bs, mro := .ref C :: bm, ns := Nn, qualname := qn, hasDict := true, slotNames := sn, subclasses := sub, abstract := ab, collection := col, hasDel := false } := by unfold clsIn; rw [hC] <;> rfl
  have eself : (([(("self" : Str), Value.ref x), (f, v)].reverse.lookup ("self" : Str))) = some (.ref x) := by
    have e2 : (("self" : Str) == f) = false := by simpa using Ne.symm hne
    show List.lookup ("self" : Str) [(f, v), ("self", Value.ref x)] = _
    rw [List.lookup_cons, e2]; rfl
  have ef : (([(("self" : Str), Value.ref x), (f, v)].reverse.lookup f)) = some v := by
    show List.lookup f [(f, v), ("self", Value.ref x)] = _
    rw [List.lookup_cons, beq_self_eq_true]
  have hks : (iniS f).names.lookup ("super" : Str) = some .globalImplicit := by
    have e2 : (("super" : Str) == f) = false := by simpa using Ne.symm hf2
    show List.lookup ("super" : Str) [("self", NameKind.local), (f, .local), ("__class__", .free), ("super", .globalImplicit)] = _
    rw [List.lookup_cons, show (("super" : Str) == ("self" : Str)) = false from by decide, List.lookup_cons, e2]; rfl
  have hkc : (iniS f).names.lookup ("__class__" : Str) = some .free := by
    have e2 : (("__class__" : Str) == f) = false := by simpa using Ne.symm hf1
    show List.lookup ("__class__" : Str) [("self", NameKind.local), (f, .local), ("__class__", .free), ("super", .globalImplicit)] = _
    rw [List.lookup_cons, show (("__class__" : Str) == ("self" : Str)) = false from by decide, List.lookup_cons, e2]; rfl
  have hka : (iniS f).names.lookup ("self" : Str) = some .local := rfl
  have hkf : (iniS f).names.lookup f = some .local := by
    have e2 : (f == ("self" : Str)) = false := by simpa using hne
    show List.lookup f [("self", NameKind.local), (f, .local), ("__class__", .free), ("super", .globalImplicit)] = _
    rw [List.lookup_cons, e2, List.lookup_cons, beq_self_eq_true]
  obtain ⟨hh, g, d, tk0, os⟩ := s
  refine ks_wpAt_execs_cons (ks_wpAt_Expr_any (ks_wpAt_MethodCall ?_ (mc_eq (by rfl) hline)))
  refine ks_wpAt_super_base (env := ksEnv q (iniS f) hh.objs.size fI (.ref cda) cc) (prog := prog) hks hkc (by decide) rfl (X1 _ _ ho) rfl rfl rfl (X1 _ _ hcode) rfl hvs hfile T.htop ?_
  refine ks_loadName_global rfl hks (loadGlobal_builtin (env := ksEnv q (iniS f) hh.objs.size fI (.ref cda) cc) (gl.keeps F1.keep) (mg_none_of X₀ gl T.nsup) (bl.keeps F1.keep) ((hbb _ (by decide +kernel)).trans (show bootBuiltins "super" = some (.type "super") by decide +kernel)) ⟨rfl, ?_⟩)
  refine wpAny_loadName_free (env := ksEnv q (iniS f) hh.objs.size fI (.ref cda) cc) rfl hkc rfl ⟨_, X1 _ _ hcell, rfl⟩ ?_
  refine wpAny_loadName_local (env := ksEnv q (iniS f) hh.objs.size fI (.ref cda) cc) rfl hka F1.ns eself ?_
  refine ks_wpAny_isType_cls (X1 _ _ hC) rfl ⟨rfl, ?_⟩
  refine ks_wpAny_call_super (C := C) (X1 _ _ hC) rfl hx1 rfl (fun c e => by cases e) (looks_mroIn X1 T.mro) (fun h2 e2 k2 => ?_)
  obtain ⟨F2, N2, l2⟩ := ks_newsPush (s := ⟨h₁, g, d, tk0, os⟩) (q := h₁.objs.size) F1 N1 rfl e2 k2
  have I2 : InstAt h2 x (HandSPX.excO C t0) C none := ⟨(N2 _ (List.mem_cons_of_mem _ List.mem_cons_self)).1, rfl, rfl, trivial⟩
  refine kxs_method (s := ⟨h2, g, d, _, os⟩) kxs_ValueError F2 X₀ N2 List.mem_cons_self I2 T.op T.sup T.isV (by decide) (fun qm h3 F3 N3 l3 => ?_)
  refine kxs_callWith1 (s := ⟨h3, g, d, _, os⟩) N3 List.mem_cons_self ?_
  refine spliced_cons ?_
  show wpAny _ _ (eval (.Constant (.str msg) j p3) _) _ _ _
  refine Constant_str (spliced_nil ⟨(N3 _ List.mem_cons_self).1, ?_⟩)
  have n1 : h₁.objs.size ≠ x := Ne.symm (Nat.ne_of_lt (Heap.lt_size hx1))
  have n2 : qm ≠ x := Ne.symm (Nat.ne_of_lt (l3 _ (List.mem_cons_of_mem _ List.mem_cons_self)))
  refine kxs_call (s := ⟨h3, g, d, _, os⟩) (x := x) (C := C) (t := t0) (dv := none) (c2 := .none) F3 X₀ N3 F.excBase_ValueError T.exi List.mem_cons_self (.tail n2 (.tail n1 (.head (by simp)))) (by show 1 ≤ sizeLine; decide) (fun t' h4 F4 N4 l4 => ?_)
  -- self.f = f
  have hx4 : h4.get? x = some (excObj C t' none .none) := (N4 _ (List.mem_cons_of_mem _ (List.mem_cons_of_mem _ (List.mem_cons_of_mem _ List.mem_cons_self)))).1
  have X4 : K.In h4 := X₀.keeps F4.keep
  refine wpAt_of_wpAny (wpAny_execs_cons (plainObj_wpAny_Assign_Attribute ?_))
  refine wpAny_Name (wpAny_loadName_local (env := ksEnv q (iniS f) hh.objs.size fI (.ref cda) cc) rfl hkf F4.ns ef ?_) hf3
  refine wpAny_Name (wpAny_loadName_local (env := ksEnv q (iniS f) hh.objs.size fI (.ref cda) cc) rfl hka F4.ns eself ?_) (by decide)
  refine set_plain X4 (ox := excObj C t' none .none) (od := none) ⟨hx4, rfl, rfl, trivial⟩ T.oex.sa ?_
  refine HandSPX.exc_osa X4 hx4 hcl (show HandSPX.refsVE (.ref C :: bm) = true from hbm) rfl T.noF (fun h5 tk5 dx k5 dn dne hx5 hn5 => ?_)
  refine wpAny_execs_nil (hq h5 tk5 dx t' (fun b o hb e => k5 b o hb (F4.keep b o e)) hx5 ?_ dne hn5)
  exact Nat.le_trans (Nat.le_of_lt (show hh.objs.size < h4.objs.size from F4.ns.lt)) dn
theorem ini_made (T : IniC prog K C f) {v : Value} (hne : f ≠ "self") (hf1 : f ≠ "__class__") (hf2 : f ≠ "super") (hf3 : (f == ("__debug__" : Str)) = false) (X : K.In s.heap) (gl : s.heap.Ns mainGlobals mg) (bl : s.heap.Ns builtinsNs mb) (hbb : ∀ x : Str, x ≠ "__name__" → mb x = bootBuiltins x) (hlim : s.heap.NoLimit)
    (hroom : A.depth + 1 < recursionLimit) (hq : ∀ h' tk e d, Made1 s.heap h' e C d f v → R (.ok (.ret (.ref e))) { s with heap := h', toks := tk }) : codeAny (model prog w) A (.call (.ref C) ⟨[v], []⟩) R s := by
  obtain ⟨nm, q, N, bs, bm, sn, sub, ab, col, dd, k0, k1, k2, k3, k5, hC, hbm⟩ := T.oex.cls
  obtain ⟨fI, oc, od, doc, pm, an, cda, cc, ct, osl, qf, msg, j, r1, r2, p0, p1, p2, p3, p4, p5, q1, q2, q3, q4, ccl, cdd, vs, ccs, file, tf, cl, cld, csl, hi, tI, rest⟩ := T.fn
  obtain ⟨hp, g, dr, tk, os⟩ := s
  have k : ∀ b o, hp.get? b = some o → ((hp.push (kdv_tup [v])).push (HandSPX.excO C hp.objs.size)).get? b = some o := fun b o e => Heap.get?_push_of_some _ (Heap.get?_push_of_some _ e)
  have hget : ((hp.push (kdv_tup [v])).push (HandSPX.excO C hp.objs.size)).get? (hp.objs.size + 1) = some (HandSPX.excO C hp.objs.size) := by heap_get
  have x0 : hp.get? (hp.objs.size + 1) = none := by
    cases e : hp.get? (hp.objs.size + 1) with
    | none => rfl
    | some o => exact absurd (Nat.lt_of_succ_lt (Heap.lt_size e)) (Nat.lt_irrefl _)
  refine HandSPX.call_own F.excBase_ValueError (fun Y => HandSPX.refsVE_contains Y bm hbm) (X _ _ hC) (looks_findIn X hi) (fun self => bind_fn X self tI) (by show 1 ≤ sizeLine; decide) ?_
  have sz : hp.objs.size ≤ ((hp.push (kdv_tup [v])).push (HandSPX.excO C hp.objs.size)).objs.size := by rw [Heap.size_push, Heap.size_push]; omega
  refine ini_run (s := ⟨(hp.push (kdv_tup [v])).push (HandSPX.excO C hp.objs.size), g, dr, tk, os⟩) T hne hf1 hf2 hf3 X gl bl hbb (hlim.keeps k) k x0 sz hget ?_ hi fun h' tk' dx t1 k' hx dn dne hns => ?_
  · show A.depth + 1 < recursionLimit
    exact hroom
  · exact ⟨rfl, hq h' tk' (hp.objs.size + 1) dx ⟨fun b o e => k' b o (fun z => by rw [z, x0] at e; cases e) e, Nat.le_succ _, ⟨t1, hx⟩, Nat.le_trans sz dn, dne, hns⟩⟩
end
end MX
set_option Elab.async false
set_option linter.all false
set_option maxRecDepth 100000
/-! MiniEx1: raise, try. -/
namespace MN
open PySem PySem.Spec L2 PyProof.Rows

/-- what is known of a class of errors -/
def ExFact (prog : Program) (K : PySem.W.Frag) (mg : Str → Option Value) (x : Str) (o : Option Str) : Prop := ∃ C, mg x = some (.ref C) ∧ PySem.W.keepIn K (.ref C) = true ∧ PySem.W.subIn K (.ref C) (.type "BaseException") = some true ∧ PySem.W.typeIn K (.ref C) = some (.type "type") ∧ (match o with
  | none => PySem.W.excIn K C [.type "ValueError", .type "Exception", .type "BaseException", .type "object"] "ValueError.__new__" = true
  | some f => MX.IniC prog K C f ∧ XfC K C ∧ f ≠ "self" ∧ f ≠ "__class__" ∧ f ≠ "super" ∧ (f == ("__debug__" : Str)) = false)
theorem relO_one {f : Str} {v : V} {v' : Value} (r : RelV v v') (y : Str) : RelO (List.lookup y [(f, v)]) (if y = f then some v' else none) := by
  by_cases h : y = f
  · subst h
    rw [if_pos rfl]
    have q : List.lookup y [(y, v)] = some v := by simp [List.lookup]
    rw [q]
    exact r
  · rw [if_neg h]
    have e : (y == f) = false := by simpa using h
    have q : List.lookup y [(f, v)] = none := by simp [List.lookup, e]
    rw [q]
    trivial
section
variable {X : Cx}
/-- C(e), the class one with an own __init__ of one field -/
theorem pmk_ini {C : Addr} {f x : Str} {a : Expr} {ta : TA} {p pos : Pos} (T : MX.IniC X.prog X.K C f) (hne : f ≠ "self") (hf1 : f ≠ "__class__") (hf2 : f ≠ "super") (hf3 : (f == ("__debug__" : Str)) = false) (hm : X.mg x = some (.ref C)) (hr : X.A.depth + 1 < recursionLimit) (ha : PA X [a] ta) (hg : Gl X x) (hdb : (x == ("__debug__" : Str)) = false)
    (he : starEach (a :: []) X.env = (false, eval a X.env) :: starEach [] X.env) (hpl : (backTo pos (starEach [] X.env)).any (·.1) = false := by rfl) :
    PMk X (.Call (.Name x p) [a] [] pos) (fun σ H Q => ta σ H fun vs H1 => ∃ v, vs = [v] ∧ ∀ d, H1 d = none → Q (.ref C) (some d) (upd H1 d (.xd [(f, v)]))) := by
  intro pins s σ H Q I h
  refine wpAny_Call_Name_kw (ld_glob I hg hm ?_ hdb)
  refine PySem.W.callWith_K (h₀ := X.base) I.ok.mod.kin T.oex.kC (thn (ha.run pos pins s σ H _ I h) fun us s1 hh => ?_) he hpl
  obtain ⟨vs, H1, I1, r1, v, ev, q1⟩ := hh
  subst ev
  refine ⟨I1.kIn, ?_⟩
  cases r1 with
  | cons rv rn =>
    rename_i v' us'
    cases rn
    show wpAny _ _ (call (.ref C) [v']) _ _ _
    have hlim := I1.nolimit
    obtain ⟨mb, b1, b2⟩ := I.ok.mod.blt
    have gl := I.ok.mod.glob.keeps I1.bk
    have bl := b1.keeps I1.bk
    have kin := I1.kIn
    obtain ⟨hp, g, dr, tk, os⟩ := s1
    refine wpAny_call (MX.ini_made (s := ⟨hp, g, dr, tk, os⟩) T hne hf1 hf2 hf3 kin gl bl b2 hlim hr fun h' tk' e d M => ?_)
    show MkP X pins σ Q (.ref e) ⟨h', g, dr, tk', os⟩
    obtain ⟨t1, hoe⟩ := M.obj
    have hns := M.ns
    obtain ⟨G', g1, g2⟩ := restrict h' fun b => decide (b ≠ e)
    have gk : ∀ b, b ≠ e → G'.get? b = h'.get? b := fun b hb => g1 b (decide_eq_true hb)
    have ge : G'.get? e = none := g2 e (by simp)
    have old : ∀ b o, hp.get? b = some o → G'.get? b = some o := fun b o q => (gk b (Nat.ne_of_lt (Nat.lt_of_lt_of_le (Heap.lt_size q) M.new))).trans (M.keep b o q)
    have ob : ObjOk X.prog X.w (upd H1 d (.xd [(f, v)])) G' d (.xd [(f, v)]) := ⟨_, hns.at (fun o q => (gk d M.dne).trans q), fun y => relO_one rv y⟩
    have J : Inv X pins σ (upd H1 d (.xd [(f, v)])) ⟨G', g, dr, tk', os⟩ := I1.laid (t' := tk') old M.dbig ob
    refine ⟨e, _, _, ⟨G', g, dr, tk', os⟩, _, .ref C, some d, rfl, J, fun b o q => ?_, ge, hoe, ⟨rfl, rfl⟩, rfl, rfl, ?_, rfl, I1.bare, raises_own T.oex.exC T.oex.tyC, q1 d (I1.hok.fresh M.dbig)⟩
    · by_cases hb : b = e
      · have q' : G'.get? b = some o := q
        rw [hb, ge] at q'; cases q'
      · exact (gk b hb).symm.trans q
    · rw [upd_ne (Ne.symm M.dne)]
      exact I1.hok.fresh M.new
end
end MN
set_option Elab.async false
set_option linter.all false
set_option maxRecDepth 100000
set_option maxHeartbeats 1000000
/-! MiniEv: own errors as values: made, asked for their class, their field read. -/
namespace MX
open PySem PySem.W PySem.Calls PyProof.Rows
section
variable {prog : Program} {w : World} {A : Around} {E : Value → Shared → Prop} {st : Shared} {K : Frag} {x D : Addr} {ox : Obj} {oi : Option Obj}
theorem cls_get {Q : Option Value → Shared → Prop} (T : L2.ExcC K D) (hf : findObj K D oi "__class__" = some (.bind (.builtin "getset_descriptor.__get__") (.builtin "object.__class__"))) (X : K.In st.heap) (I : InstAt st.heap x ox D oi) (hq : Q (some (.ref D)) { st with toks := st.toks + 1 }) :
    wpAny (model prog w) A (getAttr? (.ref x) "__class__") Q E st := by
  obtain ⟨h0, gs, dr, tk, os⟩ := st
  have ty := I.type (M := model prog w)
  have g1 := looks_findIn (M := model prog w) X T.hg
  have g2 := looks_findIn (M := model prog w) X T.hk
  have g3 := looks_find (M := model prog w) X I hf
  have isE : Looks (model prog w) h0 (isInstance (.ref x) (.type "BaseException")) true := ty.andThen (looks_subIn X T.hs)
  have nb : (false && onTheHeap (Value.builtin "BaseException.__getattribute__")) = false := rfl
  have ng : (onTheHeap (Value.ref D) && Value.builtin "BaseException.__getattribute__" == Value.builtin "object.__getattribute__") = false := by
    rw [show (Value.builtin "BaseException.__getattribute__" == Value.builtin "object.__getattribute__") = false from by decide +kernel]
    rfl
  unfold getAttr? getAttrBy? getAttrBy
  refine wpAny_bind (wpAny_mkText (wpAny_bind (wpAny_attempt (wpAny_holding (wpAny_bind (ty.at (wpAny_bind (g1.at ?_))))))))
  show wpAny _ _ (ite ((onTheHeap (Value.ref D) && Value.builtin "BaseException.__getattribute__" == Value.builtin "object.__getattribute__") = true) _ _) _ _ _
  rw [ng, if_neg Bool.false_ne_true]
  unfold getAttrByItsOwn hookBefore; refine wpAny_bind ?_
  rw [if_pos (show onTheHeap (Value.ref D) = true from rfl)]; refine g2.at ?_
  refine wpAny_bind (wpAny_attempt (wpAny_holding ?_)); unfold callGetattribute
  rw [nb, if_neg Bool.false_ne_true]; unfold boundAndCalled
  rw [PySem.F.excAttr_ValueError.ga.bind (.ref x)]; refine wpAny_bind (wpAny_pure ?_)
  show wpAny _ _ (call (.builtin "BaseException.__getattribute__") [.ref x, .str "__class__" tk]) _ _ _
  refine wpAny_call (codeAny_call_builtin PySem.F.excAttr_ValueError.ga.plain PySem.F.entry_bexc_ga (@check_slot (model prog w) _ _ ⟨h0, gs, dr, tk + 1, os⟩ "BaseException.__getattribute__" "BaseException" "__getattribute__" (.ref x) [.str "__class__" tk] [] _ (by decide +kernel) (by decide +kernel) isE (PySem.F.args_bexc_ga (.ref x) (.str "__class__" tk)) ?_))
  unfold Builtin.«object.__getattribute__»; refine wpAny_bind (wpAny_of_eq (a := ((Value.ref x : Value), [Value.str "__class__" tk])) (by first | rfl | (simp only [slotArgs]; rfl)) ?_)
  refine wpAny_bind (wpAny_pure (wpAny_bind (ty.at (wpAny_bind (g3.at ?_)))))
  show wpAny _ _ (holding [Value.builtin "object.__class__"] (call (.builtin "getset_descriptor.__get__") [.builtin "object.__class__", .ref x, .ref D]) >>= ret) _ _ _
  refine wpAny_bind (wpAny_holding (wpAny_call (class_get (s := ⟨h0, gs, dr, tk + 1, os⟩) (ox := ox) (od := oi) X I T.hm (wpAny_pure ?_))))
  show wpAny _ _ (handedOut (.ref D)) _ _ _
  rw [handedOut_of (v := .ref D) rfl]
  first
    | exact wpAny_pure (wpAny_pure hq)
    | exact wpAny_pure hq
    | exact wpAny_pure (wpAny_bind (wpAny_pure (wpAny_pure hq)))
theorem kit_ed {od : Obj} (T : L2.ExcC K D) : KitX K (.ref x) (.ref D) (fun h => InstAt h x ox D (some od)) := by
  have hc : (clsIn K D).isSome = true := by
    obtain ⟨cd, e, _⟩ := any_some T.hd
    rw [e]; rfl
  have hf : findObj K D (some od) "__class__" = some (.bind (.builtin "getset_descriptor.__get__") (.builtin "object.__class__")) := findObj_data hc T.ha T.hn T.ht
  have base := handS_kitx_exc (x := x) (ox := ox) T.hg T.hk T.hs T.hd T.ha T.hn T.ht T.hm
  have isc : ∃ c' d' cd' sl', K.lookup D = some ⟨c', d', .cls cd', sl'⟩ := by
    obtain ⟨cd, e, _⟩ := any_some T.hd
    unfold clsIn at e
    split at e
    · rename_i c' d' cd' sl' ho
      exact ⟨_, _, _, _, ho⟩
    · cases e
  obtain ⟨c', d', cd', sl', ho⟩ := isc
  exact {
    ty := fun M h X I => I.type
    it := fun M h X I => by
      intro A' Q' E' s' kk q
      unfold isType loadHead
      exact wpAny_bind (wpAny_loadPart (kk _ _ (X _ _ ho)) (wpAny_pure q))
    ne := fun h tp dd its n sl X htp => Bool.eq_false_iff.mpr fun q => by
      have e : D = tp := Value.ref.inj (beq_iff_eq.mp q)
      subst e
      have z := (X _ _ ho).symm.trans htp
      cases z
    ca := fun X I q => cls_get T hf X I q }
end
end MX
namespace MN
open PySem PySem.Spec L2 PyProof.Rows
section
variable {X : Cx}
/-- C(e), the class one with an own __init__ of one field: as a value -/
theorem pe_ini {C : Addr} {f x : Str} {a : Expr} {te : TE} {p pos : Pos} (T : MX.IniC X.prog X.K C f) (hne : f ≠ "self") (hf1 : f ≠ "__class__") (hf2 : f ≠ "super") (hf3 : (f == ("__debug__" : Str)) = false) (hm : X.mg x = some (.ref C)) (hr : X.A.depth + 1 < recursionLimit) (he0 : PE X a te) (hg : Gl X x) (hdb : (x == ("__debug__" : Str)) = false)
    (he : starEach [a] X.env = (false, eval a X.env) :: starEach [] X.env) : PE X (.Call (.Name x p) [a] [] pos) (fun σ H Q => te σ H fun v H1 => ∀ e d, H1 e = none → H1 d = none → d ≠ e → Q (.ref e) (upd (upd H1 d (.xd [(f, v)])) e (exo e C (some d)))) := by
  refine ⟨fun pins s σ H Q I h => ?_⟩
  refine wpAny_Call_Name_kw (ld_glob I hg hm ?_ hdb)
  refine PySem.W.callWith_K (h₀ := X.base) I.ok.mod.kin T.oex.kC ?_ he (by rfl)
  rw [he]
  show wpAny _ _ (spliced ((false, eval a X.env) :: backTo pos (starEach [] X.env))) _ _ s
  refine Calls.spliced_cons (thn (he0.run pins s σ H _ I h) fun v' s1 ⟨v, H1, I1, rv, q1⟩ => ?_)
  refine Calls.spliced_nil ⟨I1.kIn, ?_⟩
  show wpAny _ _ (call (.ref C) [v']) _ _ _
  have hlim := I1.nolimit
  obtain ⟨mb, b1, b2⟩ := I.ok.mod.blt
  have gl := I.ok.mod.glob.keeps I1.bk
  have bl := b1.keeps I1.bk
  have kin := I1.kIn
  obtain ⟨hp, g, dr, tk, os⟩ := s1
  refine wpAny_call (MX.ini_made (s := ⟨hp, g, dr, tk, os⟩) T hne hf1 hf2 hf3 kin gl bl b2 hlim hr fun h' tk' e d M => ?_)
  obtain ⟨t1, hoe⟩ := M.obj
  have hns := M.ns
  obtain ⟨G, g1, g2⟩ := restrict h' fun b => decide (b ≠ e)
  have gk : ∀ b, b ≠ e → G.get? b = h'.get? b := fun b hb => g1 b (decide_eq_true hb)
  have ge : G.get? e = none := g2 e (by simp)
  have old : ∀ b o, hp.get? b = some o → G.get? b = some o := fun b o q => (gk b (Nat.ne_of_lt (Nat.lt_of_lt_of_le (Heap.lt_size q) M.new))).trans (M.keep b o q)
  have ob : ObjOk X.prog X.w (upd H1 d (.xd [(f, v)])) G d (.xd [(f, v)]) := ⟨_, hns.at (fun o q => (gk d M.dne).trans q), fun y => relO_one rv y⟩
  have J : Inv X pins σ (upd H1 d (.xd [(f, v)])) ⟨G, g, dr, tk', os⟩ := I1.laid (t' := tk') old M.dbig ob
  have he1 : H1 e = none := I1.hok.fresh M.new
  have hd1 : H1 d = none := I1.hok.fresh M.dbig
  have hn : upd H1 d (.xd [(f, v)]) e = none := by rw [upd_ne (Ne.symm M.dne)]; exact he1
  have up : ∀ b u, G.get? b = some u → h'.get? b = some u := fun b u q => by
    by_cases hb : b = e
    · rw [hb, ge] at q; cases q
    · exact (gk b hb).symm.trans q
  exact ⟨.ref e, _, J.laidN (h' := h') (t' := tk') up ge hn (exo_ok hoe), rfl, q1 e d he1 hd1 M.dne⟩
/-- an own error stands at a -/
def ErrAt (H : Hp) (a D : Addr) : Prop := H a = some (ExO (.ref D) a) ∨ ∃ d fs, H a = some (exo a D (some d)) ∧ H d = some (.xd fs)
theorem err_kit {pins : List (Addr × Obj)} {σ : L2.St} {H : Hp} {s : Shared} {a D : Addr} (I : Inv X pins σ H s) (T : ExcC X.K D) (h : ErrAt H a D) : ∃ P : Heap → Prop, PySem.W.KitX X.K (.ref a) (.ref D) P ∧ P s.heap := by
  rcases h with h | ⟨d, fs, h, hd⟩
  · obtain ⟨⟨oe, vs, e, z, dd, _⟩, _, _⟩ := I.hok a _ h
    refine ⟨_, PySem.W.handS_kitx_exc (ox := oe) T.hg T.hk T.hs T.hd T.ha T.hn T.ht T.hm, ?_⟩
    obtain ⟨oc, od, oda, osl⟩ := oe
    obtain ⟨h1, h2⟩ := z
    dsimp only at h1 h2 dd
    subst h1 h2 dd
    exact ⟨e, rfl, rfl, trivial⟩
  · obtain ⟨⟨t1, e⟩, _, _⟩ := I.hok a _ h
    obtain ⟨mA, hns, hr⟩ := (show ObjOk X.prog X.w H s.heap d (.xd fs) from I.hok d _ hd)
    obtain ⟨od, ho, hl⟩ := lookIn_ns hns
    exact ⟨_, MX.kit_ed (od := od) T, e, rfl, rfl, ho⟩
theorem call_isX : CallR X (.builtin "isinstance") (fun xs H Q => ∃ (a D : Addr) (c : V) (cv : Value) (b : Bool), xs = [.ref a, c] ∧ ErrAt H a D ∧ ExcC X.K D ∧ (∀ u, RelV c u → u = cv) ∧ PySem.W.kitOne X.K (.ref D) cv = some b ∧ Q (.bl b) H) := by
  intro pins s σ H xs us Q I r h
  obtain ⟨a, D, c, cv, b, rfl, ha, T, hcv, e, q⟩ := h
  cases r with
  | cons rx rr =>
    cases rr with
    | cons rt rr =>
      cases rr
      cases rx
      have ec := hcv _ rt
      subst ec
      obtain ⟨P, k, hp⟩ := err_kit I T ha
      exact PySem.W.kia_one k I.kIn hp e (fun z => nomatch z) fun tk => ⟨.bl b, H, I.kept (t' := tk) fun _ _ z => z, rfl, q⟩
/-- e.n, of an own error -/
theorem pe_fx {e : Expr} {te : TE} {pos : Pos} {n : Str} (he : PE X e te) (hb : attributeBase e n X.env (eval e X.env) = eval e X.env) :
    PE X (.Attribute e n pos) (fun σ H Q => te σ H fun x H1 => ∃ (a C d : Addr) (fs : List (Str × V)) (v : V), x = .ref a ∧ XfC X.K C ∧ PySem.W.findIn X.K (.ref C) n = some none ∧ H1 a = some (exo a C (some d)) ∧ H1 d = some (.xd fs) ∧ fs.lookup n = some v ∧ Q v H1) := by
  refine ⟨fun pins s σ H Q I h => ?_⟩
  refine attr_of hb (thn (he.run pins s σ H _ I h) fun u s1 hh => ?_)
  obtain ⟨x, H1, I1, rx, a, C, d, fs, v, ex, T, hno, ea, ed, l, q⟩ := hh
  subst ex
  obtain rfl : u = Value.ref a := rx
  obtain ⟨⟨t1, ha⟩, _, _⟩ := I1.hok a _ ea
  obtain ⟨mA, hns, hr⟩ := (show ObjOk X.prog X.w H1 s1.heap d (.xd fs) from I1.hok d _ ed)
  obtain ⟨od, ho, hl⟩ := lookIn_ns hns
  obtain ⟨w, hw, rw'⟩ := RelO.some_of (v := v) (o := mA n) (by rw [← l]; exact hr n)
  exact HandSPX.exc_get I1.kIn ⟨ha, rfl, rfl, ho⟩ T.ga T.gg T.exC (PySem.W.findObj_own T.hdC hno rfl (by rw [hl, hw])) (handed_of rw') ⟨v, H1, I1.tok _, rw', q⟩
end
end MN
set_option Elab.async false
set_option linter.all false
set_option maxRecDepth 100000
/-! MiniP: a look whether an expression of the text is one of ours; it then computes what ours does. -/
namespace MN
open PySem PySem.Spec L2

/-- what is known around an expression -/
structure Ct where
  N : List Str
  sc : Scope
  blk : Option Scope
  fn : Str → Option Nat
  gl : Str → Bool
  fr : Str → Bool
  ex : Str → Option (Option Str) := fun _ => none
  ml : Bool := false
def plainE : Expr → Bool
  | .Starred _ _ => false
  | _ => true
def okN (x : Str) : Bool := !(x == ("__debug__" : Str)) && !(x == ("__classdict__" : Str))
def visB (c : Ct) (x : Str) : Bool := match c.sc.names.lookup x with
  | some .local => true
  | some .cell => true
  | some .free => true
  | _ => false
def glB (c : Ct) (x : Str) : Bool := match c.sc.names.lookup x with
  | some .globalImplicit => true
  | _ => false
def frB (c : Ct) (x : Str) : Bool := glB c x && c.fr x
def slotB (c : Ct) (x : Str) (i : Nat) : Bool := decide (c.N[i]? = some x)
/-- a name that is stored to -/
def locB (c : Ct) (x : Str) : Bool := match c.sc.names.lookup x with
  | some .local => true
  | some .cell => match c.blk with
    | none => true
    | some s => s.names.lookup x == some .cell
  | _ => false
def cConst : Const → Option C
  | .none => some .non
  | .bool b => some (.bl b)
  | .int i => some (.int i)
  | .str x => some (.str x)
  | _ => none
def binB : Operator → Bool
  | .Add => true
  | .Sub => true
  | .Mult => true
  | .FloorDiv => true
  | .Mod => true
  | .Pow => true
  | _ => false
def ixB : Expr → Bool
  | .Slice _ _ _ _ => false
  | _ => true
def baseB : Expr → Bool
  | .Call (.Name _ _) [] [] _ => false
  | _ => true
def notSet : Expr → Bool
  | .Set _ _ _ => false
  | _ => true
/-! ### built-in functions -/
def nmB : B → Option String
  | .len => some "len"
  | .abs => some "abs"
  | .int => some "int"
  | .bool => some "bool"
  | .strI => some "str"
  | .sorted => some "sorted"
  | .all => some "all"
  | .any => some "any"
  | .sum => some "sum"
  | .max2 => some "max"
  | .maxL => some "max"
  | .min2 => some "min"
  | .minL => some "min"
  | .tupOf => some "tuple"
  | .lstOf => some "list"
  | .dictK => some "dict"
  | _ => none
/-- f(g(args)) -/
def inB (c : Ct) (n : Nat) (f g : String) (x : Str) (args : List Expr) : Option (List Expr) := match args with
  | [.Call (.Name y _) as [] _] => if (decide (x = Str.ofString f) && frB c (Str.ofString f)) && (decide (y = Str.ofString g) && frB c (Str.ofString g)) && (as.all plainE && decide (as.length = n)) then some as else none
  | _ => none
/-- list(o.items()) -/
def itmB (c : Ct) (x : Str) (args : List Expr) : Option (List Expr) := match args with
  | [.Call (.Attribute o m ap) [] [] cp] => if (decide (x = Str.ofString "list") && frB c (Str.ofString "list")) && (decide (m = Str.ofString "items") && (baseB o && (plainE o && (ap.endLine == cp.line)))) then some [o] else none
  | _ => none
def chkB (c : Ct) (b : B) (e : Expr) : Option (List Expr) := match e with
  | .Call (.Name x _) args [] _ => match isT b with
    | some T => match args with
      | [a, .Name t _] => if (decide (x = Str.ofString "isinstance") && frB c (Str.ofString "isinstance")) && (decide (t = Str.ofString T) && frB c (Str.ofString T)) && plainE a then some [a] else none
      | _ => none
    | none => match b with
      | .lstRange1 => inB c 1 "list" "range" x args
      | .lstRange2 => inB c 2 "list" "range" x args
      | .tupRange1 => inB c 1 "tuple" "range" x args
      | .tupRange2 => inB c 2 "tuple" "range" x args
      | .lenSet => inB c 1 "len" "set" x args
      | .dictZipT => inB c 2 "dict" "zip" x args
      | .lstEnum => inB c 1 "list" "enumerate" x args
      | .lstItems => itmB c x args
      | b => match nmB b with
        | some n => if (decide (x = Str.ofString n) && frB c (Str.ofString n)) && (args.all plainE && !args.isEmpty) then some args else none
        | none => none
  | _ => none
def mtN : Mt → Option String
  | .get2 => some "get"
  | .append => some "append"
  | .index => some "index"
  | .upper => some "upper"
  | .split => some "split"
  | .join => some "join"
  | _ => none
def mtA : Mt → Nat
  | .get2 => 2
  | .append => 1
  | .index => 1
  | .split => 1
  | .join => 1
  | _ => 0
def chkM (m : Mt) (e : Expr) : Option (Expr × List Expr) := match e with
  | .Call (.Attribute o nm apos) args [] cpos => match mtN m with
    | some n => if decide (nm = Str.ofString n) && baseB o && (apos.endLine == cpos.line) && (args.all plainE && decide (args.length = mtA m)) then some (o, args) else none
    | none => none
  | _ => none
/-! ### what a loop goes over -/
def tupT : Expr → Bool
  | .Tuple _ _ _ => true
  | _ => false
def itB (c : Ct) (n : Nat) (g : String) (it : Expr) : Option (List Expr) := match it with
  | .Call (.Name y _) as [] _ => if (decide (y = Str.ofString g) && frB c (Str.ofString g)) && (as.all plainE && decide (as.length = n)) then some as else none
  | _ => none
def chkI (c : Ct) (k : IK) (tg it : Expr) : Option (List Expr) := match k with
  | .seq => if plainE it && notSet it then some [it] else none
  | .items => match it with
    | .Call (.Attribute o nm apos) [] [] cpos => if tupT tg && decide (nm = Str.ofString "items") && baseB o && (apos.endLine == cpos.line) && plainE o then some [o] else none
    | _ => none
  | .range1 => itB c 1 "range" it
  | .range2 => itB c 2 "range" it
  | .zip => if tupT tg then itB c 2 "zip" it else none
  | .enum => if tupT tg then itB c 1 "enumerate" it else none
/-! ### targets -/
mutual
def chkTg (c : Ct) (e : Expr) (t : Tg) : Bool := match t with
  | .name i => match e with
    | .Name x _ => slotB c x i && locB c x
    | _ => false
  | .tup ts => match e with
    | .Tuple es _ _ => chkTgs c es ts
    | _ => false
termination_by structural t
def chkTgs (c : Ct) (es : List Expr) (ts : List Tg) : Bool := match ts with
  | [] => match es with
    | [] => true
    | _ => false
  | t :: ts => match es with
    | e :: es => chkTg c e t && chkTgs c es ts
    | _ => false
termination_by structural ts
end
/-- a block's own names -/
def ownN (c : Ct) (own : List Nat) : List (Str × Nat) := own.filterMap fun i => (c.N[i]?).map fun x => (x, i)
def blkCt (c : Ct) (scope : Scope) : Ct := { c with sc := relS scope c.sc, blk := some scope }
/-- what leaves all as it is -/
def atB (c : Ct) (e : Expr) (t : E) : Bool := match t with
  | .var i => match e with
    | .Name x _ => slotB c x i && visB c x && okN x
    | _ => false
  | .cst (.int i) => match e with
    | .Constant (.int j) _ _ => decide (j = i)
    | _ => false
  | .neg (.cst (.int i)) => match e with
    | .UnaryOp .USub (.Constant (.int j) _ _) _ => decide (j = i)
    | _ => false
  | .glo x => match e with
    | .Name y _ => decide (y = x) && glB c x && c.gl x && okN x
    | _ => false
  | _ => false
/-! ### expressions -/
/-- a class that isinstance is asked for -/
def isxB (c : Ct) (y : Str) : Bool := (decide (y = Str.ofString "ValueError") && frB c y) || (glB c y && (decide (y ≠ Str.ofString "ValueError") && (((c.ex y).isSome && decide (y ≠ Str.ofString "MileError")) || (decide (y = Str.ofString "MileError") && c.ml))))
mutual
/-- tst: where a test stands -/
def chk (c : Ct) (tst : Bool) (e : Expr) (t : E) : Bool := match t with
  | .var i => match e with
    | .Name x _ => slotB c x i && visB c x && okN x
    | _ => false
  | .cst k => match e with
    | .Constant q _ _ => decide (cConst q = some k)
    | _ => false
  | .glo x => match e with
    | .Name y _ => decide (y = x) && glB c x && c.gl x && okN x
    | _ => false
  | .bin op a b => match e with
    | .BinOp x o y _ => decide (o = op) && binB op && chk c false x a && chk c false y b
    | _ => false
  | .neg a => match e with
    | .UnaryOp .USub x _ => chk c false x a
    | _ => false
  | .cmp op a b => match e with
    | .Compare x [o] [y] _ => decide (o = op) && notSet y && chk c false x a && chk c false y b
    | _ => false
  | .chn op op' a b d => match e with
    | .Compare x [o, o'] [y, z] _ => decide (o = op) && decide (o' = op') && notSet y && notSet z && chk c false x a && chk c false y b && chk c false z d
    | _ => false
  | .and a b => match e with
    | .BoolOp .And [x, y] _ => chk c tst x a && chk c tst y b
    | .BoolOp .And (x :: y :: z :: r) p => chk c tst x a && chk c tst (.BoolOp .And (y :: z :: r) p) b
    | _ => false
  | .or a b => match e with
    | .BoolOp .Or [x, y] _ => chk c tst x a && chk c tst y b
    | .BoolOp .Or (x :: y :: z :: r) p => chk c tst x a && chk c tst (.BoolOp .Or (y :: z :: r) p) b
    | _ => false
  | .not a => match e with
    | .UnaryOp .Not x _ => tst && chk c true x a
    | _ => false
  | .notV a => match e with
    | .UnaryOp .Not x _ => !tst && chk c false x a
    | _ => false
  | .ite q a b => match e with
    | .IfExp x y z _ => chk c true x q && chk c tst y a && chk c tst z b
    | _ => false
  | .tup ts => match e with
    | .Tuple es _ _ => chks c es ts
    | _ => false
  | .lst ts => match e with
    | .List es _ => chks c es ts
    | _ => false
  | .dnew _ => match e with
    | .Dict [] [] _ => true
    | _ => false
  | .disp k v => match e with
    | .Dict [some a] [b] _ => atB c a k && atB c b v
    | _ => false
  | .idx a i => match e with
    | .Subscript x y _ => ixB y && chk c false x a && chk c false y i
    | _ => false
  | .slc a lo hi => match e with
    | .Subscript x (.Slice l h none _) _ => chk c false x a && chko c l lo && chko c h hi
    | _ => false
  | .rev a => match e with
    | .Subscript x (.Slice none none (some (.UnaryOp .USub (.Constant (.int 1) _ _) _)) _) _ => chk c false x a
    | _ => false
  | .fn f ts => match e with
    | .Call (.Name x _) es [] _ => decide (x = f) && decide (c.fn f = some es.length) && !es.isEmpty && glB c f && okN f && chks c es ts
    | _ => false
  | .bi b ts => match chkB c b e with
    | some es => chks c es ts
    | none => false
  | .mth m o ts => match chkM m e with
    | some (x, es) => chk c false x o && chks c es ts
    | none => false
  | .comp own tg k src test elt => match e with
    | .ListComp x [⟨g, it, ifs, 0⟩] scope _ => (blkC c.N c.sc scope (ownN c own) && decide ((ownN c own).map (·.2) = own)) && (notSet it && chkTg (blkCt c scope) g tg && (tslots tg).all (fun i => decide (i ∈ own))) && (match chkI c k g it with
        | some es => chks c es src
        | none => false) && (match ifs with
        | [] => test.isNone
        | [q] => chkt (blkCt c scope) q test
        | _ => false) && chk (blkCt c scope) false x elt
    | _ => false
  | .mu t => (!tst && chk c false e t) && (match t with
    | .lst _ => true
    | .dnew _ => true
    | .bin _ _ _ => true
    | .comp _ _ _ _ _ _ => true
    | .bi _ _ => true
    | _ => false)
  | .nev => true
  | .lamc _ _ _ => false
  | .newx x f a => match e with
    | .Call (.Name y _) [b] [] _ => (decide (y = x) && decide (c.ex x = some (if f = Str.empty then none else some f))) && (glB c y && okN y) && plainE b && chk c false b a
    | _ => false
  | .isx a x => match e with
    | .Call (.Name i _) [b, .Name y _] [] _ => (decide (i = Str.ofString "isinstance") && frB c i) && (decide (y = x) && okN y) && isxB c y && plainE b && chk c false b a
    | _ => false
  | .fldx a f => match e with
    | .Attribute b n _ => decide (n = f) && baseB b && chk c false b a
    | _ => false
termination_by structural t
def chks (c : Ct) (es : List Expr) (ts : List E) : Bool := match ts with
  | [] => match es with
    | [] => true
    | _ => false
  | t :: ts => match es with
    | e :: es => plainE e && chk c false e t && chks c es ts
    | _ => false
termination_by structural ts
def chko (c : Ct) (e : Option Expr) (t : Option E) : Bool := match t with
  | none => match e with
    | none => true
    | _ => false
  | some t => match e with
    | some e => chk c false e t
    | _ => false
termination_by structural t
def chkt (c : Ct) (e : Expr) (t : Option E) : Bool := match t with
  | none => false
  | some t => chk c true e t
termination_by structural t
end

/-! ### what such an expression computes -/
variable [TabP]
structure Fit (X : Cx) (c : Ct) (W : WX) (Φ : Str → List D → M D) (G : Str → Option D) : Prop where
  N : X.N = c.N
  nd : c.N.Nodup
  sc : X.env.scope = c.sc
  calm : X.calm = true
  hu : X.A.units + 65 < cLine
  tk : Takes X W
  fr : ∀ x, c.fr x = true → X.mg x = none
  fnc : ∀ x, c.sc.names.lookup x = some .cell → (match c.blk with | none => true | some s => s.names.lookup x == some .cell) = true → X.fn x = true
  fns : ∀ f np, c.fn f = some np → ∃ (fa : Addr) (fd : FuncData) (ps : List Str) (k : Nat), ps.length = np ∧ FnOk X.prog X.w X.K X.mg X.base (L2.CX X.prog X.w) k fa fd ps (spM X.K X.mg ps.length (Φ f)) ∧ Room k X.A ∧ X.mg f = some (.ref fa) ∧ PySem.W.keepIn X.K (.ref fa) = true ∧ Binds X.K fd ps [] ∧ ∀ ds st, Φ f ds st ≠ R.bad → ds.length = ps.length
  gls : ∀ x, c.gl x = true → ∃ d, G x = some d ∧ ∃ u v, X.mg x = some u ∧ RelV v u ∧ ∀ F m, Rep X.K F m d v
  dep : X.A.depth + 1 < recursionLimit
  exs : ∀ x o, c.ex x = some o → ExFact X.prog X.K X.mg x o
  exm : ∀ x y o o' C D, c.ex x = some o → c.ex y = some o' → X.mg x = some (.ref C) → X.mg y = some (.ref D) → PySem.W.exmOne X.K (.ref C) (.ref D) = some (decide (x = y))
  te : ∀ x C o, TabP.E x = some (C, o) → c.ex x = some o ∧ X.mg x = some (.ref C)
  te' : ∀ x C o, c.ex x = some o → X.mg x = some (.ref C) → TabP.E x = some (C, o)
  xc : ∀ x C o, c.ex x = some o → X.mg x = some (.ref C) → ExcC X.K C ∧ PySem.W.kitOne X.K (.ref C) (.type "ValueError") = some true
  xk : ∀ x y C D o o', c.ex x = some o → c.ex y = some o' → X.mg x = some (.ref C) → X.mg y = some (.ref D) → PySem.W.kitOne X.K (.ref C) (.ref D) = some (decide (x = y))
  xm : c.ml = true → ∃ D, X.mg (Str.ofString "MileError") = some (.ref D) ∧ ∀ x C o, c.ex x = some o → X.mg x = some (.ref C) → PySem.W.kitOne X.K (.ref C) (.ref D) = some true
section
variable {X : Cx} {c : Ct} {W : WX} {Φ : Str → List D → M D} {G : Str → Option D}
theorem Fit.vis (f : Fit X c W Φ G) {x : Str} (h : visB c x = true) : Vis X.env.scope x := by
  unfold visB at h
  rw [← f.sc] at h
  unfold Vis
  split at h <;> simp_all
theorem Fit.gl (f : Fit X c W Φ G) {x : Str} (h : glB c x = true) : Gl X x := by
  unfold glB at h
  rw [← f.sc] at h
  unfold Gl Env.kindOf
  split at h
  · assumption
  · cases h
theorem Fit.frg (f : Fit X c W Φ G) {x : Str} (h : frB c x = true) : Gl X x ∧ X.mg x = none := by
  unfold frB at h
  simp only [Bool.and_eq_true] at h
  exact ⟨f.gl h.1, f.fr x h.2⟩
theorem Fit.slot (f : Fit X c W Φ G) {x : Str} {i : Nat} (h : slotB c x i = true) : X.N[i]? = some x := by
  rw [f.N]; exact of_decide_eq_true h
theorem Fit.loc (f : Fit X c W Φ G) {x : Str} (h : locB c x = true) : L2.Loc X.env.scope x ∧ (X.fn x = true ∨ X.env.scope.names.lookup x = some .local) := by
  unfold locB at h
  rw [f.sc]
  unfold L2.Loc
  split at h
  · rename_i e; exact ⟨.inl e, .inr e⟩
  · rename_i e; exact ⟨.inr e, .inl (f.fnc x e h)⟩
  · cases h
theorem okN_1 {x : Str} (h : okN x = true) : (x == ("__debug__" : Str)) = false ∧ (x == ("__classdict__" : Str)) = false := by
  unfold okN at h
  simpa using h
theorem star_cons {e : Expr} {es : List Expr} {env : PySem.Env} (h : plainE e = true) : starEach (e :: es) env = (false, eval e env) :: starEach es env := by
  cases e <;> first | rfl | cases h
theorem star_any {pos : Pos} {env : PySem.Env} : ∀ {es : List Expr}, es.all plainE = true → (backTo pos (starEach es env)).any (·.1) = false
  | [], _ => rfl
  | e :: es, h => by
    simp only [List.all_cons, Bool.and_eq_true] at h
    rw [star_cons h.1]
    have := star_any (pos := pos) (env := env) h.2
    unfold backTo at this ⊢
    rw [List.map_cons, List.any_cons, this]
    rfl
theorem star_all {pos : Pos} {env : PySem.Env} : ∀ {es : List Expr}, es.all plainE = true → (backTo pos (starEach es env)).all (fun x => !x.1) = true
  | [], _ => rfl
  | e :: es, h => by
    simp only [List.all_cons, Bool.and_eq_true] at h
    rw [star_cons h.1]
    have := star_all (pos := pos) (env := env) h.2
    unfold backTo at this ⊢
    rw [List.map_cons, List.all_cons, this]
    rfl
theorem base_eq {o : Expr} {nm : Str} {env : PySem.Env} (h : baseB o = true) : attributeBase o nm env (eval o env) = eval o env := by
  unfold attributeBase
  split
  · cases h
  · rfl
theorem mark_eq {op : CmpOp} {e : Expr} (h : notSet e = true) : behindInMarks op e = false := by
  cases e <;> first | rfl | cases h
theorem fold_eq {e : Expr} {env : PySem.Env} (h : notSet e = true) : ∀ x, foldedSetIterable e env x = pure x := by
  intro x
  cases e <;> first | rfl | cases h
theorem ix_eq {e : Expr} (h : ixB e = true) : PlainIx e := by
  intro o i
  cases e <;> first | rfl | cases h

/-- several, each plain -/
inductive AllE (X : Cx) (W : WX) (Φ : Str → List D → M D) (G : Str → Option D) : List Expr → List E → Prop
  | nil : AllE X W Φ G [] []
  | cons {e : Expr} {t : E} {es : List Expr} {ts : List E} (h : plainE e = true) (p : PE X e (lift X W (ev Φ G t))) (r : AllE X W Φ G es ts) : AllE X W Φ G (e :: es) (t :: ts)
theorem AllE.pa : ∀ {es : List Expr} {ts : List E}, AllE X W Φ G es ts → PA X es (liftL X W (evs Φ G ts))
  | _, _, .nil => s_nil
  | _, _, .cons h p r => s_cons p r.pa (star_cons h)
theorem AllE.plain : ∀ {es : List Expr} {ts : List E}, AllE X W Φ G es ts → es.all plainE = true
  | _, _, .nil => rfl
  | _, _, .cons h p r => by rw [List.all_cons, h, r.plain]; rfl
/-- new, by its form -/
def newE : E → Bool
  | .lst _ => true
  | .dnew _ => true
  | .bin _ _ _ => true
  | .comp _ _ _ _ _ _ => true
  | .bi _ _ => true
  | _ => false
theorem bltS {b : B} {n : String} (h : nmB b = some n) {es : List Expr} {ts : List E} {a : Expr} {as : List Expr} (f : Fit X c W Φ G) (hg : Gl X (Str.ofString n)) (hm : X.mg (Str.ofString n) = none) (e : es = a :: as) (al : AllE X W Φ G es ts) {p pos : Pos} :
    PE X (.Call (.Name (Str.ofString n) p) es [] pos) (liftN X W (ev Φ G (.bi b ts))) := by
  subst e
  have hpl := al.plain
  simp only [List.all_cons, Bool.and_eq_true] at hpl
  have hs : starEach (a :: as) X.env = (false, eval a X.env) :: starEach as X.env := star_cons hpl.1
  have hp : (backTo pos (starEach as X.env)).any (·.1) = false := star_any hpl.2
  cases b <;> simp only [nmB, Option.some.injEq, reduceCtorEq] at h <;> subst h
  · exact n_bi bi_len (pe_callB cr_lenM hg hm boot_len al.pa (he := hs) (hpl := hp))
  · exact n_bi bi_abs (pe_callB call_abs hg hm PyProof.Rows.boot_abs al.pa (he := hs) (hpl := hp))
  · exact n_bi bi_int (pe_callTy (call_int1.or call_int_str) hg hm PyProof.Rows.boot_int al.pa (he := hs) (hpl := hp))
  · exact n_bi bi_bool (pe_callTy call_bool1 hg hm PyProof.Rows.boot_bool al.pa (he := hs) (hpl := hp))
  · exact n_bi bi_strI (pe_callTy call_str_int hg hm PyProof.Rows.boot_str al.pa (he := hs) (hpl := hp))
  · exact n_bi bi_sorted (pe_callB (cr_srtI.or (cr_srtT.or (cr_srt1.or (cr_srtN f.hu)))) hg hm PyProof.Rows.boot_sorted al.pa (he := hs) (hpl := hp))
  · exact n_bi bi_all (pe_callB (cr_all f.calm) hg hm PyProof.Rows.boot_all al.pa (he := hs) (hpl := hp))
  · exact n_bi bi_any (pe_callB (cr_any f.calm) hg hm PyProof.Rows.boot_any al.pa (he := hs) (hpl := hp))
  · exact n_bi bi_sum (pe_callB (cr_sum f.calm) hg hm PyProof.Rows.boot_sum al.pa (he := hs) (hpl := hp))
  · exact n_bi bi_max2 (pe_callB (call_max2 f.calm) hg hm PyProof.Rows.boot_max al.pa (he := hs) (hpl := hp))
  · exact n_bi bi_min2 (pe_callB (call_min2 f.calm) hg hm PyProof.Rows.boot_min al.pa (he := hs) (hpl := hp))
  · exact n_bi bi_maxL (pe_callB (cr_max f.calm) hg hm PyProof.Rows.boot_max al.pa (he := hs) (hpl := hp))
  · exact n_bi bi_minL (pe_callB (cr_min f.calm) hg hm PyProof.Rows.boot_min al.pa (he := hs) (hpl := hp))
  · exact n_bi bi_tupOf (pe_callTy call_tuple_of hg hm PyProof.Rows.boot_tuple al.pa (he := hs) (hpl := hp))
  · exact n_bi bi_lstOf (pe_callTy call_list_of hg hm PyProof.Rows.boot_list al.pa (he := hs) (hpl := hp))
  · exact n_bi bi_dictK (pe_callTy (call_dictP f.calm) hg hm PyProof.Rows.boot_dict al.pa (he := hs) (hpl := hp))
theorem inB_ok {n : Nat} {f g : String} {x : Str} {args es : List Expr} (h : inB c n f g x args = some es) : x = Str.ofString f ∧ frB c (Str.ofString f) = true ∧ frB c (Str.ofString g) = true ∧ es.all plainE = true ∧ es.length = n ∧ ∃ p q, args = [.Call (.Name (Str.ofString g) p) es [] q] := by
  unfold inB at h
  split at h
  · split at h
    · rename_i hc
      cases h
      simp only [Bool.and_eq_true, decide_eq_true_eq] at hc
      obtain ⟨⟨⟨h1, h2⟩, h3, h4⟩, h5, h6⟩ := hc
      subst h3
      exact ⟨h1, h2, h4, h5, h6, _, _, rfl⟩
    · cases h
  · cases h
theorem itmB_ok {x : Str} {args es : List Expr} (h : itmB c x args = some es) : x = Str.ofString "list" ∧ frB c (Str.ofString "list") = true ∧ ∃ o ap cp, es = [o] ∧ args = [.Call (.Attribute o (Str.ofString "items") ap) [] [] cp] ∧ baseB o = true ∧ plainE o = true ∧ (ap.endLine == cp.line) = true := by
  unfold itmB at h
  split at h
  · split at h
    · rename_i hc
      cases h
      simp only [Bool.and_eq_true, decide_eq_true_eq] at hc
      obtain ⟨⟨h1, h2⟩, h3, h4, h5, h6⟩ := hc
      subst h3
      exact ⟨h1, h2, _, _, _, rfl, rfl, h4, h5, h6⟩
    · cases h
  · cases h
theorem atB_ok {e : Expr} {t : E} (f : Fit X c W Φ G) (h : atB c e t = true) : atomE t = true ∧ PE X e (teA X Φ G t) := by
  unfold atB at h
  split at h
  · split at h
    · simp only [Bool.and_eq_true] at h
      obtain ⟨⟨h1, h2⟩, h3⟩ := h
      exact ⟨rfl, a_var (f.slot h1) (f.vis h2) (okN_1 h3).1 (okN_1 h3).2⟩
    · cases h
  · split at h
    · cases of_decide_eq_true h
      exact ⟨rfl, a_int⟩
    · cases h
  · split at h
    · cases of_decide_eq_true h
      exact ⟨rfl, a_neg⟩
    · cases h
  · split at h
    · simp only [Bool.and_eq_true, decide_eq_true_eq] at h
      obtain ⟨⟨⟨rfl, h2⟩, h3⟩, h4⟩ := h
      obtain ⟨d, hd, hm⟩ := f.gls _ h3
      exact ⟨rfl, a_glo hd (f.gl h2) hm (okN_1 h4).1⟩
    · cases h
  · cases h
/-- what chkB finds -/
theorem chkB_ok {b : B} {e : Expr} {es : List Expr} {ts : List E} (f : Fit X c W Φ G) (h : chkB c b e = some es) (al : AllE X W Φ G es ts) : PE X e (liftN X W (ev Φ G (.bi b ts))) := by
  unfold chkB at h
  split at h
  · rename_i x p args pos
    split at h
    · rename_i T hT
      split at h
      · rename_i a t q
        split at h
        · rename_i hc
          cases h
          simp only [Bool.and_eq_true, decide_eq_true_eq] at hc
          obtain ⟨⟨⟨rfl, h2⟩, rfl, h4⟩, h5⟩ := hc
          cases al with
          | cons hp pe r =>
            cases r
            obtain ⟨g1, g2⟩ := f.frg h2
            obtain ⟨g3, g4⟩ := f.frg h4
            have key : ∀ (hv : bootBuiltins (Str.ofString T) = some (.type T)) (hn : Str.ofString T ≠ "__name__") (hdb : (Str.ofString T == ("__debug__" : Str)) = false), PE X (.Call (.Name (Str.ofString "isinstance") p) [a, .Name (Str.ofString T) q] [] pos) (liftN X W (ev Φ G (.bi b [_]))) :=
              fun hv hn hdb => n_isi hT g1 g2 g3 g4 hv hn hdb pe (star_cons hp)
            cases b <;> simp only [isT, Option.some.injEq, reduceCtorEq] at hT <;> subst hT
            · exact key PyProof.Rows.boot_tuple (by decide) (by decide)
            · exact key PyProof.Rows.boot_int (by decide) (by decide)
            · exact key PyProof.Rows.boot_bool (by decide) (by decide)
            · exact key PyProof.Rows.boot_str (by decide) (by decide)
            · exact key PyProof.Rows.boot_list (by decide) (by decide)
        · cases h
      · cases h
    · rename_i hT
      have one : ∀ {n : Nat}, es.length = 1 → ∃ a t, es = [a] ∧ ts = [t] ∧ plainE a = true ∧ PE X a (lift X W (ev Φ G t)) := fun {n} hl => by
        cases al with
        | nil => cases hl
        | cons hp pe r =>
          cases r with
          | nil => exact ⟨_, _, rfl, rfl, hp, pe⟩
          | cons _ _ _ => simp at hl
      have two : ∀ {n : Nat}, es.length = 2 → ∃ a a' t t', es = [a, a'] ∧ ts = [t, t'] ∧ plainE a = true ∧ plainE a' = true ∧ PE X a (lift X W (ev Φ G t)) ∧ PE X a' (lift X W (ev Φ G t')) := fun {n} hl => by
        cases al with
        | nil => cases hl
        | cons hp pe r =>
          cases r with
          | nil => cases hl
          | cons hp' pe' r =>
            cases r with
            | nil => exact ⟨_, _, _, _, rfl, rfl, hp, hp', pe, pe'⟩
            | cons _ _ _ => simp at hl
      split at h
      · obtain ⟨rfl, h2, h3, h4, h5, p', q, rfl⟩ := inB_ok h
        obtain ⟨a, t, rfl, rfl, hp, pe⟩ := one (n := 0) h5
        obtain ⟨g1, g2⟩ := f.frg h2
        obtain ⟨g3, g4⟩ := f.frg h3
        exact n_lstRg1 f.calm g1 g2 g3 g4 pe (star_cons hp) (star_cons rfl)
      · obtain ⟨rfl, h2, h3, h4, h5, p', q, rfl⟩ := inB_ok h
        obtain ⟨a, a', t, t', rfl, rfl, hp, hp', pe, pe'⟩ := two (n := 0) h5
        obtain ⟨g1, g2⟩ := f.frg h2
        obtain ⟨g3, g4⟩ := f.frg h3
        exact n_lstRg2 f.calm g1 g2 g3 g4 pe pe' (star_cons hp) (star_cons hp') (star_any (by simp [hp'])) (star_cons rfl)
      · obtain ⟨rfl, h2, h3, h4, h5, p', q, rfl⟩ := inB_ok h
        obtain ⟨a, t, rfl, rfl, hp, pe⟩ := one (n := 0) h5
        obtain ⟨g1, g2⟩ := f.frg h2
        obtain ⟨g3, g4⟩ := f.frg h3
        exact n_tupRg1 f.calm g1 g2 g3 g4 pe (star_cons hp) (star_cons rfl)
      · obtain ⟨rfl, h2, h3, h4, h5, p', q, rfl⟩ := inB_ok h
        obtain ⟨a, a', t, t', rfl, rfl, hp, hp', pe, pe'⟩ := two (n := 0) h5
        obtain ⟨g1, g2⟩ := f.frg h2
        obtain ⟨g3, g4⟩ := f.frg h3
        exact n_tupRg2 f.calm g1 g2 g3 g4 pe pe' (star_cons hp) (star_cons hp') (star_any (by simp [hp'])) (star_cons rfl)
      · obtain ⟨rfl, h2, h3, h4, h5, p', q, rfl⟩ := inB_ok h
        obtain ⟨a, t, rfl, rfl, hp, pe⟩ := one (n := 0) h5
        obtain ⟨g1, g2⟩ := f.frg h2
        obtain ⟨g3, g4⟩ := f.frg h3
        exact n_lenSet g1 g2 g3 g4 pe f.calm (star_cons hp) (star_cons rfl)
      · obtain ⟨rfl, h2, h3, h4, h5, p', q, rfl⟩ := inB_ok h
        obtain ⟨a, a', t, t', rfl, rfl, hp, hp', pe, pe'⟩ := two (n := 0) h5
        obtain ⟨g1, g2⟩ := f.frg h2
        obtain ⟨g3, g4⟩ := f.frg h3
        exact n_dictZip f.hu f.calm g1 g2 g3 g4 al.pa (star_cons hp) (star_any (by simp [hp'])) (star_cons rfl)
      · obtain ⟨rfl, h2, h3, h4, h5, p', q, rfl⟩ := inB_ok h
        obtain ⟨a, t, rfl, rfl, hp, pe⟩ := one (n := 0) h5
        obtain ⟨g1, g2⟩ := f.frg h2
        obtain ⟨g3, g4⟩ := f.frg h3
        exact n_lstEnum g1 g2 g3 g4 pe f.calm (star_cons hp) (star_cons rfl)
      · obtain ⟨rfl, h2, o, ap, cp, rfl, rfl, h4, h5, h6⟩ := itmB_ok h
        obtain ⟨a, t, ea, rfl, hp, pe⟩ := one (n := 0) rfl
        cases ea
        obtain ⟨g1, g2⟩ := f.frg h2
        exact n_lstItems g1 g2 pe f.calm (base_eq h4) h6 (star_cons rfl)
      · split at h
        · rename_i n hn
          split at h
          · rename_i hc
            cases h
            simp only [Bool.and_eq_true, decide_eq_true_eq] at hc
            obtain ⟨⟨rfl, h2⟩, h3, h4⟩ := hc
            obtain ⟨g1, g2⟩ := f.frg h2
            cases es with
            | nil => cases h4
            | cons a as => exact bltS hn f g1 g2 rfl al
          · cases h
        · cases h
  · cases h
end
end MN
set_option Elab.async false
set_option linter.all false
set_option maxRecDepth 100000
/-! MiniQ: what the look finds is so: expressions. -/
namespace MN
variable [TabP]
open PySem PySem.Spec L2
section
variable {X : Cx} {c : Ct} {W : WX} {Φ : Str → List D → M D} {G : Str → Option D}
theorem few_ok {es : List Expr} {cpos : Pos} (h1 : es.all plainE = true) (h2 : es.length < 29) : ((backTo cpos (starEach es X.env)).all (fun x => !x.1) && (backToKw cpos (keywordEach [] X.env)).all (fun x => x.1.isSome)
      && decide (es.length + ([] : List Keyword).length + (if ([] : List Keyword).isEmpty then 0 else 1) < 30)) = true := by
  rw [star_all h1]
  have : es.length + ([] : List Keyword).length + (if ([] : List Keyword).isEmpty then 0 else 1) < 30 := by
    show es.length + 0 + 0 < 30
    omega
  simp only [decide_eq_true this]
  rfl
theorem trees_ok2 {e f : Expr} {cpos : Pos} (h1 : plainE e = true) (h2 : plainE f = true) : backTo cpos (starEach [e, f] X.env) = [(false, eval e X.env), (false, eval f X.env)] := by
  rw [star_cons h1, star_cons h2]
  rfl
theorem chkM_ok {m : Mt} {e o : Expr} {es : List Expr} {eo : E} {ts : List E} (f : Fit X c W Φ G) (h : chkM m e = some (o, es)) (po : PE X o (lift X W (ev Φ G eo))) (al : AllE X W Φ G es ts) : PE X e (lift X W (ev Φ G (.mth m eo ts))) := by
  unfold chkM at h
  split at h
  · rename_i o' nm apos args cpos
    split at h
    · rename_i n hn
      split at h
      · rename_i hc
        cases h
        simp only [Bool.and_eq_true, decide_eq_true_eq] at hc
        obtain ⟨⟨⟨rfl, h2⟩, h3⟩, h4, h5⟩ := hc
        have hb := base_eq (nm := Str.ofString n) (env := X.env) h2
        cases m <;> simp only [mtN, Option.some.injEq, reduceCtorEq] at hn <;> subst hn
        · cases al with
          | nil => cases h5
          | cons hp pe r =>
            cases r with
            | nil => cases h5
            | cons hp' pe' r =>
              cases r with
              | nil => exact s_get2 f.hu po pe pe' ⟨hb, few_ok h4 (by simp), h3, trees_ok2 hp hp'⟩
              | cons _ _ _ => simp [mtA] at h5
        · cases al with
          | nil => cases h5
          | cons hp pe r =>
            cases r with
            | nil => exact s_append (pe_bm F.plainAttrs_list F.slot_list_append F.type_list_append mt_append po (AllE.pa (.cons hp pe .nil)) hb (few_ok h4 (by simp)) h3 (star_cons hp) rfl)
            | cons _ _ _ => simp [mtA] at h5
        · cases al with
          | nil => cases h5
          | cons hp pe r =>
            cases r with
            | nil => exact s_index (pe_bm F.plainAttrs_list F.slot_list_index F.type_list_index (mt_indexD f.hu) po (AllE.pa (.cons hp pe .nil)) hb (few_ok h4 (by simp)) h3 (star_cons hp) rfl)
            | cons _ _ _ => simp [mtA] at h5
        · cases al with
          | nil => exact s_upper (pe_bm0 F.plainAttrs_str F.slot_str_upper F.type_str_upper mt_upper po hb h3)
          | cons _ _ _ => simp [mtA] at h5
        · cases al with
          | nil => cases h5
          | cons hp pe r =>
            cases r with
            | nil => exact s_new (s_split (pe_bm F.plainAttrs_str F.slot_str_split F.type_str_split mt_split po (AllE.pa (.cons hp pe .nil)) hb (few_ok h4 (by simp)) h3 (star_cons hp) rfl))
            | cons _ _ _ => simp [mtA] at h5
        · cases al with
          | nil => cases h5
          | cons hp pe r =>
            cases r with
            | nil => exact s_join (pe_bm F.plainAttrs_str F.slot_str_join F.type_str_join mt_join po (AllE.pa (.cons hp pe .nil)) hb (few_ok h4 (by simp)) h3 (star_cons hp) rfl)
            | cons _ _ _ => simp [mtA] at h5
      · cases h
    · cases h
  · cases h
/-! ### what a loop goes over -/
theorem itB_ok {n : Nat} {g : String} {it : Expr} {es : List Expr} (h : itB c n g it = some es) : frB c (Str.ofString g) = true ∧ es.all plainE = true ∧ es.length = n ∧ ∃ p q, it = .Call (.Name (Str.ofString g) p) es [] q := by
  unfold itB at h
  split at h
  · split at h
    · rename_i hc
      cases h
      simp only [Bool.and_eq_true, decide_eq_true_eq] at hc
      obtain ⟨⟨rfl, h2⟩, h3, h4⟩ := hc
      exact ⟨h2, h3, h4, _, _, rfl⟩
    · cases h
  · cases h
theorem AllE.one {es : List Expr} {ts : List E} (al : AllE X W Φ G es ts) (hl : es.length = 1) : ∃ a t, es = [a] ∧ ts = [t] ∧ plainE a = true ∧ PE X a (lift X W (ev Φ G t)) := by
  cases al with
  | nil => cases hl
  | cons hp pe r =>
    cases r with
    | nil => exact ⟨_, _, rfl, rfl, hp, pe⟩
    | cons _ _ _ => simp at hl
theorem AllE.two {es : List Expr} {ts : List E} (al : AllE X W Φ G es ts) (hl : es.length = 2) : ∃ a a' t t', es = [a, a'] ∧ ts = [t, t'] ∧ plainE a = true ∧ plainE a' = true ∧ PE X a (lift X W (ev Φ G t)) ∧ PE X a' (lift X W (ev Φ G t')) := by
  cases al with
  | nil => cases hl
  | cons hp pe r =>
    cases r with
    | nil => cases hl
    | cons hp' pe' r =>
      cases r with
      | nil => exact ⟨_, _, _, _, rfl, rfl, hp, hp', pe, pe'⟩
      | cons _ _ _ => simp at hl
theorem chkI_ok {k : IK} {tg it : Expr} {es : List Expr} {ts : List E} (f : Fit X c W Φ G) (h : chkI c k tg it = some es) (al : AllE X W Φ G es ts) : PI X tg it (liftI X W (srcM Φ G k ts)) := by
  unfold chkI at h
  cases k with
  | seq =>
    simp only at h
    split at h
    · cases h
      cases al with
      | cons hp pe r =>
        cases r
        exact i_seq pe
    · cases h
  | items =>
    simp only at h
    split at h
    · split at h
      · rename_i hc
        cases h
        simp only [Bool.and_eq_true, decide_eq_true_eq] at hc
        obtain ⟨⟨⟨⟨h1, rfl⟩, h3⟩, h4⟩, h5⟩ := hc
        cases tg <;> simp only [tupT, Bool.false_eq_true] at h1
        cases al with
        | cons hp pe r =>
          cases r
          exact i_items pe (base_eq h3) h4
      · cases h
    · cases h
  | range1 =>
    obtain ⟨h2, h3, h4, p, q, rfl⟩ := itB_ok h
    obtain ⟨g1, g2⟩ := f.frg h2
    obtain ⟨a, t, rfl, rfl, hp, pe⟩ := al.one h4
    exact i_range1 g1 g2 al.pa (star_cons hp)
  | range2 =>
    obtain ⟨h2, h3, h4, p, q, rfl⟩ := itB_ok h
    obtain ⟨g1, g2⟩ := f.frg h2
    obtain ⟨a, a', t, t', rfl, rfl, hp, hp', pe, pe'⟩ := al.two h4
    exact i_range2 g1 g2 al.pa (by rw [star_cons hp, star_cons hp']; rfl) (star_cons hp')
  | zip =>
    simp only at h
    split at h
    · rename_i h1
      obtain ⟨h2, h3, h4, p, q, rfl⟩ := itB_ok h
      obtain ⟨g1, g2⟩ := f.frg h2
      obtain ⟨a, a', t, t', rfl, rfl, hp, hp', pe, pe'⟩ := al.two h4
      cases tg <;> simp only [tupT, Bool.false_eq_true] at h1
      exact i_zip g1 g2 al.pa (star_cons hp) (star_any (by simp [hp']))
    · cases h
  | enum =>
    simp only at h
    split at h
    · rename_i h1
      obtain ⟨h2, h3, h4, p, q, rfl⟩ := itB_ok h
      obtain ⟨g1, g2⟩ := f.frg h2
      obtain ⟨a, t, rfl, rfl, hp, pe⟩ := al.one h4
      cases tg <;> simp only [tupT, Bool.false_eq_true] at h1
      exact i_enum g1 g2 al.pa (star_cons hp)
    · cases h

/-! ### targets -/
theorem asg_cons {e : Expr} {es : List Expr} {env : PySem.Env} (h : plainE e = true) : assignEach (e :: es) env = (false, assign e env) :: assignEach es env := by
  cases e <;> first | rfl | cases h
mutual
theorem chkTg_ok (f : Fit X c W Φ G) (t : Tg) (e : Expr) (h : chkTg c e t = true) : PG X e (gL X.K t) ∧ plainE e = true := by
  match t with
  | .name i =>
    unfold chkTg at h
    split at h
    · simp only [Bool.and_eq_true] at h
      obtain ⟨h1, h2⟩ := f.loc h.2
      exact ⟨pg_nameL (by rw [f.N]; exact f.nd) (f.slot h.1) h1 h2, rfl⟩
    · cases h
  | .tup ts =>
    unfold chkTg at h
    split at h
    · rename_i es k pos
      obtain ⟨h1, h2, h3⟩ := chkTgs_ok f ts es h
      refine ⟨pg_tupL (n := es.length) f.calm h1 h3.symm ?_ ?_, rfl⟩
      · clear h h1 h3
        induction es with
        | nil => rfl
        | cons e es ih =>
          rw [asg_cons (h2 e List.mem_cons_self), List.length_cons, List.length_cons, ih fun x hx => h2 x (List.mem_cons_of_mem _ hx)]
      · clear h h1 h3
        induction es with
        | nil => rfl
        | cons e es ih =>
          rw [asg_cons (h2 e List.mem_cons_self), List.findIdx?_cons, ih fun x hx => h2 x (List.mem_cons_of_mem _ hx)]
          rfl
    · cases h
termination_by structural t
theorem chkTgs_ok (f : Fit X c W Φ G) (ts : List Tg) (es : List Expr) (h : chkTgs c es ts = true) : PGs X es (gLs X.K ts) ∧ (∀ e ∈ es, plainE e = true) ∧ es.length = ts.length := by
  match ts with
  | [] =>
    unfold chkTgs at h
    split at h
    · exact ⟨pgs_nilL, fun e he => absurd he (by simp), rfl⟩
    · cases h
  | t :: ts =>
    unfold chkTgs at h
    split at h
    · rename_i e es
      simp only [Bool.and_eq_true] at h
      obtain ⟨h1, h2⟩ := chkTg_ok f t e h.1
      obtain ⟨h3, h4, h5⟩ := chkTgs_ok f ts es h.2
      refine ⟨pgs_consL h1 h3 (by rw [asg_cons h2]; rfl), fun x hx => ?_, by simp [h5]⟩
      rcases List.mem_cons.mp hx with rfl | hx
      · exact h2
      · exact h4 x hx
    · cases h
termination_by structural ts
end
/-- a block within -/
theorem Fit.block (f : Fit X c W Φ G) {scope : Scope} {own : List (Str × Nat)} (ok : BlkOk X.N X.env.scope scope own) (s : Shared) (H : Hp) (C : Addr) (cl : List (Str × Addr)) (fp : List Addr) : Fit (X.blk s H scope (compEnvC scope cl C X.env) fp) (blkCt c scope) W0 Φ G :=
  ⟨f.N, f.nd, by rw [show (blkCt c scope).sc = relS scope c.sc from rfl, ← f.sc]; rfl, f.calm, f.hu, takes_none5, f.fr, fun x h1 h2 => h2, f.fns, f.gls, f.dep, f.exs, f.exm, f.te, f.te', f.xc, f.xk, f.xm⟩
end
end MN
set_option Elab.async false
set_option linter.all false
set_option maxRecDepth 100000
/-! MiniEz: own errors as values: from readings to what is computed. -/
namespace MN
variable [TabP]
open PySem PySem.Spec L2 PyProof.Rows
section
variable {X : Cx} {c : Ct} {W : WX} {Φ : Str → List D → M D} {G : Str → Option D}
theorem nt_exo {a C : Addr} {d : Option Addr} : ∀ ps, exo a C d ≠ .tbl ps := fun ps => exo_tbl
theorem nt_ExO {cls : Value} {a : Addr} : ∀ ps, ExO cls a ≠ .tbl ps := fun ps z => by
  have z' : HO.ext _ = HO.tbl ps := z
  cases z'
theorem s_newx0 {x : Str} {b : Expr} {a : E} {p pos : Pos} (f : Fit X c W Φ G) (hx : c.ex x = some none) (hg : glB c x = true) (hd : okN x = true) (hp : plainE b = true) (po : PE X b (lift X W (ev Φ G a))) : PE X (.Call (.Name x p) [b] [] pos) (lift X W (ev Φ G (.newx x Str.empty a))) := by
  obtain ⟨C, hm, hk, hs, ht, he⟩ := f.exs x none hx
  refine (pe_exc1 F.excBase_ValueError he hm hk (f.gl hg) po (star_cons hp) (okN_1 hd).1).imp fun σv H Q ⟨F, m, σ, st, sr, re, h⟩ => ⟨F, m, σ, st, sr, re, ?_⟩
  unfold ev at h
  refine post_bnd h fun F1 m1 H1 st1 d v x1 s1 r1 q ad ha => ?_
  cases e : newxO x Str.empty d with
  | none => simp only [e] at q; exact q.elim
  | some y =>
    simp only [e] at q
    have ey : y = .exn x Str.empty 0 := by
      unfold newxO at e
      rw [if_pos rfl] at e
      cases d <;> simp at e
      exact e.symm
    subst ey
    obtain ⟨s2, x2⟩ := s1.new ha (ExO (.ref C) ad) nt_ExO
    exact q _ _ _ _ x2 s2 (.exn0 (f.te' x C none hx hm) upd_same)
theorem s_newx1 {x fl : Str} {b : Expr} {a : E} {p pos : Pos} (f : Fit X c W Φ G) (hx : c.ex x = some (some fl)) (hfl : fl ≠ Str.empty) (hg : glB c x = true) (hd : okN x = true) (hp : plainE b = true) (po : PE X b (lift X W (ev Φ G a))) : PE X (.Call (.Name x p) [b] [] pos) (lift X W (ev Φ G (.newx x fl a))) := by
  obtain ⟨C, hm, hk, hs, ht, he, hxf, n1, n2, n3, n4⟩ := f.exs x _ hx
  refine (pe_ini he n1 n2 n3 n4 hm f.dep po (f.gl hg) (okN_1 hd).1 (star_cons hp)).imp fun σv H Q ⟨F, m, σ, st, sr, re, h⟩ => ⟨F, m, σ, st, sr, re, ?_⟩
  unfold ev at h
  refine post_bnd h fun F1 m1 H1 st1 d v x1 s1 r1 q e dx he1 hd1 hne => ?_
  cases e0 : newxO x fl d with
  | none => simp only [e0] at q; exact q.elim
  | some y =>
    simp only [e0] at q
    have ey : ∃ i, d = .int i ∧ y = .exn x fl i := by
      unfold newxO at e0
      rw [if_neg hfl] at e0
      cases d <;> simp at e0
      exact ⟨_, rfl, e0.symm⟩
    obtain ⟨i, rfl, rfl⟩ := ey
    cases r1
    obtain ⟨s2, x2⟩ := s1.new hd1 (.xd [(fl, .int i)])
    have hn : upd H1 dx (.xd [(fl, .int i)]) e = none := by rw [upd_ne (Ne.symm hne)]; exact he1
    obtain ⟨s3, x3⟩ := s2.new hn (exo e C (some dx)) nt_exo
    refine q _ _ _ _ (x2.trans x3) s3 (.exn1 (f.te' x C (some fl) hx hm) hfl upd_same ?_)
    show upd (upd F1.f dx (.xd [(fl, .int i)])) e (exo e C (some dx)) dx = _
    rw [upd_ne hne]
    exact upd_same
/-- an own error, as it stands -/
theorem rep_err {K : PySem.W.Frag} {F : Wd} {m : List Addr} {st : Store} {H : Hp} {y g : Str} {i : Int} {v : V} (s : SR K F m st H) (r : Rep K F m (.exn y g i) v) : ∃ a C o, v = .ref a ∧ TabP.E y = some (C, o) ∧ ErrAt H a C := by
  cases r with
  | exn0 e h => exact ⟨_, _, _, rfl, e, .inl (s.sub _ _ h)⟩
  | exn1 e n h1 h2 => exact ⟨_, _, _, rfl, e, .inr ⟨_, _, s.sub _ _ h1, s.sub _ _ h2⟩⟩
theorem s_isx {x : Str} {b : Expr} {a : E} {p q pos : Pos} (f : Fit X c W Φ G) (hi : frB c (Str.ofString "isinstance") = true) (hx : isxB c x = true) (hd : okN x = true) (hp : plainE b = true) (po : PE X b (lift X W (ev Φ G a))) : PE X (.Call (.Name (Str.ofString "isinstance") p) [b, .Name x q] [] pos) (lift X W (ev Φ G (.isx a x))) := by
  obtain ⟨g1, g2⟩ := f.frg hi
  have hs : starEach [b, .Name x q] X.env = (false, eval b X.env) :: starEach [.Name x q] X.env := star_cons hp
  -- the class that is asked for
  have key : ∀ (cv : V) (cu : Value), PE X (.Name x q) (tC cv) → (∀ u, RelV cv u → u = cu) → (∀ y C o, TabP.E y = some (C, o) → PySem.W.kitOne X.K (.ref C) cu = some (isxO y x)) → PE X (.Call (.Name (Str.ofString "isinstance") p) [b, .Name x q] [] pos) (lift X W (ev Φ G (.isx a x))) := fun cv cu pc hcu hk => by
    refine (pe_callB call_isX g1 g2 PyProof.Rows.boot_isinstance (pa_cons po (pa_cons pc pa_nil) hs) (he := hs)).imp fun σv H Q ⟨F, m, σ, st, sr, re, h⟩ => ⟨F, m, σ, st, sr, re, ?_⟩
    unfold ev at h
    refine post_bnd h fun F1 m1 H1 st1 d v x1 s1 r1 w => ?_
    cases d with
    | exn y g i =>
      obtain ⟨ad, C, o, rfl, e, he⟩ := rep_err s1 r1
      obtain ⟨h1, h2⟩ := f.te y C o e
      exact ⟨ad, C, cv, cu, _, rfl, he, (f.xc y C o h1 h2).1, hcu, hk y C o e, w _ _ _ _ Ext.refl s1 (.bl _)⟩
    | _ => exact w.elim
  unfold isxB at hx
  simp only [Bool.or_eq_true, Bool.and_eq_true, decide_eq_true_eq] at hx
  rcases hx with ⟨rfl, h2⟩ | ⟨h1, h2, h3⟩
  · obtain ⟨g3, g4⟩ := f.frg h2
    refine key (.ty "ValueError") (.type "ValueError") (pe_bltn g3 g4 (by decide +kernel) rfl (by decide +kernel) (by decide +kernel)) (fun u r => r) fun y C o e => ?_
    obtain ⟨k1, k2⟩ := f.te y C o e
    rw [(f.xc y C o k1 k2).2]
    unfold isxO
    simp
  · rcases h3 with ⟨h3, h4⟩ | ⟨rfl, h4⟩
    · obtain ⟨o', ho'⟩ := Option.isSome_iff_exists.mp h3
      obtain ⟨D, hm, _⟩ := f.exs _ _ ho'
      refine key (.ref D) (.ref D) (pe_glob (f.gl h1) hm rfl (okN_1 hd).1) (fun u r => r) fun y C o e => ?_
      obtain ⟨k1, k2⟩ := f.te y C o e
      rw [f.xk y x C D o o' k1 ho' k2 hm]
      unfold isxO
      simp [h2, h4]
    · obtain ⟨D, hm, hk⟩ := f.xm h4
      refine key (.ref D) (.ref D) (pe_glob (f.gl h1) hm rfl (okN_1 hd).1) (fun u r => r) fun y C o e => ?_
      obtain ⟨k1, k2⟩ := f.te y C o e
      rw [hk y C o k1 k2]
      unfold isxO
      simp
theorem s_fldx {n : Str} {b : Expr} {a : E} {pos : Pos} (f : Fit X c W Φ G) (hb : baseB b = true) (po : PE X b (lift X W (ev Φ G a))) : PE X (.Attribute b n pos) (lift X W (ev Φ G (.fldx a n))) := by
  refine (pe_fx po (base_eq hb)).imp fun σv H Q ⟨F, m, σ, st, sr, re, h⟩ => ⟨F, m, σ, st, sr, re, ?_⟩
  unfold ev at h
  refine post_bnd h fun F1 m1 H1 st1 d v x1 s1 r1 w => ?_
  cases d with
  | exn y g i =>
    simp only at w
    by_cases hc : (decide (n = g) && decide (g ≠ Str.empty)) = true
    · rw [if_pos hc] at w
      simp only [Bool.and_eq_true, decide_eq_true_eq] at hc
      obtain ⟨rfl, hg⟩ := hc
      cases r1 with
      | exn0 e h => exact absurd rfl hg
      | exn1 e n' h1 h2 =>
        obtain ⟨k1, k2⟩ := f.te _ _ _ e
        obtain ⟨C', hm, hk, hs, ht, he, hxf, _⟩ := f.exs _ _ k1
        rw [k2] at hm
        cases hm
        exact ⟨_, _, _, _, .int i, rfl, hxf, he.noF, s1.sub _ _ h1, s1.sub _ _ h2, by simp [List.lookup], w _ _ _ _ Ext.refl s1 (.int i)⟩
    · rw [if_neg hc] at w
      exact w.elim
  | _ => exact w.elim
end
end MN
set_option Elab.async false
set_option linter.all false
set_option maxRecDepth 100000
/-! MiniR: what the look finds is so: all expressions. -/
namespace MN
variable [TabP]
open PySem PySem.Spec L2
def isBO : Expr → Bool
  | .BoolOp _ _ _ => true
  | _ => false
/-- what is told of an expression -/
def Told (X : Cx) (W : WX) (Φ : Str → List D → M D) (G : Str → Option D) (tst : Bool) (e : Expr) (t : E) : Prop :=
  (tst = false → PE X e (lift X W (ev Φ G t))) ∧ (tst = true → PT X e (liftT X W (evt Φ G (some t))) ∧ (isBO e = true → PW X e (liftT X W (evt Φ G (some t))))) ∧ (newE t = true → PE X e (liftN X W (ev Φ G t)))
section
variable {X : Cx} {W : WX} {Φ : Str → List D → M D} {G : Str → Option D} {tst : Bool} {e : Expr} {t : E}
theorem Told.val (pe : PE X e (lift X W (ev Φ G t))) (he : ∀ whole, isTrue e X.env whole = (do let v ← whole; standAt e.pos; holding [v] (truthy v))) (hb : isBO e = false) (hn : newE t = false) : Told X W Φ G tst e t :=
  ⟨fun _ => pe, fun _ => ⟨t_val pe he, fun z => by rw [hb] at z; cases z⟩, fun z => by rw [hn] at z; cases z⟩
theorem Told.new (pe : PE X e (liftN X W (ev Φ G t))) (he : ∀ whole, isTrue e X.env whole = (do let v ← whole; standAt e.pos; holding [v] (truthy v))) (hb : isBO e = false) : Told X W Φ G tst e t :=
  ⟨fun _ => s_new pe, fun _ => ⟨t_val (s_new pe) he, fun z => by rw [hb] at z; cases z⟩, fun _ => pe⟩
theorem Told.new0 (pe : PE X e (liftN X W (ev Φ G t))) (he : ∀ whole, isTrue e X.env whole = (do let v ← whole; standAt e.pos; holding [v] (truthy v))) (hb : isBO e = false) (hn : newE t = false) : Told X W Φ G tst e t := .val (s_new pe) he hb hn
theorem liftN_bad {t : E} (h : ∀ σ st, ev Φ G t σ st = .bad) : PE X e (liftN X W (ev Φ G t)) := ⟨fun pins s σ H Q I ⟨F, m, σ', st, sr, re, q⟩ => by rw [h] at q; exact q.elim⟩
theorem lift_bad {t : E} (h : ∀ σ st, ev Φ G t σ st = .bad) : PE X e (lift X W (ev Φ G t)) := ⟨fun pins s σ H Q I ⟨F, m, σ', st, sr, re, q⟩ => by rw [h] at q; exact q.elim⟩
theorem liftT_bad {t : E} (h : ∀ σ st, ev Φ G t σ st = .bad) : ∀ σ H Q, ¬ liftT X W (evt Φ G (some t)) σ H Q := fun σ H Q ⟨F, m, σ', st, sr, re, q⟩ => by
  have : evt Φ G (some t) σ' st = .bad := by
    unfold evt
    exact bnd_bad (h _ _)
  rw [this] at q; exact q
theorem mu_new {t : E} (h : (match t with | .lst _ => true | .dnew _ => true | .bin _ _ _ => true | .comp _ _ _ _ _ _ => true | .bi _ _ => true | _ => false) = true) : newE t = true := by
  cases t <;> first | rfl | cases h
end
theorem s_one_and {X : Cx} {W : WX} {Φ : Str → List D → M D} {G : Str → Option D} {x y : Expr} {a b : E} {p : Pos} (h1 : Told X W Φ G tst x a) (h2 : Told X W Φ G tst y b) : Told X W Φ G tst (.BoolOp .And [x, y] p) (.and a b) := by
  refine ⟨fun z => s_and (h1.1 z) (pe_one (h2.1 z)), fun z => ?_, fun z => by cases z⟩
  have := t_and (pos := p) (h1.2.1 z).1 (pw_and1 (h2.2.1 z).1)
  exact ⟨this.pt, fun _ => this⟩
theorem s_more_and {X : Cx} {W : WX} {Φ : Str → List D → M D} {G : Str → Option D} {x y z : Expr} {r : List Expr} {a b : E} {p : Pos} (h1 : Told X W Φ G tst x a) (h2 : Told X W Φ G tst (.BoolOp .And (y :: z :: r) p) b) : Told X W Φ G tst (.BoolOp .And (x :: y :: z :: r) p) (.and a b) := by
  refine ⟨fun w => s_and (h1.1 w) (h2.1 w), fun w => ?_, fun w => by cases w⟩
  have := t_and (h1.2.1 w).1 ((h2.2.1 w).2 rfl)
  exact ⟨this.pt, fun _ => this⟩
theorem s_one_or {X : Cx} {W : WX} {Φ : Str → List D → M D} {G : Str → Option D} {x y : Expr} {a b : E} {p : Pos} (h1 : Told X W Φ G tst x a) (h2 : Told X W Φ G tst y b) : Told X W Φ G tst (.BoolOp .Or [x, y] p) (.or a b) := by
  refine ⟨fun z => s_or (h1.1 z) (pe_one (h2.1 z)), fun z => ?_, fun z => by cases z⟩
  have := t_or (pos := p) (h1.2.1 z).1 (pw_or1 (h2.2.1 z).1)
  exact ⟨this.pt, fun _ => this⟩
theorem s_more_or {X : Cx} {W : WX} {Φ : Str → List D → M D} {G : Str → Option D} {x y z : Expr} {r : List Expr} {a b : E} {p : Pos} (h1 : Told X W Φ G tst x a) (h2 : Told X W Φ G tst (.BoolOp .Or (y :: z :: r) p) b) : Told X W Φ G tst (.BoolOp .Or (x :: y :: z :: r) p) (.or a b) := by
  refine ⟨fun w => s_or (h1.1 w) (h2.1 w), fun w => ?_, fun w => by cases w⟩
  have := t_or (h1.2.1 w).1 ((h2.2.1 w).2 rfl)
  exact ⟨this.pt, fun _ => this⟩
mutual
theorem chk_ok (Φ : Str → List D → M D) (G : Str → Option D) (t : E) (X : Cx) (c : Ct) (W : WX) (f : Fit X c W Φ G) (tst : Bool) (e : Expr) (h : chk c tst e t = true) : Told X W Φ G tst e t := by
  match t with
  | .var i =>
    unfold chk at h
    split at h
    · simp only [Bool.and_eq_true] at h
      obtain ⟨⟨h1, h2⟩, h3⟩ := h
      exact .val (s_var (f.slot h1) (f.vis h2) (okN_1 h3).1 (okN_1 h3).2) (fun _ => rfl) rfl rfl
    · cases h
  | .cst k =>
    unfold chk at h
    split at h
    · simp only [decide_eq_true_eq] at h
      rename_i q _ _
      refine .val (s_cst ?_) (fun _ => rfl) rfl rfl
      rw [← h]
      cases q <;> rfl
    · cases h
  | .glo x =>
    unfold chk at h
    split at h
    · simp only [Bool.and_eq_true, decide_eq_true_eq] at h
      obtain ⟨⟨⟨rfl, h2⟩, h3⟩, h4⟩ := h
      obtain ⟨d, hd, hm⟩ := f.gls _ h3
      exact .val (s_glo hd (f.gl h2) hm (okN_1 h4).1) (fun _ => rfl) rfl rfl
    · cases h
  | .bin op a b =>
    unfold chk at h
    split at h
    · simp only [Bool.and_eq_true, decide_eq_true_eq] at h
      obtain ⟨⟨⟨rfl, h2⟩, h3⟩, h4⟩ := h
      refine .new (n_bin ?_ ((chk_ok Φ G a X c W f false _ h3).1 rfl) ((chk_ok Φ G b X c W f false _ h4).1 rfl)) (fun _ => rfl) rfl
      revert h2
      rename_i o _ _
      cases o <;> simp [binB]
    · cases h
  | .neg a =>
    unfold chk at h
    split at h
    · exact .val (s_neg ((chk_ok Φ G a X c W f false _ h).1 rfl)) (fun _ => rfl) rfl rfl
    · cases h
  | .cmp op a b =>
    unfold chk at h
    split at h
    · simp only [Bool.and_eq_true, decide_eq_true_eq] at h
      obtain ⟨⟨⟨rfl, h2⟩, h3⟩, h4⟩ := h
      have pa := (chk_ok Φ G a X c W f false _ h3).1 rfl
      have pb := (chk_ok Φ G b X c W f false _ h4).1 rfl
      exact ⟨fun _ => s_cmp f.hu (mark_eq h2) pa pb, fun _ => ⟨t_cmp f.hu (mark_eq h2) pa pb, fun z => by cases z⟩, fun z => by cases z⟩
    · cases h
  | .chn op op' a b d =>
    unfold chk at h
    split at h
    · simp only [Bool.and_eq_true, decide_eq_true_eq] at h
      obtain ⟨⟨⟨⟨⟨⟨rfl, rfl⟩, h2⟩, h2'⟩, h3⟩, h4⟩, h5⟩ := h
      have pa := (chk_ok Φ G a X c W f false _ h3).1 rfl
      have pb := (chk_ok Φ G b X c W f false _ h4).1 rfl
      have pd := (chk_ok Φ G d X c W f false _ h5).1 rfl
      exact ⟨fun _ => s_chn f.hu (show lastMarks [_, _] [_, _] = false from mark_eq h2') pa pb pd, fun _ => ⟨t_chn f.hu (show lastMarks [_, _] [_, _] = false from mark_eq h2') pa pb pd, fun z => by cases z⟩, fun z => by cases z⟩
    · cases h
  | .and a b =>
    unfold chk at h
    split at h
    · simp only [Bool.and_eq_true] at h
      exact s_one_and (chk_ok Φ G a X c W f tst _ h.1) (chk_ok Φ G b X c W f tst _ h.2)
    · simp only [Bool.and_eq_true] at h
      exact s_more_and (chk_ok Φ G a X c W f tst _ h.1) (chk_ok Φ G b X c W f tst _ h.2)
    · cases h
  | .or a b =>
    unfold chk at h
    split at h
    · simp only [Bool.and_eq_true] at h
      exact s_one_or (chk_ok Φ G a X c W f tst _ h.1) (chk_ok Φ G b X c W f tst _ h.2)
    · simp only [Bool.and_eq_true] at h
      exact s_more_or (chk_ok Φ G a X c W f tst _ h.1) (chk_ok Φ G b X c W f tst _ h.2)
    · cases h
  | .not a =>
    unfold chk at h
    split at h
    · simp only [Bool.and_eq_true] at h
      have := (chk_ok Φ G a X c W f true _ h.2).2.1 rfl
      exact ⟨fun z => by rw [z] at h; exact absurd h.1 Bool.false_ne_true, fun _ => ⟨t_not this.1, fun z => by cases z⟩, fun z => by cases z⟩
    · cases h
  | .notV a =>
    unfold chk at h
    split at h
    · simp only [Bool.and_eq_true] at h
      have := (chk_ok Φ G a X c W f false _ h.2).1 rfl
      exact ⟨fun _ => s_not this, fun z => by rw [z] at h; exact absurd h.1 Bool.false_ne_true, fun z => by cases z⟩
    · cases h
  | .ite q a b =>
    unfold chk at h
    split at h
    · simp only [Bool.and_eq_true] at h
      obtain ⟨⟨h1, h2⟩, h3⟩ := h
      have pq := ((chk_ok Φ G q X c W f true _ h1).2.1 rfl).1
      have pa := chk_ok Φ G a X c W f tst _ h2
      have pb := chk_ok Φ G b X c W f tst _ h3
      exact ⟨fun z => s_ite pq (pa.1 z) (pb.1 z), fun z => ⟨t_ite pq (pa.2.1 z).1 (pb.2.1 z).1, fun z => by cases z⟩, fun z => by cases z⟩
    · cases h
  | .tup ts =>
    unfold chk at h
    split at h
    · exact .val (s_tup (chks_ok Φ G ts X c W f _ h).pa) (fun _ => rfl) rfl rfl
    · cases h
  | .lst ts =>
    unfold chk at h
    split at h
    · exact .new (n_lst (chks_ok Φ G ts X c W f _ h).pa) (fun _ => rfl) rfl
    · cases h
  | .dnew tk =>
    unfold chk at h
    split at h
    · cases tk
      · exact .new n_dnewK (fun _ => rfl) rfl
      · exact .new n_dnewT (fun _ => rfl) rfl
    · cases h
  | .disp k v =>
    unfold chk at h
    split at h
    · simp only [Bool.and_eq_true] at h
      obtain ⟨a1, a2⟩ := atB_ok f h.1
      obtain ⟨b1, b2⟩ := atB_ok f h.2
      exact .new0 (n_disp a1 b1 a2 b2) (fun _ => rfl) rfl rfl
    · cases h
  | .idx a i =>
    unfold chk at h
    split at h
    · simp only [Bool.and_eq_true] at h
      obtain ⟨⟨h1, h2⟩, h3⟩ := h
      exact .val (s_idx (by have := f.hu; omega) (ix_eq h1) ((chk_ok Φ G a X c W f false _ h2).1 rfl) ((chk_ok Φ G i X c W f false _ h3).1 rfl)) (fun _ => rfl) rfl rfl
    · cases h
  | .slc a lo hi =>
    unfold chk at h
    split at h
    · simp only [Bool.and_eq_true] at h
      obtain ⟨⟨h1, h2⟩, h3⟩ := h
      exact .new0 (n_slc ((chk_ok Φ G a X c W f false _ h1).1 rfl) (chko_ok Φ G lo X c W f _ h2) (chko_ok Φ G hi X c W f _ h3)) (fun _ => rfl) rfl rfl
    · cases h
  | .rev a =>
    unfold chk at h
    split at h
    · exact .new0 (n_rev ((chk_ok Φ G a X c W f false _ h).1 rfl)) (fun _ => rfl) rfl rfl
    · cases h
  | .fn g ts =>
    unfold chk at h
    split at h
    · rename_i x p es pos
      simp only [Bool.and_eq_true, decide_eq_true_eq] at h
      obtain ⟨⟨⟨⟨⟨rfl, h2⟩, h3⟩, h4⟩, h5⟩, h6⟩ := h
      obtain ⟨fa, fd, ps, k, hl, Fn, hr, hm, hk, hb, hn⟩ := f.fns _ _ h2
      have al := chks_ok Φ G ts X c W f _ h6
      cases es with
      | nil => cases h3
      | cons a as =>
        have hpl := al.plain
        simp only [List.all_cons, Bool.and_eq_true] at hpl
        exact .val (s_fn Fn hr (f.gl h4) hm hk hb f.tk al.pa hn (okN_1 h5).1 (star_cons hpl.1) (star_any hpl.2)) (fun _ => rfl) rfl rfl
    · cases h
  | .bi b ts =>
    unfold chk at h
    cases hb : chkB c b e with
    | none => simp only [hb] at h; cases h
    | some es =>
      simp only [hb] at h
      have pn := chkB_ok f hb (chks_ok Φ G ts X c W f _ h)
      have hc : ∃ x p args pos, e = .Call (.Name x p) args [] pos := by
        unfold chkB at hb
        split at hb
        · exact ⟨_, _, _, _, rfl⟩
        · cases hb
      obtain ⟨x, p, args, pos, rfl⟩ := hc
      exact .new pn (fun _ => rfl) rfl
  | .mth m o ts =>
    unfold chk at h
    cases hb : chkM m e with
    | none => simp only [hb] at h; cases h
    | some q =>
      obtain ⟨x, es⟩ := q
      simp only [hb, Bool.and_eq_true] at h
      have pn := chkM_ok f hb ((chk_ok Φ G o X c W f false _ h.1).1 rfl) (chks_ok Φ G ts X c W f _ h.2)
      have hc : ∃ x n p args pos, e = .Call (.Attribute x n p) args [] pos := by
        unfold chkM at hb
        split at hb
        · exact ⟨_, _, _, _, _, rfl⟩
        · cases hb
      obtain ⟨x', n, p, args, pos, rfl⟩ := hc
      exact .val pn (fun _ => rfl) rfl rfl
  | .comp own tg k src test elt =>
    unfold chk at h
    split at h
    · rename_i x g it ifs scope pos
      simp only [Bool.and_eq_true, decide_eq_true_eq, List.all_eq_true] at h
      obtain ⟨⟨⟨⟨⟨h1, h2⟩, ⟨h3, h4⟩, h5⟩, h6⟩, h7⟩, h8⟩ := h
      have ok : BlkOk X.N X.env.scope scope (ownN c own) := by
        rw [f.N, f.sc]
        exact blkOk_by h1
      have pi : PI X g it (liftI X W (srcM Φ G k src)) := by
        cases hi : chkI c k g it with
        | none => rw [hi] at h6; cases h6
        | some es =>
          rw [hi] at h6
          exact chkI_ok f hi (chks_ok Φ G src X c W f _ h6)
      have pt : ∀ (s : Shared) (H : Hp) (C : Addr) (cl : List (Str × Addr)) (fp : List Addr), PTs (X.blk s H scope (compEnvC scope cl C X.env) fp) ifs (liftT X W0 (evt Φ G test)) := fun s H C cl fp => by
        cases ifs with
        | nil =>
          cases test with
          | none => exact pts_nil.imp fun σv H Q ⟨F, m, σ, st, sr, re, q⟩ => post_ret (st := st) (a := true) q sr rfl
          | some _ => cases h7
        | cons q qs =>
          cases qs with
          | nil => exact pts_one (chkt_ok Φ G test _ (blkCt c scope) W0 (f.block ok s H C cl fp) q h7)
          | cons _ _ => cases h7
      have pn : PE X (.ListComp x [⟨g, it, ifs, 0⟩] scope pos) (liftN X W (ev Φ G (.comp own tg k src test elt))) := by
        refine (pe_lc (wi := liftI X W (srcM Φ G k src)) (g := gL X.K tg) (tt := liftT X W0 (evt Φ G test)) (te := lift X W0 (ev Φ G elt)) f.calm (by rw [f.N]; exact f.nd) pi ok (fun s H C cl fp => (chkTg_ok (f.block ok s H C cl fp) tg g h4).1) pt (fun s H C cl fp => (chk_ok Φ G elt _ (blkCt c scope) W0 (f.block ok s H C cl fp) false x h8).1 rfl) (fold_eq h3)).imp fun σv H Q q => ?_
        have := n_comp (elt := x) (tg := g) (iter := it) (ifs := ifs) (pos := pos) (t := tg) (test := test) (eelt := elt) f.calm (by rw [f.N]; exact f.nd) pi ok (fun i hi => by rw [h2]; exact h5 i hi) σv H Q (by rw [h2]; exact q)
        exact this
      exact .new pn (fun _ => rfl) rfl
    · cases h
  | .mu t =>
    unfold chk at h
    simp only [Bool.and_eq_true] at h
    have q := chk_ok Φ G t X c W f false _ h.1.2
    have pe := s_mu (q.2.2 (mu_new h.2))
    exact ⟨fun _ => pe, fun z => by rw [z] at h; exact absurd h.1.1 Bool.false_ne_true, fun z => by cases z⟩
  | .newx x g a =>
    unfold chk at h
    split at h
    · simp only [Bool.and_eq_true, decide_eq_true_eq] at h
      obtain ⟨⟨⟨⟨rfl, h1⟩, h2, h3⟩, h4⟩, h5⟩ := h
      have po := (chk_ok Φ G a X c W f false _ h5).1 rfl
      by_cases hg : g = Str.empty
      · subst hg
        rw [if_pos rfl] at h1
        exact .val (s_newx0 f h1 h2 h3 h4 po) (fun _ => rfl) rfl rfl
      · rw [if_neg hg] at h1
        exact .val (s_newx1 f h1 hg h2 h3 h4 po) (fun _ => rfl) rfl rfl
    · cases h
  | .isx a x =>
    unfold chk at h
    split at h
    · simp only [Bool.and_eq_true, decide_eq_true_eq] at h
      obtain ⟨⟨⟨⟨⟨rfl, h1⟩, rfl, h2⟩, h3⟩, h4⟩, h5⟩ := h
      exact .val (s_isx f h1 h3 h2 h4 ((chk_ok Φ G a X c W f false _ h5).1 rfl)) (fun _ => rfl) rfl rfl
    · cases h
  | .fldx a g =>
    unfold chk at h
    split at h
    · simp only [Bool.and_eq_true, decide_eq_true_eq] at h
      obtain ⟨⟨rfl, h1⟩, h2⟩ := h
      exact .val (s_fldx f h1 ((chk_ok Φ G a X c W f false _ h2).1 rfl)) (fun _ => rfl) rfl rfl
    · cases h
  | .nev =>
    have hb : ∀ σ st, ev Φ G .nev σ st = .bad := fun σ st => by unfold ev; rfl
    exact ⟨fun _ => lift_bad hb, fun _ => ⟨⟨fun pins s σ H Q I q => (liftT_bad hb σ H Q q).elim⟩, fun _ => ⟨fun w pins s σ H Q I q => (liftT_bad hb σ H Q q).elim⟩⟩, fun z => by cases z⟩
termination_by structural t
theorem chks_ok (Φ : Str → List D → M D) (G : Str → Option D) (ts : List E) (X : Cx) (c : Ct) (W : WX) (f : Fit X c W Φ G) (es : List Expr) (h : chks c es ts = true) : AllE X W Φ G es ts := by
  match ts with
  | [] =>
    unfold chks at h
    split at h
    · exact .nil
    · cases h
  | t :: ts =>
    unfold chks at h
    split at h
    · simp only [Bool.and_eq_true] at h
      exact .cons h.1.1 ((chk_ok Φ G t X c W f false _ h.1.2).1 rfl) (chks_ok Φ G ts X c W f _ h.2)
    · cases h
termination_by structural ts
theorem chko_ok (Φ : Str → List D → M D) (G : Str → Option D) (t : Option E) (X : Cx) (c : Ct) (W : WX) (f : Fit X c W Φ G) (e : Option Expr) (h : chko c e t = true) : PO X e (liftO X W (evo Φ G t)) := by
  match t with
  | none =>
    unfold chko at h
    split at h
    · exact o_none
    · cases h
  | some t =>
    unfold chko at h
    split at h
    · exact o_some ((chk_ok Φ G t X c W f false _ h).1 rfl)
    · cases h
termination_by structural t
theorem chkt_ok (Φ : Str → List D → M D) (G : Str → Option D) (t : Option E) (X : Cx) (c : Ct) (W : WX) (f : Fit X c W Φ G) (e : Expr) (h : chkt c e t = true) : PT X e (liftT X W (evt Φ G t)) := by
  match t with
  | none => unfold chkt at h; cases h
  | some t =>
    unfold chkt at h
    exact ((chk_ok Φ G t X c W f true _ h).2.1 rfl).1
termination_by structural t
end
end MN
set_option Elab.async false
set_option linter.all false
set_option maxRecDepth 100000
/-! MiniEx2: raise, try: from readings to what is computed. -/
namespace MN
open PySem PySem.Spec L2 PyProof.Rows

/-- an except suite -/
def chkH (c : Ct) (h : ExceptHandler) (t : Hd) : Bool := match h with
  | .ExceptHandler (some (.Name x _)) none [.Return (some (.Constant k _ _)) _] _ => decide (x = t.c) && glB c x && okN x && (c.ex x).isSome && (match t.b with
    | .cst cc => decide ((match k with
      | .none => some C.non
      | .bool b => some (.bl b)
      | .int i => some (.int i)
      | .str x => some (.str x)
      | _ => none) = some cc)
    | _ => false)
  | _ => false
def chkHs (c : Ct) : List ExceptHandler → List Hd → Bool
  | [], [] => true
  | h :: hs, t :: ts => chkH c h t && chkHs c hs ts
  | _, _ => false
/-- except x as n: return n.f -/
def chkA (c : Ct) (h : ExceptHandler) (t : Hd) : Bool := match h with
  | .ExceptHandler (some (.Name x _)) (some n) [.Return (some (.Attribute (.Name n' _) f _)) _] _ => decide (x = t.c) && glB c x && okN x && (match t.b with
    | .fld g => decide (g = f) && decide (c.ex x = some (some f))
    | _ => false) && (decide (n = n') && okN n && c.N.contains n && decide (c.sc.names.lookup n = some .local))
  | _ => false
/-- what the handlers make of an error -/
def hdF (ts : List Hd) (x : Ex) (σ : Env) (st : Store) : MN.F := match hdFind x ts with
  | some h => match h.b.run x with
    | some d => .ret d st
    | none => .bad
  | none => .err x σ st
theorem hdF_cons {t : Hd} {ts : List Hd} {x : Ex} {σ : Env} {st : Store} : hdF (t :: ts) x σ st = if t.c = x.c then (match t.b.run x with
    | some d => .ret d st
    | none => .bad) else hdF ts x σ st := by
  unfold hdF
  conv => lhs; unfold hdFind
  by_cases h : t.c = x.c
  · rw [if_pos h, if_pos h]
  · rw [if_neg h, if_neg h]
theorem exec_try {Φ : Str → List D → M D} {G : Str → Option D} {body : List S} {hs : List Hd} {ks : List Str} {σ : Env} {st : Store} : exec Φ G (.try_ body hs ks) σ st = match execs Φ G body σ st with
    | .err x σ' st' => if !ks.contains x.c then .bad else hdF hs x σ' st'
    | r => r := by
  conv => lhs; unfold exec
  rfl
variable [TabP]
section
variable {X : Cx} {c : Ct} {W : WX} {Φ : Str → List D → M D} {G : Str → Option D}
theorem s_raise0 {x msg : Str} {p p2 pos pos2 : Pos} {j : Nat} (f : Fit X c W Φ G) (hx : c.ex x = some none) (hg : glB c x = true) (hd : okN x = true) : PS X (.Raise (some (.Call (.Name x p) [.Constant (.str msg) j p2] [] pos)) none pos2) (liftS X W (exec Φ G (.raise x none))) := by
  obtain ⟨C, hm, hk, hs, ht, he⟩ := f.exs x none hx
  refine (ps_raise f.calm f.tk (pmk_ownA F.excBase_ValueError he hm hk (raises_own hs ht) (f.gl hg) (pa_cons pe_str pa_nil) (okN_1 hd).1)).imp fun D σv H ⟨F, m, σ, st, sr, re, h⟩ => ?_
  unfold exec at h
  exact ⟨by show 1 ≤ sizeLine; rw [sizeLine_eq]; omega, h F m σv H (.ref C) none Ext.refl sr re ⟨C, hm, rfl, rfl⟩⟩
theorem s_raise1 {x fl : Str} {a : Expr} {ea : E} {p pos pos2 : Pos} (f : Fit X c W Φ G) (hx : c.ex x = some (some fl)) (hg : glB c x = true) (hd : okN x = true) (hp : plainE a = true) (pe : PE X a (lift X W (ev Φ G ea))) : PS X (.Raise (some (.Call (.Name x p) [a] [] pos)) none pos2) (liftS X W (exec Φ G (.raise x (some (fl, ea))))) := by
  obtain ⟨C, hm, hk, hs, ht, he, hxf, n1, n2, n3, n4⟩ := f.exs x _ hx
  refine (ps_raise f.calm f.tk (pmk_ini he n1 n2 n3 n4 hm f.dep (pa_cons pe pa_nil (star_cons hp)) (f.gl hg) (okN_1 hd).1 (star_cons hp))).imp fun D σv H ⟨F, m, σ, st, sr, re, h⟩ => ⟨F, m, σ, st, sr, re, ?_⟩
  unfold exec at h
  refine post_on re h fun F' m' H' st' d v x' s r q => ⟨v, rfl, fun dx hdx => ?_⟩
  exact q F' m' σv _ (.ref C) (some dx) Ext.refl (s.extra hdx _) (x'.env re) ⟨C, hm, rfl, dx, v, rfl, upd_same, r⟩
theorem hds_ok (f : Fit X c W Φ G) : ∀ (hds : List ExceptHandler) (ts : List Hd), chkHs c hds ts = true → ∃ l, HdsOk X hds l ∧ ∀ (D : Ends) (F : Wd) (m : List Addr) (x : Ex) (σ : Env) (st : Store), (c.ex x.c).isSome = true → PostF X W D F m (hdF ts x σ st) →
    ∀ F' m' σv' H' cls dx, Ext F F' m m' → SR X.K F' m' st H' → RepE X.K F' m' σ σv' → RepX X.K X.mg F' m' H' x cls dx → wMany X.K W D l cls dx σv' H'
  | [], [], _ => ⟨[], .nil, fun D F m x σ st hx h F' m' σv' H' cls dx xx s re r => h F' m' σv' H' cls dx xx s re r⟩
  | [], _ :: _, h => by unfold chkHs at h; cases h
  | _ :: _, [], h => by unfold chkHs at h; cases h
  | hd :: hds, t :: ts, h => by
    unfold chkHs at h
    simp only [Bool.and_eq_true] at h
    obtain ⟨h1, h2⟩ := h
    obtain ⟨l, hl, ih⟩ := hds_ok f hds ts h2
    unfold chkH at h1
    split at h1
    · rename_i x np k j kp rp hp
      simp only [Bool.and_eq_true, decide_eq_true_eq] at h1
      obtain ⟨⟨⟨⟨rfl, g1⟩, g2⟩, g3⟩, g4⟩ := h1
      obtain ⟨o, ho⟩ := Option.isSome_iff_exists.mp g3
      obtain ⟨C, hm, _⟩ := f.exs _ o ho
      split at g4
      · rename_i cc hb
        have g4 := of_decide_eq_true g4
        have pe := fun (Y : Cx) => s_cst (Φ := Φ) (G := G) (X := Y) (W := W) (pos := kp) (j := j) g4
        refine ⟨(Value.ref C, fun _ _ _ D σv H => ∃ F m σ st, SR X.K F m st H ∧ RepE X.K F m σ σv ∧ PostF X W D F m (.ret cc.d st)) :: l, .cons ⟨f.gl g1, (okN_1 g2).1, .inl hm⟩ (fun a oe cls d pn hz hf => ?_) hl, fun D F m x σ st hx hq F' m' σv' H' cls dx xx s re r => ?_⟩
        · refine (pss_cons (ps_ret (pe _)) pss_nil).imp fun D σv H ⟨F, m, σ, st, sr, re, q⟩ => ?_
          refine ⟨F, m, σ, st, sr, re, ?_⟩
          unfold ev
          intro F' m' H' v x' s' r'
          exact q F' m' H' v x' s' r'
        · obtain ⟨C', hm', hcls, hr⟩ := id r
          obtain ⟨o', ho'⟩ := Option.isSome_iff_exists.mp hx
          rw [hdF_cons] at hq
          refine ⟨decide (x.c = t.c), by rw [hcls]; exact f.exm _ _ _ _ _ _ ho' ho hm' hm, fun hb' a ha => ?_, fun hb' => ?_⟩
          · have e := (of_decide_eq_true hb').symm
            rw [if_pos e, hb] at hq
            exact ⟨F', m', σ, st, s, re, PostF.ext xx hq⟩
          · have e : ¬ t.c = x.c := fun z => (of_decide_eq_false hb') z.symm
            rw [if_neg e] at hq
            exact ih D F m x σ st hx hq F' m' σv' H' cls dx xx s re r
      · cases g4
    · cases h1
theorem post_try {body : List S} {hs : List Hd} {ks : List Str} {D : Ends} {F : Wd} {m : List Addr} {σ : Env} {st : Store} {W' : WX} (h : PostF X W D F m (exec Φ G (.try_ body hs ks) σ st))
    (hW : ∀ x σ' st', ks.contains x.c = true → PostF X W D F m (hdF hs x σ' st') → ∀ F' m' σv' H' cls dx, Ext F F' m m' → SR X.K F' m' st' H' → RepE X.K F' m' σ' σv' → RepX X.K X.mg F' m' H' x cls dx → W' cls dx σv' H') : PostF X W' D F m (execs Φ G body σ st) := by
  rw [exec_try] at h
  revert h
  generalize execs Φ G body σ st = r
  cases r with
  | nx σ1 st1 => exact fun h => h
  | ret d st1 => exact fun h => h
  | brk σ1 st1 => exact fun h => h
  | ct σ1 st1 => exact fun h => h
  | bad => exact fun h => h
  | err x σ1 st1 =>
    intro h
    dsimp only at h
    by_cases hk : ks.contains x.c = true
    · rw [hk] at h
      exact hW x σ1 st1 hk h
    · have e : ks.contains x.c = false := by simpa using hk
      rw [e] at h
      exact h.elim
/-- several clauses without a name -/
theorem s_tryMany {ss : List Stmt} {body : List S} {h0 : ExceptHandler} {hds : List ExceptHandler} {hs : List Hd} {ks : List Str} {pos : Pos} (f : Fit X c W Φ G) (ho : X.stack = X.env :: X.outer) (hf : X.env.frame = some X.env.locals)
    (hb : ∀ (W : WX) (pn : List (Addr × Obj)) (xe : Value → Shared → Prop), Takes (X.tr pn xe) W → PassesOwn (model X.prog X.w) X.A X.env xe → PSs (X.tr pn xe) ss (liftS X W (execs Φ G body))) (hh : chkHs c (h0 :: hds) hs = true) (hk : ∀ x, ks.contains x = true → (c.ex x).isSome = true) :
    PS X (.Try ss (h0 :: hds) [] [] pos) (liftS X W (exec Φ G (.try_ body hs ks))) := by
  obtain ⟨l, hl, key⟩ := hds_ok f _ _ hh
  refine (ps_try_many (tb := fun W => liftS X W (execs Φ G body)) ho hf f.tk hb hl).imp fun D σv H ⟨F, m, σ, st, sr, re, h⟩ => ⟨F, m, σ, st, sr, re, ?_⟩
  exact post_try h fun x σ' st' hx q => key D F m x σ' st' (hk _ hx) q
theorem pss_len {Y : Cx} {ss : List Stmt} {t : TS} (p : PSs Y ss t) : PSs Y ss (fun D σ H => σ.length = Y.N.length → t D σ H) := ⟨fun pins s σ H Q I h => p.run pins s σ H Q I (h I.len)⟩
/-- one clause with a name -/
theorem s_tryAs {ss : List Stmt} {body : List S} {h0 : ExceptHandler} {t : Hd} {ks : List Str} {pos : Pos} (f : Fit X c W Φ G) (ho : X.stack = X.env :: X.outer) (hf : X.env.frame = some X.env.locals)
    (hb : ∀ (W : WX) (pn : List (Addr × Obj)) (xe : Value → Shared → Prop), Takes (X.tr pn xe) W → PassesOwn (model X.prog X.w) X.A X.env xe → PSs (X.tr pn xe) ss (liftS X W (execs Φ G body))) (hh : chkA c h0 t = true) (hk : ∀ x, ks.contains x = true → (c.ex x).isSome = true) :
    PS X (.Try ss [h0] [] [] pos) (liftS X W (exec Φ G (.try_ body [t] ks))) := by
  unfold chkA at hh
  split at hh
  · rename_i x np n n' np' fl ap rp hp
    simp only [Bool.and_eq_true, decide_eq_true_eq] at hh
    obtain ⟨⟨⟨⟨rfl, g1⟩, g2⟩, g3⟩, ⟨⟨rfl, g4⟩, g5⟩, g6⟩ := hh
    split at g3
    · rename_i g hbt
      simp only [Bool.and_eq_true, decide_eq_true_eq] at g3
      obtain ⟨rfl, hx⟩ := g3
      obtain ⟨C, hm, hkp, hsb, hty, he, hxf, n1, n2, n3, n4⟩ := f.exs _ _ hx
      obtain ⟨i, hi, hin⟩ := List.mem_iff_getElem.mp (List.contains_iff_mem.mp g5)
      have hN : X.N[i]? = some n := by rw [f.N, List.getElem?_eq_getElem hi, hin]
      have hlc : X.env.scope.names.lookup n = some .local := by rw [f.sc]; exact g6
      have hV : Vis X.env.scope n := by
        unfold Vis
        rw [hlc]
        simp
      refine (ps_try_as (tb := fun W => liftS X W (execs Φ G body)) (ts := fun a cls d D σ H => σ.length = X.N.length → tRet (tXf a cls d C g (tVar i)) D σ H) ho hf (by rw [f.N]; exact f.nd) hN hlc ⟨f.gl g1, (okN_1 g2).1, .inl hm⟩ f.tk hb fun a oe cls d pn hz hff => ?_).imp fun D σv H ⟨F, m, σ, st, sr, re, h⟩ => ⟨F, m, σ, st, sr, re, ?_⟩
      · exact (pss_len (pss_cons (ps_ret (pe_xf hxf he.noF hz hff (pe_var hN hV (okN_1 g4).1 (okN_1 g4).2) (base_eq rfl))) pss_nil)).imp fun D σv H q => q
      · refine post_try h fun x σ' st' hxk q F' m' σv' H' cls dx xx s re' r => ?_
        obtain ⟨C', hm', hcls, hr⟩ := id r
        obtain ⟨o', ho'⟩ := Option.isSome_iff_exists.mp (hk _ hxk)
        rw [hdF_cons] at q
        refine ⟨decide (x.c = t.c), by rw [hcls]; exact f.exm _ _ _ _ _ _ ho' hx hm' hm, fun hb' a ha hlen0 => ?_, fun hb' => ?_⟩
        · have e := of_decide_eq_true hb'
          rw [if_pos e.symm, hbt] at q
          have ec : C' = C := by rw [e, hm] at hm'; cases hm'; rfl
          have hlen : i < σv'.length := by
            rw [List.length_set] at hlen0
            rw [hlen0]
            exact (List.getElem?_eq_some_iff.mp hN).1
          refine ⟨.ref a, List.getElem?_set_self hlen, rfl, hcls.trans (by rw [ec]), ?_⟩
          unfold HB.run at q
          cases hxf' : x.f with
          | none => rw [hxf'] at q; exact q.elim
          | some gd =>
            obtain ⟨g', d'⟩ := gd
            rw [hxf'] at q hr
            obtain ⟨ad, v, e1, e2, e3⟩ := hr
            by_cases hg : g = g'
            · subst hg
              simp only [if_true] at q
              exact ⟨ad, _, v, e1, e2, by simp [List.lookup], q F' m' H' v xx s e3⟩
            · simp only [if_neg hg] at q
              exact q.elim
        · have e : ¬ t.c = x.c := fun z => (of_decide_eq_false hb') z.symm
          rw [if_neg e] at q
          unfold hdF hdFind at q
          exact q F' m' σv' H' cls dx xx s re' r
    · cases g3
  · cases hh
end
end MN
set_option Elab.async false
set_option linter.all false
set_option maxRecDepth 100000
/-! MiniT: what the look finds is so: statements, functions. -/
namespace MN
open PySem PySem.Spec L2

/-! ### a, b = x, y -/
def swO (sc : Scope) (ts vs : List Expr) : Option (Option (List Str)) :=
  if (!(ts.length == 2 || ts.length == 3) || vs.length != ts.length || (if sc.kind.isAnnotationScope then ScopeKind.function else sc.kind) != .function) = true then some none
  else if (vs.any fun | .Starred .. => true | _ => false) = true then some none
  else
    let line := (ts.head?.map (·.pos.line)).getD 0
    let names := ts.filterMap fun
      | .Name id pos => if sc.names.lookup id == some .local && pos.line == line then some id else none
      | _ => none
    if (names.length != ts.length || names.eraseDups.length != names.length) = true then some none
    else if vs.all (foldedForSure 8) = true then some none
    else if vs.all (constantsAlone 8) = true then none
    else some (some names)
theorem sw_eq {env : PySem.Env} {ts vs : List Expr} {k k2 : Nat} {p p2 : Pos} {o : Option (List Str)} (h : swO env.scope ts vs = some o) : swappedStores [.Tuple ts k p] (.Tuple vs k2 p2) env = pure o := by
  unfold swappedStores
  dsimp only
  split
  · rename_i g1
    have e : swO env.scope ts vs = some none := by
      unfold swO
      exact if_pos g1
    rw [e] at h; cases h; rfl
  · rename_i g1
    split
    · rename_i g2
      have e : swO env.scope ts vs = some none := by
        unfold swO
        exact (if_neg g1).trans (if_pos g2)
      rw [e] at h; cases h; rfl
    · rename_i g2
      split
      · rename_i g3
        have e : swO env.scope ts vs = some none := by
          unfold swO
          exact (if_neg g1).trans ((if_neg g2).trans (if_pos g3))
        rw [e] at h; cases h; rfl
      · rename_i g3
        split
        · rename_i g4
          have e : swO env.scope ts vs = some none := by
            unfold swO
            exact (if_neg g1).trans ((if_neg g2).trans ((if_neg g3).trans (if_pos g4)))
          rw [e] at h; cases h; rfl
        · rename_i g4
          split
          · rename_i g5
            have e : swO env.scope ts vs = none := by
              unfold swO
              exact (if_neg g1).trans ((if_neg g2).trans ((if_neg g3).trans ((if_neg g4).trans (if_pos g5))))
            rw [e] at h; cases h
          · rename_i g5
            have e : ∀ l, l = (ts.filterMap fun
                | .Name id pos => if env.scope.names.lookup id == some .local && pos.line == (ts.head?.map (·.pos.line)).getD 0 then some id else none
                | _ => none) → swO env.scope ts vs = some (some l) := fun l hl => by
              subst hl
              unfold swO
              exact (if_neg g1).trans ((if_neg g2).trans ((if_neg g3).trans ((if_neg g4).trans (if_neg g5))))
            rw [e _ rfl] at h; cases h; rfl
theorem sw_none {env : PySem.Env} {tg v : Expr} (h : (match tg, v with | .Tuple _ _ _, .Tuple _ _ _ => false | .List _ _, .Tuple _ _ _ => false | _, _ => true) = true) : swappedStores [tg] v env = pure none := by
  cases tg <;> cases v <;> first | rfl | cases h
/-- no names are swapped -/
def swN (c : Ct) (g v : Expr) : Bool := match g with
  | .Tuple ts _ _ => match v with
    | .Tuple vs _ _ => decide (swO c.sc ts vs = some none)
    | _ => true
  | _ => false
def isCall : Expr → Bool
  | .Call _ _ _ _ => true
  | _ => false
def notSC : Expr → Bool
  | .SetComp .. => false
  | .DictComp .. => false
  | _ => true
def chkP (c : Ct) : List Expr → List (E × E) → Bool
  | [], [] => true
  | .Subscript x y _ :: es, (a, i) :: as => ixB y && chk c false x a && chk c false y i && chkP c es as
  | _, _ => false
def parB (c : Ct) (ts vs : List Expr) (is : List Nat) : Bool := match ts with
  | [.Name x _, .Name y _] => match is, vs with
    | [i, j], [_, _] => slotB c x i && slotB c y j && decide (i ≠ j) && decide (c.sc.names.lookup x = some .local) && decide (c.sc.names.lookup y = some .local) && decide (swO c.sc ts vs = some (some [x, y]))
    | _, _ => false
  | [.Name x _, .Name y _, .Name z _] => match is, vs with
    | [i, j, l], [_, _, _] => slotB c x i && slotB c y j && slotB c z l && (decide (i ≠ j) && decide (i ≠ l) && decide (j ≠ l)) && decide (c.sc.names.lookup x = some .local) && decide (c.sc.names.lookup y = some .local) && decide (c.sc.names.lookup z = some .local) && decide (swO c.sc ts vs = some (some [x, y, z]))
    | _, _ => false
  | _ => false
mutual
def chkS (c : Ct) (s : Stmt) (t : S) : Bool := match t with
  | .set i e => match s with
    | .Assign [.Name x _] v _ => slotB c x i && locB c x && notSC v && chk c false v e
    | _ => false
  | .unp tg e => match s with
    | .Assign [g] v _ => chkTg c g tg && swN c g v && chk c false v e
    | _ => false
  | .par is es => match s with
    | .Assign [.Tuple ts _ _] (.Tuple vs _ _) _ => parB c ts vs is && chks c vs es
    | _ => false
  | .put a i e => match s with
    | .Assign [.Subscript x y _] v _ => ixB y && chk c false x a && chk c false y i && chk c false v e
    | _ => false
  | .puts as es => match s with
    | .Assign [.Tuple ts _ _] (.Tuple vs _ _) _ => decide (swO c.sc ts vs = some none) && chkP c ts as && (decide (vs.length < 100) && decide (as.length = es.length)) && chks c vs es
    | _ => false
  | .expr e => match s with
    | .Expr v _ => isCall v && chk c false v e
    | _ => false
  | .iff q a b => match s with
    | .If x ss rs _ => chk c true x q && chkSs c ss a && chkSs c rs b
    | _ => false
  | .for_ tg k src body => match s with
    | .For g it ss [] _ => notSet it && chkTg c g tg && (match chkI c k g it with
      | some es => chks c es src
      | none => false) && chkSs c ss body
    | _ => false
  | .whl q body => match s with
    | .While x ss [] _ => chk c true x q && chkSs c ss body
    | _ => false
  | .ret e => match s with
    | .Return (some v) _ => chk c false v e
    | _ => false
  | .retN => match s with
    | .Return none _ => true
    | _ => false
  | .raise x m => match m with
    | none => match s with
      | .Raise (some (.Call (.Name y _) [.Constant (.str _) _ _] [] _)) none _ => decide (y = x) && decide (c.ex x = some none) && glB c y && okN y
      | _ => false
    | some (f, e) => match s with
      | .Raise (some (.Call (.Name y _) [a] [] _)) none _ => decide (y = x) && decide (c.ex x = some (some f)) && glB c y && okN y && plainE a && chk c false a e
      | _ => false
  | .try_ body hs ks => match s with
    | .Try ss (h0 :: hds) [] [] _ => chkSs c ss body && (chkHs c (h0 :: hds) hs || (match hds with
      | [] => match hs with
        | [t] => chkA c h0 t
        | _ => false
      | _ => false)) && ks.all fun x => (c.ex x).isSome
    | _ => false
  | .pass => match s with
    | .Pass _ => true
    | _ => false
  | .brk => match s with
    | .Break _ => true
    | _ => false
  | .cont => match s with
    | .Continue _ => true
    | _ => false
  | .frz _ => false
  | .nev => true
termination_by structural t
def chkSs (c : Ct) (ss : List Stmt) (ts : List S) : Bool := match ts with
  | [] => match ss with
    | [] => true
    | _ => false
  | t :: ts => match t with
    | .frz _ => chkSs c ss ts
    | t => match ss with
      | s :: ss => chkS c s t && chkSs c ss ts
      | _ => false
termination_by structural ts
end
variable [TabP]
structure FitS (X : Cx) (c : Ct) (W : WX) (Φ : Str → List D → M D) (G : Str → Option D) : Prop extends Fit X c W Φ G where
  hp : PassesOwn (model X.prog X.w) X.A X.env X.xe
  ho : X.stack = X.env :: X.outer
  hf : X.env.frame = some X.env.locals
section
variable {X : Cx} {c : Ct} {W : WX} {Φ : Str → List D → M D} {G : Str → Option D}
theorem evs_len : ∀ {ts : List E} {σ : Env} {st st' : Store} {ds : List D}, evs Φ G ts σ st = .ok ds st' → ds.length = ts.length
  | [], σ, st, st', ds, h => by
    unfold evs at h
    cases h; rfl
  | t :: ts, σ, st, st', ds, h => by
    unfold evs at h
    unfold M.bnd at h
    cases e1 : ev Φ G t σ st with
    | bad => simp only [e1] at h; cases h
    | err _ _ => simp only [e1] at h; cases h
    | ok d st1 =>
      simp only [e1] at h
      cases e2 : evs Φ G ts σ st1 with
      | bad => simp only [e2] at h; cases h
      | err _ _ => simp only [e2] at h; cases h
      | ok ds2 st2 =>
        simp only [e2] at h
        cases h
        simp [evs_len e2]
theorem AllE.len : ∀ {es : List Expr} {ts : List E}, AllE X W Φ G es ts → es.length = ts.length
  | _, _, .nil => rfl
  | _, _, .cons _ _ r => by simp [r.len]
/-- several targets a[i] -/
def gPuts (X : Cx) (W : WX) (Φ : Str → List D → M D) (G : Str → Option D) (as : List (E × E)) : TGs := fun vs σv H Q => ∃ F m σ st ds, SR X.K F m st H ∧ RepE X.K F m σ σv ∧ RepL X.K F m ds vs ∧
  PostF X W ⟨Q, fun _ _ => False, fun _ _ => False, fun _ _ => False⟩ F m (putsF Φ G as ds σ st)
theorem chkP_ok (f : Fit X c W Φ G) : ∀ (as : List (E × E)) (es : List Expr), chkP c es as = true → PGs X es (gPuts X W Φ G as) ∧ (∀ e ∈ es, plainE e = true) ∧ es.length = as.length
  | [], es, h => by
    cases es with
    | nil =>
      refine ⟨pgs_nil.imp fun vs σv H Q ⟨F, m, σ, st, ds, sr, re, rl, q⟩ => ?_, fun e he => absurd he (by simp), rfl⟩
      cases rl with
      | nil => unfold putsF at q; exact ⟨rfl, q F m σv H Ext.refl sr re⟩
      | cons _ _ => unfold putsF at q; exact q.elim
    | cons e es => unfold chkP at h; cases e <;> cases h
  | (a, i) :: as, es, h => by
    cases es with
    | nil => unfold chkP at h; cases h
    | cons e es =>
      unfold chkP at h
      split at h
      · rename_i e1 e2; cases e2
      · rename_i x y pos es' a' i' as' e1 e2
        cases e1; cases e2
        simp only [Bool.and_eq_true] at h
        obtain ⟨⟨⟨h1, h2⟩, h3⟩, h4⟩ := h
        obtain ⟨g1, g2, g3⟩ := chkP_ok f as es h4
        have pg := pg_put (X := X) (W := W) (Φ := Φ) (G := G) (pos' := pos) (by have := f.hu; omega) ((chk_ok Φ G a X c W f false x h2).1 rfl) ((chk_ok Φ G i X c W f false y h3).1 rfl) (fun _ => by cases y <;> first | rfl | cases h1)
        refine ⟨(pgs_cons pg g1 (by rw [asg_cons rfl]; rfl)).imp fun vs σv H Q ⟨F, m, σ, st, ds, sr, re, rl, q⟩ => ?_, fun e he => ?_, by simp [g3]⟩
        · cases rl with
          | nil => unfold putsF at q; exact q.elim
          | cons r rl =>
            rename_i d v ds vs _
            refine ⟨v, vs, rfl, F, m, σ, st, d, sr, re, r, ?_⟩
            unfold putsF at q
            -- what comes behind the store
            revert q
            unfold MN.F.on
            cases e1 : ev Φ G a σ st with
            | bad => exact fun q => q
            | err z st1 => exact fun q => q
            | ok x1 st1 =>
              dsimp only
              cases e2 : ev Φ G i σ st1 with
              | bad => exact fun q => q
              | err z st2 => exact fun q => q
              | ok y1 st2 =>
                dsimp only
                cases e3 : putO x1 y1 d st2 with
                | none => exact fun q => q
                | some st3 =>
                  intro q F' m' σv' H' x' s' r'
                  exact ⟨F', m', σ, st3, ds, s', r', x'.repL rl, q.ext x'⟩
        · rcases List.mem_cons.mp he with rfl | he
          · rfl
          · exact g2 e he
      · cases h
theorem swapF {e : Expr} {t : Option Expr} {l : Nat} {env : PySem.Env} (h : isCall e = true) : swapsWith e t l env = pure false := by
  cases e <;> first | rfl | cases h
theorem swapSub {e a b : Expr} {p : Pos} {l : Nat} {env : PySem.Env} : swapsWithSole [.Subscript a b p] e l env = pure false := by
  cases e <;> rfl
theorem swapTup {e : Expr} {ts : List Expr} {k : Nat} {p : Pos} {l : Nat} {env : PySem.Env} : swapsWithSole [.Tuple ts k p] e l env = pure false := by
  cases e <;> rfl
theorem asg_one {e : Expr} {env : PySem.Env} (h : plainE e = true) : (assignEach [e] env).map (·.2) = [assign e env] := by
  rw [asg_cons h]; rfl
theorem fold2 {es : List Expr} {env : PySem.Env} (h : ∀ e ∈ es, plainE e = true) : (assignEach es env).length = es.length ∧ (assignEach es env).findIdx? (·.1) = none := by
  induction es with
  | nil => exact ⟨rfl, rfl⟩
  | cons e es ih =>
    obtain ⟨i1, i2⟩ := ih fun x hx => h x (List.mem_cons_of_mem _ hx)
    rw [asg_cons (h e List.mem_cons_self)]
    refine ⟨by simp [i1], ?_⟩
    rw [List.findIdx?_cons, i2]
    rfl
/-- a, b = x, y, none of the targets a name -/
theorem s_puts {ts vs : List Expr} {k k2 : Nat} {p p2 pos : Pos} {as : List (E × E)} {es : List E} (f : Fit X c W Φ G) (hw : swappedStores [.Tuple ts k p] (.Tuple vs k2 p2) X.env = pure none) (hg : PGs X ts (gPuts X W Φ G as)) (hpl : ∀ e ∈ ts, plainE e = true) (hl : ts.length = as.length) (hl2 : as.length = es.length) (hv : vs.length < 100) (al : AllE X W Φ G vs es) :
    PS X (.Assign [.Tuple ts k p] (.Tuple vs k2 p2) pos) (liftS X W (exec Φ G (.puts as es))) := by
  obtain ⟨h1, h2⟩ := fold2 (env := X.env) hpl
  refine (ps_asg (s_tup al.pa) (pg_tup (n := ts.length) f.calm hg h1 h2) swapTup hw (asg_one rfl)).imp fun D σv H ⟨F, m, σ, st, sr, re, h⟩ => ?_
  unfold exec at h
  refine ⟨F, m, σ, st, sr, re, ?_⟩
  have e0 : ev Φ G (.tup es) σ st = M.bnd (evs Φ G es σ) (fun ds => if sizeOk ds.length then .ret (.tup false ds) else .bad) st := by
    conv => lhs; unfold ev
  rw [e0]
  unfold MN.F.on at h
  cases e1 : evs Φ G es σ st with
  | bad => rw [bnd_bad e1]; rw [e1] at h; exact h
  | err x st1 =>
    rw [bnd_err e1]; rw [e1] at h
    exact fun F' m' H' cls dx xx s r => h F' m' σv H' cls dx xx s (xx.env re) r
  | ok ds st1 =>
    rw [bnd_ok e1]
    rw [e1] at h
    have hz : sizeOk ds.length = true := by
      have := evs_len e1
      have := al.len
      unfold sizeOk
      exact decide_eq_true (by omega)
    rw [if_pos hz]
    intro F1 m1 H1 v x1 s1 r1
    obtain ⟨a, vs', rfl, hq, rl⟩ := r1.tup_inv
    have hlen : ds.length = as.length := by rw [evs_len e1, hl2]
    refine ⟨a, vs', rfl, Same.seqT s1.sub hq, by rw [← rl.length, hlen, hl], F1, m1, σ, st1, ds, s1, x1.env re, rl, ?_⟩
    have h2 := PostF.ext x1 h
    revert h2
    show PostF X W D F1 m1 (putsF Φ G as ds σ st1) → _
    have key : ∀ (as : List (E × E)) (ds : List MN.D) (σ : Env) (st : Store), (∃ σ' st', putsF Φ G as ds σ st = .nx σ' st') ∨ (∃ x σ' st', putsF Φ G as ds σ st = .err x σ' st') ∨ putsF Φ G as ds σ st = .bad := by
      intro as
      induction as with
      | nil => intro ds σ st; cases ds with
        | nil => exact .inl ⟨σ, st, by unfold putsF; rfl⟩
        | cons _ _ => exact .inr (.inr (by unfold putsF; rfl))
      | cons q as ih => intro ds σ st; cases ds with
        | nil => exact .inr (.inr (by unfold putsF; rfl))
        | cons d ds =>
          obtain ⟨qa, qi⟩ := q
          unfold putsF MN.F.on
          cases ev Φ G qa σ st with
          | bad => exact .inr (.inr rfl)
          | err x st1 => exact .inr (.inl ⟨_, _, _, rfl⟩)
          | ok x1 st1 =>
            dsimp only
            cases ev Φ G qi σ st1 with
            | bad => exact .inr (.inr rfl)
            | err x st1 => exact .inr (.inl ⟨_, _, _, rfl⟩)
            | ok y1 st2 =>
              dsimp only
              cases putO x1 y1 d st2 with
              | none => exact .inr (.inr rfl)
              | some st3 => exact ih ds σ st3
    rcases key as ds σ st1 with ⟨σ', st', e⟩ | ⟨x, σ', st', e⟩ | e
    · rw [e]; exact fun q => q
    · rw [e]; exact fun q => q
    · rw [e]; exact fun q => q
end
section
/-- the parts of a comprehension that was looked at -/
theorem comp_parts {X : Cx} {c : Ct} {W : WX} {Φ : Str → List D → M D} {G : Str → Option D} (f : Fit X c W Φ G) {x g it : Expr} {ifs : List Expr} {scope : Scope} {pos : Pos} {own : List Nat} {tg : Tg} {k : IK} {src : List E} {test : Option E} {elt : E} {tst : Bool}
    (h : chk c tst (.ListComp x [⟨g, it, ifs, 0⟩] scope pos) (.comp own tg k src test elt) = true) :
    PI X g it (liftI X W (srcM Φ G k src)) ∧ BlkOk X.N X.env.scope scope (ownN c own) ∧ (ownN c own).map (·.2) = own ∧ (∀ i ∈ tslots tg, i ∈ own) ∧ (∀ y, foldedSetIterable it X.env y = pure y) ∧
    (∀ (s : Shared) (H : Hp) (C : Addr) (cl : List (Str × Addr)) (fp : List Addr), PG (X.blk s H scope (compEnvC scope cl C X.env) fp) g (gL X.K tg)) ∧
    (∀ (s : Shared) (H : Hp) (C : Addr) (cl : List (Str × Addr)) (fp : List Addr), PTs (X.blk s H scope (compEnvC scope cl C X.env) fp) ifs (liftT X W0 (evt Φ G test))) ∧
    ∀ (s : Shared) (H : Hp) (C : Addr) (cl : List (Str × Addr)) (fp : List Addr), PE (X.blk s H scope (compEnvC scope cl C X.env) fp) x (lift X W0 (ev Φ G elt)) := by
  unfold chk at h
  simp only [Bool.and_eq_true, decide_eq_true_eq, List.all_eq_true] at h
  obtain ⟨⟨⟨⟨⟨h1, h2⟩, ⟨h3, h4⟩, h5⟩, h6⟩, h7⟩, h8⟩ := h
  have ok : BlkOk X.N X.env.scope scope (ownN c own) := by
    rw [f.N, f.sc]
    exact blkOk_by h1
  refine ⟨?_, ok, h2, h5, fold_eq h3, fun s H C cl fp => (chkTg_ok (f.block ok s H C cl fp) tg g h4).1, fun s H C cl fp => ?_, fun s H C cl fp => (chk_ok Φ G elt _ (blkCt c scope) W0 (f.block ok s H C cl fp) false x h8).1 rfl⟩
  · cases hi : chkI c k g it with
    | none => rw [hi] at h6; cases h6
    | some es =>
      rw [hi] at h6
      exact chkI_ok f hi (chks_ok Φ G src X c W f _ h6)
  · cases ifs with
    | nil =>
      cases test with
      | none => exact pts_nil.imp fun σv H Q ⟨F, m, σ, st, sr, re, q⟩ => post_ret (st := st) (a := true) q sr rfl
      | some _ => cases h7
    | cons q qs =>
      cases qs with
      | nil => exact pts_one (chkt_ok Φ G test _ (blkCt c scope) W0 (f.block ok s H C cl fp) q h7)
      | cons _ _ => cases h7
theorem s_setComp {X : Cx} {c : Ct} {W : WX} {Φ : Str → List D → M D} {G : Str → Option D} (f : Fit X c W Φ G) {x g it : Expr} {ifs : List Expr} {scope : Scope} {pos py spos : Pos} {own : List Nat} {tg : Tg} {k : IK} {src : List E} {test : Option E} {elt : E} {y : Str} {i : Nat} {e' : E}
    (h : chk c false (.ListComp x [⟨g, it, ifs, 0⟩] scope pos) (.comp own tg k src test elt) = true) (hi : X.N[i]? = some y) (hyl : X.env.scope.names.lookup y = some .local)
    (hsw : swapsWith (.ListComp x [⟨g, it, ifs, 0⟩] scope pos) (some (.Name y py)) spos.line X.env = pure true) (he : e' = .comp own tg k src test elt ∨ e' = .mu (.comp own tg k src test elt)) :
    PS X (.Assign [.Name y py] (.ListComp x [⟨g, it, ifs, 0⟩] scope pos) spos) (liftS X W (exec Φ G (.set i e'))) := by
  obtain ⟨p1, p2, p3, p4, p5, p6, p7, p8⟩ := comp_parts f h
  refine (ps_setLc (wi := liftI X W (srcM Φ G k src)) (g := gL X.K tg) (tt := liftT X W0 (evt Φ G test)) (te := lift X W0 (ev Φ G elt)) f.calm (by rw [f.N]; exact f.nd) hi hyl hsw p1 p2 p6 p7 p8 p5).imp fun E0 σv H ⟨F, m, σ, st, sr, re, q⟩ => ?_
  have nc := n_comp (Φ := Φ) (G := G) (W := W) (elt := x) (tg := g) (iter := it) (ifs := ifs) (pos := pos) (t := tg) (test := test) (eelt := elt) f.calm (by rw [f.N]; exact f.nd) p1 p2 (fun i hi => by rw [p3]; exact p4 i hi) σv H (fun z H1 => gName i z σv H1 E0.nx)
  refine nc ⟨F, m, σ, st, sr, re, ?_⟩
  rw [p3]
  have cl : ∀ d st', ev Φ G (.comp own tg k src test elt) σ st = .ok d st' → ∃ ys, d = .lst ys := fun d st' e => by
    rw [comp_eq] at e
    unfold M.bnd at e
    cases e1 : srcM Φ G k src σ st with
    | bad => simp only [e1] at e; cases e
    | err _ _ => simp only [e1] at e; cases e
    | ok xs st1 =>
      simp only [e1] at e
      cases e2 : noErr (compM (turnM Φ G own tg test elt σ) xs []) st1 with
      | bad => simp only [e2] at e; cases e
      | err _ _ => simp only [e2] at e; cases e
      | ok ys st2 => simp only [e2] at e; cases e; exact ⟨ys, rfl⟩
  unfold exec MN.F.on at q
  cases e1 : ev Φ G (.comp own tg k src test elt) σ st with
  | bad =>
    rcases he with rfl | rfl
    · rw [e1] at q; exact q
    · have e2 : ev Φ G (.mu (.comp own tg k src test elt)) σ st = .bad := by
        conv => lhs; unfold ev
        exact bnd_bad e1
      rw [e2] at q; exact q
  | err z st1 =>
    have fin : PostF X W E0 F m (.err z σ st1) → PostN X W σv F m (fun z H1 => gName i z σv H1 E0.nx) (.err z st1) := fun q F' m' H' cls dx xx s r => q F' m' σv H' cls dx xx s (xx.env re) r
    rcases he with rfl | rfl
    · rw [e1] at q; exact fin q
    · have e2 : ev Φ G (.mu (.comp own tg k src test elt)) σ st = .err z st1 := by
        conv => lhs; unfold ev
        exact bnd_err e1
      rw [e2] at q; exact fin q
  | ok d st1 =>
    obtain ⟨ys, rfl⟩ := cl d st1 e1
    intro F1 m1 H1 v x1 s1 r1
    obtain ⟨p, vs, rfl, h1, h2, hp, h3, h4⟩ := r1
    rcases he with rfl | rfl
    · rw [e1] at q
      obtain ⟨s2, x2⟩ := s1.know h1 h3 (.inl h2) hp
      exact q _ _ _ _ (x1.trans x2) s2 (((x1.trans x2).env re).set i (.lst upd_same (x2.repL h4)))
    · have e2 : ev Φ G (.mu (.comp own tg k src test elt)) σ st = .ok (.ref st1.length) (st1 ++ [.lst ys]) := by
        conv => lhs; unfold ev
        exact bnd_ok e1
      rw [e2] at q
      obtain ⟨s2, x2⟩ := s1.adopt (o := .lst ys) h2 hp h3 ⟨vs, h1, h4⟩
      exact q _ _ _ _ (x1.trans x2) s2 (((x1.trans x2).env re).set i (.ref (by rw [← s1.len]; simp)))
mutual
theorem chkS_ok (Φ : Str → List D → M D) (G : Str → Option D) (X : Cx) (c : Ct) (W : WX) (f : FitS X c W Φ G) (t : S) (s : Stmt) (h : chkS c s t = true) : PS X s (liftS X W (exec Φ G t)) := by
  match t with
  | .set i e =>
    unfold chkS at h
    split at h
    · rename_i x pos' v pos
      simp only [Bool.and_eq_true] at h
      obtain ⟨⟨⟨h1, h2⟩, h2'⟩, h3⟩ := h
      obtain ⟨l1, l2⟩ := f.loc h2
      have pe := (chk_ok Φ G e X c W f.toFit false _ h3).1 rfl
      have hN : X.N.Nodup := by rw [f.N]; exact f.nd
      by_cases hlc : ∃ a gs scope lp, v = .ListComp a gs scope lp
      · obtain ⟨a, gs, scope, lp, rfl⟩ := hlc
        obtain ⟨b, hb⟩ : ∃ b, swapsWith (.ListComp a gs scope lp) (some (.Name x pos')) pos.line X.env = pure b ∧ (b = true → X.env.scope.names.lookup x = some .local) := by
          refine ⟨X.env.blockKind == .function && X.env.kindOf x == some .local && pos'.line == lp.line && !(scope.names.any fun (n, k) => n == x && (k == .local || k == .cell)), rfl, fun hb => ?_⟩
          simp only [Bool.and_eq_true] at hb
          exact eq_of_beq hb.1.1.2
        cases b with
        | false => exact s_set hN (f.slot h1) l1 pe hb.1 l2
        | true =>
          have never : (∀ σ st, ev Φ G e σ st = .bad) → PS X (.Assign [.Name x pos'] (.ListComp a gs scope lp) pos) (liftS X W (exec Φ G (.set i e))) := fun hbad => ⟨fun pins s σ H D I ⟨F, m, σ', st, sr, re, q⟩ => by
            unfold exec MN.F.on at q
            rw [hbad] at q
            exact q.elim⟩
          cases e with
          | comp own tg k src test elt =>
            have h3' := h3
            unfold chk at h3'
            split at h3'
            · rename_i x' g it ifs sc' p' eq
              cases eq
              exact s_setComp f.toFit h3 (f.slot h1) (hb.2 rfl) hb.1 (.inl rfl)
            · cases h3'
          | mu e0 =>
            have h3' := h3
            unfold chk at h3'
            simp only [Bool.and_eq_true] at h3'
            obtain ⟨⟨_, h4⟩, h5⟩ := h3'
            cases e0 with
            | comp own tg k src test elt =>
              have h4' := h4
              unfold chk at h4'
              split at h4'
              · rename_i x' g it ifs sc' p' eq
                cases eq
                exact s_setComp f.toFit h4 (f.slot h1) (hb.2 rfl) hb.1 (.inr rfl)
              · cases h4'
            | lst ts => unfold chk at h4; cases h4
            | dnew ts => unfold chk at h4; cases h4
            | bin _ _ _ => unfold chk at h4; cases h4
            | bi b ts => unfold chk at h4; cases h4
            | _ => cases h5
          | nev => exact never fun σ st => by unfold ev; rfl
          | _ => first
            | (unfold chk at h3; cases h3)
      · refine s_set hN (f.slot h1) l1 pe ?_ l2
        cases v <;> first | rfl | exact absurd ⟨_, _, _, _, rfl⟩ hlc | cases h2'
    · cases h
  | .unp tg e =>
    unfold chkS at h
    split at h
    · rename_i g v pos
      simp only [Bool.and_eq_true] at h
      obtain ⟨⟨h1, h2⟩, h3⟩ := h
      have pe := (chk_ok Φ G e X c W f.toFit false _ h3).1 rfl
      obtain ⟨p1, p2⟩ := chkTg_ok f.toFit tg g h1
      unfold swN at h2
      split at h2
      · rename_i ts k p
        refine s_unp pe p1 swapTup ?_ (asg_one p2)
        split at h2
        · rename_i vs k2 p2
          exact sw_eq (by rw [f.sc]; exact of_decide_eq_true h2)
        · rename_i hv
          exact sw_none (by cases v <;> first | rfl | exact absurd rfl (hv _ _ _))
      · cases h2
    · cases h
  | .par is es =>
    unfold chkS at h
    split at h
    · rename_i ts k p vs k2 p2 pos
      simp only [Bool.and_eq_true] at h
      obtain ⟨h1, h2⟩ := h
      have al := chks_ok Φ G es X c W f.toFit vs h2
      unfold parB at h1
      split at h1
      · split at h1
        · rename_i i j a b
          simp only [Bool.and_eq_true, decide_eq_true_eq] at h1
          obtain ⟨⟨⟨⟨⟨q1, q2⟩, q3⟩, q4⟩, q5⟩, q6⟩ := h1
          obtain ⟨a, a', t, t', e1, rfl, hp, hp', pe, pe'⟩ := al.two rfl
          refine s_par2 f.calm (by rw [f.N]; exact f.nd) (f.slot q1) (f.slot q2) q3 (by rw [f.sc]; exact q4) (by rw [f.sc]; exact q5) al.pa (sw_eq (by rw [f.sc]; exact q6)) swapTup
        · cases h1
      · split at h1
        · rename_i i j l a b d
          simp only [Bool.and_eq_true, decide_eq_true_eq] at h1
          obtain ⟨⟨⟨⟨⟨⟨⟨q1, q2⟩, q2'⟩, ⟨q3, q3'⟩, q3''⟩, q4⟩, q5⟩, q5'⟩, q6⟩ := h1
          cases es with
          | nil => cases al
          | cons t1 es => cases es with
            | nil => cases al with | cons _ _ r => cases r
            | cons t2 es => cases es with
              | nil => cases al with | cons _ _ r => cases r with | cons _ _ r => cases r
              | cons t3 es => cases es with
                | cons t4 es => cases al with | cons _ _ r => cases r with | cons _ _ r => cases r with | cons _ _ r => cases r
                | nil => exact s_par3 f.calm (by rw [f.N]; exact f.nd) (f.slot q1) (f.slot q2) (f.slot q2') q3 q3' q3'' (by rw [f.sc]; exact q4) (by rw [f.sc]; exact q5) (by rw [f.sc]; exact q5') al.pa (sw_eq (by rw [f.sc]; exact q6)) swapTup
        · cases h1
      · cases h1
    · cases h
  | .put a i e =>
    unfold chkS at h
    split at h
    · rename_i x y pos' v pos
      simp only [Bool.and_eq_true] at h
      obtain ⟨⟨⟨h1, h2⟩, h3⟩, h4⟩ := h
      refine s_put ((chk_ok Φ G e X c W f.toFit false _ h4).1 rfl) (pg_put (by have := f.hu; omega) ((chk_ok Φ G a X c W f.toFit false _ h2).1 rfl) ((chk_ok Φ G i X c W f.toFit false _ h3).1 rfl) (fun _ => by cases y <;> first | rfl | cases h1)) swapSub (sw_none ?_) (asg_one rfl)
      cases v <;> rfl
    · cases h
  | .puts as es =>
    unfold chkS at h
    split at h
    · rename_i ts k p vs k2 p2 pos
      simp only [Bool.and_eq_true, decide_eq_true_eq] at h
      obtain ⟨⟨⟨h1, h2⟩, h3, h4⟩, h5⟩ := h
      obtain ⟨g1, g2, g3⟩ := chkP_ok (W := W) (Φ := Φ) (G := G) f.toFit as ts h2
      exact s_puts f.toFit (sw_eq (by rw [f.sc]; exact h1)) g1 g2 g3 h4 h3 (chks_ok Φ G es X c W f.toFit vs h5)
    · cases h
  | .expr e =>
    unfold chkS at h
    split at h
    · simp only [Bool.and_eq_true] at h
      exact s_expr ((chk_ok Φ G e X c W f.toFit false _ h.2).1 rfl) (swapF h.1)
    · cases h
  | .iff q a b =>
    unfold chkS at h
    split at h
    · simp only [Bool.and_eq_true] at h
      obtain ⟨⟨h1, h2⟩, h3⟩ := h
      exact s_iff ((chk_ok Φ G q X c W f.toFit true _ h1).2.1 rfl).1 (chkSs_ok Φ G X c W f a _ h2) (chkSs_ok Φ G X c W f b _ h3)
    · cases h
  | .for_ tg k src body =>
    unfold chkS at h
    split at h
    · rename_i g it ss pos
      simp only [Bool.and_eq_true] at h
      obtain ⟨⟨⟨h1, h2⟩, h3⟩, h4⟩ := h
      have pi : PI X g it (liftI X W (srcM Φ G k src)) := by
        cases hi : chkI c k g it with
        | none => rw [hi] at h3; cases h3
        | some es =>
          rw [hi] at h3
          exact chkI_ok f.toFit hi (chks_ok Φ G src X c W f.toFit _ h3)
      exact s_for f.hp f.calm pi (chkTg_ok f.toFit tg g h2).1 (chkSs_ok Φ G X c W f body _ h4) (fold_eq h1)
    · cases h
  | .whl q body =>
    unfold chkS at h
    split at h
    · simp only [Bool.and_eq_true] at h
      exact s_whl f.hp ((chk_ok Φ G q X c W f.toFit true _ h.1).2.1 rfl).1 (chkSs_ok Φ G X c W f body _ h.2)
    · cases h
  | .ret e =>
    unfold chkS at h
    split at h
    · exact s_ret ((chk_ok Φ G e X c W f.toFit false _ h).1 rfl)
    · cases h
  | .retN =>
    unfold chkS at h
    split at h
    · exact s_retN
    · cases h
  | .raise x m =>
    cases m with
    | none =>
      unfold chkS at h
      dsimp only at h
      split at h
      · simp only [Bool.and_eq_true, decide_eq_true_eq] at h
        obtain ⟨⟨⟨rfl, h1⟩, h2⟩, h3⟩ := h
        exact s_raise0 f.toFit h1 h2 h3
      · cases h
    | some q =>
      obtain ⟨g, e⟩ := q
      unfold chkS at h
      dsimp only at h
      split at h
      · simp only [Bool.and_eq_true, decide_eq_true_eq] at h
        obtain ⟨⟨⟨⟨⟨rfl, h1⟩, h2⟩, h3⟩, h4⟩, h5⟩ := h
        exact s_raise1 f.toFit h1 h2 h3 h4 ((chk_ok Φ G e X c W f.toFit false _ h5).1 rfl)
      · cases h
  | .try_ body hs ks =>
    unfold chkS at h
    split at h
    · rename_i ss h0 hds pos
      simp only [Bool.and_eq_true, Bool.or_eq_true, List.all_eq_true] at h
      obtain ⟨⟨h1, h2⟩, h3⟩ := h
      have hk : ∀ x, ks.contains x = true → (c.ex x).isSome = true := fun x hx => h3 x (List.contains_iff_mem.mp hx)
      have hb : ∀ (W : WX) (pn : List (Addr × Obj)) (xe : Value → Shared → Prop), Takes (X.tr pn xe) W → PassesOwn (model X.prog X.w) X.A X.env xe → PSs (X.tr pn xe) ss (liftS X W (execs Φ G body)) := fun W' pn xe tk hp =>
        chkSs_ok Φ G (X.tr pn xe) c W' ⟨⟨f.N, f.nd, f.sc, f.calm, f.hu, tk, f.fr, f.fnc, f.fns, f.gls, f.dep, f.exs, f.exm, f.te, f.te', f.xc, f.xk, f.xm⟩, hp, f.ho, f.hf⟩ body ss h1
      rcases h2 with h2 | h2
      · exact s_tryMany f.toFit f.ho f.hf hb h2 hk
      · cases hds with
        | cons _ _ => cases h2
        | nil =>
          cases hs with
          | nil => cases h2
          | cons t hs => cases hs with
            | cons _ _ => cases h2
            | nil => exact s_tryAs f.toFit f.ho f.hf hb h2 hk
    · cases h
  | .pass =>
    unfold chkS at h
    split at h
    · exact s_pass
    · cases h
  | .brk =>
    unfold chkS at h
    split at h
    · exact s_brk
    · cases h
  | .cont =>
    unfold chkS at h
    split at h
    · exact s_cont
    · cases h
  | .frz _ => unfold chkS at h; cases h
  | .nev =>
    refine ⟨fun pins s σ H D I ⟨F, m, σ', st, sr, re, q⟩ => ?_⟩
    unfold exec at q
    exact q.elim
termination_by structural t
theorem chkSs_ok (Φ : Str → List D → M D) (G : Str → Option D) (X : Cx) (c : Ct) (W : WX) (f : FitS X c W Φ G) (ts : List S) (ss : List Stmt) (h : chkSs c ss ts = true) : PSs X ss (liftS X W (execs Φ G ts)) := by
  match ts with
  | [] =>
    unfold chkSs at h
    split at h
    · exact ss_nil
    · cases h
  | t :: ts =>
    unfold chkSs at h
    split at h
    · exact ss_frz (chkSs_ok Φ G X c W f ts ss h)
    · split at h
      · simp only [Bool.and_eq_true] at h
        exact ss_cons (chkS_ok Φ G X c W f t _ h.1) (chkSs_ok Φ G X c W f ts _ h.2)
      · cases h
termination_by structural ts
end
end
end MN
set_option Elab.async false
set_option linter.all false
set_option maxRecDepth 100000
/-! MiniU: functions. -/
namespace MN
open PySem PySem.Spec L2

/-! ### what a def's objects leave behind -/
section
variable [TabP] {K : PySem.W.Frag} {F : Wd} {m m' : List Addr}
theorem pre_get' {α : Type} {m m' : List α} {n : Nat} (p : m <+: m') (h : n < m.length) : m[n]? = m'[n]? := by
  obtain ⟨t, rfl⟩ := p
  rw [List.getElem?_append_left h]
mutual
theorem Rep.cut (p : m <+: m') : ∀ {d : D} {v : V}, Rep K F m' d v → lowD m.length d = true → Rep K F m d v
  | _, _, .non, _ => .non
  | _, _, .bl b, _ => .bl b
  | _, _, .int i, _ => .int i
  | _, _, .str x, _ => .str x
  | _, _, .tupW h r, e => .tupW h (RepL.cut p r (by unfold lowD at e; exact e))
  | _, _, .tup h r, e => .tup h (RepL.cut p r (by unfold lowD at e; exact e))
  | _, _, .lst h r, e => .lst h (RepL.cut p r (by unfold lowD at e; exact e))
  | _, _, .dk h r, e => .dk h (RepL.cut p r (by unfold lowD at e; exact e))
  | _, _, .dt h r, e => .dt h (RepL.cut p r (by unfold lowD at e; exact e))
  | _, _, .ref h, e => .ref (by
    unfold lowD at e
    rw [pre_get' p (of_decide_eq_true e)]; exact h)
  | _, _, .scr h, _ => .scr h
  | _, _, .exn0 e h, _ => .exn0 e h
  | _, _, .exn1 e n h1 h2, _ => .exn1 e n h1 h2
theorem RepL.cut (p : m <+: m') : ∀ {ds : List D} {vs : List V}, RepL K F m' ds vs → lowDs m.length ds = true → RepL K F m ds vs
  | _, _, .nil, _ => .nil
  | _, _, .cons h r, e => by
    unfold lowDs at e
    simp only [Bool.and_eq_true] at e
    exact .cons (Rep.cut p h e.1) (RepL.cut p r e.2)
end
theorem MObj.cut (p : m <+: m') {H : Hp} {a : Addr} {o : MO} (h : MObj K F m' H a o) (e : lowO m.length o = true) : MObj K F m H a o := by
  cases o with
  | lst xs => obtain ⟨vs, h1, h2⟩ := h; exact ⟨vs, h1, h2.cut p e⟩
  | dk ks xs => obtain ⟨kvs, h1, h2, h3⟩ := h; exact ⟨kvs, h1, h2, h3.cut p e⟩
  | dt ks xs => obtain ⟨kvs, h1, h2, h3⟩ := h; exact ⟨kvs, h1, h2, h3.cut p e⟩
  | dead => exact h
theorem SR.cut {st' : Store} {H : Hp} (s : SR K F m' st' H) (p : m <+: m') (c : cutOk m.length st' = true) : SR K F m (st'.take m.length) H := by
  unfold cutOk at c
  simp only [Bool.and_eq_true, decide_eq_true_eq, List.all_eq_true] at c
  obtain ⟨c1, c2⟩ := c
  have get : ∀ (n : Nat) (a : Addr) (o : MO), m[n]? = some a → (st'.take m.length)[n]? = some o → m'[n]? = some a ∧ st'[n]? = some o := fun n a o h1 h2 => by
    refine ⟨pre_get p h1, ?_⟩
    have hn : n < m.length := (List.getElem?_eq_some_iff.mp h1).1
    rw [List.getElem?_take_of_lt hn] at h2
    exact h2
  refine ⟨s.sub, by rw [List.length_take]; omega, s.nd.sublist p.sublist, fun n a o h1 h2 => ?_, s.pr, fun a o h => ?_, fun n a o h1 h2 => ?_, s.tab, s.nt⟩
  · obtain ⟨g1, g2⟩ := get n a o h1 h2
    exact s.nf n a o g1 g2
  · obtain ⟨g1, g2, g3⟩ := s.prF a o h
    exact ⟨g1, fun hm => g2 (p.subset hm), g3⟩
  · obtain ⟨g1, g2⟩ := get n a o h1 h2
    exact (s.at_ n a o g1 g2).cut p (c2 o (List.mem_of_getElem? h2))
theorem RepX.cut {mg : Str → Option Value} {H : Hp} {x : Ex} {cls : Value} {dx : Option Addr} (p : m <+: m') (h : RepX K mg F m H x cls dx) : RepX K mg F m' H x cls dx := by
  obtain ⟨C, h1, h2, h3⟩ := h
  refine ⟨C, h1, h2, ?_⟩
  cases hx : x.f with
  | none => rw [hx] at h3; exact h3
  | some q =>
    obtain ⟨f, d⟩ := q
    rw [hx] at h3
    obtain ⟨a, v, g1, g2, g3⟩ := h3
    exact ⟨a, v, g1, g2, g3.mono (Same.refl _) p⟩
theorem RepX.cut' {mg : Str → Option Value} {H : Hp} {x : Ex} {cls : Value} {dx : Option Addr} (p : m <+: m') (h : RepX K mg F m' H x cls dx) (e : lowX m.length x = true) : RepX K mg F m H x cls dx := by
  obtain ⟨C, h1, h2, h3⟩ := h
  refine ⟨C, h1, h2, ?_⟩
  unfold lowX at e
  cases hx : x.f with
  | none => rw [hx] at h3; exact h3
  | some q =>
    obtain ⟨f, d⟩ := q
    rw [hx] at h3 e
    obtain ⟨a, v, g1, g2, g3⟩ := h3
    exact ⟨a, v, g1, g2, g3.cut p e⟩
end

/-! ### the defs of a module -/
structure Dd where
  name : Str
  args : Arguments
  body : List Stmt
  scope : Scope
  ps : List Str
  N : List Str
  fd : Fd
structure Tb where
  defs : List Dd
  gl : List (Str × D)
  fr : List Str
  exs : List (Str × Option Str) := []
  ml : Bool := false
def Tb.get (t : Tb) (f : Str) : Option Dd := t.defs.find? fun d => d.name == f
def Tb.T (t : Tb) (f : Str) : Option Fd := (t.get f).map (·.fd)
def Tb.G (t : Tb) (x : Str) : Option D := t.gl.lookup x
def Tb.ct (t : Tb) (d : Dd) : Ct := ⟨d.N, d.scope, none, fun f => (t.get f).map (·.fd.np), fun x => (t.gl.lookup x).isSome, fun x => t.fr.contains x, fun x => t.exs.lookup x, t.ml⟩
def scB (d : Dd) : Bool :=
  (decide (d.scope.kind = .function) && !d.scope.isCoroutine && !d.scope.isGenerator) && (decide d.N.Nodup && decide (d.N.take d.ps.length = d.ps)) && (d.ps.all fun x => d.scope.names.lookup x == some .local || d.scope.names.lookup x == some .cell) && d.scope.names.all fun y => y.2 != .free
def chkD (t : Tb) (d : Dd) : Bool := scB d && argB d.args d.ps && (decide (d.fd.np = d.ps.length) && decide (d.fd.n = d.N.length)) && chkSs (t.ct d) d.body d.fd.body
theorem scB_ok {d : Dd} (h : scB d = true) : FnScope d.N d.ps d.scope := by
  unfold scB at h
  simp only [Bool.and_eq_true, decide_eq_true_eq, List.all_eq_true, Bool.not_eq_true', Bool.or_eq_true, bne_iff_ne, beq_iff_eq] at h
  obtain ⟨⟨⟨⟨⟨h1, h2⟩, h3⟩, h4, h5⟩, h6⟩, h7⟩ := h
  exact ⟨h1, h2, h3, h4, h5, h6, h7⟩
theorem FnScope.ndp {d : Dd} (S : FnScope d.N d.ps d.scope) : d.ps.Nodup := by rw [← S.pre]; exact S.nd.sublist (List.take_sublist _ _)
/-- the module as it stands -/
structure Sits [TabP] (P : Program) (t : Tb) (K : PySem.W.Frag) (mg : Str → Option Value) : Prop where
  fr : ∀ x ∈ t.fr, mg x = none
  gls : ∀ x d, t.gl.lookup x = some d → ∃ u v, mg x = some u ∧ RelV v u ∧ ∀ F m, Rep K F m d v
  defs : ∀ d ∈ t.defs, ∃ (fa : Addr) (fd : FuncData), FunD K d.name d.name d.args d.body d.scope [] [] fa fd ∧ mg d.name = some (.ref fa)
  exs : ∀ x o, t.exs.lookup x = some o → ExFact P K mg x o
  exm : ∀ x y o o' C D, t.exs.lookup x = some o → t.exs.lookup y = some o' → mg x = some (.ref C) → mg y = some (.ref D) → PySem.W.exmOne K (.ref C) (.ref D) = some (decide (x = y))
  te : ∀ x C o, TabP.E x = some (C, o) → t.exs.lookup x = some o ∧ mg x = some (.ref C)
  te' : ∀ x C o, t.exs.lookup x = some o → mg x = some (.ref C) → TabP.E x = some (C, o)
  xc : ∀ x C o, t.exs.lookup x = some o → mg x = some (.ref C) → ExcC K C ∧ PySem.W.kitOne K (.ref C) (.type "ValueError") = some true
  xk : ∀ x y C D o o', t.exs.lookup x = some o → t.exs.lookup y = some o' → mg x = some (.ref C) → mg y = some (.ref D) → PySem.W.kitOne K (.ref C) (.ref D) = some (decide (x = y))
  xm : t.ml = true → ∃ D, mg (Str.ofString "MileError") = some (.ref D) ∧ ∀ x C o, t.exs.lookup x = some o → mg x = some (.ref C) → PySem.W.kitOne K (.ref C) (.ref D) = some true
variable [TabP]
/-- a def of it, at its address -/
structure At (P : Program) (w : World) (K : PySem.W.Frag) (mg : Str → Option Value) (base : Heap) (k : Nat) (f : Str) (ps : List Str) (Φ : List D → M D) (fa : Addr) (fd : FuncData) : Prop where
  mgf : mg f = some (.ref fa)
  lk : ∃ oc od osl, K.lookup fa = some ⟨oc, od, .func fd, osl⟩
  kp : PySem.W.keepIn K (.ref fa) = true
  b : Binds K fd ps []
  bs : ∀ (s : Shared) (us : List Value), us.length = ps.length → BindsTo s fd ⟨us, []⟩ (ps.zip us)
  ok : FnOk P w K mg base (L2.CX P w) k fa fd ps (spM K mg ps.length Φ)
theorem callN_len {T : Str → Option Fd} {G : Str → Option D} {n : Nat} {f : Str} {fd : Fd} (h : T f = some fd) {ds : List D} {st : Store} (e : callN T G n f ds st ≠ R.bad) : ds.length = fd.np := by
  cases n with
  | zero => exact absurd rfl e
  | succ n =>
    unfold callN at e
    rw [h] at e
    by_cases hl : ds.length = fd.np
    · exact hl
    · exact absurd (by show callB _ _ _ _ _ = _; unfold callB; rw [if_neg (fun z => hl z.1)]) e
theorem Tb.get_name {t : Tb} {f : Str} {d : Dd} (h : t.get f = some d) : d ∈ t.defs ∧ d.name = f :=
  ⟨List.mem_of_find?_eq_some h, by have := List.find?_some h; exact eq_of_beq this⟩
/-- every def computes what ours does -/
theorem fn_all {P : Program} {w : World} {K : PySem.W.Frag} {mg : Str → Option Value} {base : Heap} {t : Tb} (ok : ∀ d ∈ t.defs, chkD t d = true) (e : Sits P t K mg) : ∀ (n : Nat) (f : Str) (d : Dd), t.get f = some d →
    ∃ (fa : Addr) (fd : FuncData), At P w K mg base n f d.ps (callN t.T t.G n f) fa fd
  | 0, f, d, hf => by
    obtain ⟨hm, rfl⟩ := Tb.get_name hf
    obtain ⟨fa, fd, F, g⟩ := e.defs d hm
    have hc := ok d hm
    unfold chkD at hc
    simp only [Bool.and_eq_true, decide_eq_true_eq] at hc
    obtain ⟨⟨⟨h1, h2⟩, h3, h4⟩, h5⟩ := hc
    have S := scB_ok h1
    have no : ∀ vs H Q E, ¬ spM K mg d.ps.length (callN t.T t.G 0 d.name) vs H Q E := fun vs H Q E ⟨F, m, ds, st, _, _, _, q⟩ => q
    exact ⟨fa, fd, g, (let ⟨oc, od, _, _, _, _, _, _, _, osl, _, h, _⟩ := F.ex; ⟨oc, od, osl, h⟩), F.kp, F.bindsN fun kV doc pm an cdv ct us hl => bind_all h2 (FnScope.ndp S) hl, fun s us hl => F.bindsA (fun kV doc pm an cdv ct us hl => bind_all h2 (FnScope.ndp S) hl) s us hl,
      ⟨fun vs H Q E q => absurd q (no _ _ _ _), fun A outer s H args us vs Q E _ _ _ _ q => absurd q (no _ _ _ _)⟩⟩
  | n + 1, f, d, hf => by
    have hT : t.T f = some d.fd := by unfold Tb.T; rw [hf]; rfl
    obtain ⟨hm, rfl⟩ := Tb.get_name hf
    obtain ⟨fa, fd, F, g⟩ := e.defs d hm
    have hc := ok d hm
    unfold chkD at hc
    simp only [Bool.and_eq_true, decide_eq_true_eq] at hc
    obtain ⟨⟨⟨h1, h2⟩, h3, h4⟩, h5⟩ := hc
    have S := scB_ok h1
    refine ⟨fa, fd, g, (let ⟨oc, od, _, _, _, _, _, _, _, osl, _, h, _⟩ := F.ex; ⟨oc, od, osl, h⟩), F.kp, F.bindsN fun kV doc pm an cdv ct us hl => bind_all h2 (FnScope.ndp S) hl, fun s us hl => F.bindsA (fun kV doc pm an cdv ct us hl => bind_all h2 (FnScope.ndp S) hl) s us hl, ?_⟩
    refine F.ok S (fun vs H Q E ⟨_, _, _, _, _, _, hl, _⟩ => hl) fun cdv A outer s H vs Q E hr hsp => ?_
    have W : WX := fun cls dx _ H => E cls dx H
    refine ⟨liftS (cxOf (L2.CX P w) P w K mg base d.N d.name d.scope fa cdv A outer s H E) (fun cls dx _ H => E cls dx H) (execs (callN t.T t.G n) t.G d.fd.body), chkSs_ok (callN t.T t.G n) t.G _ (t.ct d) _ ⟨⟨rfl, S.nd, rfl, rfl, ?_, ?_, fun x hx => ?_, fun x _ _ => rfl, fun f' np hf' => ?_, fun x hx => ?_, ?_, fun x o hx => e.exs x o hx, fun x y o o' C D hx hy => e.exm x y o o' C D hx hy, ?_, ?_, ?_, ?_, ?_⟩, ?_, rfl, rfl⟩ _ _ h5, ?_⟩
    · have := hr.un
      show (A.deeper _).units + 65 < cLine
      omega
    · exact takes_of rfl rfl rfl rfl
    · exact e.fr x (by simpa [Tb.ct] using hx)
    · have hf2 : (t.get f').map (·.fd.np) = some np := hf'
      cases hg : t.get f' with
      | none => rw [hg] at hf2; cases hf2
      | some d' =>
        rw [hg] at hf2
        obtain ⟨fa', fd', a⟩ := fn_all (P := P) (w := w) (base := base) ok e n f' d' hg
        have hT' : t.T f' = some d'.fd := by unfold Tb.T; rw [hg]; rfl
        have hnp : d'.fd.np = np := Option.some.inj hf2
        have hc' := ok d' (Tb.get_name hg).1
        unfold chkD at hc'
        simp only [Bool.and_eq_true, decide_eq_true_eq] at hc'
        exact ⟨fa', fd', d'.ps, n, by rw [← hnp, hc'.1.2.1], a.ok, hr, a.mgf, a.kp, a.b, fun ds st hne => (callN_len hT' hne).trans hc'.1.2.1⟩
    · obtain ⟨dd, hd⟩ := Option.isSome_iff_exists.mp (show (t.gl.lookup x).isSome = true from hx)
      exact ⟨dd, hd, e.gls x dd hd⟩
    · have := hr.dp
      show (A.deeper _).depth + 1 < recursionLimit
      omega
    · exact e.te
    · exact e.te'
    · exact e.xc
    · exact e.xk
    · exact e.xm
    · exact passes_of rfl
    · obtain ⟨Fw, m, ds, st, sr, rl, hl, q⟩ := hsp
      refine ⟨Fw, m, ds.map some ++ List.replicate (d.fd.n - ds.length) none, st, sr, ?_, ?_⟩
      · unfold L2.start
        refine ⟨by simp [rl.length, h4], fun i dd hi => ?_⟩
        have hi' : i < ds.length := by
          by_cases hi' : i < ds.length
          · exact hi'
          · rw [List.getElem?_append_right (by simpa using hi'), List.getElem?_replicate] at hi
            split at hi <;> cases hi
        rw [List.getElem?_append_left (by simpa using hi'), List.getElem?_map] at hi
        cases hd : ds[i]? with
        | none => rw [hd] at hi; cases hi
        | some d' =>
          rw [hd] at hi; cases hi
          obtain ⟨v, hv, r⟩ := rl.get hd
          refine ⟨v, ?_, r⟩
          rw [List.getElem?_append_left (by rw [List.length_map, ← rl.length]; exact hi'), List.getElem?_map, hv]
          rfl
      · unfold callN at q
        rw [hT] at q
        have hlm := sr.len
        by_cases hc1 : ds.length = d.fd.np ∧ d.fd.np ≤ d.fd.n
        · have key : ∀ r, r = execs (callN t.T t.G n) t.G d.fd.body (ds.map some ++ List.replicate (d.fd.n - ds.length) none) st → PostF (cxOf (L2.CX P w) P w K mg base d.N d.name d.scope fa cdv A outer s H E) (fun cls dx _ H => E cls dx H) { nx := fun _ H' => Q .non H', rt := Q } Fw m r := by
            intro r hr2
            dsimp only at q
            unfold callB at q
            rw [if_pos hc1, ← hr2, ← hlm] at q
            cases r with
            | nx σ' st' =>
              intro F' m' σv' H' x' s' r'
              dsimp only at q
              by_cases hg : d.fd.gc = true
              · rw [if_pos hg] at q
                by_cases hk : cutOk m.length st' = true
                · rw [if_pos hk] at q
                  exact q F' m H' .non ⟨x'.f, x'.p, List.prefix_rfl⟩ (s'.cut x'.m hk) .non
                · rw [if_neg hk] at q; exact q.elim
              · rw [if_neg hg] at q
                exact q F' m' H' .non x' s' .non
            | ret dd st' =>
              intro F' m' H' v x' s' r'
              dsimp only at q
              by_cases hg : d.fd.gc = true
              · rw [if_pos hg] at q
                by_cases hk : (lowD m.length dd && cutOk m.length st') = true
                · rw [if_pos hk] at q
                  simp only [Bool.and_eq_true] at hk
                  exact q F' m H' v ⟨x'.f, x'.p, List.prefix_rfl⟩ (s'.cut x'.m hk.2) (r'.cut x'.m hk.1)
                · rw [if_neg hk] at q; exact q.elim
              · rw [if_neg hg] at q
                exact q F' m' H' v x' s' r'
            | err x σ' st' =>
              intro F' m' σv' H' cls dx x' s' re' r'
              dsimp only at q
              by_cases hg : d.fd.gc = true
              · rw [if_pos hg] at q
                by_cases hk : (lowX m.length x && cutOk m.length st') = true
                · rw [if_pos hk] at q
                  simp only [Bool.and_eq_true] at hk
                  exact q F' m H' cls dx ⟨x'.f, x'.p, List.prefix_rfl⟩ (s'.cut x'.m hk.2) (r'.cut' x'.m hk.1)
                · rw [if_neg hk] at q; exact q.elim
              · rw [if_neg hg] at q
                exact q F' m' H' cls dx x' s' r'
            | brk _ _ => exact q.elim
            | ct _ _ => exact q.elim
            | bad => exact q.elim
          exact key _ rfl
        · dsimp only at q
          unfold callB at q
          rw [if_neg hc1] at q
          exact q.elim
end MN
set_option Elab.async false
set_option linter.all false
set_option maxRecDepth 100000
/-! MiniHk: what is asked of the head about classes of errors. -/
namespace MN
open PySem PySem.Spec L2

/-- the class at C: an error's, made by its own __init__ -/
def oexB (K : PySem.W.Frag) (C : Addr) : Bool := (match K.lookup C with
  | some ⟨.type c, dd, .cls ⟨nm, bs, .ref C' :: bm, N, q, true, sn, sub, ab, col, false⟩, ⟨[k0, k1, k2, k3, some (.builtin n), k5]⟩⟩ => (decide (c = "type") && decide (C' = C)) && (decide (n = "ValueError.__new__") && PySem.HandSPX.refsVE bm)
  | _ => false) && (decide (PySem.W.findIn K (.ref C) "__setattr__" = some (some (.builtin "object.__setattr__"))) && decide (PySem.W.subIn K (.ref C) (.type "BaseException") = some true)) && (decide (PySem.W.typeIn K (.ref C) = some (.type "type")) && PySem.W.keepIn K (.ref C))
theorem oexB_ok {K : PySem.W.Frag} {C : Addr} (h : oexB K C = true) : OexC K C := by
  unfold oexB at h
  simp only [Bool.and_eq_true, decide_eq_true_eq] at h
  obtain ⟨⟨h1, h2, h3⟩, h4, h5⟩ := h
  refine ⟨?_, h2, h3, h4, h5⟩
  split at h1
  · rename_i c dd nm bs C' bm N q sn sub ab col k0 k1 k2 k3 n k5 e
    simp only [Bool.and_eq_true, decide_eq_true_eq] at h1
    obtain ⟨⟨rfl, rfl⟩, rfl, g⟩ := h1
    exact ⟨nm, q, N, bs, bm, sn, sub, ab, col, dd, k0, k1, k2, k3, k5, e, g⟩
  · cases h1
/-- the statements of such an __init__ -/
def iniBodyB (f : Str) (b : FuncBody) : Bool := match b with
  | .stmts [.Expr (.Call (.Attribute (.Call (.Name s _) [] [] _) i p2) [.Constant (.str _) _ _] [] p4) _, .Assign [.Attribute (.Name a _) f1 _] (.Name f2 _) _] => (decide (s = "super") && decide (i = "__init__")) && (decide (a = "self") && decide (f1 = f)) && (decide (f2 = f) && (p2.endLine == p4.line))
  | _ => false
def iniParB (f : Str) (a : Arguments) : Bool := match a with
  | ⟨[], [⟨a0, none, _⟩, ⟨a1, none, _⟩], none, [], [], none, []⟩ => decide (a0 = "self") && decide (a1 = f)
  | _ => false
def iniFdB (P : Program) (K : PySem.W.Frag) (C : Addr) (f : Str) (fd : FuncData) : Bool := match fd with
  | ⟨nm, qn, pa, bo, sc, gl, [(cn, cc)], .none, .none, _, _, _, .ref cda, _, bl⟩ => (decide (nm = "__init__") && iniParB f pa) && (iniBodyB f bo && decide (sc = MX.iniS f)) && (decide (gl = mainGlobals) && decide (bl = builtinsNs)) && (decide (cn = "__class__") && PySem.W.codeIn K (.ref cda) qn) &&
    (match K.lookup cda with
    | some ⟨_, _, .fields vs, _⟩ => (match (vs[2]? : Option Value) with
      | some (.str file _) => (P.main.file : Str) == file
      | _ => false)
    | _ => false) && (match K.lookup cc with
    | some ⟨_, _, .cell (some (.ref c')), _⟩ => decide (c' = C)
    | _ => false)
  | _ => false
def iniFnB (P : Program) (K : PySem.W.Frag) (C : Addr) (f : Str) : Bool := match PySem.W.findIn K (.ref C) "__init__" with
  | some (some (.ref fI)) => decide (PySem.W.typeIn K (.ref fI) = some (.type "function")) && (match K.lookup fI with
    | some ⟨_, _, .func fd, _⟩ => iniFdB P K C f fd
    | _ => false)
  | _ => false
def iniCB (P : Program) (K : PySem.W.Frag) (C : Addr) (f : Str) : Bool := oexB K C && iniFnB P K C f &&
  (PySem.W.excInitIn K C [.type "ValueError", .type "Exception", .type "BaseException", .type "object"] "ValueError.__new__" && decide (PySem.W.ks_superIn K C C "__init__" = some (some (.builtin "ValueError.__init__")))) &&
  (decide (PySem.W.subIn K (.ref C) (.type "ValueError") = some true) && decide (PySem.W.nsIn K cStatics "thirdparty.any" = some none)) &&
  (decide (PySem.W.findIn K (.ref C) f = some none) && decide (PySem.W.mroIn K C (.ref C) = some true)) &&
  (decide (PySem.W.nsIn K mainGlobals "super" = some none) && !(P.main.scope.names.lookup ("super" : Str)).isSome)
theorem iniFnB_ok {P : Program} {K : PySem.W.Frag} {C : Addr} {f : Str} (h : iniFnB P K C f = true) : ∃ (fI : Addr) (oc : Value) (od : Option Addr) (doc pm : Value) (an : Option Addr) (cda cc : Addr) (ct : Value) (osl : Array (Option Value)) (q msg : Str) (j : Nat) (r1 r2 p0 p1 p2 p3 p4 p5 q1 q2 q3 q4 : Pos) (ccl : Value) (cdd : Option Addr) (vs : Array Value) (ccs : Array (Option Value)) (file : Str) (tf : Tok) (cl : Value) (cld : Option Addr) (csl : Array (Option Value)),
    PySem.W.findIn K (.ref C) "__init__" = some (some (.ref fI)) ∧ PySem.W.typeIn K (.ref fI) = some (.type "function") ∧
    K.lookup fI = some ⟨oc, od, .func (PySem.W.ksFn "__init__" q (MX.iniA f r1 r2) (MX.iniB f msg j p0 p1 p2 p3 p4 p5 q1 q2 q3 q4) (MX.iniS f) .none .none doc pm an (.ref cda) ct cc), osl⟩ ∧ PySem.W.codeIn K (.ref cda) q = true ∧
    K.lookup cda = some ⟨ccl, cdd, .fields vs, ccs⟩ ∧ vs[2]? = some (.str file tf) ∧ ((P.main.file : Str) == file) = true ∧ (p2.endLine == p4.line) = true ∧ K.lookup cc = some ⟨cl, cld, .cell (some (.ref C)), csl⟩ := by
  unfold iniFnB at h
  split at h
  · rename_i fI e1
    simp only [Bool.and_eq_true, decide_eq_true_eq] at h
    obtain ⟨h1, h2⟩ := h
    split at h2
    · rename_i oc od fd osl e2
      unfold iniFdB at h2
      split at h2
      · rename_i nm qn pa bo sc gl cn cc doc pm an cda ct bl
        simp only [Bool.and_eq_true, decide_eq_true_eq] at h2
        obtain ⟨⟨⟨⟨⟨⟨rfl, g1⟩, g2, rfl⟩, rfl, rfl⟩, rfl, g3⟩, g4⟩, g5⟩ := h2
        unfold iniParB at g1
        split at g1
        · rename_i a0 r1 a1 r2
          simp only [Bool.and_eq_true, decide_eq_true_eq] at g1
          obtain ⟨rfl, rfl⟩ := g1
          unfold iniBodyB at g2
          split at g2
          · rename_i s p0 p1 i p2 msg j p3 p4 p5 a q1 f1 q2 f2 q3 q4
            simp only [Bool.and_eq_true, decide_eq_true_eq] at g2
            obtain ⟨⟨⟨rfl, rfl⟩, rfl, rfl⟩, rfl, g6⟩ := g2
            split at g4
            · rename_i ccl cdd vs ccs e3
              split at g4
              · rename_i file tf e4
                split at g5
                · rename_i cl cld c' csl e5
                  have := of_decide_eq_true g5
                  subst this
                  exact ⟨fI, oc, od, doc, pm, an, cda, cc, ct, osl, qn, msg, j, r1, r2, p0, p1, p2, p3, p4, p5, q1, q2, q3, q4, ccl, cdd, vs, ccs, file, tf, cl, cld, csl, e1, h1, e2, g3, e3, e4, g4, g6, e5⟩
                · cases g5
              · cases g4
            · cases g4
          · cases g2
        · cases g1
      · cases h2
    · cases h2
  · cases h
theorem iniCB_ok {P : Program} {K : PySem.W.Frag} {C : Addr} {f : Str} (h : iniCB P K C f = true) : MX.IniC P K C f := by
  unfold iniCB at h
  simp only [Bool.and_eq_true, decide_eq_true_eq, Bool.not_eq_true'] at h
  obtain ⟨⟨⟨⟨⟨h1, h2⟩, h3, h4⟩, h5, h6⟩, h7, h8⟩, h9, h10⟩ := h
  exact ⟨oexB_ok h1, h3, h4, h5, h6, h7, h8, h9, h10, iniFnB_ok h2⟩
/-- a class of the table -/
def exB1 (P : Program) (K : PySem.W.Frag) (x : Str) (o : Option Str) : Bool := (decide (PySem.W.nsIn K mainGlobals x = some (some (.ref (He.ga K x)))) && PySem.W.keepIn K (.ref (He.ga K x))) && (decide (PySem.W.subIn K (.ref (He.ga K x)) (.type "BaseException") = some true) && decide (PySem.W.typeIn K (.ref (He.ga K x)) = some (.type "type"))) && (match o with
  | none => PySem.W.excIn K (He.ga K x) [.type "ValueError", .type "Exception", .type "BaseException", .type "object"] "ValueError.__new__"
  | some f => iniCB P K (He.ga K x) f && xfB K (He.ga K x) && (!(f == ("self" : Str)) && !(f == ("__class__" : Str))) && (!(f == ("super" : Str)) && !(f == ("__debug__" : Str))))
def exB (P : Program) (ex : List (Str × Option Str)) (K : PySem.W.Frag) : Bool := (ex.all fun q => exB1 P K q.1 q.2) && (ex.all fun q => ex.all fun r => decide (PySem.W.exmOne K (.ref (He.ga K q.1)) (.ref (He.ga K r.1)) = some (decide (q.1 = r.1))))
theorem exB1_mg {P : Program} {K : PySem.W.Frag} {h : Heap} {mg : Str → Option Value} {x : Str} {o : Option Str} (hK : K.In h) (G : h.Ns mainGlobals mg) (c : exB1 P K x o = true) : mg x = some (.ref (He.ga K x)) := by
  unfold exB1 at c
  simp only [Bool.and_eq_true, decide_eq_true_eq] at c
  exact PySem.W.mg_of hK G c.1.1.1
theorem exB1_ok {P : Program} {K : PySem.W.Frag} {h : Heap} {mg : Str → Option Value} {x : Str} {o : Option Str} (hK : K.In h) (G : h.Ns mainGlobals mg) (c : exB1 P K x o = true) : ExFact P K mg x o := by
  have c0 := exB1_mg hK G c
  unfold exB1 at c
  simp only [Bool.and_eq_true, decide_eq_true_eq] at c
  obtain ⟨⟨⟨h1, h2⟩, h3, h4⟩, h5⟩ := c
  refine ⟨_, c0, h2, h3, h4, ?_⟩
  cases o with
  | none => exact h5
  | some f =>
    simp only [Bool.and_eq_true, Bool.not_eq_true'] at h5
    obtain ⟨⟨⟨g1, g2⟩, g3, g4⟩, g5, g6⟩ := h5
    exact ⟨iniCB_ok g1, xfB_ok g2, fun z => by simp [z] at g3, fun z => by simp [z] at g4, fun z => by simp [z] at g5, g6⟩
theorem exB_exs {P : Program} {ex : List (Str × Option Str)} {K : PySem.W.Frag} {h : Heap} {mg : Str → Option Value} (hK : K.In h) (G : h.Ns mainGlobals mg) (c : exB P ex K = true) : ∀ x o, ex.lookup x = some o → ExFact P K mg x o := fun x o hx => by
  unfold exB at c
  simp only [Bool.and_eq_true, List.all_eq_true] at c
  exact exB1_ok hK G (c.1 _ (PySem.mem_of_lookup hx))
theorem exB_exm {P : Program} {ex : List (Str × Option Str)} {K : PySem.W.Frag} {h : Heap} {mg : Str → Option Value} (hK : K.In h) (G : h.Ns mainGlobals mg) (c : exB P ex K = true) : ∀ x y o o' C D, ex.lookup x = some o → ex.lookup y = some o' → mg x = some (.ref C) → mg y = some (.ref D) → PySem.W.exmOne K (.ref C) (.ref D) = some (decide (x = y)) := fun x y o o' C D hx hy hC hD => by
  unfold exB at c
  simp only [Bool.and_eq_true, List.all_eq_true] at c
  have mx := PySem.mem_of_lookup hx
  have my := PySem.mem_of_lookup hy
  have e1 := exB1_mg hK G (c.1 _ mx)
  have e2 := exB1_mg hK G (c.1 _ my)
  rw [hC] at e1
  rw [hD] at e2
  cases e1; cases e2
  exact of_decide_eq_true (c.2 _ mx _ my)
/-- what isinstance asks of such a class -/
def excCB (K : PySem.W.Frag) (D : Addr) : Bool := (decide (PySem.W.findIn K (.ref D) "__getattribute__" = some (some (.builtin "BaseException.__getattribute__"))) && decide (PySem.W.findIn K (.ref D) "__getattr__" = some none)) && (decide (PySem.W.subIn K (.ref D) (.type "BaseException") = some true) && PySem.W.hasDictIn K D) &&
  (decide (PySem.W.findIn K (.ref D) "__class__" = some (some (.builtin "object.__class__"))) && decide (PySem.W.specialIn K (.builtin "object.__class__") "__get__" = some (some (.builtin "getset_descriptor.__get__")))) && (decide (PySem.W.takesIn K (.builtin "object.__class__") = some true) && decide (PySem.W.mroIn K D (.type "object") = some true))
theorem excCB_ok {K : PySem.W.Frag} {D : Addr} (h : excCB K D = true) : ExcC K D := by
  unfold excCB at h
  simp only [Bool.and_eq_true, decide_eq_true_eq] at h
  obtain ⟨⟨⟨⟨h1, h2⟩, h3, h4⟩, h5, h6⟩, h7, h8⟩ := h
  exact ⟨h1, h2, h3, h4, h5, h6, h7, h8⟩
def exV (ml : Bool) (ex : List (Str × Option Str)) (K : PySem.W.Frag) : Bool := (ex.all fun q => excCB K (He.ga K q.1) && decide (PySem.W.kitOne K (.ref (He.ga K q.1)) (.type "ValueError") = some true)) &&
  (ex.all fun q => ex.all fun r => decide (PySem.W.kitOne K (.ref (He.ga K q.1)) (.ref (He.ga K r.1)) = some (decide (q.1 = r.1)))) &&
  (!ml || (decide (PySem.W.nsIn K mainGlobals "MileError" = some (some (.ref (He.ga K "MileError")))) && ex.all fun q => decide (PySem.W.kitOne K (.ref (He.ga K q.1)) (.ref (He.ga K "MileError")) = some true)))
section
variable {P : Program} {ex : List (Str × Option Str)} {K : PySem.W.Frag} {h : Heap} {mg : Str → Option Value} {ml : Bool}
theorem exB_at (hK : K.In h) (G : h.Ns mainGlobals mg) (c : exB P ex K = true) {x : Str} {o : Option Str} {C : Addr} (hx : ex.lookup x = some o) (hm : mg x = some (.ref C)) : (x, o) ∈ ex ∧ C = He.ga K x := by
  unfold exB at c
  simp only [Bool.and_eq_true, List.all_eq_true] at c
  have mx := PySem.mem_of_lookup hx
  have e1 := exB1_mg hK G (c.1 _ mx)
  rw [hm] at e1
  cases e1
  exact ⟨mx, rfl⟩
theorem exV_xc (hK : K.In h) (G : h.Ns mainGlobals mg) (c : exB P ex K = true) (v : exV ml ex K = true) : ∀ x C o, ex.lookup x = some o → mg x = some (.ref C) → ExcC K C ∧ PySem.W.kitOne K (.ref C) (.type "ValueError") = some true := fun x C o hx hm => by
  obtain ⟨m, rfl⟩ := exB_at hK G c hx hm
  unfold exV at v
  simp only [Bool.and_eq_true, List.all_eq_true, decide_eq_true_eq] at v
  obtain ⟨h1, h2⟩ := v.1.1 _ m
  exact ⟨excCB_ok h1, h2⟩
theorem exV_xk (hK : K.In h) (G : h.Ns mainGlobals mg) (c : exB P ex K = true) (v : exV ml ex K = true) : ∀ x y C D o o', ex.lookup x = some o → ex.lookup y = some o' → mg x = some (.ref C) → mg y = some (.ref D) → PySem.W.kitOne K (.ref C) (.ref D) = some (decide (x = y)) := fun x y C D o o' hx hy hC hD => by
  obtain ⟨m, rfl⟩ := exB_at hK G c hx hC
  obtain ⟨n, rfl⟩ := exB_at hK G c hy hD
  unfold exV at v
  simp only [Bool.and_eq_true, List.all_eq_true, decide_eq_true_eq] at v
  exact v.1.2 _ m _ n
theorem exV_xm (hK : K.In h) (G : h.Ns mainGlobals mg) (c : exB P ex K = true) (v : exV ml ex K = true) (hm : ml = true) : ∃ D, mg (Str.ofString "MileError") = some (.ref D) ∧ ∀ x C o, ex.lookup x = some o → mg x = some (.ref C) → PySem.W.kitOne K (.ref C) (.ref D) = some true := by
  unfold exV at v
  simp only [Bool.and_eq_true, Bool.or_eq_true] at v
  rcases v.2 with v2 | ⟨v2, v3⟩
  · rw [hm] at v2; cases v2
  · refine ⟨_, PySem.W.mg_of hK G (of_decide_eq_true v2), fun x C o hx hC => ?_⟩
    obtain ⟨m, rfl⟩ := exB_at hK G c hx hC
    exact of_decide_eq_true (List.all_eq_true.mp v3 _ m)
end
/-- where the classes of errors stand -/
def exE (ex : List (Str × Option Str)) (mg : Str → Option Value) (x : Str) : Option (Addr × Option Str) := match ex.lookup x with
  | some o => (match mg x with
    | some (.ref C) => some (C, o)
    | _ => none)
  | none => none
theorem exE_te {ex : List (Str × Option Str)} {mg : Str → Option Value} (x : Str) (C : Addr) (o : Option Str) (h : exE ex mg x = some (C, o)) : ex.lookup x = some o ∧ mg x = some (.ref C) := by
  unfold exE at h
  cases e : ex.lookup x with
  | none => rw [e] at h; cases h
  | some o' =>
    rw [e] at h
    cases e2 : mg x with
    | none => rw [e2] at h; cases h
    | some v =>
      rw [e2] at h
      cases v <;> simp at h
      obtain ⟨rfl, rfl⟩ := h
      exact ⟨rfl, rfl⟩
theorem exE_te' {ex : List (Str × Option Str)} {mg : Str → Option Value} (x : Str) (C : Addr) (o : Option Str) (h1 : ex.lookup x = some o) (h2 : mg x = some (.ref C)) : exE ex mg x = some (C, o) := by
  unfold exE
  rw [h1, h2]
/-! ### the Hook -/
def frM (n : Nat) (g : Addr → Option Obj) : PySem.W.Frag := He.frT g (cStatics :: He.asD g n)
def obM (n : Nat) (fa : List He.Fa) (fn : List He.DefD) (ex : PySem.W.Frag → Bool) (g : Addr → Option Obj) : He.AlD × Bool := (He.obsD fa fn (frM n g), ex (frM n g))
def hookM (n : Nat) (fa : List He.Fa) (fn : List He.DefD) (ex : PySem.W.Frag → Bool) : PySem.W.Hook where
  α := He.AlD × Bool
  obs := fun s => obM n fa fn ex s.heap.get?
  val := fun _ => (He.valD fn, true)
  says := fun _ h => ∃ K : PySem.W.Frag, K.In h ∧ He.SaysD fa fn K ∧ ex K = true
  of := fun _ _ e => ⟨_, He.frT_in, congrArg (fun z : He.AlD × Bool => z.1) e, congrArg (fun z : He.AlD × Bool => z.2) e⟩
  keeps := fun _ _ _ ⟨K, hK, c⟩ k => ⟨K, PySem.W.Frag.In.keeps hK k, c⟩
theorem obM_eq {n : Nat} {fa : List He.Fa} {fn : List He.DefD} {ex : PySem.W.Frag → Bool} {g : Addr → Option Obj} {s : Shared} (h : ∀ a, g a = s.heap.get? a) : obM n fa fn ex g = (hookM n fa fn ex).obs s := by
  have e : g = s.heap.get? := funext h
  rw [e] <;> rfl
end MN
set_option Elab.async false
set_option linter.all false
set_option maxRecDepth 100000
/-! MiniV: a law's end. -/
namespace MN
open PySem PySem.Spec L2

theorem sr_start [TP : TabP] (ht : TP.T = []) {K : PySem.W.Frag} {H : Hp} (hO : L2.Only H) : SR K ⟨H, fun _ => none⟩ [] [] H :=
  ⟨Same.refl H, rfl, .nil, (fun n a o h => by simp at h), (fun a o h => by cases h), (fun a o h => by cases h), (fun n a o h => by simp at h), (fun q hq => by rw [ht] at hq; cases hq), (fun a ps e => by
    have e : H a = some (HO.tbl ps) := e
    rcases hO a with h | ⟨o, xs, h⟩
    · rw [h] at e; cases e
    · rw [h] at e; cases e)⟩
/-- a law, by what ours computes -/
theorem law_end {l : PySem.W.OpenLaw} {n k : Nat} {q : Program} {loose : List Str} {XP : (Str → Option Value) → Heap → Prop} {YP : World → Heap → Prop} {d : DefRec} {t : Tb} {df : Dd} {x : Str}
    (hn : l.most = some n) (hn2 : n ≤ sizeLine) (hdf : d.params.defaults = []) (hr : Room k callerA) (ok : ∀ d ∈ t.defs, chkD t d = true) (hd : t.get d.name = some df) (hps : df.ps = [x])
    (hS : ∀ (w : World) (mg : Str → Option Value) (h : Heap), YP w h → h.Ns mainGlobals mg → ∃ K : PySem.W.Frag, K.In h ∧ @Sits ⟨[], exE t.exs mg⟩ l.prog t K mg)
    (law : ∀ ns : List Int, ns.length ≤ n → ∃ st, callN t.T t.G k d.name [.scr ns] [] = .ok (.bl true) st) :
    PySem.W.WalkO q loose XP YP l.row.toRowW d [] (fun f vs => PySem.call f vs) := by
  refine Att.attach_call hn hdf fun w s₀ s₁ mg mb fa o pm cd doc a vs ns G Y ho hdo hcd hmg hobj hints hlen hg => ?_
  letI : TabP := ⟨[], exE t.exs mg⟩
  obtain ⟨K, KX, St⟩ := hS w mg _ Y G.T.g
  have go := fun base : Heap => fn_all (P := l.prog) (w := w) (base := base) ok St k d.name df hd
  obtain ⟨fa0, fd, a0⟩ := go s₁.heap
  have hfa : fa0 = fa := by have := a0.mgf; rw [hmg] at this; cases this; rfl
  subst hfa
  have hb : ∀ (s : Shared) (u : Value), BindsTo s fd ⟨[u], []⟩ [(x, u)] := fun s u => by
    have := a0.bs s [u] (by rw [hps]; rfl)
    rw [hps] at this
    exact this
  refine law_call (CX := L2.CX l.prog w) (sp := spM K mg df.ps.length (callN t.T t.G k d.name)) KX G.T.g G.T.b G.T.builtins G.T.nolimit hg hobj hints (Nat.le_trans hlen hn2) hr (fun base hK hN => ?_) hb (fun H hO hS => ?_) fun H e s' ⟨_, _, _, _, _, _, _, _, _, _, _, _, no⟩ => no
  · obtain ⟨fa1, fd1, a1⟩ := go base
    have hfa1 : fa1 = fa0 := by have := a1.mgf; rw [hmg] at this; cases this; rfl
    subst hfa1
    have hfd : fd1 = fd := by
      obtain ⟨_, _, _, h1⟩ := a1.lk
      obtain ⟨_, _, _, h0⟩ := a0.lk
      rw [h1] at h0
      cases h0; rfl
    subst hfd
    have := a1.ok
    rw [hps] at this ⊢
    exact this
  · obtain ⟨st, e⟩ := law ns hlen
    refine ⟨⟨H, fun _ => none⟩, [], [.scr ns], [], sr_start rfl hO, .cons (.scr hS) .nil, by rw [hps]; rfl, ?_⟩
    rw [e]
    intro F' m' H' v _ _ r
    cases r
    rfl

/-! ### what is asked of the head -/
def faG : Str × D → List He.Fa
  | (x, .int i) => [.int x i]
  | (x, .str z) => [.str x z]
  | (x, .tup _ _) => [.glo x]
  | _ => []
def Tb.fa (t : Tb) : List He.Fa := t.fr.map .free ++ (t.defs.map fun d => .glo d.name) ++ t.gl.flatMap faG
def Dd.hd (d : Dd) : He.DefD := ⟨(d.name, none), d.name, d.name, d.args, d.body, d.scope, [], []⟩
def Tb.hs (t : Tb) : List He.DefD := t.defs.map Dd.hd
def Tb.plain (t : Tb) : Bool := t.gl.all fun q => match q.2 with
  | .int _ => true
  | .str _ => true
  | .tup true ds => (intsOf ds).isSome
  | _ => false
/-- tuples of whole numbers that bear a name -/
def tupsB (t : Tb) (K : PySem.W.Frag) : Bool := t.gl.all fun q => match q.2 with
  | .tup _ ds => He.tupB K q.1 (((intsOf ds).getD []).map He.Dv.int)
  | _ => true
theorem intsOf_some : ∀ {ds : List D} {ns : List Int}, intsOf ds = some ns → ds = ns.map D.int
  | [], ns, h => by cases h; rfl
  | d :: ds, ns, h => by
    cases d with
    | int i =>
      have h' : (intsOf ds).map (i :: ·) = some ns := h
      obtain ⟨ms, h1, rfl⟩ := Option.map_eq_some_iff.mp h'
      rw [intsOf_some h1]; rfl
    | _ => cases h
theorem sits_of {P : Program} {t : Tb} {K : PySem.W.Frag} {h : Heap} {mg : Str → Option Value} (hK : K.In h) (G : h.Ns mainGlobals mg) (hp : t.plain = true) (ht : tupsB t K = true) (he : exB P t.exs K = true) (hv : exV t.ml t.exs K = true) (c : He.SaysD t.fa t.hs K) : @Sits ⟨[], exE t.exs mg⟩ P t K mg := by
  letI : TabP := ⟨[], exE t.exs mg⟩
  have fact : ∀ f ∈ t.fa, f.ok K = true := fun f hf => He.SaysD.facts c hf
  refine ⟨fun x hx => ?_, fun x d hx => ?_, fun d hd => ?_, exB_exs hK G he, exB_exm hK G he, exE_te, exE_te', exV_xc hK G he hv, exV_xk hK G he hv, exV_xm hK G he hv⟩
  · exact He.free_ok hK G (fact _ (List.mem_append_left _ (List.mem_append_left _ (List.mem_map.mpr ⟨x, hx, rfl⟩))))
  · have hm : (x, d) ∈ t.gl := PySem.mem_of_lookup hx
    have hq := List.all_eq_true.mp hp _ hm
    have hu := List.all_eq_true.mp ht _ hm
    have hf : ∀ f ∈ faG (x, d), f.ok K = true := fun f hf => fact f (List.mem_append_right _ (List.mem_flatMap.mpr ⟨_, hm, hf⟩))
    cases d with
    | int i =>
      obtain ⟨u, hu⟩ := He.int_ok hK G (hf _ List.mem_cons_self)
      exact ⟨_, .int i, hu, ⟨u, rfl⟩, fun _ _ => .int i⟩
    | str z =>
      obtain ⟨u, hu⟩ := He.str_ok hK G (hf _ List.mem_cons_self)
      exact ⟨_, .str z, hu, ⟨u, rfl⟩, fun _ _ => .str z⟩
    | tup w ds =>
      cases w with
      | false => cases hq
      | true =>
        have hs : (intsOf ds).isSome = true := hq
        obtain ⟨ns, hn⟩ := Option.isSome_iff_exists.mp hs
        have hb : He.tupB K x (((intsOf ds).getD []).map He.Dv.int) = true := hu
        rw [hn] at hb
        have := He.glo_ok hK G (hf _ List.mem_cons_self)
        have e : (((some ns).getD []).map He.Dv.int).map (He.Dv.v K) = ns.map V.int := by simp [He.Dv.v]
        refine ⟨_, .ref _, this, rfl, fun F m => ?_⟩
        have sq := He.tupB_ok hb F.f
        rw [e] at sq
        rw [intsOf_some hn]
        exact .tupW sq (RepL.ints ns)
    | _ => cases hq
  · obtain ⟨fd, F⟩ := He.SaysD.defs c (d := d.hd) (List.mem_map.mpr ⟨d, hd, rfl⟩)
    exact ⟨_, fd, F, He.glo_ok hK G (fact _ (List.mem_append_left _ (List.mem_append_right _ (List.mem_map.mpr ⟨d, hd, rfl⟩))))⟩
end MN
set_option Elab.async false
set_option linter.all false
set_option maxRecDepth 100000
/-! MiniW: what is wanted of a computation, step by step. -/
namespace MN
open PySem

/-- it ends well, in Q (an error: in E) -/
def wp {α : Type} (E : Ex → Store → Prop) (r : R α) (Q : α → Store → Prop) : Prop := match r with
  | .ok a st => Q a st
  | .err x st => E x st
  | .bad => False
/-- what is wanted behind statements -/
structure Pf where
  nx : Env → Store → Prop
  rt : D → Store → Prop
  bk : Env → Store → Prop
  ct : Env → Store → Prop
  er : Ex → Env → Store → Prop
def wf (P : Pf) : F → Prop
  | .nx σ st => P.nx σ st
  | .ret d st => P.rt d st
  | .brk σ st => P.bk σ st
  | .ct σ st => P.ct σ st
  | .err x σ st => P.er x σ st
  | .bad => False
/-- no error, nothing but a return -/
def noE : Ex → Store → Prop := fun _ _ => False
@[simp] def Pf.fin (Q : D → Store → Prop) (E : Ex → Store → Prop) : Pf := ⟨fun _ st => Q .non st, Q, fun _ _ => False, fun _ _ => False, fun x _ st => E x st⟩

section
variable {α β : Type} {E : Ex → Store → Prop}
theorem wp_mono {r : R α} {Q Q' : α → Store → Prop} (h : wp E r Q) (hq : ∀ a st, Q a st → Q' a st) : wp E r Q' := by
  cases r <;> first | exact hq _ _ h | exact h
theorem wp_mono2 {E' : Ex → Store → Prop} {r : R α} {Q Q' : α → Store → Prop} (h : wp E r Q) (hq : ∀ a st, Q a st → Q' a st) (he : ∀ x st, E x st → E' x st) : wp E' r Q' := by
  cases r <;> first | exact hq _ _ h | exact he _ _ h | exact h
theorem wp_noE {r : R α} {Q : α → Store → Prop} (h : wp noE r Q) : wp E r Q := by
  cases r <;> first | exact h | exact h.elim
theorem wf_mono {P P' : Pf} {r : F} (h : wf P r) (h1 : ∀ σ st, P.nx σ st → P'.nx σ st) (h2 : ∀ d st, P.rt d st → P'.rt d st) (h3 : ∀ σ st, P.bk σ st → P'.bk σ st) (h4 : ∀ σ st, P.ct σ st → P'.ct σ st) (h5 : ∀ x σ st, P.er x σ st → P'.er x σ st) : wf P' r := by
  cases r <;> first | exact h1 _ _ h | exact h2 _ _ h | exact h3 _ _ h | exact h4 _ _ h | exact h5 _ _ _ h | exact h
theorem wp_ex {r : R α} {Q : α → Store → Prop} (h : wp noE r Q) : ∃ a st, r = .ok a st ∧ Q a st := by
  cases r with
  | ok a st => exact ⟨a, st, rfl, h⟩
  | _ => exact h.elim
@[simp] theorem wp_ok (a : α) (st : Store) (Q : α → Store → Prop) : wp E (.ok a st) Q = Q a st := rfl
@[simp] theorem wp_err (x : Ex) (st : Store) (Q : α → Store → Prop) : wp E (.err x st) Q = E x st := rfl
@[simp] theorem wp_bad (Q : α → Store → Prop) : wp E (.bad : R α) Q = False := rfl
theorem wp_eq {r : R α} {a : α} {st : Store} {Q : α → Store → Prop} (h : r = .ok a st) : wp E r Q = Q a st := by rw [h]; rfl
theorem wp_bnd (m : M α) (k : α → M β) (st : Store) (Q : β → Store → Prop) : wp E (M.bnd m k st) Q = wp E (m st) fun a st' => wp E (k a st') Q := by
  unfold M.bnd
  cases m st <;> rfl
theorem wp_opt (o : Option α) (st : Store) (Q : α → Store → Prop) : wp E (match o with | some d => (.ok d st : R α) | none => .bad) Q = ∃ d, o = some d ∧ Q d st := by
  cases o with
  | none => simp [wp]
  | some d => simp [wp]
theorem wf_on (m : M α) (σ : Env) (st : Store) (k : α → Store → F) (P : Pf) : wf P (F.on m σ st k) = wp (fun x st' => P.er x σ st') (m st) fun a st' => wf P (k a st') := by
  unfold F.on
  cases m st <;> rfl
theorem wp_ite {c : Prop} [Decidable c] (a b : R α) (Q : α → Store → Prop) : wp E (if c then a else b) Q = if c then wp E a Q else wp E b Q := by
  split <;> rfl
theorem wf_ite {c : Prop} [Decidable c] (a b : F) (P : Pf) : wf P (if c then a else b) = if c then wf P a else wf P b := by
  split <;> rfl
end

@[simp] theorem cd_non : C.non.d = .non := rfl
@[simp] theorem cd_bl (b : Bool) : (C.bl b).d = .bl b := rfl
@[simp] theorem cd_int (i : Int) : (C.int i).d = .int i := rfl
@[simp] theorem cd_str (x : Str) : (C.str x).d = .str x := rfl
section
variable (Φ : Str → List D → M D) (G : Str → Option D) (Er : Ex → Store → Prop) (σ : Env) (st : Store) (Q : D → Store → Prop) (QL : List D → Store → Prop) (QB : Bool → Store → Prop) (QO : Option Int → Store → Prop)
@[simp] theorem w_var (i : Nat) : wp Er (ev Φ G (.var i) σ st) Q = ∃ d, σ[i]? = some (some d) ∧ Q d st := by
  conv => lhs; unfold ev
  cases e : σ[i]? with
  | none => simp [wp]
  | some o => cases o <;> simp [wp]
@[simp] theorem w_cst (c : C) : wp Er (ev Φ G (.cst c) σ st) Q = Q c.d st := by unfold ev; rfl
@[simp] theorem w_glo (x : Str) : wp Er (ev Φ G (.glo x) σ st) Q = ∃ d, G x = some d ∧ Q d st := by
  conv => lhs; unfold ev ofO
  cases e : G x <;> simp [wp]
@[simp] theorem w_bin (op : Operator) (a b : E) : wp Er (ev Φ G (.bin op a b) σ st) Q = wp Er (ev Φ G a σ st) fun x s1 => wp Er (ev Φ G b σ s1) fun y s2 => ∃ d, binO op x y s2 = some d ∧ Q d s2 := by
  conv => lhs; unfold ev
  simp only [wp_bnd]
  congr 1; funext x s1; congr 1; funext y s2
  cases binO op x y s2 <;> simp [wp]
@[simp] theorem w_neg (a : E) : wp Er (ev Φ G (.neg a) σ st) Q = wp Er (ev Φ G a σ st) fun x s1 => ∃ d, negO x = some d ∧ Q d s1 := by
  conv => lhs; unfold ev ofO
  simp only [wp_bnd]
  congr 1; funext x s1
  cases negO x <;> simp [wp]
@[simp] theorem w_cmp (op : CmpOp) (a b : E) : wp Er (ev Φ G (.cmp op a b) σ st) Q = wp Er (ev Φ G a σ st) fun x s1 => wp Er (ev Φ G b σ s1) fun y s2 => ∃ d, cmpO op x y s2 = some d ∧ Q (.bl d) s2 := by
  conv => lhs; unfold ev
  simp only [wp_bnd]
  congr 1; funext x s1; congr 1; funext y s2
  cases cmpO op x y s2 <;> simp [wp]
@[simp] theorem w_chn (op op' : CmpOp) (a b c : E) : wp Er (ev Φ G (.chn op op' a b c) σ st) Q = wp Er (ev Φ G a σ st) fun x s1 => wp Er (ev Φ G b σ s1) fun y s2 => (cmpO op x y s2 = some false ∧ Q (.bl false) s2) ∨
    (cmpO op x y s2 = some true ∧ wp Er (ev Φ G c σ s2) fun z s3 => ∃ d, cmpO op' y z s3 = some d ∧ Q (.bl d) s3) := by
  conv => lhs; unfold ev
  simp only [wp_bnd]
  congr 1; funext x s1; congr 1; funext y s2
  cases cmpO op x y s2 with
  | none => simp [wp]
  | some b =>
    cases b with
    | false => simp [wp]
    | true =>
      simp only [wp_bnd, Option.some.injEq, Bool.true_eq_false, false_and, false_or, true_and]
      congr 1; funext z s3
      cases cmpO op' y z s3 <;> simp [wp]
/-- by its truth -/
def byB (x : D) (t f : Prop) : Prop := match x with
  | .bl true => t
  | .bl false => f
  | _ => False
@[simp] theorem byB_t (t f : Prop) : byB (.bl true) t f = t := rfl
@[simp] theorem byB_f (t f : Prop) : byB (.bl false) t f = f := rfl
@[simp] theorem byB_bl (b : Bool) (t f : Prop) : byB (.bl b) t f = if b then t else f := by cases b <;> rfl
@[simp] theorem w_and (a b : E) : wp Er (ev Φ G (.and a b) σ st) Q = wp Er (ev Φ G a σ st) fun x s1 => byB x (wp Er (ev Φ G b σ s1) Q) (Q (.bl false) s1) := by
  conv => lhs; unfold ev
  simp only [wp_bnd]
  congr 1; funext x s1
  cases x with
  | bl b => cases b <;> rfl
  | _ => rfl
@[simp] theorem w_or (a b : E) : wp Er (ev Φ G (.or a b) σ st) Q = wp Er (ev Φ G a σ st) fun x s1 => byB x (Q (.bl true) s1) (wp Er (ev Φ G b σ s1) Q) := by
  conv => lhs; unfold ev
  simp only [wp_bnd]
  congr 1; funext x s1
  cases x with
  | bl b => cases b <;> rfl
  | _ => rfl
@[simp] theorem w_not (a : E) : wp Er (ev Φ G (.not a) σ st) Q = wp Er (ev Φ G a σ st) fun x s1 => byB x (Q (.bl false) s1) (Q (.bl true) s1) := by
  conv => lhs; unfold ev
  simp only [wp_bnd]
  congr 1; funext x s1
  cases x with
  | bl b => cases b <;> rfl
  | _ => rfl
@[simp] def notO : D → Option Bool
  | .bl b => some (!b)
  | .int i => some (!(i != 0))
  | _ => none
@[simp] theorem w_notV (a : E) : wp Er (ev Φ G (.notV a) σ st) Q = wp Er (ev Φ G a σ st) fun x s1 => ∃ b, notO x = some b ∧ Q (.bl b) s1 := by
  conv => lhs; unfold ev
  simp only [wp_bnd]
  congr 1; funext x s1
  have key : ∀ (c : Bool), Q (.bl c) s1 = ∃ b, some c = some b ∧ Q (.bl b) s1 := fun c => propext ⟨fun h => ⟨c, rfl, h⟩, fun ⟨_, e, h⟩ => by cases e; exact h⟩
  cases x with
  | bl b => exact key _
  | int i => exact key _
  | _ => simp [wp, notO]
@[simp] theorem w_ite (c a b : E) : wp Er (ev Φ G (.ite c a b) σ st) Q = wp Er (ev Φ G c σ st) fun x s1 => byB x (wp Er (ev Φ G a σ s1) Q) (wp Er (ev Φ G b σ s1) Q) := by
  conv => lhs; unfold ev
  simp only [wp_bnd]
  congr 1; funext x s1
  cases x with
  | bl b => cases b <;> rfl
  | _ => rfl
@[simp] theorem w_nil : wp Er (evs Φ G [] σ st) QL = QL [] st := by unfold evs; rfl
@[simp] theorem w_cons (e : E) (es : List E) : wp Er (evs Φ G (e :: es) σ st) QL = wp Er (ev Φ G e σ st) fun d s1 => wp Er (evs Φ G es σ s1) fun ds s2 => QL (d :: ds) s2 := by
  conv => lhs; unfold evs
  simp only [wp_bnd]
  rfl
@[simp] theorem w_tup (es : List E) : wp Er (ev Φ G (.tup es) σ st) Q = wp Er (evs Φ G es σ st) fun ds s1 => sizeOk ds.length = true ∧ Q (.tup false ds) s1 := by
  conv => lhs; unfold ev
  simp only [wp_bnd]
  congr 1; funext ds s1
  by_cases h : sizeOk ds.length = true <;> simp [h, wp]
@[simp] theorem w_lst (es : List E) : wp Er (ev Φ G (.lst es) σ st) Q = wp Er (evs Φ G es σ st) fun ds s1 => sizeOk ds.length = true ∧ Q (.lst ds) s1 := by
  conv => lhs; unfold ev
  simp only [wp_bnd]
  congr 1; funext ds s1
  by_cases h : sizeOk ds.length = true <;> simp [h, wp]
@[simp] theorem w_dnew (t : Bool) : wp Er (ev Φ G (.dnew t) σ st) Q = Q (if t then .dt [] [] else .dk [] []) st := by unfold ev; rfl
@[simp] theorem w_idx (a i : E) : wp Er (ev Φ G (.idx a i) σ st) Q = wp Er (ev Φ G a σ st) fun x s1 => wp Er (ev Φ G i σ s1) fun y s2 => ∃ d, idxO x y s2 = some d ∧ Q d s2 := by
  conv => lhs; unfold ev
  simp only [wp_bnd]
  congr 1; funext x s1; congr 1; funext y s2
  cases idxO x y s2 <;> simp [wp]
@[simp] theorem w_none : wp Er (evo Φ G none σ st) QO = QO none st := by unfold evo; rfl
@[simp] theorem w_some (e : E) : wp Er (evo Φ G (some e) σ st) QO = wp Er (ev Φ G e σ st) fun x s1 => ∃ i, x = .int i ∧ QO (some i) s1 := by
  conv => lhs; unfold evo
  simp only [wp_bnd]
  congr 1; funext x s1
  cases x <;> simp [wp]
@[simp] theorem w_slc (a : E) (lo hi : Option E) : wp Er (ev Φ G (.slc a lo hi) σ st) Q = wp Er (ev Φ G a σ st) fun x s1 => wp Er (evo Φ G lo σ s1) fun l s2 => wp Er (evo Φ G hi σ s2) fun h s3 => ∃ d, slcO x l h s3 = some d ∧ Q d s3 := by
  conv => lhs; unfold ev
  simp only [wp_bnd]
  congr 1; funext x s1; congr 1; funext l s2; congr 1; funext h s3
  cases slcO x l h s3 <;> simp [wp]
@[simp] theorem w_rev (a : E) : wp Er (ev Φ G (.rev a) σ st) Q = wp Er (ev Φ G a σ st) fun x s1 => ∃ d, revO x s1 = some d ∧ Q d s1 := by
  conv => lhs; unfold ev
  simp only [wp_bnd]
  congr 1; funext x s1
  cases revO x s1 <;> simp [wp]
@[simp] theorem w_fn (f : Str) (es : List E) : wp Er (ev Φ G (.fn f es) σ st) Q = wp Er (evs Φ G es σ st) fun ds s1 => wp Er (Φ f ds s1) Q := by
  conv => lhs; unfold ev
  simp only [wp_bnd]
@[simp] theorem w_bi (b : B) (es : List E) : wp Er (ev Φ G (.bi b es) σ st) Q = wp Er (evs Φ G es σ st) fun ds s1 => ∃ d, biO b ds s1 = some d ∧ Q d s1 := by
  conv => lhs; unfold ev
  simp only [wp_bnd]
  congr 1; funext ds s1
  cases biO b ds s1 <;> simp [wp]
@[simp] theorem w_mth (m : Mt) (o : E) (es : List E) : wp Er (ev Φ G (.mth m o es) σ st) Q = wp Er (ev Φ G o σ st) fun x s1 => mthPre m x s1 = true ∧ wp Er (evs Φ G es σ s1) fun ds s2 => wp Er (mthM m x ds s2) Q := by
  conv => lhs; unfold ev
  simp only [wp_bnd]
  congr 1; funext x s1
  by_cases h : mthPre m x s1 = true <;> simp [h, wp_bnd, wp_bad]
@[simp] def newO : D → Option MO
  | .lst xs => some (.lst xs)
  | .dk ks vs => some (.dk ks vs)
  | .dt ks vs => some (.dt ks vs)
  | _ => none
@[simp] theorem w_mu (a : E) : wp Er (ev Φ G (.mu a) σ st) Q = wp Er (ev Φ G a σ st) fun x s1 => ∃ o, newO x = some o ∧ Q (.ref s1.length) (s1 ++ [o]) := by
  conv => lhs; unfold ev
  simp only [wp_bnd]
  congr 1; funext x s1
  cases x <;> simp [wp, newO]
@[simp] theorem w_test0 : wp Er (evt Φ G none σ st) QB = QB true st := by unfold evt; rfl
@[simp] theorem w_test (e : E) : wp Er (evt Φ G (some e) σ st) QB = wp Er (ev Φ G e σ st) fun x s1 => ∃ b, x = .bl b ∧ QB b s1 := by
  conv => lhs; unfold evt
  simp only [wp_bnd]
  congr 1; funext x s1
  cases x <;> simp [wp]
/-! ### statements -/
variable (P : Pf)
@[simp] theorem x_nil : wf P (execs Φ G [] σ st) = P.nx σ st := by unfold execs; rfl
@[simp] theorem x_cons (s : S) (ss : List S) : wf P (execs Φ G (s :: ss) σ st) = wf { P with nx := fun σ' st' => wf P (execs Φ G ss σ' st') } (exec Φ G s σ st) := by
  conv => lhs; unfold execs
  cases exec Φ G s σ st <;> rfl
@[simp] theorem x_set (i : Nat) (e : E) : wf P (exec Φ G (.set i e) σ st) = wp (fun x st' => P.er x σ st') (ev Φ G e σ st) fun d st' => P.nx (σ.set i (some d)) st' := by
  conv => lhs; unfold exec
  rw [wf_on]; rfl
@[simp] theorem x_unp (tg : Tg) (e : E) : wf P (exec Φ G (.unp tg e) σ st) = wp (fun x st' => P.er x σ st') (ev Φ G e σ st) fun d st' => ∃ σ', bindT tg d σ = some σ' ∧ P.nx σ' st' := by
  conv => lhs; unfold exec
  rw [wf_on]
  congr 1; funext d st'
  cases bindT tg d σ <;> simp [wf]
@[simp] theorem x_par (is : List Nat) (es : List E) : wf P (exec Φ G (.par is es) σ st) = wp (fun x st' => P.er x σ st') (evs Φ G es σ st) fun ds st' => ∃ σ', setL is ds σ = some σ' ∧ P.nx σ' st' := by
  conv => lhs; unfold exec
  rw [wf_on]
  congr 1; funext d st'
  cases setL is d σ <;> simp [wf]
@[simp] theorem x_put (a i v : E) : wf P (exec Φ G (.put a i v) σ st) = wp (fun x st' => P.er x σ st') (ev Φ G v σ st) fun d s1 => wp (fun x st' => P.er x σ st') (ev Φ G a σ s1) fun x s2 => wp (fun x st' => P.er x σ st') (ev Φ G i σ s2) fun y s3 => ∃ s4, putO x y d s3 = some s4 ∧ P.nx σ s4 := by
  conv => lhs; unfold exec
  simp only [wf_on]
  congr 1; funext d s1; congr 1; funext x s2; congr 1; funext y s3
  cases putO x y d s3 <;> simp [wf]
@[simp] theorem x_puts (as : List (E × E)) (es : List E) : wf P (exec Φ G (.puts as es) σ st) = wp (fun x st' => P.er x σ st') (evs Φ G es σ st) fun ds s1 => wf P (putsF Φ G as ds σ s1) := by
  conv => lhs; unfold exec
  simp only [wf_on]
@[simp] theorem x_puts0 : wf P (putsF Φ G [] [] σ st) = P.nx σ st := rfl
@[simp] theorem x_puts1 (a i : E) (as : List (E × E)) (d : D) (ds : List D) : wf P (putsF Φ G ((a, i) :: as) (d :: ds) σ st) = wp (fun x st' => P.er x σ st') (ev Φ G a σ st) fun x s2 => wp (fun x st' => P.er x σ st') (ev Φ G i σ s2) fun y s3 => ∃ s4, putO x y d s3 = some s4 ∧ wf P (putsF Φ G as ds σ s4) := by
  conv => lhs; unfold putsF
  simp only [wf_on]
  congr 1; funext x s2; congr 1; funext y s3
  cases putO x y d s3 <;> simp [wf]
@[simp] theorem x_expr (e : E) : wf P (exec Φ G (.expr e) σ st) = wp (fun x st' => P.er x σ st') (ev Φ G e σ st) fun _ st' => P.nx σ st' := by
  conv => lhs; unfold exec
  rw [wf_on]; rfl
@[simp] theorem x_iff (c : E) (a b : List S) : wf P (exec Φ G (.iff c a b) σ st) = wp (fun x st' => P.er x σ st') (ev Φ G c σ st) fun x s1 => byB x (wf P (execs Φ G a σ s1)) (wf P (execs Φ G b σ s1)) := by
  conv => lhs; unfold exec
  rw [wf_on, w_test]
  congr 1; funext x s1
  cases x with
  | bl b => cases b <;> simp [byB]
  | _ => simp [byB]
@[simp] theorem x_ret (e : E) : wf P (exec Φ G (.ret e) σ st) = wp (fun x st' => P.er x σ st') (ev Φ G e σ st) fun d st' => P.rt d st' := by
  conv => lhs; unfold exec
  rw [wf_on]; rfl
@[simp] theorem x_retN : wf P (exec Φ G .retN σ st) = P.rt .non st := by unfold exec; rfl
@[simp] theorem x_pass : wf P (exec Φ G .pass σ st) = P.nx σ st := by unfold exec; rfl
@[simp] theorem x_brk : wf P (exec Φ G .brk σ st) = P.bk σ st := by unfold exec; rfl
@[simp] theorem x_ct : wf P (exec Φ G .cont σ st) = P.ct σ st := by unfold exec; rfl
@[simp] theorem x_frz (i : Nat) : wf P (exec Φ G (.frz i) σ st) = wf P (frzF i σ st) := by unfold exec; rfl
@[simp] theorem x_raise0 (c : Str) : wf P (exec Φ G (.raise c none) σ st) = P.er ⟨c, none⟩ σ st := by unfold exec; rfl
@[simp] theorem x_raise1 (c f : Str) (e : E) : wf P (exec Φ G (.raise c (some (f, e))) σ st) = wp (fun x st' => P.er x σ st') (ev Φ G e σ st) fun d st' => P.er ⟨c, some (f, d)⟩ σ st' := by
  conv => lhs; unfold exec
  rw [wf_on]; rfl
@[simp] theorem x_try (body : List S) (hs : List Hd) (ks : List Str) : wf P (exec Φ G (.try_ body hs ks) σ st) = wf { P with er := fun x σ' st' => ks.contains x.c = true ∧ wf P (hdF hs x σ' st') } (execs Φ G body σ st) := by
  rw [exec_try]
  cases execs Φ G body σ st with
  | err x σ1 st1 =>
    show wf P (if (!ks.contains x.c) = true then F.bad else hdF hs x σ1 st1) = (ks.contains x.c = true ∧ wf P (hdF hs x σ1 st1))
    by_cases h : ks.contains x.c = true
    · rw [h]; simp
    · rw [Bool.not_eq_true] at h
      rw [h]; simp [wf]
  | _ => rfl
@[simp] theorem x_for (tg : Tg) (k : IK) (src : List E) (body : List S) : wf P (exec Φ G (.for_ tg k src body) σ st) = wp (fun x st' => P.er x σ st') (evs Φ G src σ st) fun ds s1 => ∃ xs, iterO k ds = some xs ∧ wf P (forF tg (fun σ st => execs Φ G body σ st) xs σ s1) := by
  conv => lhs; unfold exec
  rw [wf_on]
  congr 1; funext ds s1
  cases iterO k ds <;> simp [wf]
end
section
variable {Φ : Str → List D → M D} {G : Str → Option D} {Er : Ex → Store → Prop} {P : Pf}
/-- a loop, turn by turn: I before each turn, of what is left -/
theorem forF_wf {tg : Tg} {b : Env → Store → F} (I : List D → Env → Store → Prop) (turn : ∀ x xs σ st, I (x :: xs) σ st → ∃ σ1, bindT tg x σ = some σ1 ∧ wf { P with nx := I xs, ct := I xs } (b σ1 st)) (last : ∀ σ st, I [] σ st → P.nx σ st) (brk : ∀ σ st, P.bk σ st → P.nx σ st) :
    ∀ (xs : List D) (σ : Env) (st : Store), I xs σ st → wf P (forF tg b xs σ st)
  | [], σ, st, h => last σ st h
  | x :: xs, σ, st, h => by
    obtain ⟨σ1, h1, h2⟩ := turn x xs σ st h
    unfold forF
    rw [h1]
    dsimp only
    cases e : b σ1 st with
    | nx σ2 st2 => rw [e] at h2; exact forF_wf I turn last brk xs σ2 st2 h2
    | ct σ2 st2 => rw [e] at h2; exact forF_wf I turn last brk xs σ2 st2 h2
    | brk σ2 st2 => rw [e] at h2; exact brk _ _ h2
    | ret d st2 => rw [e] at h2; exact h2
    | err x σ2 st2 => rw [e] at h2; exact h2
    | bad => rw [e] at h2; exact h2
/-- with a break: what it leaves is what comes behind the loop -/
theorem forF_wfB {tg : Tg} {b : Env → Store → F} (I : List D → Env → Store → Prop) (turn : ∀ x xs σ st, I (x :: xs) σ st → ∃ σ1, bindT tg x σ = some σ1 ∧ wf { P with nx := I xs, ct := I xs, bk := P.nx } (b σ1 st)) (last : ∀ σ st, I [] σ st → P.nx σ st) :
    ∀ (xs : List D) (σ : Env) (st : Store), I xs σ st → wf P (forF tg b xs σ st)
  | [], σ, st, h => last σ st h
  | x :: xs, σ, st, h => by
    obtain ⟨σ1, h1, h2⟩ := turn x xs σ st h
    unfold forF
    rw [h1]
    dsimp only
    cases e : b σ1 st with
    | nx σ2 st2 => rw [e] at h2; exact forF_wfB I turn last xs σ2 st2 h2
    | ct σ2 st2 => rw [e] at h2; exact forF_wfB I turn last xs σ2 st2 h2
    | brk σ2 st2 => rw [e] at h2; exact h2
    | ret d st2 => rw [e] at h2; exact h2
    | err x σ2 st2 => rw [e] at h2; exact h2
    | bad => rw [e] at h2; exact h2
/-- a while loop: f falls at each turn -/
theorem whl_wf {c : E} {body : List S} (I : Env → Store → Prop) (f : Env → Store → Nat)
    (turn : ∀ σ st, I σ st → wp (fun x st' => P.er x σ st') (ev Φ G c σ st) fun x s1 => byB x (wf { P with nx := fun σ' st' => I σ' st' ∧ f σ' st' < f σ st, ct := fun σ' st' => I σ' st' ∧ f σ' st' < f σ st, bk := P.nx } (execs Φ G body σ s1)) (P.nx σ s1)) (σ : Env) (st : Store) (h : I σ st) :
    wf P (exec Φ G (.whl c body) σ st) := by
  have e0 : exec Φ G (.whl c body) σ st = whlF (fun σ => evt Φ G (some c) σ) (fun σ st => execs Φ G body σ st) σ st := by unfold exec; rfl
  rw [e0]
  clear e0
  generalize hn : f σ st = n
  induction n using Nat.strongRecOn generalizing σ st with
  | ind n ih =>
    have t := turn σ st h
    rw [whlF_eq]
    have e1 : evt Φ G (some c) σ st = M.bnd (ev Φ G c σ) (fun x => match x with
      | .bl b => .ret b
      | _ => .bad) st := by
      conv => lhs; unfold evt
      all_goals rfl
    rw [e1]
    unfold M.bnd
    cases e : ev Φ G c σ st with
    | bad => rw [e] at t; exact t.elim
    | err x st1 => rw [e] at t; exact t
    | ok d st1 =>
      rw [e, wp_ok] at t
      cases d with
      | bl b =>
        cases b with
        | false => exact t
        | true =>
          rw [byB_t] at t
          dsimp only [M.ret]
          cases e2 : execs Φ G body σ st1 with
          | nx σ2 st2 => rw [e2] at t; exact ih _ (hn ▸ t.2) σ2 st2 t.1 rfl
          | ct σ2 st2 => rw [e2] at t; exact ih _ (hn ▸ t.2) σ2 st2 t.1 rfl
          | brk σ2 st2 => rw [e2] at t; exact t
          | ret d st2 => rw [e2] at t; exact t
          | err x σ2 st2 => rw [e2] at t; exact t
          | bad => rw [e2] at t; exact t
      | _ => exact t.elim
end
end MN
set_option Elab.async false
set_option linter.all false
set_option maxRecDepth 100000
/-! MiniX: what is wanted of a comprehension, of a call. -/
namespace MN
open PySem
section
variable {Φ : Str → List D → M D} {G : Str → Option D} {Er : Ex → Store → Prop}
/-- a comprehension's turns: I of what is left, what is found -/
theorem compM_wp {f : D → M (Option D)} (I : List D → List D → Store → Prop) (turn : ∀ x xs acc st, I (x :: xs) acc st → wp noE (f x st) fun o s1 => match o with
      | some y => sizeOk (acc.length + 1) = true ∧ I xs (acc ++ [y]) s1
      | none => I xs acc s1) : ∀ (xs acc : List D) (st : Store), I xs acc st → wp noE (compM f xs acc st) fun ys s1 => I [] ys s1
  | [], acc, st, h => h
  | x :: xs, acc, st, h => by
    have t := turn x xs acc st h
    unfold compM
    rw [wp_bnd]
    refine wp_mono t fun o s1 q => ?_
    cases o with
    | none => exact compM_wp I turn xs acc s1 q
    | some y =>
      dsimp only at q ⊢
      rw [if_pos q.1]
      exact compM_wp I turn xs (acc ++ [y]) s1 q.2
theorem compM_pure {f : D → M (Option D)} {g : D → Option D} {st : Store} : ∀ {xs acc : List D}, (∀ x ∈ xs, f x st = .ok (g x) st) → sizeOk (acc.length + xs.length) = true → compM f xs acc st = .ok (acc ++ xs.filterMap g) st
  | [], acc, _, _ => by simp [compM]
  | x :: xs, acc, h, hs => by
    have hz : acc.length + (x :: xs).length ≤ 16000000 := of_decide_eq_true hs
    simp only [List.length_cons] at hz
    unfold compM M.bnd
    rw [h x List.mem_cons_self]
    cases e : g x with
    | none =>
      dsimp only
      rw [compM_pure (fun y hy => h y (List.mem_cons_of_mem _ hy)) (decide_eq_true (by omega)), List.filterMap_cons, e]
    | some y =>
      dsimp only
      have hk : sizeOk (acc.length + 1) = true := decide_eq_true (by omega)
      rw [if_pos hk, compM_pure (fun y hy => h y (List.mem_cons_of_mem _ hy)) (decide_eq_true (by simp; omega)), List.filterMap_cons, e]
      simp
@[simp] theorem w_turn {own : List Nat} {tg : Tg} {test : Option E} {elt : E} {σ : Env} {x : D} {st : Store} {Q : Option D → Store → Prop} : wp Er (turnM Φ G own tg test elt σ x st) Q =
    ∃ σ1, bindT tg x (wipeE σ own) = some σ1 ∧ wp Er (evt Φ G test σ1 st) fun b s1 => if b then wp Er (ev Φ G elt σ1 s1) (fun y s2 => Q (some y) s2) else Q none s1 := by
  unfold turnM
  cases e : bindT tg x (wipeE σ own) with
  | none => simp [wp]
  | some σ1 =>
    simp only [Option.some.injEq, exists_eq_left', wp_bnd]
    congr 1; funext b s1
    cases b
    · rfl
    · simp only [if_true, wp_bnd]
      rfl
@[simp] theorem w_comp {own : List Nat} {tg : Tg} {k : IK} {src : List E} {test : Option E} {elt : E} {σ : Env} {st : Store} {Q : D → Store → Prop} : wp Er (ev Φ G (.comp own tg k src test elt) σ st) Q =
    wp Er (evs Φ G src σ st) fun ds s1 => ∃ xs, iterO k ds = some xs ∧ wp noE (compM (turnM Φ G own tg test elt σ) xs [] s1) fun ys s2 => Q (.lst ys) s2 := by
  rw [@comp_eq ⟨[], fun _ => none⟩]
  unfold srcM ofO
  simp only [wp_bnd]
  congr 1; funext ds s1
  cases e : iterO k ds with
  | none => simp [wp]
  | some xs =>
    simp only [Option.some.injEq, exists_eq_left']
    rw [wp_ok]
    try rw [wp_bnd]
    unfold noErr
    cases compM (turnM Φ G own tg test elt σ) xs [] s1 <;> rfl
/-- a call of a def that leaves no garbage -/
theorem w_call {fd : Fd} {ds : List D} {st : Store} {Q : D → Store → Prop} (hl : ds.length = fd.np) (hn : fd.np ≤ fd.n) (hg : fd.gc = false)
    (h : wf (.fin Q Er) (execs Φ G fd.body (ds.map some ++ List.replicate (fd.n - ds.length) none) st)) : wp Er (callB Φ G fd ds st) Q := by
  unfold callB
  rw [if_pos ⟨hl, hn⟩]
  revert h
  cases execs Φ G fd.body (ds.map some ++ List.replicate (fd.n - ds.length) none) st <;> intro h <;> simp only [hg] <;> first | exact h | exact h.elim
/-- a call of a def whose garbage is thrown away -/
theorem w_callG {fd : Fd} {ds : List D} {st : Store} {Q : D → Store → Prop} (hl : ds.length = fd.np) (hn : fd.np ≤ fd.n) (hg : fd.gc = true)
    (h : wf (.fin (fun d st' => (lowD st.length d && cutOk st.length st') = true ∧ Q d (st'.take st.length)) (fun x st' => (lowX st.length x && cutOk st.length st') = true ∧ Er x (st'.take st.length))) (execs Φ G fd.body (ds.map some ++ List.replicate (fd.n - ds.length) none) st)) : wp Er (callB Φ G fd ds st) Q := by
  unfold callB
  rw [if_pos ⟨hl, hn⟩]
  revert h
  cases execs Φ G fd.body (ds.map some ++ List.replicate (fd.n - ds.length) none) st with
  | nx σ st' =>
    intro h
    simp only [hg]
    have h' : (lowD st.length .non && cutOk st.length st') = true ∧ Q .non (st'.take st.length) := h
    have e : cutOk st.length st' = true := by have := h'.1; simp only [Bool.and_eq_true] at this; exact this.2
    rw [if_pos trivial, if_pos e]
    exact h'.2
  | ret d st' =>
    intro h
    simp only [hg]
    have h' : (lowD st.length d && cutOk st.length st') = true ∧ Q d (st'.take st.length) := h
    rw [if_pos trivial, if_pos h'.1]
    exact h'.2
  | err x σ st' =>
    intro h
    simp only [hg]
    have h' : (lowX st.length x && cutOk st.length st') = true ∧ Er x (st'.take st.length) := h
    rw [if_pos trivial, if_pos h'.1]
    exact h'.2
  | brk _ _ => exact fun h => h.elim
  | ct _ _ => exact fun h => h.elim
  | bad => exact fun h => h.elim
theorem callN_succ {T : Str → Option Fd} {n : Nat} {f : Str} {fd : Fd} (h : T f = some fd) (ds : List D) (st : Store) : callN T G (n + 1) f ds st = callB (callN T G n) G fd ds st := by
  conv => lhs; unfold callN
  rw [h]
/-- a comprehension whose turns only look -/
theorem compM_map {f : D → M (Option D)} {g : D → D} {st : Store} {xs : List D} (h : ∀ x ∈ xs, wp noE (f x st) fun o s => o = some (g x) ∧ s = st) (hs : sizeOk xs.length = true) : compM f xs [] st = .ok (xs.map g) st := by
  have e : ∀ x ∈ xs, f x st = .ok ((fun x => some (g x)) x) st := fun x hx => by
    obtain ⟨o, s, e, rfl, rfl⟩ := wp_ex (h x hx)
    exact e
  rw [compM_pure e (by simpa using hs)]
  simp
theorem compM_keep {f : D → M (Option D)} {g : D → Option D} {st : Store} {xs : List D} (h : ∀ x ∈ xs, wp noE (f x st) fun o s => o = g x ∧ s = st) (hs : sizeOk xs.length = true) : compM f xs [] st = .ok (xs.filterMap g) st := by
  have e : ∀ x ∈ xs, f x st = .ok (g x) st := fun x hx => by
    obtain ⟨o, s, e, rfl, rfl⟩ := wp_ex (h x hx)
    exact e
  rw [compM_pure e (by simpa using hs)]
  simp
theorem blsOf_map {α : Type} (f : α → Bool) : ∀ xs : List α, blsOf (xs.map fun x => D.bl (f x)) = some (xs.map f)
  | [] => rfl
  | x :: xs => by simp [blsOf, blsOf_map f xs]
theorem intsOf_map : ∀ ns : List Int, intsOf (ns.map D.int) = some ns
  | [] => rfl
  | x :: xs => by simp [intsOf, intsOf_map xs]
theorem cutL_from1 {α : Type} (xs : List α) : cutL xs (some 1) none = xs.drop 1 := by
  unfold cutL
  cases xs with
  | nil => simp [HT.sIx]
  | cons x xs => simp [HT.sIx]
end
end MN
set_option Elab.async false
set_option linter.all false
set_option maxRecDepth 100000
namespace MT
open PySem MN
def prog := PySem.Challenge.pw_milesuntold_k16_errors_and_their_classes
def fdOf (x : PySem.Str) : Option (Arguments × List Stmt × Scope) := prog.main.body.findSome? fun
  | .FunctionDef n a b _ _ _ sc _ _ _ => if n == x then some (a, b, sc) else none
  | _ => none
def fdG (x : PySem.Str) : Arguments × List Stmt × Scope := (fdOf x).getD (⟨[], [], none, [], [], none, []⟩, [], ⟨.function, [], false, false, []⟩)
def dd (x : PySem.Str) (ps N : List PySem.Str) (f : Fd) : Dd := ⟨x, (fdG x).1, (fdG x).2.1, (fdG x).2.2, ps, N, f⟩
def N__law_well : List PySem.Str := ["script", "k", "cell"]
def B__law_well : List S := [
  .set 2 (.ite (.cmp .Lt (.var 1) (.bi .len [(.var 0)])) (.bi .abs [(.bi .int [(.idx (.var 0) (.var 1))])]) (.bin .Add (.bin .Mult (.cst (.int 83)) (.var 1)) (.cst (.int 29)))),
  .ret (.mu (.lst [(.ite (.cmp .GtE (.var 2) (.bin .Pow (.cst (.int 10)) (.cst (.int 18)))) (.var 2) (.cst (.int 0))), (.bin .Mod (.bi .int [(.bin .Add (.bin .Add (.bin .Mod (.bi .int [(.var 2)]) (.cst (.int 2147478643))) (.bin .Mult (.cst (.int 90031)) (.var 1))) (.cst (.int 311)))]) (.cst (.int 2147478643)))]))]
def F__law_well : Fd := { np := 2, n := 3, body := B__law_well, gc := false }
def D__law_well : Dd := dd "_law_well" ["script", "k"] N__law_well F__law_well
def N__law_lift : List PySem.Str := ["well", "wide", "stirred", "found"]
def B__law_lift : List S := [
  .iff (.cmp .Gt (.idx (.var 0) (.cst (.int 0))) (.cst (.int 0))) [
    .set 3 (.bin .Mod (.bi .int [(.idx (.var 0) (.cst (.int 0)))]) (.var 1)),
    .put (.var 0) (.cst (.int 0)) (.bin .FloorDiv (.bi .int [(.idx (.var 0) (.cst (.int 0)))]) (.var 1)),
    .ret (.var 3)] [
],
  .put (.var 0) (.cst (.int 1)) (.bin .Mod (.bi .int [(.bin .Add (.bin .Mult (.idx (.var 0) (.cst (.int 1))) (.cst (.int 49031))) (.cst (.int 3181)))]) (.cst (.int 2147478643))),
  .set 2 (.bin .Mod (.bin .Mult (.bi .int [(.idx (.var 0) (.cst (.int 1)))]) (.bin .Add (.bin .FloorDiv (.bi .int [(.idx (.var 0) (.cst (.int 1)))]) (.cst (.int 47))) (.cst (.int 29)))) (.cst (.int 2147478611))),
  .ret (.bin .Mod (.bi .int [(.bin .FloorDiv (.bi .int [(.var 2)]) (.cst (.int 21)))]) (.var 1))]
def F__law_lift : Fd := { np := 2, n := 4, body := B__law_lift, gc := false }
def D__law_lift : Dd := dd "_law_lift" ["well", "wide"] N__law_lift F__law_lift
def N__law_pick : List PySem.Str := ["well", "things"]
def B__law_pick : List S := [
  .ret (.idx (.var 1) (.fn (Str.ofString "_law_lift") [(.var 0), (.bi .len [(.var 1)])]))]
def F__law_pick : Fd := { np := 2, n := 2, body := B__law_pick, gc := false }
def D__law_pick : Dd := dd "_law_pick" ["well", "things"] N__law_pick F__law_pick
def N__law_all_errors : List PySem.Str := ["text", "number", "found"]
def B__law_all_errors : List S := [
  .set 2 (.lst [(.newx (Str.ofString "InvalidBook") Str.empty (.var 0)), (.newx (Str.ofString "InvalidSum") Str.empty (.var 0)), (.newx (Str.ofString "InvalidMiles") Str.empty (.var 0)), (.newx (Str.ofString "InvalidTrip") Str.empty (.var 0)), (.newx (Str.ofString "InvalidNet") Str.empty (.var 0))]),
  .set 2 (.bin .Add (.var 2) (.lst [(.newx (Str.ofString "InvalidNumber") Str.empty (.var 0)), (.newx (Str.ofString "InvalidPaper") Str.empty (.var 0)), (.newx (Str.ofString "InvalidQuestions") Str.empty (.var 0)), (.newx (Str.ofString "InvalidFact") Str.empty (.var 0))])),
  .set 2 (.bin .Add (.var 2) (.lst [(.newx (Str.ofString "InvalidIndex") Str.empty (.var 0)), (.newx (Str.ofString "Impossible") Str.empty (.var 0)), (.newx (Str.ofString "Unlike") Str.empty (.var 0)), (.newx (Str.ofString "NothingToUndo") Str.empty (.var 0))])),
  .ret (.bin .Add (.var 2) (.lst [(.newx (Str.ofString "TooMany") (Str.ofString "limit") (.var 1)), (.newx (Str.ofString "InvalidText") (Str.ofString "row") (.var 1))]))]
def F__law_all_errors : Fd := { np := 2, n := 3, body := B__law_all_errors, gc := false }
def D__law_all_errors : Dd := dd "_law_all_errors" ["text", "number"] N__law_all_errors F__law_all_errors
def N__law_classes : List PySem.Str := ["error", "found"]
def B__law_classes : List S := [
  .set 1 (.lst [(.isx (.var 0) (Str.ofString "InvalidBook")), (.isx (.var 0) (Str.ofString "InvalidSum")), (.isx (.var 0) (Str.ofString "InvalidMiles"))]),
  .set 1 (.bin .Add (.var 1) (.lst [(.isx (.var 0) (Str.ofString "InvalidTrip")), (.isx (.var 0) (Str.ofString "InvalidNet"))])),
  .set 1 (.bin .Add (.var 1) (.lst [(.isx (.var 0) (Str.ofString "InvalidNumber")), (.isx (.var 0) (Str.ofString "InvalidPaper"))])),
  .set 1 (.bin .Add (.var 1) (.lst [(.isx (.var 0) (Str.ofString "InvalidQuestions")), (.isx (.var 0) (Str.ofString "InvalidFact"))])),
  .set 1 (.bin .Add (.var 1) (.lst [(.isx (.var 0) (Str.ofString "InvalidIndex")), (.isx (.var 0) (Str.ofString "Impossible"))])),
  .set 1 (.bin .Add (.var 1) (.lst [(.isx (.var 0) (Str.ofString "Unlike")), (.isx (.var 0) (Str.ofString "NothingToUndo"))])),
  .ret (.bin .Add (.var 1) (.lst [(.isx (.var 0) (Str.ofString "TooMany")), (.isx (.var 0) (Str.ofString "InvalidText"))]))]
def F__law_classes : Fd := { np := 1, n := 2, body := B__law_classes, gc := false }
def D__law_classes : Dd := dd "_law_classes" ["error"] N__law_classes F__law_classes
def N_law : List PySem.Str := ["script", "k", "well", "some", "at", "text", "number", "here"]
def B_law : List S := [
  .for_ (.name 1) .range1 [(.bi .max2 [(.cst (.int 3)), (.bi .min2 [(.cst (.int 6)), (.bin .Add (.bi .len [(.var 0)]) (.cst (.int 2)))])])] [
    .set 2 (.fn (Str.ofString "_law_well") [(.var 0), (.var 1)]),
    .par [5, 6] [(.fn (Str.ofString "_law_pick") [(.var 2), (.lst [(.cst (.str (Str.ofString ""))), (.cst (.str (Str.ofString "a message"))), (.cst (.str (Str.ofString "x y")))])]), (.fn (Str.ofString "_law_lift") [(.var 2), (.cst (.int 1000))])],
    .set 3 (.fn (Str.ofString "_law_all_errors") [(.var 5), (.var 6)]),
    .for_ (.name 4) .range1 [(.bi .len [(.var 3)])] [
      .iff (.cmp .NotEq (.fn (Str.ofString "_law_classes") [(.idx (.var 3) (.var 4))]) (.comp [7] (.name 7) .range1 [(.bi .len [(.var 3)])] none (.cmp .Eq (.var 7) (.var 4)))) [
        .ret (.cst (.bl false))] [
],
      .iff (.or (.not (.isx (.idx (.var 3) (.var 4)) (Str.ofString "MileError"))) (.not (.isx (.idx (.var 3) (.var 4)) (Str.ofString "ValueError")))) [
        .ret (.cst (.bl false))] [
]],
    .iff (.or (.cmp .NotEq (.fldx (.idx (.var 3) (.cst (.int 13))) (Str.ofString "limit")) (.var 6)) (.cmp .NotEq (.fldx (.idx (.var 3) (.cst (.int 14))) (Str.ofString "row")) (.var 6))) [
      .ret (.cst (.bl false))] [
]],
  .ret (.cst (.bl true))]
def F_law : Fd := { np := 1, n := 8, body := B_law, gc := false }
def D_law : Dd := dd "law" ["script"] N_law F_law
def tb : Tb := ⟨[D__law_well, D__law_lift, D__law_pick, D__law_all_errors, D__law_classes, D_law], [], ["len", "abs", "int", "bool", "str", "sorted", "all", "any", "sum", "max", "min", "tuple", "list", "dict", "set", "zip", "range", "enumerate", "isinstance", "ValueError"], [("InvalidBook", none), ("InvalidSum", none), ("InvalidMiles", none), ("InvalidTrip", none), ("InvalidNet", none), ("InvalidNumber", none), ("InvalidPaper", none), ("InvalidQuestions", none), ("InvalidFact", none), ("InvalidIndex", none), ("Impossible", none), ("Unlike", none), ("NothingToUndo", none), ("TooMany", some "limit"), ("InvalidText", some "row")], true⟩
theorem okT : ∀ d ∈ tb.defs, chkD tb d = true := List.all_eq_true.mp (by decide +kernel)
theorem T__law_well : tb.T (Str.ofString "_law_well") = some F__law_well := by kernel_rfl
theorem T__law_lift : tb.T (Str.ofString "_law_lift") = some F__law_lift := by kernel_rfl
theorem T__law_pick : tb.T (Str.ofString "_law_pick") = some F__law_pick := by kernel_rfl
theorem T__law_all_errors : tb.T (Str.ofString "_law_all_errors") = some F__law_all_errors := by kernel_rfl
theorem T__law_classes : tb.T (Str.ofString "_law_classes") = some F__law_classes := by kernel_rfl
theorem T_law : tb.T (Str.ofString "law") = some F_law := by kernel_rfl
end MT
set_option Elab.async false
set_option linter.all false
set_option maxRecDepth 100000
set_option maxHeartbeats 2000000
namespace MT
open PySem MN
theorem wp_det {α : Type} {r : R α} {v : α} {st : Store} (h : wp noE r fun d s => d = v ∧ s = st) : r = .ok v st := by
  obtain ⟨a, s, e, rfl, rfl⟩ := wp_ex h
  exact e
noncomputable def Cn (n : Nat) : Str → List D → M D := callN tb.T tb.G n
theorem Cn_succ {n : Nat} {f : Str} {fd : Fd} (h : tb.T f = some fd) (ds : List D) (st : Store) : Cn (n + 1) f ds st = callB (Cn n) tb.G fd ds st := callN_succ h ds st
/-- plain data -/
def pl : D → Bool
  | .non => true
  | .bl _ => true
  | .int _ => true
  | .str _ => true
  | .tup _ _ => true
  | .lst _ => true
  | _ => false
def isFrom (d : D) (lo hi : Int) : Bool := match d with
  | .int i => decide (lo ≤ i) && decide (i ≤ hi)
  | _ => false
/-! ### greatest common parts -/
theorem gcd_step (x y : Nat) : Nat.gcd y (x % y) = Nat.gcd x y := by rw [Nat.gcd_comm, ← Nat.gcd_rec, Nat.gcd_comm]
theorem mod_lt2 (x y : Nat) (h : 0 < y) : ((x : Int) % (y : Int)).natAbs < y := by
  rw [← Int.natCast_emod, Int.natAbs_natCast]; exact Nat.mod_lt _ h
theorem divOk_of {g : Nat} (h : 0 < g) (h2 : g < 2 ^ 200) : divOk g = true := by
  unfold divOk
  simp only [Bool.and_eq_true, decide_eq_true_eq, Int.natAbs_natCast]
  refine ⟨by omega, ?_⟩
  have : g < 2 ^ 9000 := Nat.lt_of_lt_of_le h2 (Nat.pow_le_pow_right (by decide) (by decide))
  exact (Nat.log2_lt (by omega)).mpr this
theorem mulOk_of {i j : Int} (h : i.natAbs < 2 ^ 200) (h2 : j.natAbs < 2 ^ 200) : mulOk i j = true := by
  unfold mulOk
  refine decide_eq_true ?_
  have lg : ∀ n : Nat, n < 2 ^ 200 → n.log2 < 201 := fun n h => by
    by_cases h0 : n = 0
    · subst h0; decide
    · exact (Nat.log2_lt h0).mpr (Nat.lt_trans h (Nat.pow_lt_pow_right (by decide) (by decide)))
  have := lg _ h
  have := lg _ h2
  omega
def lowD2 (a b : Nat) : D := .tup false [.int (a / Nat.gcd a b : Nat), .int (b / Nat.gcd a b : Nat)]
/-! ### plain data, not too great -/
mutual
def nc (k : Nat) (d : D) : Bool := match d with
  | .non => true
  | .bl _ => true
  | .int i => decide (i.natAbs < 2 ^ 199)
  | .str x => PyData.strOk x && decide (x.length ≤ 1000)
  | .tup w xs => !w && (decide (0 < k) && (decide (xs.length ≤ 1000) && ncs (k - 1) xs))
  | .lst xs => decide (0 < k) && (decide (xs.length ≤ 1000) && ncs (k - 1) xs)
  | _ => false
termination_by structural d
def ncs (k : Nat) (ds : List D) : Bool := match ds with
  | [] => true
  | d :: ds => nc k d && ncs k ds
termination_by structural ds
end
theorem ncs_iff {k : Nat} : ∀ {ds : List D}, ncs k ds = true ↔ ∀ d ∈ ds, nc k d = true
  | [] => by simp [ncs]
  | d :: ds => by
    unfold ncs
    rw [Bool.and_eq_true, ncs_iff (ds := ds)]
    simp
theorem nc_pl {k : Nat} {d : D} (h : nc k d = true) : pl d = true := by
  cases d <;> first | rfl | (unfold nc at h; cases h)
theorem size_ok {n : Nat} (h : n ≤ 16000000) : MN.sizeOk n = true := decide_eq_true h
mutual
theorem nc_shp : ∀ (k m : Nat) (d : D), nc k d = true → k ≤ m → shp m d = true
  | k, m, d, h, hm => by
    match d with
    | .non => unfold shp; rfl
    | .bl _ => unfold shp; rfl
    | .int _ => unfold shp; rfl
    | .str x => unfold nc at h; unfold shp; simp only [Bool.and_eq_true] at h; exact h.1
    | .tup w xs =>
      unfold nc at h
      unfold shp
      simp only [Bool.and_eq_true, decide_eq_true_eq] at h ⊢
      exact ⟨by omega, size_ok (by omega), ncs_shps (k - 1) (m - 1) xs h.2.2.2 (by omega)⟩
    | .lst xs =>
      unfold nc at h
      unfold shp
      simp only [Bool.and_eq_true, decide_eq_true_eq] at h ⊢
      exact ⟨by omega, size_ok (by omega), ncs_shps (k - 1) (m - 1) xs h.2.2 (by omega)⟩
    | .dk _ _ => unfold nc at h; cases h
    | .dt _ _ => unfold nc at h; cases h
    | .ref _ => unfold nc at h; cases h
    | .scr _ => unfold nc at h; cases h
    | .glo _ => unfold nc at h; cases h
termination_by structural _ _ d => d
theorem ncs_shps : ∀ (k m : Nat) (ds : List D), ncs k ds = true → k ≤ m → shps m ds = true
  | k, m, ds, h, hm => by
    match ds with
    | [] => unfold shps; rfl
    | d :: ds =>
      unfold ncs at h
      unfold shps
      simp only [Bool.and_eq_true] at h ⊢
      exact ⟨nc_shp k m d h.1 hm, ncs_shps k m ds h.2 hm⟩
termination_by structural _ _ ds => ds
end
theorem nc_tup {k : Nat} {w : Bool} {xs : List D} (h : nc k (.tup w xs) = true) : w = false ∧ 0 < k ∧ xs.length ≤ 1000 ∧ ∀ x ∈ xs, nc (k - 1) x = true := by
  unfold nc at h
  simp only [Bool.and_eq_true, decide_eq_true_eq, Bool.not_eq_true', ncs_iff] at h
  exact ⟨h.1, h.2.1, h.2.2.1, h.2.2.2⟩

/-! ### a leg -/
def isLeg (t : Int) (d : D) : Bool := match d with
  | .tup _ [.int i, y] => isFrom (.int i) 0 (t - 1) && isFrom y (i + 1) (t - 1)
  | _ => false
/-! ### a sum -/
def legI : D → List Int
  | .tup _ ds => (intsOf ds).getD []
  | _ => []
def adjI : List (List Int) → Bool
  | x :: y :: r => leI x y && adjI (y :: r)
  | _ => true
def goodSum (t : Int) (d : D) : Bool := match d with
  | .tup _ xs => decide (1 ≤ xs.length) && decide (xs.length ≤ 6) && (xs.all (isLeg t) && adjI (xs.map legI))
  | _ => false
theorem isLeg_form {t : Int} {d : D} (h : isLeg t d = true) : ∃ w i j, d = .tup w [.int i, .int j] ∧ 0 ≤ i ∧ i < j ∧ j < t := by
  unfold isLeg at h
  split at h
  · rename_i w i y
    cases y <;> simp [isFrom] at h
    exact ⟨w, i, _, rfl, by omega, by omega, by omega⟩
  · cases h
theorem adj_zip : ∀ (xs : List D), ((zipD xs (xs.tail)).map fun p => match p with
    | .tup _ [a, b] => leI (legI a) (legI b)
    | _ => false).all id = adjI (xs.map legI)
  | [] => rfl
  | [x] => rfl
  | x :: y :: r => by
    have := adj_zip (y :: r)
    simp [zipD, adjI] at this ⊢
    rw [this]
theorem zipD_mem {xs ys : List D} {p : D} (h : p ∈ zipD xs ys) : ∃ a b, p = .tup false [a, b] ∧ a ∈ xs ∧ b ∈ ys := by
  induction xs generalizing ys with
  | nil => unfold zipD at h; cases h
  | cons x xs ih =>
    cases ys with
    | nil => unfold zipD at h; cases h
    | cons y ys =>
      unfold zipD at h
      rcases List.mem_cons.mp h with rfl | h
      · exact ⟨x, y, rfl, List.mem_cons_self, List.mem_cons_self⟩
      · obtain ⟨a, b, e, ha, hb⟩ := ih h
        exact ⟨a, b, e, List.mem_cons_of_mem _ ha, List.mem_cons_of_mem _ hb⟩
theorem zipD_len (xs ys : List D) : (zipD xs ys).length ≤ xs.length := by
  induction xs generalizing ys with
  | nil => simp [zipD]
  | cons x xs ih =>
    cases ys with
    | nil => simp [zipD]
    | cons y ys =>
      have := ih ys
      simp only [zipD, List.length_cons]
      omega
/-! ### sorted, by looking at neighbours -/
theorem leI_total : ∀ a b : List Int, leI a b = false → leI b a = true
  | [], _, h => by simp [leI] at h
  | _ :: _, [], h => by simp [leI]
  | x :: xs, y :: ys, h => by
    unfold leI at h ⊢
    by_cases e : x = y
    · subst e
      simp at h ⊢
      exact leI_total xs ys h
    · have e' : ¬ y = x := fun h => e h.symm
      simp only [e, e', if_false, decide_eq_false_iff_not, decide_eq_true_eq] at h ⊢
      omega
theorem ins_adj (x : List Int) : ∀ l : List (List Int), adjI l = true → adjI (insT x l) = true
  | [], _ => rfl
  | [y], _ => by
    unfold insT
    by_cases h : leI x y = true
    · simp [h, adjI]
    · have := leI_total x y (by simpa using h)
      simp [h, adjI, insT, this]
  | y :: z :: r, hl => by
    have hl' : leI y z = true ∧ adjI (z :: r) = true := by
      unfold adjI at hl
      simpa using hl
    unfold insT
    by_cases h : leI x y = true
    · rw [if_pos h]
      unfold adjI
      rw [h, hl]; rfl
    · rw [if_neg h]
      have hx := leI_total x y (by simpa using h)
      have ih := ins_adj x (z :: r) hl'.2
      unfold insT at ih ⊢
      by_cases h2 : leI x z = true
      · rw [if_pos h2] at ih ⊢
        unfold adjI
        rw [hx, ih]; rfl
      · rw [if_neg h2] at ih ⊢
        unfold adjI
        rw [hl'.1, ih]; rfl
theorem sort_adj : ∀ l : List (List Int), adjI (sortT l) = true
  | [] => rfl
  | x :: l => ins_adj x _ (sort_adj l)
theorem sort_id : ∀ l : List (List Int), adjI l = true → sortT l = l
  | [], _ => rfl
  | [x], _ => rfl
  | x :: y :: r, h => by
    have h' : leI x y = true ∧ adjI (y :: r) = true := by
      unfold adjI at h
      simpa using h
    unfold sortT
    rw [sort_id (y :: r) h'.2]
    unfold insT
    rw [if_pos h'.1]
theorem sort_iff (l : List (List Int)) : decide (l = sortT l) = adjI l := by
  cases h : adjI l with
  | true => rw [sort_id l h]; simp
  | false =>
    refine decide_eq_false fun e => ?_
    rw [e, sort_adj] at h
    cases h
theorem ins_mem {x y : List Int} : ∀ {l : List (List Int)}, y ∈ insT x l → y = x ∨ y ∈ l
  | [], h => by simpa [insT] using h
  | z :: l, h => by
    unfold insT at h
    by_cases e : leI x z = true
    · rw [if_pos e] at h; simpa using h
    · rw [if_neg e] at h
      rcases List.mem_cons.mp h with rfl | h
      · exact .inr List.mem_cons_self
      · rcases ins_mem h with rfl | h
        · exact .inl rfl
        · exact .inr (List.mem_cons_of_mem _ h)
theorem sort_mem {y : List Int} : ∀ {l : List (List Int)}, y ∈ sortT l → y ∈ l
  | [], h => h
  | x :: l, h => by
    rcases ins_mem (show y ∈ insT x (sortT l) from h) with rfl | h
    · exact List.mem_cons_self
    · exact List.mem_cons_of_mem _ (sort_mem h)
theorem ins_len (x : List Int) : ∀ l : List (List Int), (insT x l).length = l.length + 1
  | [] => rfl
  | z :: l => by
    unfold insT
    split
    · rfl
    · simp [ins_len x l]
theorem sort_len : ∀ l : List (List Int), (sortT l).length = l.length
  | [] => rfl
  | x :: l => by
    show (insT x (sortT l)).length = _
    rw [ins_len, sort_len l]; rfl
theorem eq_ints : ∀ a b : List Int, eqDs (a.map D.int) (b.map D.int) = decide (a = b)
  | [], [] => rfl
  | [], _ :: _ => rfl
  | _ :: _, [] => rfl
  | x :: xs, y :: ys => by
    simp only [List.map_cons]
    unfold eqDs
    dsimp only
    rw [eq_ints xs ys]
    unfold eqD
    simp
theorem eq_tups : ∀ a b : List (List Int), eqDs (a.map tupI) (b.map tupI) = decide (a = b)
  | [], [] => rfl
  | [], _ :: _ => rfl
  | _ :: _, [] => rfl
  | x :: xs, y :: ys => by
    simp only [List.map_cons]
    unfold eqDs
    dsimp only
    rw [eq_tups xs ys]
    unfold eqD tupI
    simp [eq_ints]
theorem shp_tupI {m : Nat} {ns : List Int} (hm : 0 < m) (h : ns.length ≤ 1000) : shp m (tupI ns) = true := by
  have hs : ∀ (k : Nat) (l : List Int), shps k (l.map D.int) = true := fun k l => by
    induction l with
    | nil => rfl
    | cons x l ih => simp only [List.map_cons]; unfold shps; rw [ih]; simp [shp]
  unfold tupI shp
  simp only [Bool.and_eq_true, decide_eq_true_eq, List.length_map]
  exact ⟨hm, size_ok (by omega), hs _ _⟩
theorem shps_all {m : Nat} : ∀ {l : List D}, (∀ x ∈ l, shp m x = true) → shps m l = true
  | [], _ => by unfold shps; rfl
  | x :: l, h => by
    unfold shps
    rw [h x List.mem_cons_self, shps_all fun y hy => h y (List.mem_cons_of_mem _ hy)]; rfl
/-- a tuple of legs, as tuples of ints -/
theorem legs_form {t : Int} {k : Nat} : ∀ {xs : List D}, xs.all (isLeg t) = true → (∀ x ∈ xs, nc k x = true) → xs = (xs.map legI).map tupI ∧ tupsOf xs = some (xs.map legI) ∧ ∀ l ∈ xs.map legI, l.length = 2
  | [], _, _ => ⟨rfl, rfl, by simp⟩
  | x :: xs, h, hn => by
    simp only [List.all_cons, Bool.and_eq_true] at h
    obtain ⟨i1, i2, i3⟩ := legs_form h.2 fun y hy => hn y (List.mem_cons_of_mem _ hy)
    obtain ⟨w, i, j, rfl, _⟩ := isLeg_form h.1
    obtain ⟨rfl, _⟩ := nc_tup (hn _ List.mem_cons_self)
    have e : legI (.tup false [.int i, .int j]) = [i, j] := by simp [legI, intsOf]
    refine ⟨?_, ?_, ?_⟩
    · simp only [List.map_cons, e]
      rw [← i1]; rfl
    · unfold tupsOf
      simp [intsOf, i2, e]
    · intro l hl
      rcases List.mem_cons.mp hl with rfl | hl
      · simp [e]
      · exact i3 l hl
/-! ### legs -/
def L (t : Int) : List (Int × Int) := ((List.range t.toNat).map fun (i : Nat) => ((List.range t.toNat).filter fun (j : Nat) => decide (i < j)).map fun (j : Nat) => (((i : Nat) : Int), ((j : Nat) : Int))).flatten
def lgD (p : Int × Int) : D := .tup false [.int p.1, .int p.2]
def lgK (p : Int × Int) : List Key := [.inl p.1, .inl p.2]
def tw (t : Int) : Prop := t = 3 ∨ t = 4 ∨ t = 5
theorem mem_L {t : Int} {p : Int × Int} : p ∈ L t ↔ 0 ≤ p.1 ∧ p.1 < p.2 ∧ p.2 < t := by
  unfold L
  simp only [List.mem_flatten, List.mem_map, List.mem_range]
  constructor
  · rintro ⟨l, ⟨i, hi, rfl⟩, h⟩
    obtain ⟨j, hj, rfl⟩ := List.mem_map.mp h
    simp only [List.mem_filter, List.mem_range, decide_eq_true_eq] at hj
    exact ⟨by simp, by simp; omega, by simp; omega⟩
  · rintro ⟨h1, h2, h3⟩
    refine ⟨_, ⟨p.1.toNat, by omega, rfl⟩, List.mem_map.mpr ⟨p.2.toNat, ?_, ?_⟩⟩
    · simp only [List.mem_filter, List.mem_range, decide_eq_true_eq]; omega
    · have e1 : (p.1.toNat : Int) = p.1 := by omega
      have e2 : (p.2.toNat : Int) = p.2 := by omega
      rw [e1, e2]
theorem L_nodup {t : Int} (h : tw t) : ((L t).map lgK).Nodup := by
  rcases h with rfl | rfl | rfl <;> decide +kernel
theorem L_len {t : Int} (h : tw t) : (L t).length ≤ 10 := by
  rcases h with rfl | rfl | rfl <;> decide +kernel
/-! ### dicts of legs -/
theorem zip_pairs : ∀ (ps : List (Int × Int)) (xs : List D), xs.length = ps.length → pairsO tkeyOf (zipD (ps.map lgD) xs) = some (ps.map lgK, xs)
  | [], [], _ => rfl
  | [], _ :: _, h => by simp at h
  | _ :: _, [], h => by simp at h
  | p :: ps, x :: xs, h => by
    have ih := zip_pairs ps xs (by simpa using h)
    simp only [List.map_cons, zipD]
    unfold pairsO
    rw [ih]; rfl
section
variable {κ : Type} [DecidableEq κ]
theorem putAll_app : ∀ (ks1 : List κ) (vs1 : List D) (ks2 : List κ) (vs2 : List D), (ks1 ++ ks2).Nodup → ks2.length = vs2.length → putAllKV ks1 vs1 ks2 vs2 = (ks1 ++ ks2, vs1 ++ vs2)
  | ks1, vs1, [], [], _, _ => by simp [putAllKV]
  | _, _, [], _ :: _, _, h => by simp at h
  | _, _, _ :: _, [], _, h => by simp at h
  | ks1, vs1, k :: ks2, v :: vs2, nd, h => by
    unfold putAllKV
    have hn : (ks1.any fun x => decide (x = k)) = false := by
      rw [List.any_eq_false]
      intro x hx
      have := (List.nodup_append.mp nd).2.2 x hx k (by simp)
      simpa using this
    have e : putKV ks1 vs1 k v = (ks1 ++ [k], vs1 ++ [v]) := by
      unfold putKV
      rw [hn]; rfl
    rw [e]
    dsimp only
    rw [putAll_app (ks1 ++ [k]) (vs1 ++ [v]) ks2 vs2 (by simpa using nd) (by simpa using h)]
    simp
theorem putAll_nil {ks : List κ} {vs : List D} (nd : ks.Nodup) (h : ks.length = vs.length) : putAllKV [] [] ks vs = (ks, vs) := putAll_app [] [] ks vs (by simpa using nd) h
theorem getKV_mem {k : κ} : ∀ {ks : List κ} {vs : List D}, ks.length = vs.length → k ∈ ks → ∃ v, v ∈ vs ∧ getKV ks vs k = some v
  | [], _, _, h => by simp at h
  | _ :: _, [], h, _ => by simp at h
  | x :: ks, v :: vs, hl, h => by
    unfold getKV
    by_cases e : x = k
    · exact ⟨v, by simp, by rw [if_pos e]⟩
    · rw [if_neg e]
      have : k ∈ ks := by
        rcases List.mem_cons.mp h with h | h
        · exact absurd h.symm e
        · exact h
      obtain ⟨w, hw, e2⟩ := getKV_mem (by simpa using hl) this
      exact ⟨w, List.mem_cons_of_mem _ hw, e2⟩
end
theorem dict_ok {t : Int} {xs : List D} {st : Store} (h : tw t) (hl : xs.length = (L t).length) : biO .dictZipT [.lst ((L t).map lgD), .tup false xs] st = some (.dt ((L t).map lgK) xs) := by
  show (pairsO tkeyOf (zipD ((L t).map lgD) xs)).map _ = _
  rw [zip_pairs _ _ hl]
  have e := putAll_nil (L_nodup h) (vs := xs) (by simpa using hl.symm)
  show some (let p := putAllKV [] [] ((L t).map lgK) xs; D.dt p.1 p.2) = _
  rw [e]
/-! ### parts -/
theorem isTup_t (w : Bool) (xs : List D) (st : Store) : biO .isTup [.tup w xs] st = some (.bl true) := rfl
theorem len_t (w : Bool) (xs : List D) (st : Store) : biO .len [.tup w xs] st = some (.int xs.length) := rfl
theorem len_l (xs : List D) (st : Store) : biO .len [.lst xs] st = some (.int xs.length) := rfl
theorem tup_or {k : Nat} {d : D} (h : nc k d = true) : (∃ xs, d = .tup false xs ∧ xs.length ≤ 1000 ∧ ∀ x ∈ xs, nc (k - 1) x = true) ∨ ((∀ st, biO .isTup [d] st = some (.bl false)) ∧ ∀ w xs, d ≠ .tup w xs) := by
  cases d with
  | tup w xs =>
    obtain ⟨rfl, _, hl, hx⟩ := nc_tup h
    exact .inl ⟨xs, rfl, hl, hx⟩
  | _ => first | exact .inr ⟨fun _ => rfl, fun _ _ e => by cases e⟩ | (unfold nc at h; cases h)
def MP : Int := 1000000000000
theorem MP_val : MP = 1000000000000 := rfl
theorem isFrom_int {i lo hi : Int} : isFrom (.int i) lo hi = true ↔ lo ≤ i ∧ i ≤ hi := by
  unfold isFrom
  simp only [Bool.and_eq_true, decide_eq_true_eq]
def isPart (d : D) : Bool := match d with
  | .tup _ [.int a, .int b] => isFrom (.int a) 1 MP && isFrom (.int b) 1 MP && decide (Nat.gcd a.toNat b.toNat = 1)
  | _ => false
theorem low_eq {a b : Nat} (hb : 0 < b) : eqD (lowD2 a b) (.tup false [.int a, .int b]) = decide (Nat.gcd a b = 1) := by
  have : eqD (lowD2 a b) (.tup false [.int a, .int b]) = (decide (((a / Nat.gcd a b : Nat) : Int) = a) && (decide (((b / Nat.gcd a b : Nat) : Int) = b) && true)) := rfl
  rw [this]
  have g0 : 0 < Nat.gcd a b := Nat.gcd_pos_of_pos_right _ hb
  by_cases h : Nat.gcd a b = 1
  · simp [h]
  · have : b / Nat.gcd a b < b := Nat.div_lt_self hb (by omega)
    simp only [h, decide_false, Bool.and_true, Bool.and_eq_false_imp, decide_eq_true_eq, decide_eq_false_iff_not]
    omega
theorem lowD2_shp (a b m : Nat) (h : 0 < m) : shp m (lowD2 a b) = true := by
  have := shp_tupI (m := m) (ns := [(a / Nat.gcd a b : Nat), (b / Nat.gcd a b : Nat)]) h (by simp)
  exact this
theorem isPart_form {d : D} {k : Nat} (hn : nc k d = true) (h : isPart d = true) : ∃ a b : Nat, d = .tup false [.int a, .int b] ∧ 0 < a ∧ 0 < b ∧ a ≤ 10 ^ 12 ∧ b ≤ 10 ^ 12 ∧ Nat.gcd a b = 1 := by
  unfold isPart at h
  split at h
  · rename_i w a b
    obtain ⟨rfl, _⟩ := nc_tup hn
    simp only [isFrom_int, MP_val, Bool.and_eq_true, decide_eq_true_eq] at h
    obtain ⟨⟨⟨h1, h2⟩, h3, h4⟩, h5⟩ := h
    have ea : (a.toNat : Int) = a := by omega
    have eb : (b.toNat : Int) = b := by omega
    exact ⟨a.toNat, b.toNat, by rw [ea, eb], by omega, by omega, by omega, by omega, h5⟩
  · cases h
/-! ### no way round is shorter -/
def pD (a b : Nat) : D := .tup false [.int a, .int b]
theorem lt40 {a : Nat} (h : a ≤ 10 ^ 12) : a < 2 ^ 40 := Nat.lt_of_le_of_lt h (by decide)
theorem mulOk_nat {a b : Nat} (h : a < 2 ^ 200) (h2 : b < 2 ^ 200) : mulOk (a : Int) (b : Int) = true := mulOk_of (by simpa using h) (by simpa using h2)
theorem p200 {a : Nat} (h : a ≤ 10 ^ 12) : a < 2 ^ 200 := Nat.lt_trans (lt40 h) (by decide)
theorem pp200 {a b : Nat} (h : a ≤ 10 ^ 12) (h2 : b ≤ 10 ^ 12) : a * b < 2 ^ 80 := by
  have := Nat.mul_lt_mul'' (lt40 h) (lt40 h2)
  exact Nat.lt_of_lt_of_eq this (by decide)
/-- the distance of a leg -/
def tld (t : Int) (xs : List D) (i j : Int) : D := (getKV ((L t).map lgK) xs (lgK (i, j))).getD .non
def lo (i j : Int) : Int := if i < j then i else j
def hi (i j : Int) : Int := if i < j then j else i
def shortR (x y z : D) : Bool := match x, y, z with
  | .tup _ [.int a, .int b], .tup _ [.int c, .int d], .tup _ [.int e, .int f] => match lowD2 (a.toNat * d.toNat + c.toNat * b.toNat) (b.toNat * d.toNat) with
    | .tup _ [.int p, .int q] => decide (p.toNat * f.toNat < e.toNat * q.toNat)
    | _ => false
  | _, _, _ => false
def tri1 (t : Int) (xs : List D) (i j k : Int) : Bool := decide (k = i ∨ k = j) || !shortR (tld t xs (lo i k) (hi i k)) (tld t xs (lo k j) (hi k j)) (tld t xs i j)
def tri2 (t : Int) (xs : List D) (i j : Int) : Bool := (List.range t.toNat).all fun k => tri1 t xs i j k
def tri (t : Int) (xs : List D) : Bool := (L t).all fun p => tri2 t xs p.1 p.2
def goodParts (t : Int) (d : D) : Bool := match d with
  | .tup _ xs => decide (xs.length = (L t).length) && xs.all isPart && tri t xs
  | _ => false
section
variable {t : Int} {xs : List D} {k : Nat} (hl : xs.length = (L t).length) (hx : ∀ x ∈ xs, nc k x = true) (hp : xs.all isPart = true)
include hl hx hp
theorem tld_part {i j : Int} (h0 : 0 ≤ i) (h1 : i < j) (h2 : j < t) : ∃ a b : Nat, getKV ((L t).map lgK) xs (lgK (i, j)) = some (pD a b) ∧ tld t xs i j = pD a b ∧ 0 < a ∧ 0 < b ∧ a ≤ 10 ^ 12 ∧ b ≤ 10 ^ 12 := by
  obtain ⟨v, hv, e⟩ := getKV_mem (k := lgK (i, j)) (ks := (L t).map lgK) (vs := xs) (by simpa using hl.symm) (List.mem_map.mpr ⟨(i, j), mem_L.mpr ⟨h0, h1, h2⟩, rfl⟩)
  obtain ⟨a, b, rfl, q1, q2, q3, q4, _⟩ := isPart_form (hx v hv) (List.all_eq_true.mp hp v hv)
  exact ⟨a, b, e, by unfold tld; rw [e]; rfl, q1, q2, q3, q4⟩
end
theorem low_form (a b : Nat) : lowD2 a b = pD (a / Nat.gcd a b) (b / Nat.gcd a b) := rfl
theorem add_bnd {a b c d : Nat} (ha : a ≤ 10 ^ 12) (hb : b ≤ 10 ^ 12) (hc : c ≤ 10 ^ 12) (hd : d ≤ 10 ^ 12) : a * d + c * b < 2 ^ 200 := by
  have h1 := pp200 ha hd
  have h2 := pp200 hc hb
  have : 2 ^ 80 + 2 ^ 80 < 2 ^ 200 := by decide
  omega
theorem keyL (i j : Int) : tkeyOf (lgD (i, j)) = some (lgK (i, j)) := rfl
theorem idx_dt (ks : List (List Key)) (xs : List D) (i j : Int) (st : Store) : idxO (.dt ks xs) (lgD (i, j)) st = getKV ks xs (lgK (i, j)) := rfl
theorem rangeD0 (t : Int) : rangeD 0 t = (List.range t.toNat).map fun (i : Nat) => D.int i := by
  unfold rangeD
  simp
/-! ### wells -/
def wO (a b : Nat) : MO := .lst [.int a, .int b]
def SW (st : Store) : Prop := ∀ o ∈ st, ∃ a b : Nat, o = wO a b ∧ b < 2147478643
theorem SW.at {st : Store} (h : SW st) {n : Nat} (hn : n < st.length) : ∃ a b : Nat, st[n]? = some (wO a b) ∧ b < 2147478643 := by
  obtain ⟨a, b, e, hb⟩ := h st[n] (List.getElem_mem hn)
  exact ⟨a, b, by rw [List.getElem?_eq_getElem hn, e], hb⟩
theorem SW.set {st : Store} (h : SW st) (n : Nat) {a b : Nat} (hb : b < 2147478643) : SW (st.set n (wO a b)) := fun o ho => by
  rcases List.mem_or_eq_of_mem_set ho with ho | rfl
  · exact h o ho
  · exact ⟨a, b, rfl, hb⟩
theorem SW.app {st : Store} (h : SW st) {a b : Nat} (hb : b < 2147478643) : SW (st ++ [wO a b]) := fun o ho => by
  rcases List.mem_append.mp ho with ho | ho
  · exact h o ho
  · simp at ho; exact ⟨a, b, ho, hb⟩
def Wl (st s : Store) : Prop := SW s ∧ s.length = st.length
theorem lt_p {i : Int} {k : Nat} (h : i.natAbs < 2 ^ k) (hk : k ≤ 200) : i.natAbs < 2 ^ 200 := Nat.lt_of_lt_of_le h (Nat.pow_le_pow_right (by decide) hk)
theorem divOk_small {w : Nat} (h : 0 < w) (h2 : w < 2 ^ 200) : divOk (w : Int) = true := divOk_of h h2
theorem mod_nat (a : Int) (w : Nat) (h : 0 < w) : ∃ i : Nat, a % (w : Int) = i ∧ i < w := ⟨(a % (w : Int)).toNat, by
  have h1 := Int.emod_nonneg a (show (w : Int) ≠ 0 by omega)
  have h2 := Int.emod_lt_of_pos a (show (0 : Int) < w by omega)
  omega⟩
theorem idx_w0 {st : Store} {n a b : Nat} (e : st[n]? = some (wO a b)) : idxO (.ref n) (.int 0) st = some (.int a) := by
  show (match seqAt st (.ref n) with | some xs => _ | none => _) = _
  have : seqAt st (.ref n) = some [.int a, .int b] := by show (match st[n]? with | some (.lst xs) => some xs | _ => none) = _; rw [e]; rfl
  rw [this]; rfl
theorem idx_w1 {st : Store} {n a b : Nat} (e : st[n]? = some (wO a b)) : idxO (.ref n) (.int 1) st = some (.int b) := by
  show (match seqAt st (.ref n) with | some xs => _ | none => _) = _
  have : seqAt st (.ref n) = some [.int a, .int b] := by show (match st[n]? with | some (.lst xs) => some xs | _ => none) = _; rw [e]; rfl
  rw [this]; rfl
theorem put_w0 {st : Store} {n a b c : Nat} (e : st[n]? = some (wO a b)) : putO (.ref n) (.int 0) (.int c) st = some (st.set n (wO c b)) := by
  unfold putO; dsimp only; rw [e]; rfl
theorem put_w1 {st : Store} {n a b c : Nat} (e : st[n]? = some (wO a b)) : putO (.ref n) (.int 1) (.int c) st = some (st.set n (wO a c)) := by
  unfold putO; dsimp only; rw [e]; rfl
theorem bi_int (i : Int) (st : Store) : biO .int [.int i] st = some (.int i) := rfl
theorem bin_mod {i j : Int} {st : Store} (h : 0 < j) : binO .Mod (.int i) (.int j) st = some (.int (i % j)) := by
  show (if decide (0 < j) then _ else _) = _
  rw [decide_eq_true h]; rfl
theorem bin_div {i j : Int} {st : Store} (h : divOk j = true) : binO .FloorDiv (.int i) (.int j) st = some (.int (i / j)) := by
  show (if divOk j then _ else _) = _
  rw [h]; rfl
theorem bin_mul {i j : Int} {st : Store} (h : mulOk i j = true) : binO .Mult (.int i) (.int j) st = some (.int (i * j)) := by
  show (if mulOk i j then _ else _) = _
  rw [h]; rfl
theorem bin_add {i j : Int} {st : Store} : binO .Add (.int i) (.int j) st = some (.int (i + j)) := rfl
theorem bin_sub {i j : Int} {st : Store} : binO .Sub (.int i) (.int j) st = some (.int (i - j)) := rfl
theorem lift_ok (m n w : Nat) (st : Store) (h : SW st) (hn : n < st.length) (hw : 0 < w) (hw2 : w ≤ 1000) : wp noE (Cn (m + 1) (Str.ofString "_law_lift") [.ref n, .int w] st) fun d s => (∃ i : Nat, d = .int i ∧ i < w) ∧ Wl st s := by
  rw [Cn_succ T__law_lift]
  refine w_call rfl (by decide) rfl ?_
  obtain ⟨a, b, e, hb⟩ := h.at hn
  have hd := divOk_small hw (Nat.lt_of_le_of_lt hw2 (by decide))
  have w0 : (0 : Int) < w := by omega
  obtain ⟨i, hi, hi2⟩ := mod_nat a w hw
  simp only [F__law_lift, B__law_lift, x_cons, x_nil, x_iff, x_set, x_put, x_ret, w_cmp, w_bin, w_idx, w_bi, w_cons, w_nil, w_var, w_cst, cd_int]
  simp only [List.map_cons, List.map_nil, List.length_cons, List.length_nil, List.getElem?_cons_zero, List.getElem?_cons_succ, List.cons_append, List.nil_append, Option.some.injEq, exists_eq_left', idx_w0 e]
  by_cases ha : 0 < a
  · obtain ⟨v, q⟩ : ∃ v : Nat, binO .FloorDiv (.int a) (.int w) st = some (.int v) := ⟨a / w, by rw [bin_div hd]; simp⟩
    have c : cmpO .Gt (.int a) (.int 0) st = some true := by show some (decide _) = _; rw [decide_eq_true (by omega)]
    simp [c, bi_int, bin_mod w0, hi, q, idx_w0 e, put_w0 e]
    exact ⟨⟨i, rfl, hi2⟩, h.set n hb, by simp⟩
  · have c : cmpO .Gt (.int a) (.int 0) st = some false := by show some (decide _) = _; rw [decide_eq_false (by omega)]
    have m1 : mulOk (b : Int) 49031 = true := by
      refine mulOk_of ?_ (by decide)
      rw [Int.natAbs_natCast]; exact Nat.lt_trans hb (by decide)
    obtain ⟨c1, hc, hc2⟩ := mod_nat ((b : Int) * 49031 + 3181) 2147478643 (by decide)
    have hc' : ((b : Int) * 49031 + 3181) % 2147478643 = c1 := hc
    have m2 : mulOk (c1 : Int) ((c1 : Int) / 47 + 29) = true := by
      have q : (c1 : Int) / 47 + 29 = ((c1 / 47 + 29 : Nat) : Int) := by simp
      rw [q]
      refine mulOk_nat (Nat.lt_trans hc2 (by decide)) (Nat.lt_of_le_of_lt (m := 2147478643 + 29) ?_ (by decide))
      have := Nat.div_le_self c1 47
      omega
    have e2 : (st.set n (wO a c1))[n]? = some (wO a c1) := by rw [List.getElem?_set_self hn]
    have d1 : divOk 47 = true := by decide
    have d2 : divOk 21 = true := by decide
    simp only [c, byB_f, Option.some.injEq, exists_eq_left']
    simp [idx_w1 e, idx_w0 e, bin_mul m1, bin_add, bi_int, bin_mod (show (0 : Int) < 2147478643 by decide), hc', put_w1 e, idx_w1 e2, bin_div d1, bin_mul m2, bin_mod (show (0 : Int) < 2147478611 by decide), bin_div d2, bin_mod w0]
    refine ⟨?_, h.set n hc2, by simp⟩
    exact mod_nat _ w hw
theorem Wl.refl {st : Store} (h : SW st) : Wl st st := ⟨h, rfl⟩
theorem Wl.trans {a b c : Store} (h : Wl a b) (h2 : Wl b c) : Wl a c := ⟨h2.1, h2.2.trans h.2⟩
theorem atI_nat (xs : List D) (i : Nat) (h : i < xs.length) : L2.atI xs (i : Int) = some xs[i] := by
  unfold L2.atI L2.ixN
  have h1 : (0 : Int) ≤ (i : Int) := by omega
  have h2 : (i : Int) < (xs.length : Int) := by omega
  simp [h1, h2, h]
theorem pick_ok (m n : Nat) (xs : List D) (st : Store) (h : SW st) (hn : n < st.length) (hw : xs ≠ []) (hw2 : xs.length ≤ 1000) : wp noE (Cn (m + 2) (Str.ofString "_law_pick") [.ref n, .lst xs] st) fun d s => d ∈ xs ∧ Wl st s := by
  rw [Cn_succ T__law_pick]
  refine w_call rfl (by decide) rfl ?_
  have hl : 0 < xs.length := by cases xs <;> simp at hw ⊢
  have e := lift_ok m n xs.length st h hn hl hw2
  simp only [F__law_pick, B__law_pick, x_cons, x_nil, x_ret, w_idx, w_bi, w_fn, w_cons, w_nil, w_var]
  simp [len_l]
  refine wp_mono e ?_
  rintro d s ⟨⟨i, rfl, hi⟩, hs⟩
  exact ⟨xs[i], by show L2.atI xs (i : Int) = _; exact atI_nat xs i hi, List.getElem_mem hi, hs⟩
theorem well_ok (m : Nat) (ns : List Int) (k : Nat) (hk : k ≤ 100) (st : Store) : wp noE (Cn (m + 1) (Str.ofString "_law_well") [.scr ns, .int k] st) fun d s => d = .ref st.length ∧ ∃ a b : Nat, b < 2147478643 ∧ s = st ++ [wO a b] := by
  rw [Cn_succ T__law_well]
  refine w_call rfl (by decide) rfl ?_
  have m1 : ∀ x : Nat, x ≤ 100 → mulOk 83 (x : Int) = true := fun x hx => mulOk_of (by decide) (by rw [Int.natAbs_natCast]; exact Nat.lt_of_le_of_lt hx (by decide))
  have m2 : ∀ x : Nat, x ≤ 100 → mulOk 90031 (x : Int) = true := fun x hx => mulOk_of (by decide) (by rw [Int.natAbs_natCast]; exact Nat.lt_of_le_of_lt hx (by decide))
  have pw : binO .Pow (.int 10) (.int 18) st = some (.int 1000000000000000000) := rfl
  obtain ⟨c, hc⟩ : ∃ c : Nat, wp noE (ev (Cn m) tb.G (.ite (.cmp .Lt (.var 1) (.bi .len [(.var 0)])) (.bi .abs [(.bi .int [(.idx (.var 0) (.var 1))])]) (.bin .Add (.bin .Mult (.cst (.int 83)) (.var 1)) (.cst (.int 29)))) [some (.scr ns), some (.int k), none] st) fun d s => d = .int (c : Int) ∧ s = st := by
    by_cases h : k < ns.length
    · refine ⟨ns[k].natAbs, ?_⟩
      have e1 : L2.atI ns (k : Int) = some ns[k] := by
        unfold L2.atI L2.ixN
        have h1 : (0 : Int) ≤ (k : Int) := by omega
        have h2 : (k : Int) < (ns.length : Int) := by omega
        simp [h1, h2, h]
      simp [biO, cmpO, h, idxO, e1]
      split <;> omega
    · refine ⟨83 * k + 29, ?_⟩
      simp [biO, cmpO, h, binO, m1 k hk]
  simp only [F__law_well, B__law_well, x_cons, x_nil, x_set, x_ret]
  have hc2 := wp_det hc
  rw [show List.map some [D.scr ns, .int k] ++ List.replicate (3 - [D.scr ns, .int k].length) none = [some (.scr ns), some (.int k), none] from rfl]
  rw [wp_eq hc2]
  obtain ⟨b, hb, hb2⟩ := mod_nat (c % 2147478643 + 90031 * k + 311) 2147478643 (by decide)
  have hb' : ((c : Int) % 2147478643 + 90031 * k + 311) % 2147478643 = b := hb
  have g1 : ∀ x, cmpO .GtE (.int c) (.int 1000000000000000000) st = some x → wp noE (ev (Cn m) tb.G (.ite (.cmp .GtE (.var 2) (.bin .Pow (.cst (.int 10)) (.cst (.int 18)))) (.var 2) (.cst (.int 0))) [some (.scr ns), some (.int k), some (.int c)] st) fun d s => (d = .int ((if x then c else 0 : Nat) : Int)) ∧ s = st := fun x hx => by
    simp [pw, hx]
    cases x <;> simp
  obtain ⟨x, hx⟩ : ∃ x, cmpO .GtE (.int c) (.int 1000000000000000000) st = some x := ⟨_, rfl⟩
  simp only [x_nil, w_mu, w_lst, w_cons, w_nil]
  rw [show (List.set [some (D.scr ns), some (D.int k), none] 2 (some (D.int c)) : MN.Env) = [some (D.scr ns), some (D.int k), some (D.int c)] from rfl, wp_eq (wp_det (g1 x hx))]
  simp [bin_mod (show (0 : Int) < 2147478643 by decide), bin_mul (m2 k hk), bin_add, bi_int, hb', MN.sizeOk]
  exact ⟨_, b, hb2, rfl⟩

end MT
set_option Elab.async false
set_option linter.all false
set_option maxRecDepth 100000
set_option maxHeartbeats 2000000
namespace MT
open PySem MN
theorem list_range1 {t : Int} (n : Nat) (h : n ≤ 1000) (st : Store) : iterO .range1 [.int (n : Int)] = some ((List.range n).map fun (i : Nat) => D.int i) := by
  show (if rangeOk 0 (n : Int) then some (rangeD 0 (n : Int)) else none) = _
  rw [if_pos (by unfold rangeOk; simp; omega), rangeD0, Int.toNat_natCast]
/-- the errors -/
def errs (i : Int) : List D := [.exn (Str.ofString "InvalidBook") Str.empty 0, .exn (Str.ofString "InvalidSum") Str.empty 0, .exn (Str.ofString "InvalidMiles") Str.empty 0, .exn (Str.ofString "InvalidTrip") Str.empty 0, .exn (Str.ofString "InvalidNet") Str.empty 0,
  .exn (Str.ofString "InvalidNumber") Str.empty 0, .exn (Str.ofString "InvalidPaper") Str.empty 0, .exn (Str.ofString "InvalidQuestions") Str.empty 0, .exn (Str.ofString "InvalidFact") Str.empty 0,
  .exn (Str.ofString "InvalidIndex") Str.empty 0, .exn (Str.ofString "Impossible") Str.empty 0, .exn (Str.ofString "Unlike") Str.empty 0, .exn (Str.ofString "NothingToUndo") Str.empty 0,
  .exn (Str.ofString "TooMany") (Str.ofString "limit") i, .exn (Str.ofString "InvalidText") (Str.ofString "row") i]
theorem all_errors_ok (n : Nat) (x : Str) (i : Int) (s : Store) : Cn (n + 1) (Str.ofString "_law_all_errors") [.str x, .int i] s = .ok (.lst (errs i)) s := by kernel_rfl
/-- which class it is -/
def hits (at_ : Nat) : List D := (List.range 15).map fun j => .bl (decide (j = at_))
theorem classes_ok (n : Nat) (i : Int) (s : Store) : ∀ at_, at_ < 15 → ∃ d, (errs i)[at_]? = some d ∧ Cn (n + 1) (Str.ofString "_law_classes") [d] s = .ok (.lst (hits at_)) s ∧ ∃ y g z, d = .exn y g z := by
  intro at_ h
  match at_, h with
  | 0, _ => exact ⟨_, rfl, by kernel_rfl, _, _, _, rfl⟩
  | 1, _ => exact ⟨_, rfl, by kernel_rfl, _, _, _, rfl⟩
  | 2, _ => exact ⟨_, rfl, by kernel_rfl, _, _, _, rfl⟩
  | 3, _ => exact ⟨_, rfl, by kernel_rfl, _, _, _, rfl⟩
  | 4, _ => exact ⟨_, rfl, by kernel_rfl, _, _, _, rfl⟩
  | 5, _ => exact ⟨_, rfl, by kernel_rfl, _, _, _, rfl⟩
  | 6, _ => exact ⟨_, rfl, by kernel_rfl, _, _, _, rfl⟩
  | 7, _ => exact ⟨_, rfl, by kernel_rfl, _, _, _, rfl⟩
  | 8, _ => exact ⟨_, rfl, by kernel_rfl, _, _, _, rfl⟩
  | 9, _ => exact ⟨_, rfl, by kernel_rfl, _, _, _, rfl⟩
  | 10, _ => exact ⟨_, rfl, by kernel_rfl, _, _, _, rfl⟩
  | 11, _ => exact ⟨_, rfl, by kernel_rfl, _, _, _, rfl⟩
  | 12, _ => exact ⟨_, rfl, by kernel_rfl, _, _, _, rfl⟩
  | 13, _ => exact ⟨_, rfl, by kernel_rfl, _, _, _, rfl⟩
  | 14, _ => exact ⟨_, rfl, by kernel_rfl, _, _, _, rfl⟩
def B_one : List S := [
      .iff (.cmp .NotEq (.fn (Str.ofString "_law_classes") [(.idx (.var 3) (.var 4))]) (.comp [7] (.name 7) .range1 [(.bi .len [(.var 3)])] none (.cmp .Eq (.var 7) (.var 4)))) [
        .ret (.cst (.bl false))] [],
      .iff (.or (.not (.isx (.idx (.var 3) (.var 4)) (Str.ofString "MileError"))) (.not (.isx (.idx (.var 3) (.var 4)) (Str.ofString "ValueError")))) [
        .ret (.cst (.bl false))] []]
/-- a turn, for each class -/
theorem one_turn (n : Nat) (i : Int) (o0 o1 o2 o5 o6 o7 : Option D) (s : Store) : ∀ at_, at_ < 15 → execs (Cn (n + 1)) tb.G B_one [o0, o1, o2, some (.lst (errs i)), some (.int (at_ : Nat)), o5, o6, o7] s = .nx [o0, o1, o2, some (.lst (errs i)), some (.int (at_ : Nat)), o5, o6, o7] s := by
  intro at_ h
  match at_, h with
  | 0, _ => kernel_rfl
  | 1, _ => kernel_rfl
  | 2, _ => kernel_rfl
  | 3, _ => kernel_rfl
  | 4, _ => kernel_rfl
  | 5, _ => kernel_rfl
  | 6, _ => kernel_rfl
  | 7, _ => kernel_rfl
  | 8, _ => kernel_rfl
  | 9, _ => kernel_rfl
  | 10, _ => kernel_rfl
  | 11, _ => kernel_rfl
  | 12, _ => kernel_rfl
  | 13, _ => kernel_rfl
  | 14, _ => kernel_rfl
def B_end : S := .iff (.or (.cmp .NotEq (.fldx (.idx (.var 3) (.cst (.int 13))) (Str.ofString "limit")) (.var 6)) (.cmp .NotEq (.fldx (.idx (.var 3) (.cst (.int 14))) (Str.ofString "row")) (.var 6))) [
      .ret (.cst (.bl false))] []
theorem law_body : B_law = [.for_ (.name 1) .range1 [(.bi .max2 [(.cst (.int 3)), (.bi .min2 [(.cst (.int 6)), (.bin .Add (.bi .len [(.var 0)]) (.cst (.int 2)))])])] [
    .set 2 (.fn (Str.ofString "_law_well") [(.var 0), (.var 1)]),
    .par [5, 6] [(.fn (Str.ofString "_law_pick") [(.var 2), (.lst [(.cst (.str (Str.ofString ""))), (.cst (.str (Str.ofString "a message"))), (.cst (.str (Str.ofString "x y")))])]), (.fn (Str.ofString "_law_lift") [(.var 2), (.cst (.int 1000))])],
    .set 3 (.fn (Str.ofString "_law_all_errors") [(.var 5), (.var 6)]),
    .for_ (.name 4) .range1 [(.bi .len [(.var 3)])] B_one,
    B_end], .ret (.cst (.bl true))] := rfl
theorem wf_nx {P : Pf} {r : F} {σ : MN.Env} {s : Store} (h : r = .nx σ s) (q : P.nx σ s) : wf P r := by rw [h]; exact q
theorem law_ok (ns : List Int) (hl : ns.length ≤ 63) : ∃ st, Cn 60 (Str.ofString "law") [.scr ns] [] = .ok (.bl true) st := by
  rw [Cn_succ T_law]
  suffices h : wp noE (callB (Cn 59) tb.G F_law [.scr ns] []) fun d _ => d = .bl true by
    obtain ⟨d, st, e, rfl⟩ := wp_ex h
    exact ⟨st, e⟩
  refine w_call rfl (by decide) rfl ?_
  rw [show F_law.body = B_law from rfl, law_body, show F_law.n = 8 from rfl]
  rw [x_cons, x_for]
  simp only [w_bi, w_bin, w_cons, w_nil, w_var, w_cst, cd_int]
  obtain ⟨w, hw, hw2⟩ : ∃ w : Nat, biO .max2 [.int 3, .int (if (ns.length : Int) + 2 < 6 then (ns.length : Int) + 2 else 6)] [] = some (.int w) ∧ w ≤ 12 := by
    show ∃ w : Nat, some (D.int _) = some (.int (w : Int)) ∧ w ≤ 12
    by_cases h : (ns.length : Int) + 2 < 6
    · rw [if_pos h]
      refine ⟨(if ns.length + 2 > 3 then ns.length + 2 else 3), ?_, by split <;> omega⟩
      congr 2
      split <;> split <;> omega
    · rw [if_neg h]
      exact ⟨6, rfl, by decide⟩
  refine ⟨_, rfl, _, rfl, _, bin_add, _, rfl, _, hw, _, list_range1 (t := 0) w (by omega) [], ?_⟩
  have hrng : ∀ x ∈ (List.range w).map fun (i : Nat) => D.int i, ∃ k : Nat, x = .int k ∧ k ≤ 100 := fun x hx => by
    obtain ⟨k, hk, rfl⟩ := List.mem_map.mp hx
    have := List.mem_range.mp hk
    exact ⟨k, rfl, by omega⟩
  refine forF_wf (fun rest σ s => ∃ o1 o2 o3 o4 o5 o6 o7, σ = [some (.scr ns), o1, o2, o3, o4, o5, o6, o7] ∧ SW s ∧ ∀ x ∈ rest, ∃ k : Nat, x = .int k ∧ k ≤ 100) ?_ ?_ ?_ _ _ _ ⟨none, none, none, none, none, none, none, rfl, (fun _ h => by cases h), hrng⟩
  · rintro x rest σ s ⟨o1, o2, o3, o4, o5, o6, o7, rfl, hs, hr⟩
    obtain ⟨k, rfl, hk⟩ := hr x List.mem_cons_self
    refine ⟨[some (.scr ns), some (.int k), o2, o3, o4, o5, o6, o7], rfl, ?_⟩
    simp only [x_cons, x_nil, x_set, x_par, x_for, w_fn, w_bi, w_lst, w_cons, w_nil, w_var, w_cst, cd_int, cd_str]
    refine ⟨_, rfl, _, rfl, ?_⟩
    refine wp_mono2 (well_ok 58 ns k hk s) ?_ (fun _ _ h => h)
    rintro _ _ ⟨rfl, a, b, hb, rfl⟩
    have hs2 := hs.app (a := a) hb
    have hn : s.length < (s ++ [wO a b]).length := by simp
    refine ⟨_, rfl, rfl, ?_⟩
    refine wp_mono2 (pick_ok 57 s.length _ _ hs2 hn (by simp) (by decide)) ?_ (fun _ _ h => h)
    rintro d s1 ⟨hd, w1⟩
    obtain ⟨x, rfl⟩ : ∃ x, d = .str x := by
      simp only [List.mem_cons, List.not_mem_nil, or_false] at hd
      rcases hd with rfl | rfl | rfl <;> exact ⟨_, rfl⟩
    have hn1 : s.length < s1.length := by rw [w1.2]; exact hn
    refine ⟨_, rfl, ?_⟩
    refine wp_mono2 (lift_ok 58 s.length 1000 s1 w1.1 hn1 (by decide) (by decide)) ?_ (fun _ _ h => h)
    rintro _ s2 ⟨⟨i, rfl, hi⟩, w2⟩
    refine ⟨_, rfl, _, rfl, _, rfl, ?_⟩
    rw [wp_eq (all_errors_ok 58 x i s2)]
    have lenE : ∀ s', biO .len [.lst (errs i)] s' = some (.int ((15 : Nat) : Int)) := fun s' => rfl
    have hx13 : ∀ s', ev (Cn 59) tb.G (.fldx (.idx (.var 3) (.cst (.int 13))) (Str.ofString "limit")) [some (.scr ns), some (.int k), some (.ref s.length), some (.lst (errs i)), o4, some (.str x), some (.int i), o7] s' = ev (Cn 59) tb.G (.fldx (.idx (.var 3) (.cst (.int 13))) (Str.ofString "limit")) [some (.scr ns), some (.int k), some (.ref s.length), some (.lst (errs i)), o4, some (.str x), some (.int i), o7] s' := fun _ => rfl
    clear hx13
    refine ⟨.lst (errs i), rfl, .int ((15 : Nat) : Int), lenE _, _, list_range1 (t := 0) 15 (by decide) [], ?_⟩
    generalize hrr : ((List.range 15).map fun (i : Nat) => D.int (i : Int)) = rr
    have hr15 : ∀ x ∈ rr, ∃ k : Nat, x = .int k ∧ k < 15 := fun x hx => by
      rw [← hrr] at hx
      obtain ⟨k, hk, rfl⟩ := List.mem_map.mp hx
      exact ⟨k, rfl, List.mem_range.mp hk⟩
    refine forF_wf (fun rest' σ s' => ∃ o4, σ = [some (.scr ns), some (.int k), some (.ref s.length), some (.lst (errs i)), o4, some (.str x), some (.int i), o7] ∧ s' = s2 ∧ ∀ x ∈ rest', ∃ k : Nat, x = .int k ∧ k < 15) ?_ ?_ ?_ _ _ _ ⟨_, rfl, rfl, hr15⟩
    · rintro x' rest' σ s' ⟨o4, rfl, rfl, hr'⟩
      obtain ⟨j, rfl, hj⟩ := hr' x' List.mem_cons_self
      refine ⟨_, rfl, wf_nx (one_turn 58 i _ _ _ _ _ _ _ j hj) ⟨_, rfl, rfl, fun y hy => hr' y (List.mem_cons_of_mem _ hy)⟩⟩
    · rintro σ s' ⟨o4, rfl, rfl, _⟩
      have e : exec (Cn 59) tb.G B_end [some (.scr ns), some (.int k), some (.ref s.length), some (.lst (errs i)), o4, some (.str x), some (.int i), o7] s' = .nx [some (.scr ns), some (.int k), some (.ref s.length), some (.lst (errs i)), o4, some (.str x), some (.int i), o7] s' := by
        have h1 : wf ⟨fun σ' s'' => σ' = [some (.scr ns), some (.int k), some (.ref s.length), some (.lst (errs i)), o4, some (.str x), some (.int i), o7] ∧ s'' = s', fun _ _ => False, fun _ _ => False, fun _ _ => False, fun _ _ _ => False⟩ (exec (Cn 59) tb.G B_end [some (.scr ns), some (.int k), some (.ref s.length), some (.lst (errs i)), o4, some (.str x), some (.int i), o7] s') := by
          have ee : ev (Cn 59) tb.G (.or (.cmp .NotEq (.fldx (.idx (.var 3) (.cst (.int 13))) (Str.ofString "limit")) (.var 6)) (.cmp .NotEq (.fldx (.idx (.var 3) (.cst (.int 14))) (Str.ofString "row")) (.var 6))) [some (.scr ns), some (.int k), some (.ref s.length), some (.lst (errs i)), o4, some (.str x), some (.int i), o7] s' = .ok (.bl false) s' := by
            have e13 : ev (Cn 59) tb.G (.fldx (.idx (.var 3) (.cst (.int 13))) (Str.ofString "limit")) [some (.scr ns), some (.int k), some (.ref s.length), some (.lst (errs i)), o4, some (.str x), some (.int i), o7] s' = .ok (.int i) s' := by kernel_rfl
            have e14 : ev (Cn 59) tb.G (.fldx (.idx (.var 3) (.cst (.int 14))) (Str.ofString "row")) [some (.scr ns), some (.int k), some (.ref s.length), some (.lst (errs i)), o4, some (.str x), some (.int i), o7] s' = .ok (.int i) s' := by kernel_rfl
            have ne : cmpO .NotEq (.int (i : Int)) (.int (i : Int)) s' = some false := by
              show some (!decide ((i : Int) = i)) = some false
              rw [decide_eq_true rfl]; rfl
            refine wp_det ?_
            simp only [w_or, w_cmp]
            rw [wp_eq e13]
            simp only [w_var]
            refine ⟨_, rfl, _, ne, ?_⟩
            rw [byB_f, wp_eq e14]
            exact ⟨_, rfl, _, ne, rfl, rfl⟩
          unfold B_end
          rw [x_iff, wp_eq ee, byB_f, x_nil]
          exact ⟨rfl, rfl⟩
        revert h1
        generalize exec (Cn 59) tb.G B_end [some (.scr ns), some (.int k), some (.ref s.length), some (.lst (errs i)), o4, some (.str x), some (.int i), o7] s' = r
        cases r with
        | nx σ' s'' => rintro ⟨rfl, rfl⟩; rfl
        | _ => exact fun h => h.elim
      refine wf_nx e ?_
      exact ⟨_, _, _, _, _, _, _, rfl, w2.1, fun x hx => hr x (List.mem_cons_of_mem _ hx)⟩
    · exact fun _ _ h => h.elim
  · rintro σ s ⟨o1, o2, o3, o4, o5, o6, o7, rfl, hs, _⟩
    simp only [x_cons, x_nil, x_ret, w_cst, cd_bl]
    rfl
  · exact fun _ _ h => h.elim
end MT
set_option Elab.async false
set_option linter.all false
set_option maxRecDepth 100000
set_option maxHeartbeats 0
namespace HeadT
open PySem PySem.Spec PyProof.Rows L2
abbrev fn : List He.DefD := MT.tb.hs
abbrev fa : List He.Fa := MT.tb.fa
def names0 : List PySem.Str := ["MileError", "InvalidBook", "InvalidSum", "InvalidMiles", "InvalidTrip", "InvalidNet", "InvalidNumber", "InvalidPaper", "InvalidQuestions", "InvalidFact", "InvalidIndex", "Impossible", "Unlike", "NothingToUndo", "TooMany", "InvalidText", "_law_well", "_law_lift", "_law_pick", "_law_all_errors"]
def names1 : List PySem.Str := ["_law_classes"]
def names : List PySem.Str := names0 ++ names1
abbrev R : PySem.W.OpenRow := PySem.W.OpenLaw.row PySem.Challenge.rw_milesuntold_k16_errors_and_their_classes
def ex (K : PySem.W.Frag) : Bool := MN.tupsB MT.tb K && MN.exB R.prog MT.tb.exs K && MN.exV MT.tb.ml MT.tb.exs K
abbrev hk : PySem.W.Hook := MN.hookM 4 fa fn ex
def ob (s : PySem.W.SharedT) : He.AlD × Bool := MN.obM 4 fa fn ex (HandSHeadRun.getT s)
theorem ob_eq (s : PySem.W.SharedT) : ob s = hk.obs s.abs := MN.obM_eq (HandSHeadRun.getT_eq s)
theorem run (w : World) : HandSHeadRun.RunEq R (PySem.W.view R.prog [23]) hk ob 12000 names w := by
  intro os
  kernel_rfl
end HeadT
open PySem PySem.W PySem.Calls PyProof.Rows
theorem head_holds (law : ∀ ns : List Int, ns.length ≤ 63 → ∃ st, MN.callN MT.tb.T MT.tb.G 60 "law" [.scr ns] [] = .ok (.bl true) st) : PySem.Challenge.rw_milesuntold_k16_errors_and_their_classes.Holds := by
  w_on; o_law
  refine HandSHeadRun.head_any (r := OpenLaw.row PySem.Challenge.rw_milesuntold_k16_errors_and_their_classes) (q := view (OpenLaw.row PySem.Challenge.rw_milesuntold_k16_errors_and_their_classes).prog [23]) (H := HeadT.hk) (ob := HeadT.ob) (M := 12000) (loose := HeadT.names) (d := HandSHeadRun.topDef (OpenLaw.row PySem.Challenge.rw_milesuntold_k16_errors_and_their_classes).prog 23) (kwd := []) HeadT.ob_eq
    (by kernel_rfl) (fun s => by kernel_rfl) HeadT.run (by kernel_rfl) (by kernel_rfl) (by kernel_rfl) (by rfl) (by first | assumption | decide +kernel) (by decide +kernel) ⟨rfl, rfl, rfl, rfl, rfl, by decide +kernel⟩ ?hw ?hc
  case hw => w_witness2
  case hc => exact MN.law_end (l := PySem.Challenge.rw_milesuntold_k16_errors_and_their_classes) (n := 63) (k := 60) (t := MT.tb) (df := MT.D_law) (x := "script") (d := HandSHeadRun.topDef (OpenLaw.row PySem.Challenge.rw_milesuntold_k16_errors_and_their_classes).prog 23) (by rfl) (by decide +kernel) (by rfl) ⟨rfl, by decide +kernel, by decide +kernel⟩ MT.okT (by kernel_rfl) (by rfl) (fun w mg h Y G => let ⟨K, hK, c⟩ := Y; ⟨K, hK, MN.sits_of hK G (by decide +kernel) (He.ba (He.ba c.2).1).1 (He.ba (He.ba c.2).1).2 (He.ba c.2).2 c.1⟩) law
open PySem PySem.W PyProof.Rows
set_option maxRecDepth 100000 in
set_option maxHeartbeats 0 in
theorem PySem.Challenge.cw_milesuntold_k16_errors_and_their_classes_holds : PySem.Challenge.rw_milesuntold_k16_errors_and_their_classes.Holds := by
  exact head_holds MT.law_ok
