import PyProof.Rows.All
import Wide.All
import OpenK.AllK
import Wide.FinOn
import KE.KStateDown
import PyProof.ReprReads
import HandS.Text
import HandS.ForMost
import HandS.ForExc
import HandS.Deep
import HandS.TupAny
import HandS.IsInst
import HandS.Flow
import HandS.Defaults
import HandS.Dict
import KE.KDictKeyed
import PyProof.StrOps2
import PyProof.ListStr
import PyProof.TupleOfStr
import HandS.TupMul
import KE.LtData
import KE.DataCmp
import KE.SortData
import KE.DataEq
import HandS.Small
import KE.KDictList
import KE.KDictSum
import KE.KDictCopyH
import KE.DataMinMax
import PyProof.ReprRoads
import PyProof.FitsInt
import PyProof.StrLawsRepr
import HandS.FStrTup
import HandS.Codes
import HandS.CallSlots
import HandS.HeadEnd
import HandS.HeadHook1
import HandS.HeadHook2
import HandS.TupSets
import HandS.Iter
import HandS.Zip
import KE.KUnpack
import HandS.Head0
import HandS.Head1
import HandS.Head2
import KE.KIntText
import PySem.Challenge.RW_playedback_k72_whole_told_values_as_text
set_option autoImplicit false
set_option linter.all false
set_option Elab.async false
set_option maxRecDepth 100000
set_option maxHeartbeats 4000000
section
/-! A pure machine: values, a small language, what it computes. -/
namespace Pm
open PySem

inductive EV where
  | non | bl (b : Bool) | int (i : Int) | str (x : Str)
  | tup (xs : List EV) | lst (xs : List EV) | obj (n : Nat) | scr (xs : List EV)
  deriving Inhabited

inductive Ob where
  | lst (xs : List EV) | dct (n : Bool) (kvs : List (EV × EV))
  deriving Inhabited
abbrev Sto := List Ob
abbrev En := List (Option EV)

inductive R (α : Type) where
  | ok (a : α) (s : Sto) | exc (c : Nat) (fs : List EV) (s : Sto) | stuck

def R.bind {α β : Type} (r : R α) (k : α → Sto → R β) : R β :=
  match r with
  | .ok a s => k a s
  | .exc c fs s => .exc c fs s
  | .stuck => .stuck

/-- no error may come -/
def R.nox {α : Type} : R α → R α
  | .exc _ _ _ => .stuck
  | r => r

inductive Bop where
  | add | sub | mul | fdiv | mod | pow
  deriving DecidableEq
inductive Cop where
  | eq | ne | lt | le | gt | ge | inn | nin | is | isn | eqn
  deriving DecidableEq
inductive Prim where
  | len | tup | lst | int | abs | max2 | min2 | isTup | isInt | isStr | isBool | append | dict (n : Bool) | sorted | get2 | min1 | max1 | repr | srtset | all | strI | join | pop
  deriving DecidableEq

mutual
inductive Ex where
  | var (i : Nat)
  | cst (v : EV)
  | glo (g : Nat)
  | tup (es : As)
  | lst (m : Bool) (es : As)
  | bin (o : Bop) (a b : Ex)
  | neg (a : Ex)
  | notE (a : Ex)
  | cmp (o : Cop) (a b : Ex)
  | andE (a b : Ex)
  | orE (a b : Ex)
  | ite (c a b : Ex)
  | call (f : Nat) (es : As)
  | prim (p : Prim) (es : As)
  | meth (p : Prim) (o : Ex) (es : As)
  | idx (a b : Ex)
  | slc (a : Ex) (lo hi : Op)
  | dnw (n : Bool)
  | comp (m : Bool) (t : Tg) (s : Src) (c : Op) (e : Ex) (own : List Nat)
  | compK (t : Tg) (v : Nat) (c : Op) (e : Ex) (own : List Nat)
  | chn (o p : Cop) (a b c : Ex)
  | bad
inductive As where
  | nil | cons (e : Ex) (r : As)
inductive Op where
  | no | yes (e : Ex)
inductive Src where
  | ex (e : Ex) | rng1 (a : Ex) | rng2 (a b : Ex) | enm (e : Ex) | zip (a b : Ex)
inductive Tg where
  | var (i : Nat) | tup (ts : Tgs) | sub (o i : Ex)
inductive Tgs where
  | nil | cons (t : Tg) (r : Tgs)
end

inductive Sm where
  | skip
  | seq (a b : Sm)
  | asg (t : Tg) (e : Ex)
  | aug (i : Nat) (o : Bop) (e : Ex)
  | exp (e : Ex)
  | ife (c : Ex) (a b : Sm)
  | for_ (t : Tg) (s : Src) (b : Sm)
  | whl (c : Ex) (b : Sm)
  | ret (e : Ex)
  | retN
  | brk
  | cnt
  | bad

/-- what is walked -/
inductive Its where
  | st (xs : List EV) | ob (n : Nat)

def big : Nat := 16777216
/-- a text by its signs -/
def tx (l : List Nat) : EV := .str ⟨l.toArray⟩

def truth (s : Sto) : EV → Option Bool
  | .non => some false
  | .bl b => some b
  | .int i => some (i != 0)
  | .str x => some (x.length != 0)
  | .tup xs => some (!xs.isEmpty)
  | .lst xs => some (!xs.isEmpty)
  | .obj n => match s[n]? with
    | some (.lst xs) => some (!xs.isEmpty)
    | some (.dct _ _) => none
    | none => none
  | .scr _ => none

mutual
def veq : EV → EV → Bool
  | .non, .non => true
  | .bl a, .bl b => a == b
  | .bl a, .int j => (if a then 1 else 0) == j
  | .int i, .bl b => i == (if b then 1 else 0)
  | .int i, .int j => i == j
  | .str x, .str y => x == y
  | .tup xs, .tup ys => veqs xs ys
  | .lst xs, .lst ys => veqs xs ys
  | _, _ => false
def veqs : List EV → List EV → Bool
  | [], [] => true
  | x :: xs, y :: ys => veq x y && veqs xs ys
  | _, _ => false
end

mutual
/-- as the model's data -/
def pd : EV → PyData
  | .non => .none
  | .bl b => .bool b
  | .int i => .int i
  | .str x => .str x
  | .tup xs => .tuple (pds xs)
  | .lst xs => .list (pds xs)
  | .obj _ => .none
  | .scr _ => .none
def pds : List EV → List PyData
  | [] => []
  | x :: xs => pd x :: pds xs
end

mutual
/-- data of at most a depth -/
def okd : EV → Nat → Bool
  | .non, _ => true
  | .bl _, _ => true
  | .int _, _ => true
  | .str _, _ => true
  | .tup _, 0 => false
  | .tup xs, n + 1 => okds xs n
  | .lst _, 0 => false
  | .lst xs, n + 1 => okds xs n
  | .obj _, _ => false
  | .scr _, _ => false
def okds : List EV → Nat → Bool
  | [], _ => true
  | x :: xs, n => okd x n && okds xs n
end

def isNone : EV → Bool
  | .non => true
  | _ => false
/-- a list object is read as its list -/
def look (s : Sto) : EV → EV
  | .obj n => match s[n]? with
    | some (.lst xs) => .lst xs
    | _ => .obj n
  | v => v

/-! ### order -/
mutual
/-- the two can be compared, place by place -/
def vlike : EV → EV → Bool
  | .non, .non => true
  | .bl _, .bl _ => true
  | .int _, .int _ => true
  | .str _, .str _ => true
  | .lst xs, .lst ys => vlikes xs ys
  | .tup xs, .tup ys => vlikes xs ys
  | _, _ => false
def vlikes : List EV → List EV → Bool
  | x :: xs, y :: ys => vlike x y && vlikes xs ys
  | [], _ => true
  | _ :: _, [] => true
end
mutual
/-- the less, of two that can be compared -/
def vlt : EV → EV → Bool
  | .bl a, .bl b => !a && b
  | .int i, .int j => decide (i < j)
  | .str x, .str y => decide (x.cps.toList < y.cps.toList)
  | .lst xs, .lst ys => vlts xs ys
  | .tup xs, .tup ys => vlts xs ys
  | _, _ => false
def vlts : List EV → List EV → Bool
  | x :: xs, y :: ys => if veq x y then vlts xs ys else vlt x y
  | [], y :: _ => true
  | _, [] => false
end
def ordOk (a b : EV) : Bool := okd a 60 && okd b 60 && vlike a b && !isNone a
def ordf (f : EV → EV → Bool) (a b : EV) (s : Sto) : R EV := if ordOk (look s a) (look s b) then .ok (.bl (f (look s a) (look s b))) s else .stuck
/-! ### dicts -/
mutual
/-- what a nested key may be -/
def nkOk : EV → Nat → Bool
  | .non, _ => true
  | .int _, _ => true
  | .str _, _ => true
  | .tup _, 0 => false
  | .tup xs, n + 1 => nkOks xs n
  | _, _ => false
def nkOks : List EV → Nat → Bool
  | [], _ => true
  | x :: xs, n => nkOk x n && nkOks xs n
end
/-- a key of a dict of numbers and texts | of tuples -/
def isKey (n : Bool) (k : EV) : Bool := match n, k with
  | false, .int _ => true
  | false, .str _ => true
  | true, .tup xs => nkOks xs 7
  | _, _ => false
def dget : List (EV × EV) → EV → Option EV
  | [], _ => none
  | p :: r, k => if veq p.1 k then some p.2 else dget r k
def drep : List (EV × EV) → EV → EV → List (EV × EV)
  | [], _, _ => []
  | p :: r, k, v => (if veq p.1 k then (p.1, v) else p) :: drep r k v
def dput (kvs : List (EV × EV)) (k v : EV) : List (EV × EV) := if (dget kvs k).isSome then drep kvs k v else kvs ++ [(k, v)]
def odct (s : Sto) : EV → Option (Bool × List (EV × EV))
  | .obj n => match s[n]? with
    | some (.dct f kvs) => some (f, kvs)
    | _ => none
  | _ => none

/-- a text of one sign -/
def sign? : EV → Option Nat
  | .str ⟨⟨[c]⟩⟩ => some c
  | _ => none
/-- a text's signs -/
def signs (z : Str) : List EV := z.cps.toList.map fun c => .str ⟨#[c]⟩
/-- x in c, c a list, a tuple or a text -/
def memf (neg : Bool) (a b : EV) (s : Sto) : R EV :=
  match look s b with
  | .lst ys => if okd (look s a) 60 && okds ys 59 then .ok (.bl (xor neg (ys.any fun y => veq y (look s a)))) s else .stuck
  | .tup ys => if okd (look s a) 60 && okds ys 59 then .ok (.bl (xor neg (ys.any fun y => veq y (look s a)))) s else .stuck
  | .str z => match sign? a with
    | some c => .ok (.bl (xor neg (decide (c ∈ z.cps.toList)))) s
    | none => .stuck
  | _ => .stuck
def cmpf (o : Cop) (a b : EV) (s : Sto) : R EV :=
  match o with
  | .eq => if okd (look s a) 60 && okd (look s b) 60 then .ok (.bl (veq (look s a) (look s b))) s else .stuck
  | .ne => if okd (look s a) 60 && okd (look s b) 60 then .ok (.bl (!veq (look s a) (look s b))) s else .stuck
  | .lt => match a, b with
    | .int i, .int j => .ok (.bl (decide (i < j))) s
    | a, b => ordf (fun a b => vlt a b) a b s
  | .le => match a, b with
    | .int i, .int j => .ok (.bl (decide (i ≤ j))) s
    | a, b => ordf (fun a b => !vlt b a) a b s
  | .gt => match a, b with
    | .int i, .int j => .ok (.bl (decide (j < i))) s
    | a, b => ordf (fun a b => vlt b a) a b s
  | .ge => match a, b with
    | .int i, .int j => .ok (.bl (decide (j ≤ i))) s
    | a, b => ordf (fun a b => !vlt a b) a b s
  | .is => match b with
    | .non => .ok (.bl (isNone a)) s
    | _ => .stuck
  | .isn => match b with
    | .non => .ok (.bl (!isNone a)) s
    | _ => .stuck
  | .eqn => match look s a, look s b with
    | .lst xs, .lst [] => .ok (.bl xs.isEmpty) s
    | _, _ => .stuck
  | .inn => match odct s b with
    | some (f, kvs) => if isKey f a then .ok (.bl (dget kvs a).isSome) s else .stuck
    | none => memf false a b s
  | .nin => match odct s b with
    | some (f, kvs) => if isKey f a then .ok (.bl (!(dget kvs a).isSome)) s else .stuck
    | none => memf true a b s

/-- a text, so often -/
def repS (x : Str) (j : Int) : Str := ⟨(List.replicate j.toNat x.cps.toList).flatten.toArray⟩
def binf (o : Bop) (a b : EV) (s : Sto) : R EV :=
  match o, a, b with
  | .add, .int i, .int j => .ok (.int (i + j)) s
  | .add, .str x, .str y => if x.length + y.length ≤ big then .ok (.str (x ++ y)) s else .stuck
  | .add, .tup x, .tup y => if x.length + y.length ≤ big then .ok (.tup (x ++ y)) s else .stuck
  | .add, a, b => match look s a, look s b with
    | .lst x, .lst y => if x.length + y.length ≤ big then .ok (.lst (x ++ y)) s else .stuck
    | _, _ => .stuck
  | .sub, .int i, .int j => .ok (.int (i - j)) s
  | .mul, .int i, .int j => if (decide (-(2 ^ 64) < i) && decide (i < 2 ^ 64)) || (decide (-(2 ^ 64) < j) && decide (j < 2 ^ 64)) then .ok (.int (i * j)) s else .stuck
  | .mul, .str x, .int j => if j < 1000001 ∧ -1000001 < j ∧ x.length * j.toNat ≤ big then .ok (.str (repS x j)) s else .stuck
  | .mul, .tup x, .int j => if 2 ≤ j ∧ j ≤ 100000 ∧ x.isEmpty = false ∧ x.length ≤ 100 then .ok (.tup (List.replicate j.toNat x).flatten) s else .stuck
  | .mul, .lst x, .int j => if 0 ≤ j ∧ j ≤ 100000 ∧ x.length ≤ 100 then .ok (.lst (List.replicate j.toNat x).flatten) s else .stuck
  | .fdiv, .int i, .int j => if 0 < j ∧ j < 1073741824 then .ok (.int (i / j)) s else .stuck
  | .mod, .int i, .int j => if 0 < j then .ok (.int (i % j)) s else .stuck
  | .pow, .int i, .int j => if 0 ≤ j ∧ j ≤ 1000000 ∧ i.natAbs < 2 ^ 64 then .ok (.int (i ^ j.toNat)) s else .stuck
  | _, _, _ => .stuck

def ixn (n : Nat) (i : Int) : Option Nat :=
  if 0 ≤ i then (if i < n then some i.toNat else none) else if -(n : Int) ≤ i then some (i + n).toNat else none
def six (n d : Nat) : Option Int → Nat
  | none => d
  | some v => if v < 0 then (v + (n : Int)).toNat else min v.toNat n
def cut {α : Type} (xs : List α) (lo hi : Option Int) : List α :=
  (xs.drop (six xs.length 0 lo)).take (six xs.length xs.length hi - six xs.length 0 lo)

def idxL (a b : EV) (s : Sto) : R EV :=
  match look s a, b with
  | .tup xs, .int i => match (ixn xs.length i).bind fun j => xs[j]? with
    | some v => .ok v s
    | none => .stuck
  | .lst xs, .int i => match (ixn xs.length i).bind fun j => xs[j]? with
    | some v => .ok v s
    | none => .stuck
  | .str z, .int i => match (ixn z.cps.toList.length i).bind fun j => z.cps.toList[j]? with
    | some c => .ok (.str ⟨#[c]⟩) s
    | none => .stuck
  | _, _ => .stuck

def idxf (a b : EV) (s : Sto) : R EV :=
  match odct s a with
  | some (f, kvs) => if isKey f b then (match dget kvs b with
    | some v => .ok v s
    | none => .stuck) else .stuck
  | none => idxL a b s

def part : Option EV → Option (Option Int)
  | none => some none
  | some (.int i) => some (some i)
  | _ => none
def slcf (a : EV) (l h : Option Int) (s : Sto) : R EV :=
  match look s a with
  | .tup xs => .ok (.tup (cut xs l h)) s
  | .lst xs => .ok (.lst (cut xs l h)) s
  | .str z => .ok (.str ⟨(cut z.cps.toList l h).toArray⟩) s
  | _ => .stuck

def setL (o i v : EV) (s : Sto) : R Unit :=
  match o, i with
  | .obj n, .int k => match s[n]? with
    | some (.lst xs) => match ixn xs.length k with
      | some j => .ok () (s.set n (.lst (xs.set j v)))
      | none => .stuck
    | _ => .stuck
  | _, _ => .stuck

/-- the object's number -/
def onum : EV → Nat
  | .obj n => n
  | _ => 0
def setix (o i v : EV) (s : Sto) : R Unit :=
  match odct s o with
  | some (f, kvs) => if isKey f i && decide (kvs.length < big) then .ok () (s.set (onum o) (.dct f (dput kvs i v))) else .stuck
  | none => setL o i v s

/-- a value's type: None 0, bool 1, int 2, str 3, tuple 4, list 5 -/
def tyn (s : Sto) : EV → Option Nat
  | .non => some 0
  | .bl _ => some 1
  | .int _ => some 2
  | .str _ => some 3
  | .tup _ => some 4
  | .lst _ => some 5
  | .obj n => match s[n]? with
    | some (.lst _) => some 5
    | _ => none
  | .scr _ => none
def lenf : List EV → Sto → R EV
  | [v], s => match odct s v with
    | some (_, kvs) => .ok (.int kvs.length) s
    | none => match look s v with
      | .tup xs => .ok (.int xs.length) s
      | .lst xs => .ok (.int xs.length) s
      | .str x => .ok (.int x.length) s
      | _ => .stuck
  | _, _ => .stuck
def tupf : List EV → Sto → R EV
  | [v], s => match look s v with
    | .tup xs => .ok (.tup xs) s
    | .lst xs => .ok (.tup xs) s
    | .str z => .ok (.tup (signs z)) s
    | _ => .stuck
  | _, _ => .stuck
def lstf : List EV → Sto → R EV
  | [v], s => match odct s v with
    | some (_, kvs) => .ok (.lst (kvs.map (·.1))) s
    | none => match look s v with
      | .tup xs => .ok (.lst xs) s
      | .lst xs => .ok (.lst xs) s
      | .scr xs => .ok (.lst xs) s
      | .str z => .ok (.lst (signs z)) s
      | _ => .stuck
  | _, _ => .stuck
def intf : List EV → Sto → R EV
  | [.int i], s => .ok (.int i) s
  | [.str x], s => match PySem.intText? x with
    | some n => if x.length ≤ 640 then .ok (.int n) s else .stuck
    | none => .stuck
  | _, _ => .stuck
/-- str(i) -/
def strIf : List EV → Sto → R EV
  | [.int i], s => if i.natAbs.log2 < 1920 then .ok (.str (toString i)) s else .stuck
  | _, _ => .stuck
/-- bits alone -/
def bitsOf : List EV → Option (List Bool)
  | [] => some []
  | .bl b :: r => (bitsOf r).map fun q => b :: q
  | _ => none
def allf : List EV → Sto → R EV
  | [v], s => match look s v with
    | .lst xs => match bitsOf xs with
      | some bs => .ok (.bl (bs.all id)) s
      | none => .stuck
    | _ => .stuck
  | _, _ => .stuck
/-- texts alone -/
def textsOf : List EV → Option (List Str)
  | [] => some []
  | .str b :: r => (textsOf r).map fun q => b :: q
  | _ => none
def joinf : List EV → Sto → R EV
  | [.str a, v], s => match look s v with
    | .lst xs => match textsOf xs with
      | some ys => if (ys.map (·.length)).sum + ys.length * a.length ≤ big then .ok (.str (PySem.Str.join a ys)) s else .stuck
      | none => .stuck
    | _ => .stuck
  | _, _ => .stuck
def popf : List EV → Sto → R EV
  | [.obj n], s => match s[n]? with
    | some (.lst xs) => match xs.getLast? with
      | some v => .ok v (s.set n (.lst xs.dropLast))
      | none => .stuck
    | _ => .stuck
  | _, _ => .stuck
def absf : List EV → Sto → R EV
  | [.int i], s => .ok (.int (if i < 0 then -i else i)) s
  | _, _ => .stuck
def max2f : List EV → Sto → R EV
  | [.int i, .int j], s => .ok (.int (if j > i then j else i)) s
  | _, _ => .stuck
def min2f : List EV → Sto → R EV
  | [.int i, .int j], s => .ok (.int (if j < i then j else i)) s
  | _, _ => .stuck
def isf (c : Nat → Bool) : List EV → Sto → R EV
  | [v], s => match tyn s v with
    | some t => .ok (.bl (c t)) s
    | none => .stuck
  | _, _ => .stuck
def appendf : List EV → Sto → R EV
  | [.obj n, v], s => match s[n]? with
    | some (.lst xs) => if xs.length < big then .ok .non (s.set n (.lst (xs ++ [v]))) else .stuck
    | _ => .stuck
  | _, _ => .stuck
def pairs (n : Bool) : List EV → Option (List (EV × EV))
  | [] => some []
  | .tup [k, v] :: r => if isKey n k then (pairs n r).map fun q => (k, v) :: q else none
  | _ => none
def dmake (kvs : List (EV × EV)) : List (EV × EV) := kvs.foldl (fun a p => dput a p.1 p.2) []
def dictf (n : Bool) : List EV → Sto → R EV
  | [v], s => match look s v with
    | .lst xs => match pairs n xs with
      | some kvs => .ok (.obj s.length) (s ++ [.dct n (dmake kvs)])
      | none => .stuck
    | _ => .stuck
  | _, _ => .stuck
/-- can be sorted -/
def srtOk (xs : List EV) : Bool := (xs.all fun x => okd x 60 && xs.all fun y => vlike x y) &&
  ((xs.all fun x => match x with
    | .tup (_ :: _) => true
    | _ => false) || xs.all fun x => match x with
    | .tup _ => false
    | .non => false
    | _ => true)
def vsort (xs : List EV) : List EV := xs.mergeSort fun a b => !vlt b a
def sortf : List EV → Sto → R EV
  | [v], s => match odct s v with
    | some (_, kvs) => if srtOk (kvs.map (·.1)) then .ok (.lst (vsort (kvs.map (·.1)))) s else .stuck
    | none => match look s v with
      | .lst xs => if srtOk xs then .ok (.lst (vsort xs)) s else .stuck
      | _ => .stuck
  | _, _ => .stuck
/-- can be compared -/
def alkOk (xs : List EV) : Bool := xs.all fun x => okd x 60 && !isNone x && xs.all fun y => vlike x y
def vmin (x : EV) (xs : List EV) : EV := xs.foldl (fun a y => if vlt y a then y else a) x
def vmax (x : EV) (xs : List EV) : EV := xs.foldl (fun a y => if vlt a y then y else a) x
def min1f : List EV → Sto → R EV
  | [v], s => match look s v with
    | .lst (x :: xs) => if alkOk (x :: xs) then .ok (vmin x xs) s else .stuck
    | _ => .stuck
  | _, _ => .stuck
def max1f : List EV → Sto → R EV
  | [v], s => match look s v with
    | .lst (x :: xs) => if alkOk (x :: xs) then .ok (vmax x xs) s else .stuck
    | _ => .stuck
  | _, _ => .stuck
mutual
/-- the most signs of a value's text -/
def rlen : EV → Nat
  | .int i => if i.natAbs < 10 ^ 20 then 21 else 2000
  | .str x => 10 * x.length + 2
  | .tup xs => rlens xs + 3
  | .lst xs => rlens xs + 3
  | _ => 5
def rlens : List EV → Nat
  | [] => 0
  | x :: xs => rlen x + 2 + rlens xs
end
/-- a value's text -/
def shw (v : EV) : Str := (pd v).shown
def reprf : List EV → Sto → R EV
  | [v], s => if okd (look s v) 60 && (pd (look s v)).showable && decide (rlen (look s v) ≤ big) then .ok (.str (shw (look s v))) s else .stuck
  | _, _ => .stuck
/-- numbers alone -/
def intsOf : List EV → Option (List Int)
  | [] => some []
  | .int i :: r => (intsOf r).map fun q => i :: q
  | _ => none
/-- tuples of numbers alone -/
def tupsOf : List EV → Option (List (List Int))
  | [] => some []
  | .tup xs :: r => (intsOf xs).bind fun n => (tupsOf r).map fun q => n :: q
  | _ => none
/-- each once -/
def once : List (List Int) → List (List Int)
  | [] => []
  | x :: r => if x ∈ r then once r else x :: once r
def tupE (n : List Int) : EV := .tup (n.map .int)
/-- sorted(set(xs)), xs tuples of numbers -/
def srtsetf : List EV → Sto → R EV
  | [v], s => match look s v with
    | .lst xs => match tupsOf xs with
      | some ns => if decide (ns.length < 64) && srtOk ((once ns).map tupE) then .ok (.lst (vsort ((once ns).map tupE))) s else .stuck
      | none => .stuck
    | _ => .stuck
  | _, _ => .stuck
def get2f : List EV → Sto → R EV
  | [o, k, d], s => match odct s o with
    | some (f, kvs) => if isKey f k then .ok ((dget kvs k).getD d) s else .stuck
    | none => .stuck
  | _, _ => .stuck
def isTupC (t : Nat) : Bool := t == 4
def isIntC (t : Nat) : Bool := t == 1 || t == 2
def isStrC (t : Nat) : Bool := t == 3
def isBoolC (t : Nat) : Bool := t == 1
def primf : Prim → List EV → Sto → R EV
  | .len => lenf
  | .tup => tupf
  | .lst => lstf
  | .int => intf
  | .abs => absf
  | .max2 => max2f
  | .min2 => min2f
  | .isTup => isf isTupC
  | .isInt => isf isIntC
  | .isStr => isf isStrC
  | .isBool => isf isBoolC
  | .append => appendf
  | .dict n => dictf n
  | .sorted => sortf
  | .get2 => get2f
  | .min1 => min1f
  | .max1 => max1f
  | .repr => reprf
  | .srtset => srtsetf
  | .all => allf
  | .strI => strIf
  | .join => joinf
  | .pop => popf

/-- a method's receiver -/
def mok (s : Sto) (x : EV) : Prim → Bool
  | .append => match look s x with
    | .lst _ => true
    | _ => false
  | .get2 => (odct s x).isSome
  | .pop => match look s x with
    | .lst _ => true
    | _ => false
  | .join => match x with
    | .str _ => true
    | _ => false
  | _ => false
def wipe (ρ : En) : List Nat → En
  | [] => ρ
  | v :: vs => (wipe ρ vs).set v none

mutual
/-- no object lies in it -/
def noObj : EV → Bool
  | .obj _ => false
  | .scr _ => false
  | .tup xs => noObjs xs
  | .lst xs => noObjs xs
  | _ => true
def noObjs : List EV → Bool
  | [] => true
  | x :: xs => noObj x && noObjs xs
end
/-- the names that hold data alone -/
def dat (ρ : En) : En := ρ.map fun o => match o with
  | some v => if noObj v then some v else none
  | none => none
/-- a comprehension's turns -/
def cst (body : EV → Sto → R (Option EV)) : List EV → Sto → R (List EV)
  | [], s => .ok [] s
  | x :: xs, s => (body x s).bind fun o s1 => (cst body xs s1).bind fun r s2 => .ok (o.toList ++ r) s2
def cdy (n : Nat) (body : EV → Sto → R (Option EV)) : Nat → Nat → Sto → R (List EV)
  | 0, _, _ => .stuck
  | k + 1, i, s => match s[n]? with
    | some (.lst xs) => match xs[i]? with
      | none => .ok [] s
      | some x => (body x s).bind fun o s1 => (cdy n body k (i + 1) s1).bind fun r s2 => .ok (o.toList ++ r) s2
    | _ => .stuck
def walked (v : EV) (s : Sto) : R Its :=
  match v with
  | .tup xs => .ok (.st xs) s
  | .lst xs => .ok (.st xs) s
  | .obj n => match s[n]? with
    | some (.lst _) => .ok (.ob n) s
    | _ => .stuck
  | .str z => .ok (.st (signs z)) s
  | _ => .stuck
/-- enumerate -/
def enums : Nat → List EV → List EV
  | _, [] => []
  | i, x :: xs => .tup [.int (i : Nat), x] :: enums (i + 1) xs
def enumf (v : EV) (s : Sto) : R Its :=
  match v with
  | .lst xs => .ok (.st (enums 0 xs)) s
  | _ => .stuck
/-- zip -/
def zips : List EV → List EV → List EV
  | x :: xs, y :: ys => .tup [x, y] :: zips xs ys
  | _, _ => []
def zipf (v u : EV) (s : Sto) : R Its :=
  match v, u with
  | .tup xs, .tup ys => .ok (.st (zips xs ys)) s
  | .lst xs, .lst ys => .ok (.st (zips xs ys)) s
  | _, _ => .stuck
def rngs (a : Int) (n : Nat) : List EV := (List.range n).map fun (k : Nat) => EV.int (a + (k : Int))
def rngf (a b : Int) (s : Sto) : R Its :=
  if -(2 ^ 62) ≤ a ∧ a < 2 ^ 62 ∧ -(2 ^ 62) ≤ b ∧ b < 2 ^ 62 ∧ (b - a).toNat < big then .ok (.st (rngs a (b - a).toNat)) s else .stuck

/-- the surroundings: the defs' meanings, the module's constants, the most turns of a while -/
structure Ct where
  F : Nat → List EV → Sto → R EV
  G : Nat → Option EV
  fu : Nat

section
variable (C : Ct)
mutual
def den : Ex → En → Sto → R EV
  | .var i, ρ, s => match ρ[i]? with
    | some (some v) => .ok v s
    | _ => .stuck
  | .cst v, _, s => .ok v s
  | .glo g, _, s => match C.G g with
    | some v => .ok v s
    | none => .stuck
  | .tup es, ρ, s => (denA es ρ s).bind fun vs s1 => .ok (.tup vs) s1
  | .lst m es, ρ, s => (denA es ρ s).bind fun vs s1 => if m then .ok (EV.obj s1.length) (s1 ++ [Ob.lst vs]) else .ok (EV.lst vs) s1
  | .bin o a b, ρ, s => (den a ρ s).bind fun x s1 => (den b ρ s1).bind fun y s2 => binf o x y s2
  | .neg a, ρ, s => (den a ρ s).bind fun x s1 => match x with
    | .int i => .ok (.int (-i)) s1
    | _ => .stuck
  | .notE a, ρ, s => (den a ρ s).bind fun x s1 => match truth s1 x with
    | some b => .ok (.bl (!b)) s1
    | none => .stuck
  | .cmp o a b, ρ, s => (den a ρ s).bind fun x s1 => (den b ρ s1).bind fun y s2 => cmpf o x y s2
  | .andE a b, ρ, s => (den a ρ s).bind fun x s1 => match truth s1 x with
    | some true => den b ρ s1
    | some false => .ok x s1
    | none => .stuck
  | .orE a b, ρ, s => (den a ρ s).bind fun x s1 => match truth s1 x with
    | some true => .ok x s1
    | some false => den b ρ s1
    | none => .stuck
  | .ite c a b, ρ, s => (den c ρ s).bind fun x s1 => match truth s1 x with
    | some true => den a ρ s1
    | some false => den b ρ s1
    | none => .stuck
  | .call f es, ρ, s => (denA es ρ s).bind fun vs s1 => C.F f vs s1
  | .prim p es, ρ, s => (denA es ρ s).bind fun vs s1 => primf p vs s1
  | .meth p o es, ρ, s => (den o ρ s).bind fun x s1 => if mok s1 x p = true then (denA es ρ s1).bind fun vs s2 => primf p (x :: vs) s2 else .stuck
  | .idx a b, ρ, s => (den a ρ s).bind fun x s1 => (den b ρ s1).bind fun y s2 => idxf x y s2
  | .slc a lo hi, ρ, s => (den a ρ s).bind fun x s1 => (denO lo ρ s1).bind fun l s2 => match part l with
    | none => .stuck
    | some l' => (denO hi ρ s2).bind fun h s3 => match part h with
      | none => .stuck
      | some h' => slcf x l' h' s3
  | .dnw n, _, s => .ok (EV.obj s.length) (s ++ [Ob.dct n []])
  | .comp m t sr c e own, ρ, s => (denS sr ρ s).bind fun its s1 =>
      (match its with
        | .st xs => cst (fun x s2 => (asgT t x (wipe ρ own) s2).bind fun ρ3 s3 => (denO c ρ3 s3).bind fun o s4 =>
            match o.elim (some true) (truth s4) with
            | some true => (den e ρ3 s4).bind fun y s5 => .ok (some y) s5
            | some false => .ok none s4
            | none => .stuck) xs s1
        | .ob n => cdy n (fun x s2 => (asgT t x (wipe ρ own) s2).bind fun ρ3 s3 => (denO c ρ3 s3).bind fun o s4 =>
            match o.elim (some true) (truth s4) with
            | some true => (den e ρ3 s4).bind fun y s5 => .ok (some y) s5
            | some false => .ok none s4
            | none => .stuck) C.fu 0 s1).nox.bind fun vs s5 => if m then .ok (EV.obj s5.length) (s5 ++ [Ob.lst vs]) else .ok (EV.lst vs) s5
  | .compK t v c e own, ρ, s => match ρ[v]? with
    | some (some (.obj n)) => match s[n]? with
      | some (.dct true kvs) => match (cst (fun x s2 => (asgT t x (wipe (dat ρ) own) s2).bind fun ρ3 s3 => (denO c ρ3 s3).bind fun o s4 =>
            match o.elim (some true) (truth s4) with
            | some true => (den e ρ3 s4).bind fun y s5 => .ok (some y) s5
            | some false => .ok none s4
            | none => .stuck) (kvs.map (·.1)) []) with
        | .ok vs s5 => if s5.isEmpty && noObjs vs then .ok (.lst vs) s else .stuck
        | _ => .stuck
      | _ => .stuck
    | _ => .stuck
  | .chn o p a b c, ρ, s => (den a ρ s).bind fun x s1 => (den b ρ s1).bind fun y s2 => (cmpf o x y s2).bind fun v s3 => match v with
    | .bl true => (den c ρ s3).bind fun z s4 => cmpf p y z s4
    | .bl false => .ok (.bl false) s3
    | _ => .stuck
  | .bad, _, _ => .stuck
def denA : As → En → Sto → R (List EV)
  | .nil, _, s => .ok [] s
  | .cons e r, ρ, s => (den e ρ s).bind fun v s1 => (denA r ρ s1).bind fun vs s2 => .ok (v :: vs) s2
def denO : Op → En → Sto → R (Option EV)
  | .no, _, s => .ok none s
  | .yes e, ρ, s => (den e ρ s).bind fun v s1 => .ok (some v) s1
def denS : Src → En → Sto → R Its
  | .ex e, ρ, s => (den e ρ s).bind fun v s1 => walked v s1
  | .rng1 a, ρ, s => (den a ρ s).bind fun v s1 => match v with
    | .int i => rngf 0 i s1
    | _ => .stuck
  | .rng2 a b, ρ, s => (den a ρ s).bind fun v s1 => (den b ρ s1).bind fun u s2 => match v, u with
    | .int i, .int j => rngf i j s2
    | _, _ => .stuck
  | .enm e, ρ, s => (den e ρ s).bind fun v s1 => enumf v s1
  | .zip a b, ρ, s => (den a ρ s).bind fun v s1 => (den b ρ s1).bind fun u s2 => zipf v u s2
def asgT : Tg → EV → En → Sto → R En
  | .var i, v, ρ, s => if i < ρ.length then .ok (ρ.set i (some v)) s else .stuck
  | .tup ts, v, ρ, s => match look s v with
    | .tup vs => asgTs ts vs ρ s
    | .lst vs => asgTs ts vs ρ s
    | _ => .stuck
  | .sub o i, v, ρ, s => (den o ρ s).bind fun x s1 => (den i ρ s1).bind fun y s2 => (setix x y v s2).bind fun _ s3 => .ok ρ s3
def asgTs : Tgs → List EV → En → Sto → R En
  | .nil, [], ρ, s => .ok ρ s
  | .cons t r, v :: vs, ρ, s => (asgT t v ρ s).bind fun ρ1 s1 => asgTs r vs ρ1 s1
  | _, _, _, _ => .stuck
end

/-- how a statement ends -/
inductive Fl where
  | nx (ρ : En) | rt (v : EV) | bk (ρ : En) | ct (ρ : En) | rs (c : Nat) (fs : List EV) (ρ : En)

abbrev RS := Option (Fl × Sto)
def R.at {α : Type} (r : R α) (ρ : En) (k : α → Sto → RS) : RS :=
  match r with
  | .ok a s => k a s
  | .exc c fs s => some (.rs c fs ρ, s)
  | .stuck => none

def fst_ (body : EV → En → Sto → RS) : List EV → En → Sto → RS
  | [], ρ, s => some (.nx ρ, s)
  | x :: xs, ρ, s => match body x ρ s with
    | some (.nx ρ', s') => fst_ body xs ρ' s'
    | some (.ct ρ', s') => fst_ body xs ρ' s'
    | some (.bk ρ', s') => some (.nx ρ', s')
    | r => r
def fdy (n : Nat) (body : EV → En → Sto → RS) : Nat → Nat → En → Sto → RS
  | 0, _, _, _ => none
  | k + 1, i, ρ, s => match s[n]? with
    | some (.lst xs) => match xs[i]? with
      | none => some (.nx ρ, s)
      | some x => match body x ρ s with
        | some (.nx ρ', s') => fdy n body k (i + 1) ρ' s'
        | some (.ct ρ', s') => fdy n body k (i + 1) ρ' s'
        | some (.bk ρ', s') => some (.nx ρ', s')
        | r => r
    | _ => none
def wlp (c : En → Sto → R EV) (body : En → Sto → RS) : Nat → En → Sto → RS
  | 0, _, _ => none
  | k + 1, ρ, s => (c ρ s).at ρ fun v s1 => match truth s1 v with
    | none => none
    | some false => some (.nx ρ, s1)
    | some true => match body ρ s1 with
      | some (.nx ρ', s') => wlp c body k ρ' s'
      | some (.ct ρ', s') => wlp c body k ρ' s'
      | some (.bk ρ', s') => some (.nx ρ', s')
      | r => r

def exec : Sm → En → Sto → RS
  | .skip, ρ, s => some (.nx ρ, s)
  | .seq a b, ρ, s => match exec a ρ s with
    | some (.nx ρ', s') => exec b ρ' s'
    | r => r
  | .asg t e, ρ, s => (den C e ρ s).at ρ fun v s1 => (asgT C t v ρ s1).nox.at ρ fun ρ' s2 => some (.nx ρ', s2)
  | .aug i o e, ρ, s => match ρ[i]? with
    | some (some v) => (den C e ρ s).at ρ fun u s1 => (binf o v u s1).at ρ fun w s2 => some (.nx (ρ.set i (some w)), s2)
    | _ => none
  | .exp e, ρ, s => (den C e ρ s).at ρ fun _ s1 => some (.nx ρ, s1)
  | .ife c a b, ρ, s => (den C c ρ s).at ρ fun v s1 => match truth s1 v with
    | some true => exec a ρ s1
    | some false => exec b ρ s1
    | none => none
  | .for_ t sr b, ρ, s => (denS C sr ρ s).at ρ fun its s1 => match its with
    | .st xs => fst_ (fun x ρ1 s2 => (asgT C t x ρ1 s2).nox.at ρ1 fun ρ2 s3 => exec b ρ2 s3) xs ρ s1
    | .ob n => fdy n (fun x ρ1 s2 => (asgT C t x ρ1 s2).nox.at ρ1 fun ρ2 s3 => exec b ρ2 s3) C.fu 0 ρ s1
  | .whl c b, ρ, s => wlp (den C c) (exec b) C.fu ρ s
  | .ret e, ρ, s => (den C e ρ s).at ρ fun v s1 => some (.rt v, s1)
  | .retN, _, s => some (.rt .non, s)
  | .brk, ρ, s => some (.bk ρ, s)
  | .cnt, ρ, s => some (.ct ρ, s)
  | .bad, _, _ => none
end

/-- a def: how many parameters, how many names, its body -/
structure Df where
  np : Nat
  nn : Nat
  body : Sm

def endf : RS → R EV
  | some (.nx _, s) => .ok .non s
  | some (.rt v, s) => .ok v s
  | some (.rs c fs _, s) => .exc c fs s
  | _ => .stuck

/-- what the defs mean, calls at most so deep -/
def mean (T : List Df) (G : Nat → Option EV) (fu : Nat) : Nat → Nat → List EV → Sto → R EV
  | 0, _, _, _ => .stuck
  | k + 1, f, vs, s => match T[f]? with
    | some d => if vs.length = d.np then endf (exec ⟨mean T G fu k, G, fu⟩ d.body (vs.map some ++ List.replicate (d.nn - d.np) none) s) else .stuck
    | none => .stuck
end Pm

end
section
/-! How the machine's values lie in the heap. -/
namespace Pm
open PySem L2

/-- what is known of the heap, and the world -/
structure Fw where
  f : PySem.W.Frag
  w : World
instance : Coe Fw PySem.W.Frag := ⟨Fw.f⟩
/-- .. at a context -/
@[reducible] def _root_.L2.Cx.kw (X : Cx) : Fw := ⟨X.K, X.w⟩

/-- the addresses of the machine's objects by number; those of lists that are being made -/
structure Mp where
  ad : List Addr
  pv : List Addr
def Mp.no (M : Mp) (a : Addr) : Prop := a ∉ M.ad ∧ a ∉ M.pv

def KTup (K : Fw) (a : Addr) (xs : List V) : Prop :=
  ∃ (o : Obj) (its : Array Value) (n : Nat), K.f.lookup a = some o ∧ o.cls = .type "tuple" ∧ o.data = .seq its n ∧ its.size ≤ sizeLine ∧ Vals xs its.toList
def TupAt (K : Fw) (H : Hp) (M : Mp) (a : Addr) (xs : List V) : Prop := xs.length ≤ sizeLine ∧ ((Rd H a (.tup xs) ∧ M.no a) ∨ KTup K a xs)
def LstAt (K : Fw) (H : Hp) (M : Mp) (a : Addr) (xs : List V) : Prop := xs.length ≤ sizeLine ∧ Rd H a (.lst xs) ∧ M.no a

def KLst (K : Fw) (a : Addr) (xs : List V) : Prop :=
  ∃ (o : Obj) (its : Array Value) (n : Nat), K.f.lookup a = some o ∧ o.cls = .type "list" ∧ o.dict = none ∧ o.data = .seq its n ∧ its.size ≤ sizeLine ∧ Vals xs its.toList
/-- the script -/
def ScrAt (K : Fw) (H : Hp) (M : Mp) (a : Addr) (xs : List V) : Prop := (Rd H a (.lst xs) ∧ M.no a) ∨ KLst K a xs

section
variable {K : Fw} {H H' H2 : Hp} {M M' M2 : Mp} {a : Addr} {xs : List V}
theorem ScrAt.sq (h : ScrAt K H M a xs) : SqL K H a xs := by
  rcases h with ⟨h, _⟩ | h
  · exact .inl h
  · exact .inr h
theorem TupAt.sq (h : TupAt K H M a xs) : SqT K H a xs := by
  rcases h.2 with ⟨h, _⟩ | h
  · exact .inl h
  · exact .inr h
theorem LstAt.sq (h : LstAt K H M a xs) : SqL K H a xs := .inl h.2.1

/-- what may come of the heap while the machine goes on -/
structure Grow (H : Hp) (M : Mp) (H' : Hp) (M' : Mp) : Prop where
  pre : ∃ t, M'.ad = M.ad ++ t
  pv : M'.pv = M.pv
  keep : ∀ b o, H b = some o → b ∉ M.ad → H' b = some o ∧ b ∉ M'.ad
theorem Grow.refl : Grow H M H M := ⟨⟨[], by simp⟩, rfl, fun _ _ h n => ⟨h, n⟩⟩
theorem Grow.trans (g : Grow H M H' M') (g2 : Grow H' M' H2 M2) : Grow H M H2 M2 := by
  obtain ⟨t, e⟩ := g.pre
  obtain ⟨t2, e2⟩ := g2.pre
  refine ⟨⟨t ++ t2, by rw [e2, e, List.append_assoc]⟩, g2.pv.trans g.pv, fun b o h n => ?_⟩
  obtain ⟨h1, n1⟩ := g.keep b o h n
  exact g2.keep b o h1 n1
/-- what values lean on stays -/
structure Mov (H : Hp) (M : Mp) (H' : Hp) (M' : Mp) : Prop where
  pre : ∃ t, M'.ad = M.ad ++ t
  keep : ∀ b o, H b = some o → M.no b → H' b = some o ∧ M'.no b
theorem Mov.trans (g : Mov H M H' M') (g2 : Mov H' M' H2 M2) : Mov H M H2 M2 := by
  obtain ⟨t, e⟩ := g.pre
  obtain ⟨t2, e2⟩ := g2.pre
  refine ⟨⟨t ++ t2, by rw [e2, e, List.append_assoc]⟩, fun b o h n => ?_⟩
  obtain ⟨h1, n1⟩ := g.keep b o h n
  exact g2.keep b o h1 n1
theorem Grow.mov (g : Grow H M H' M') : Mov H M H' M' := ⟨g.pre, fun b o h n => let ⟨h1, h2⟩ := g.keep b o h n.1; ⟨h1, h2, by rw [g.pv]; exact n.2⟩⟩
theorem Mov.rd {u : HO} (g : Mov H M H' M') (h : Rd H a u) (n : M.no a) : Rd H' a u ∧ M'.no a := by
  rcases h with h | ⟨o, h⟩
  · obtain ⟨h1, n1⟩ := g.keep a _ h n
    exact ⟨.inl h1, n1⟩
  · obtain ⟨h1, n1⟩ := g.keep a _ h n
    exact ⟨.inr ⟨o, h1⟩, n1⟩
theorem TupAt.mov (h : TupAt K H M a xs) (g : Mov H M H' M') : TupAt K H' M' a xs :=
  ⟨h.1, h.2.elim (fun z => .inl (g.rd z.1 z.2)) .inr⟩
theorem ScrAt.mov (h : ScrAt K H M a xs) (g : Mov H M H' M') : ScrAt K H' M' a xs := h.elim (fun z => .inl (g.rd z.1 z.2)) .inr
theorem LstAt.mov (h : LstAt K H M a xs) (g : Mov H M H' M') : LstAt K H' M' a xs :=
  ⟨h.1, g.rd h.2.1 h.2.2⟩
end

def SOk (x : Str) : Prop := x.length ≤ sizeLine ∧ x.cps.all (· < 0x110000) = true
mutual
/-- a machine's value, as it lies -/
def Rep (K : Fw) (H : Hp) (M : Mp) : EV → V → Prop
  | .non, r => r = .non
  | .bl b, r => r = .bl b
  | .int i, r => r = .int i
  | .str x, r => r = .str x ∧ SOk x
  | .tup xs, r => ∃ a vs, r = .ref a ∧ TupAt K H M a vs ∧ Reps K H M xs vs
  | .lst xs, r => ∃ a vs, r = .ref a ∧ LstAt K H M a vs ∧ Reps K H M xs vs
  | .obj n, r => ∃ a, r = .ref a ∧ M.ad[n]? = some a
  | .scr xs, r => ∃ a vs, r = .ref a ∧ ScrAt K H M a vs ∧ Reps K H M xs vs
def Reps (K : Fw) (H : Hp) (M : Mp) : List EV → List V → Prop
  | [], vs => vs = []
  | x :: xs, vs => ∃ v r, vs = v :: r ∧ Rep K H M x v ∧ Reps K H M xs r
end

section
variable {K : Fw} {H H' H2 : Hp} {M M' M2 : Mp} {a : Addr}
mutual
theorem Rep.mov (g : Mov H M H' M') : ∀ (x : EV) (v : V), Rep K H M x v → Rep K H' M' x v
  | .non, _, h => h
  | .bl _, _, h => h
  | .int _, _, h => h
  | .str _, _, h => h
  | .tup xs, _, h => by
    unfold Rep at h ⊢
    obtain ⟨a, vs, e, t, r⟩ := h
    exact ⟨a, vs, e, t.mov g, Reps.mov g xs vs r⟩
  | .lst xs, _, h => by
    unfold Rep at h ⊢
    obtain ⟨a, vs, e, t, r⟩ := h
    exact ⟨a, vs, e, t.mov g, Reps.mov g xs vs r⟩
  | .obj n, _, h => by
    unfold Rep at h ⊢
    obtain ⟨a, e, h⟩ := h
    obtain ⟨t, et⟩ := g.pre
    refine ⟨a, e, ?_⟩
    rw [et, List.getElem?_append_left (List.getElem?_eq_some_iff.mp h).1]
    exact h
  | .scr xs, _, h => by
    unfold Rep at h ⊢
    obtain ⟨a, vs, e, t, r⟩ := h
    exact ⟨a, vs, e, t.mov g, Reps.mov g xs vs r⟩
theorem Reps.mov (g : Mov H M H' M') : ∀ (xs : List EV) (vs : List V), Reps K H M xs vs → Reps K H' M' xs vs
  | [], _, h => h
  | x :: xs, _, h => by
    unfold Reps at h ⊢
    obtain ⟨v, r, e, h1, h2⟩ := h
    exact ⟨v, r, e, Rep.mov g x v h1, Reps.mov g xs r h2⟩
end
theorem Rep.grow (g : Grow H M H' M') (x : EV) (v : V) (h : Rep K H M x v) : Rep K H' M' x v := Rep.mov g.mov x v h
theorem Reps.grow (g : Grow H M H' M') (x : List EV) (v : List V) (h : Reps K H M x v) : Reps K H' M' x v := Reps.mov g.mov x v h
theorem Reps.nil_iff {vs : List V} : Reps K H M [] vs ↔ vs = [] := by unfold Reps; exact Iff.rfl
theorem Reps.cons_iff {x : EV} {xs : List EV} {vs : List V} : Reps K H M (x :: xs) vs ↔ ∃ v r, vs = v :: r ∧ Rep K H M x v ∧ Reps K H M xs r := by
  constructor
  · intro h; unfold Reps at h; exact h
  · intro h; unfold Reps; exact h
theorem Reps.length : ∀ {xs : List EV} {vs : List V}, Reps K H M xs vs → vs.length = xs.length
  | [], _, h => by rw [Reps.nil_iff] at h; subst h; rfl
  | x :: xs, _, h => by
    rw [Reps.cons_iff] at h
    obtain ⟨v, r, rfl, _, h2⟩ := h
    simp [Reps.length h2]
theorem Reps.get : ∀ {xs : List EV} {vs : List V} {i : Nat} {x : EV}, Reps K H M xs vs → xs[i]? = some x → ∃ v, vs[i]? = some v ∧ Rep K H M x v
  | [], _, _, _, _, e => by simp at e
  | y :: ys, _, i, x, h, e => by
    rw [Reps.cons_iff] at h
    obtain ⟨v, r, rfl, h1, h2⟩ := h
    cases i with
    | zero => simp at e; subst e; exact ⟨v, by simp, h1⟩
    | succ i => simp at e ⊢; exact Reps.get h2 e
theorem Reps.append : ∀ {xs ys : List EV} {vs ws : List V}, Reps K H M xs vs → Reps K H M ys ws → Reps K H M (xs ++ ys) (vs ++ ws)
  | [], _, _, _, h, h' => by rw [Reps.nil_iff] at h; subst h; exact h'
  | x :: xs, ys, _, ws, h, h' => by
    rw [Reps.cons_iff] at h
    obtain ⟨v, r, rfl, h1, h2⟩ := h
    rw [List.cons_append, List.cons_append, Reps.cons_iff]
    exact ⟨v, _, rfl, h1, Reps.append h2 h'⟩
theorem Reps.take : ∀ {xs : List EV} {vs : List V} (n : Nat), Reps K H M xs vs → Reps K H M (xs.take n) (vs.take n)
  | [], _, n, h => by rw [Reps.nil_iff] at h; subst h; simp [Reps.nil_iff]
  | x :: xs, _, 0, h => by simp [Reps.nil_iff]
  | x :: xs, _, n + 1, h => by
    rw [Reps.cons_iff] at h
    obtain ⟨v, r, rfl, h1, h2⟩ := h
    rw [List.take_succ_cons, List.take_succ_cons, Reps.cons_iff]
    exact ⟨v, _, rfl, h1, Reps.take n h2⟩
theorem Reps.drop : ∀ {xs : List EV} {vs : List V} (n : Nat), Reps K H M xs vs → Reps K H M (xs.drop n) (vs.drop n)
  | [], _, n, h => by rw [Reps.nil_iff] at h; subst h; simp [Reps.nil_iff]
  | x :: xs, _, 0, h => h
  | x :: xs, _, n + 1, h => by
    rw [Reps.cons_iff] at h
    obtain ⟨v, r, rfl, h1, h2⟩ := h
    exact Reps.drop n h2
theorem Reps.set : ∀ {xs : List EV} {vs : List V} (i : Nat) {x : EV} {v : V}, Reps K H M xs vs → Rep K H M x v → Reps K H M (xs.set i x) (vs.set i v)
  | [], _, i, _, _, h, _ => by rw [Reps.nil_iff] at h; subst h; simp [Reps.nil_iff]
  | y :: ys, _, 0, x, v, h, hx => by
    rw [Reps.cons_iff] at h
    obtain ⟨w, r, rfl, h1, h2⟩ := h
    rw [List.set_cons_zero, List.set_cons_zero, Reps.cons_iff]
    exact ⟨v, _, rfl, hx, h2⟩
  | y :: ys, _, i + 1, x, v, h, hx => by
    rw [Reps.cons_iff] at h
    obtain ⟨w, r, rfl, h1, h2⟩ := h
    rw [List.set_cons_succ, List.set_cons_succ, Reps.cons_iff]
    exact ⟨w, _, rfl, h1, Reps.set i h2 hx⟩
theorem Reps.single {x : EV} {v : V} (h : Rep K H M x v) : Reps K H M [x] [v] := by
  rw [Reps.cons_iff]; exact ⟨v, [], rfl, h, by rw [Reps.nil_iff]⟩
theorem Reps.inv1 {x : EV} {vs : List V} (h : Reps K H M [x] vs) : ∃ v, vs = [v] ∧ Rep K H M x v := by
  rw [Reps.cons_iff] at h
  obtain ⟨v, r, rfl, h1, h2⟩ := h
  rw [Reps.nil_iff] at h2; subst h2
  exact ⟨v, rfl, h1⟩
theorem Reps.inv2 {x y : EV} {vs : List V} (h : Reps K H M [x, y] vs) : ∃ v w, vs = [v, w] ∧ Rep K H M x v ∧ Rep K H M y w := by
  rw [Reps.cons_iff] at h
  obtain ⟨v, r, rfl, h1, h2⟩ := h
  obtain ⟨w, rfl, h3⟩ := h2.inv1
  exact ⟨v, w, rfl, h1, h3⟩

end
/-! ### dicts -/
def kE : Key → EV
  | .inl i => .int i
  | .inr x => .str x
def KOk : Key → Prop
  | .inl _ => True
  | .inr x => SOk x
def DKs (K : Fw) (H : Hp) (M : Mp) : List (EV × EV) → List (Key × V) → Prop
  | [], xs => xs = []
  | p :: r, xs => ∃ k v r', xs = (k, v) :: r' ∧ p.1 = kE k ∧ KOk k ∧ Rep K H M p.2 v ∧ DKs K H M r r'
mutual
def nkey : EV → NestedKey
  | .int i => .num i
  | .str x => .text x
  | .tup xs => .tup (nkeys xs)
  | _ => .none
def nkeys : List EV → List NestedKey
  | [] => []
  | x :: xs => nkey x :: nkeys xs
end
abbrev NX := List (NestedKey × V × V)
/-- a dict whose keys are tuples -/
def NDO (w : World) (a : Addr) (xs : NX) : HO := .ext fun h => ∃ (P : Program) (o : Obj) (es : Array DictEntry) (ep : Nat) (ys : List (NestedKey × Addr × Value)),
  h.get? a = some o ∧ o.ExactDict ∧ o.data = .dict es ep ∧ es.toList = ys.map (entryOfKey (nestedKind P w)) ∧ (ys.map (·.1)).Nodup ∧ Paired (fun (p : NestedKey × V × V) (q : NestedKey × Addr × Value) => p.1 = q.1 ∧ p.2.1 = V.ref q.2.1 ∧ RelV p.2.2 q.2.2) xs ys
def DNs (K : Fw) (H : Hp) (M : Mp) : List (EV × EV) → NX → Prop
  | [], xs => xs = []
  | p :: r, xs => ∃ k v r', xs = (nkey p.1, k, v) :: r' ∧ isKey true p.1 = true ∧ Rep K H M p.1 k ∧ Rep K H M p.2 v ∧ DNs K H M r r'
def DctAt (K : Fw) (H : Hp) (M : Mp) (a : Addr) : Bool → List (EV × EV) → Prop
  | false, kvs => ∃ xs, H a = some (.dK xs) ∧ DKs K H M kvs xs
  | true, kvs => ∃ xs, H a = some (NDO K.w a xs) ∧ (a == sysModules) = false ∧ kvs.length ≤ sizeLine ∧ DNs K H M kvs xs
section
variable {K : Fw} {H H' H2 : Hp} {M M' M2 : Mp} {a : Addr}
theorem DKs.mov (g : Mov H M H' M') : ∀ (kvs : List (EV × EV)) (xs : List (Key × V)), DKs K H M kvs xs → DKs K H' M' kvs xs
  | [], _, h => h
  | p :: r, _, h => by
    obtain ⟨k, v, r', e, h1, h2, h3, h4⟩ := h
    exact ⟨k, v, r', e, h1, h2, Rep.mov g _ _ h3, DKs.mov g r r' h4⟩
theorem DNs.mov (g : Mov H M H' M') : ∀ (kvs : List (EV × EV)) (xs : NX), DNs K H M kvs xs → DNs K H' M' kvs xs
  | [], _, h => h
  | p :: r, _, h => by
    obtain ⟨k, v, r', e, h1, h2, h3, h4⟩ := h
    exact ⟨k, v, r', e, h1, Rep.mov g _ _ h2, Rep.mov g _ _ h3, DNs.mov g r r' h4⟩
theorem DctAt.mov {n : Bool} {kvs : List (EV × EV)} (h : DctAt K H M a n kvs) (g : Mov H M H' M') (e : H' a = H a) : DctAt K H' M' a n kvs := by
  cases n with
  | false =>
    obtain ⟨xs, h1, h2⟩ := h
    exact ⟨xs, e.trans h1, DKs.mov g _ _ h2⟩
  | true =>
    obtain ⟨xs, h1, h3, h4, h2⟩ := h
    exact ⟨xs, e.trans h1, h3, h4, DNs.mov g _ _ h2⟩
theorem DctAt.some {n : Bool} {kvs : List (EV × EV)} (h : DctAt K H M a n kvs) : ∃ u, H a = some u := by
  cases n with
  | false => obtain ⟨xs, h1, _⟩ := h; exact ⟨_, h1⟩
  | true => obtain ⟨xs, h1, _⟩ := h; exact ⟨_, h1⟩
/-- an object of the machine, as it lies -/
def ObAt (K : Fw) (H : Hp) (M : Mp) (a : Addr) : Ob → Prop
  | .lst xs => ∃ vs, H a = some (.lst vs) ∧ vs.length ≤ sizeLine ∧ Reps K H M xs vs
  | .dct n kvs => DctAt K H M a n kvs
theorem ObAt.mov {o : Ob} (h : ObAt K H M a o) (g : Mov H M H' M') (e : H' a = H a) : ObAt K H' M' a o := by
  cases o with
  | lst xs =>
    obtain ⟨vs, h1, h2, h3⟩ := h
    exact ⟨vs, e.trans h1, h2, Reps.mov g xs vs h3⟩
  | dct n kvs => exact DctAt.mov h g e
theorem ObAt.grow {o : Ob} {u : HO} (h : ObAt K H M a o) (g : Grow H M H' M') (e : H' a = H a) : ObAt K H' M' a o := h.mov g.mov e
theorem ObAt.some {o : Ob} (h : ObAt K H M a o) : ∃ u, H a = some u := by
  cases o with
  | lst xs => obtain ⟨vs, h1, _⟩ := h; exact ⟨_, h1⟩
  | dct n kvs => exact DctAt.some h

/-- the machine's store, as it lies -/
structure StOk (K : Fw) (H : Hp) (M : Mp) (s : Sto) : Prop where
  nd : M.ad.Nodup
  len : M.ad.length = s.length
  at_ : ∀ (n : Nat) (a : Addr) (o : Ob), M.ad[n]? = some a → s[n]? = some o → ObAt K H M a o
  pv : ∀ a ∈ M.pv, H a ≠ none ∧ a ∉ M.ad
theorem StOk.here {s : Sto} (S : StOk K H M s) (h : a ∈ M.ad) : ∃ u, H a = some u := by
  obtain ⟨n, hn, e⟩ := List.mem_iff_getElem.mp h
  have hl : n < s.length := by rw [← S.len]; exact hn
  exact (S.at_ n a s[n] (by rw [List.getElem?_eq_getElem hn, e]) (List.getElem?_eq_getElem hl)).some
theorem StOk.new {s : Sto} (S : StOk K H M s) (h : H a = none) : M.no a :=
  ⟨fun z => (by obtain ⟨u, e⟩ := S.here z; rw [h] at e; cases e), fun z => (S.pv a z).1 h⟩
/-- a new thing that the machine does not count -/
theorem Grow.laid {s : Sto} {o : HO} (S : StOk K H M s) (h : H a = none) : Grow H M (upd H a o) M :=
  ⟨⟨[], by simp⟩, rfl, fun b u e n => ⟨by rw [upd_ne (ne_of_none e h)]; exact e, n⟩⟩
theorem StOk.laid {s : Sto} {o : HO} (S : StOk K H M s) (h : H a = none) : StOk K (upd H a o) M s := by
  have g : Grow H M (upd H a o) M := Grow.laid S h
  refine ⟨S.nd, S.len, fun n b u e1 e2 => ?_, fun b hb => ?_⟩
  · have q := S.at_ n b u e1 e2
    obtain ⟨w, hw⟩ := q.some
    exact q.grow (u := o) g (upd_ne (ne_of_none hw h))
  · obtain ⟨h1, h2⟩ := S.pv b hb
    refine ⟨?_, h2⟩
    by_cases e : b = a
    · subst e; exact absurd h h1
    · rw [upd_ne e]; exact h1
/-- a new object of the machine -/
def Mp.more (M : Mp) (a : Addr) : Mp := ⟨M.ad ++ [a], M.pv⟩
theorem Grow.more {s : Sto} {o : HO} (S : StOk K H M s) (h : H a = none) : Grow H M (upd H a o) (M.more a) := by
  refine ⟨⟨[a], rfl⟩, rfl, fun b u e n => ?_⟩
  have ne : b ≠ a := ne_of_none e h
  refine ⟨by rw [upd_ne ne]; exact e, ?_⟩
  show b ∉ M.ad ++ [a]
  simp [n, ne]
theorem StOk.newO {s : Sto} {o : HO} {ob : Ob} (S : StOk K H M s) (h : H a = none) (hob : ObAt K (upd H a o) (M.more a) a ob) : StOk K (upd H a o) (M.more a) (s ++ [ob]) := by
  have g : Grow H M (upd H a o) (M.more a) := Grow.more S h
  have na := S.new h
  refine ⟨?_, ?_, fun n b u e1 e2 => ?_, fun b hb => ?_⟩
  · show (M.ad ++ [a]).Nodup
    rw [List.nodup_append]
    refine ⟨S.nd, by simp, fun x hx y hy => ?_⟩
    simp at hy; subst hy
    rintro rfl
    exact na.1 hx
  · show (M.ad ++ [a]).length = _
    simp [S.len]
  · have e1' : (M.ad ++ [a])[n]? = some b := e1
    by_cases hn : n < M.ad.length
    · rw [List.getElem?_append_left hn] at e1'
      rw [List.getElem?_append_left (by rw [← S.len]; exact hn)] at e2
      have q := S.at_ n b u e1' e2
      obtain ⟨w, hw⟩ := q.some
      exact q.grow (u := o) g (upd_ne (ne_of_none hw h))
    · have hn2 : n = M.ad.length := by
        have := (List.getElem?_eq_some_iff.mp e1').1
        simp at this; omega
      subst hn2
      rw [List.getElem?_append_right (Nat.le_refl _)] at e1'
      rw [S.len, List.getElem?_append_right (Nat.le_refl _)] at e2
      simp at e1' e2
      subst e1'; subst e2
      exact hob
  · obtain ⟨h1, h2⟩ := S.pv b hb
    have ne : b ≠ a := fun e => by subst e; exact h1 h
    refine ⟨by rw [upd_ne ne]; exact h1, ?_⟩
    show b ∉ M.ad ++ [a]
    simp [h2, ne]
theorem StOk.more {s : Sto} {xs : List EV} {vs : List V} (S : StOk K H M s) (h : H a = none) (hl : vs.length ≤ sizeLine) (r : Reps K H M xs vs) : StOk K (upd H a (.lst vs)) (M.more a) (s ++ [.lst xs]) :=
  S.newO h ⟨vs, upd_same, hl, Reps.grow (Grow.more S h) xs vs r⟩
/-- an object of the machine is changed -/
theorem Grow.write {n : Nat} {o : HO} (h : M.ad[n]? = some a) : Grow H M (upd H a o) M := by
  refine ⟨⟨[], by simp⟩, rfl, fun b u e nb => ⟨?_, nb⟩⟩
  have ne : b ≠ a := fun e => by subst e; exact nb (List.mem_of_getElem? h)
  rw [upd_ne ne]; exact e
theorem StOk.put {s : Sto} {n : Nat} {o : HO} {ob : Ob} (S : StOk K H M s) (h : M.ad[n]? = some a) (hob : ObAt K (upd H a o) M a ob) : StOk K (upd H a o) M (s.set n ob) := by
  have g : Grow H M (upd H a o) M := Grow.write h
  refine ⟨S.nd, by rw [S.len, List.length_set], fun m b u e1 e2 => ?_, fun b hb => ?_⟩
  · by_cases e : m = n
    · subst e
      rw [h] at e1; cases e1
      have hm : m < s.length := by rw [← S.len]; exact (List.getElem?_eq_some_iff.mp h).1
      rw [List.getElem?_set_self hm] at e2
      cases e2
      exact hob
    · rw [List.getElem?_set_ne (Ne.symm e)] at e2
      have ne : b ≠ a := fun z => by
        subst z
        obtain ⟨h1, e1'⟩ := List.getElem?_eq_some_iff.mp e1
        obtain ⟨h2, e2'⟩ := List.getElem?_eq_some_iff.mp h
        exact e ((List.getElem_inj S.nd).mp (e1'.trans e2'.symm))
      exact (S.at_ m b u e1 e2).grow (u := o) g (upd_ne ne)
  · obtain ⟨h1, h2⟩ := S.pv b hb
    have ne : b ≠ a := fun e => by subst e; exact h2 (List.mem_of_getElem? h)
    exact ⟨by rw [upd_ne ne]; exact h1, h2⟩
theorem StOk.write {s : Sto} {n : Nat} {xs : List EV} {vs : List V} (S : StOk K H M s) (h : M.ad[n]? = some a) (hl : vs.length ≤ sizeLine) (r : Reps K H M xs vs) : StOk K (upd H a (.lst vs)) M (s.set n (.lst xs)) :=
  S.put h ⟨vs, upd_same, hl, Reps.grow (Grow.write h) xs vs r⟩
/-- a list that is being made -/
def Mp.priv (M : Mp) (a : Addr) : Mp := ⟨M.ad, a :: M.pv⟩
theorem Mov.priv {s : Sto} {o : HO} (S : StOk K H M s) (h : H a = none) : Mov H M (upd H a o) (M.priv a) := by
  refine ⟨⟨[], by simp [Mp.priv]⟩, fun b u e n => ?_⟩
  have ne : b ≠ a := ne_of_none e h
  refine ⟨by rw [upd_ne ne]; exact e, n.1, ?_⟩
  show b ∉ a :: M.pv
  simp [ne, n.2]
theorem StOk.priv {s : Sto} {o : HO} (S : StOk K H M s) (h : H a = none) : StOk K (upd H a o) (M.priv a) s := by
  have g : Mov H M (upd H a o) (M.priv a) := Mov.priv S h
  refine ⟨S.nd, S.len, fun n b u e1 e2 => ?_, fun b hb => ?_⟩
  · have q := S.at_ n b u e1 e2
    obtain ⟨w, hw⟩ := q.some
    exact q.mov g (upd_ne (ne_of_none hw h))
  · have hb' : b ∈ a :: M.pv := hb
    rcases List.mem_cons.mp hb' with e | hb'
    · subst e
      refine ⟨by rw [upd_same]; simp, (S.new h).1⟩
    · obtain ⟨h1, h2⟩ := S.pv b hb'
      exact ⟨by rw [upd_ne (fun e => by subst e; exact h1 h)]; exact h1, h2⟩
/-- the list that is being made is changed -/
theorem Mov.pupd {o : HO} (h : a ∈ M.pv) : Mov H M (upd H a o) M :=
  ⟨⟨[], by simp⟩, fun b u e n => ⟨by rw [upd_ne (fun z => n.2 (by rw [z]; exact h))]; exact e, n⟩⟩
theorem StOk.pupd {s : Sto} {o : HO} (S : StOk K H M s) (h : a ∈ M.pv) : StOk K (upd H a o) M s := by
  have g : Mov H M (upd H a o) M := Mov.pupd h
  have na := (S.pv a h).2
  refine ⟨S.nd, S.len, fun n b u e1 e2 => ?_, fun b hb => ?_⟩
  · exact (S.at_ n b u e1 e2).mov g (upd_ne fun e => na (by rw [← e]; exact List.mem_of_getElem? e1))
  · obtain ⟨h1, h2⟩ := S.pv b hb
    refine ⟨?_, h2⟩
    by_cases e : b = a
    · subst e; rw [upd_same]; simp
    · rw [upd_ne e]; exact h1
/-- it is made -/
theorem Mov.unpriv {p : List Addr} : Mov H ⟨M.ad, a :: p⟩ H ⟨M.ad, p⟩ := ⟨⟨[], by simp⟩, fun b u e n => ⟨e, n.1, fun z => n.2 (List.mem_cons_of_mem _ z)⟩⟩
theorem StOk.unpriv {s : Sto} {p ad : List Addr} (S : StOk K H ⟨ad, a :: p⟩ s) : StOk K H ⟨ad, p⟩ s :=
  ⟨S.nd, S.len, fun n b u e1 e2 => (S.at_ n b u e1 e2).mov (Mov.unpriv (M := ⟨ad, p⟩)) rfl, fun b hb => S.pv b (List.mem_cons_of_mem _ hb)⟩
theorem Grow.repv {ad ad' p q : List Addr} (g : Grow H ⟨ad, p⟩ H' ⟨ad', p⟩) : Grow H ⟨ad, q⟩ H' ⟨ad', q⟩ := ⟨g.pre, rfl, g.keep⟩
end

/-- the names' values, as they lie -/
structure EnOk (K : Fw) (H : Hp) (M : Mp) (ρ : En) (σ : L2.St) : Prop where
  len : ρ.length = σ.length
  at_ : ∀ (i : Nat) (x : EV), ρ[i]? = some (some x) → ∃ v, σ[i]? = some (some v) ∧ Rep K H M x v
section
variable {K : Fw} {H H' : Hp} {M M' : Mp} {ρ : En} {σ : L2.St}
theorem EnOk.mov (e : EnOk K H M ρ σ) (g : Mov H M H' M') : EnOk K H' M' ρ σ :=
  ⟨e.len, fun i x h => let ⟨v, h1, h2⟩ := e.at_ i x h; ⟨v, h1, Rep.mov g x v h2⟩⟩
theorem EnOk.grow (e : EnOk K H M ρ σ) (g : Grow H M H' M') : EnOk K H' M' ρ σ := e.mov g.mov
theorem EnOk.set (e : EnOk K H M ρ σ) {i : Nat} {x : EV} {v : V} (r : Rep K H M x v) : EnOk K H M (ρ.set i (some x)) (σ.set i (some v)) := by
  refine ⟨by simp [e.len], fun j y h => ?_⟩
  by_cases hj : j = i
  · subst hj
    by_cases hl : j < ρ.length
    · rw [List.getElem?_set_self hl] at h
      cases h
      exact ⟨v, by rw [List.getElem?_set_self (by rw [← e.len]; exact hl)], r⟩
    · rw [List.getElem?_eq_none (by simp; omega)] at h; cases h
  · rw [List.getElem?_set_ne (Ne.symm hj)] at h
    obtain ⟨w, h1, h2⟩ := e.at_ j y h
    exact ⟨w, by rw [List.getElem?_set_ne (Ne.symm hj)]; exact h1, h2⟩
theorem EnOk.setN (e : EnOk K H M ρ σ) {i : Nat} : EnOk K H M (ρ.set i none) (σ.set i none) := by
  refine ⟨by simp [e.len], fun j y h => ?_⟩
  by_cases hj : j = i
  · subst hj
    by_cases hl : j < ρ.length
    · rw [List.getElem?_set_self hl] at h; cases h
    · rw [List.getElem?_eq_none (by simp; omega)] at h; cases h
  · rw [List.getElem?_set_ne (Ne.symm hj)] at h
    obtain ⟨w, h1, h2⟩ := e.at_ j y h
    exact ⟨w, by rw [List.getElem?_set_ne (Ne.symm hj)]; exact h1, h2⟩
theorem EnOk.wipe (e : EnOk K H M ρ σ) : ∀ vs : List Nat, EnOk K H M (Pm.wipe ρ vs) (L2.wipe σ vs)
  | [] => e
  | v :: vs => by
    unfold Pm.wipe L2.wipe
    exact (EnOk.wipe e vs).setN
theorem EnOk.start {xs : List EV} {vs : List V} {n : Nat} (r : Reps K H M xs vs) (N : List Str) (h : n = N.length - vs.length) : EnOk K H M (xs.map some ++ List.replicate n none) (L2.start N vs) := by
  have hl := r.length
  refine ⟨?_, fun i x h => ?_⟩
  · unfold L2.start; simp [hl, h]
  · unfold L2.start
    by_cases hi : i < xs.length
    · rw [List.getElem?_append_left (by simpa using hi), List.getElem?_map] at h
      cases e : xs[i]? with
      | none => rw [e] at h; cases h
      | some y =>
        rw [e] at h
        have h' : y = x := by simpa using h
        subst h'
        obtain ⟨v, h1, h2⟩ := r.get e
        exact ⟨v, by rw [List.getElem?_append_left (by rw [List.length_map, hl]; exact hi), List.getElem?_map, h1]; rfl, h2⟩
    · rw [List.getElem?_append_right (by simpa using hi), List.getElem?_replicate] at h
      split at h <;> cases h
end
end Pm

end
section
/-! Operations by values. -/
namespace Pm
open PySem L2

/-- what is asked of an end; W: of an error -/
def Post {α : Type} (W : Nat → List EV → Sto → Prop) (r : R α) (Q : α → Sto → Prop) : Prop :=
  match r with
  | .ok a s => Q a s
  | .exc c fs s => W c fs s
  | .stuck => False
theorem Post.bind {α β : Type} {W : Nat → List EV → Sto → Prop} {r : R α} {k : α → Sto → R β} {Q : β → Sto → Prop} : Post W (r.bind k) Q ↔ Post W r fun a s => Post W (k a s) Q := by
  cases r <;> exact Iff.rfl
theorem Post.mono {α : Type} {W W' : Nat → List EV → Sto → Prop} {r : R α} {Q Q' : α → Sto → Prop} (h : Post W r Q) (hQ : ∀ a s, Q a s → Q' a s) (hW : ∀ c fs s, W c fs s → W' c fs s) : Post W' r Q' := by
  cases r with
  | ok a s => exact hQ _ _ h
  | exc c fs s => exact hW _ _ _ h
  | stuck => exact h
theorem Post.ok {α : Type} {W : Nat → List EV → Sto → Prop} {a : α} {s : Sto} {Q : α → Sto → Prop} (h : Q a s) : Post W (.ok a s) Q := h

/-- what follows a value -/
def KV (K : Fw) (H : Hp) (M : Mp) (Q : VK) (v : EV) (s : Sto) : Prop :=
  ∀ H' M' r, Grow H M H' M' → StOk K H' M' s → Rep K H' M' v r → Q r H'

/-- a binary operation -/
def r2 (K : Fw) (g : EV → EV → Sto → R EV) : R2 := fun x y H Q =>
  ∃ W vx vy M s, StOk K H M s ∧ Rep K H M vx x ∧ Rep K H M vy y ∧ Post W (g vx vy s) (KV K H M Q)

section
variable {K : Fw} {H H' : Hp} {M M' : Mp} {s : Sto} {v : EV} {r : V}
theorem look_obj (n : Nat) : (∃ xs, s[n]? = some (.lst xs) ∧ look s (.obj n) = .lst xs) ∨ look s (.obj n) = .obj n := by
  cases e : s[n]? with
  | none => right; simp [look, e]
  | some o =>
    cases o with
    | lst xs => left; exact ⟨xs, rfl, by simp [look, e]⟩
    | dct _ => right; simp [look, e]
theorem look_tup {xs : List EV} (h : look s v = .tup xs) : v = .tup xs := by
  cases v with
  | obj n =>
    rcases look_obj (s := s) n with ⟨ys, _, e⟩ | e <;> rw [e] at h <;> cases h
  | non => exact h
  | bl _ => exact h
  | int _ => exact h
  | str _ => exact h
  | tup _ => exact h
  | lst _ => exact h
  | scr _ => exact h
theorem look_lst {xs : List EV} (S : StOk K H M s) (R : Rep K H M v r) (h : look s v = .lst xs) : ∃ a vs, r = .ref a ∧ Rd H a (.lst vs) ∧ vs.length ≤ sizeLine ∧ Reps K H M xs vs := by
  cases v with
  | obj n =>
    rcases look_obj (s := s) n with ⟨ys, e, e'⟩ | e'
    · rw [e'] at h
      cases h
      obtain ⟨a, e1, e2⟩ : ∃ a, r = .ref a ∧ M.ad[n]? = some a := R
      obtain ⟨vs, h1, h2, h3⟩ := S.at_ n a _ e2 e
      exact ⟨a, vs, e1, .inl h1, h2, h3⟩
    · rw [e'] at h
      cases h
  | lst ys =>
    have e : EV.lst ys = .lst xs := h
    injection e with e
    subst e
    have R' := R
    unfold Rep at R'
    obtain ⟨a, vs, e1, ⟨h1, h2, h3⟩, h4⟩ := R'
    exact ⟨a, vs, e1, h2, h1, h4⟩
  | non => exact nomatch (show _ = EV.lst xs from h)
  | bl _ => exact nomatch (show _ = EV.lst xs from h)
  | int _ => exact nomatch (show _ = EV.lst xs from h)
  | str _ => exact nomatch (show _ = EV.lst xs from h)
  | tup _ => exact nomatch (show _ = EV.lst xs from h)
  | scr _ => exact nomatch (show _ = EV.lst xs from h)
theorem look_str {s : Sto} {v : EV} {x : Str} (h : look s v = .str x) : v = .str x := by
  cases v with
  | obj n =>
    have h : (match s[n]? with
      | some (.lst xs) => EV.lst xs
      | _ => .obj n) = .str x := h
    split at h <;> cases h
  | _ => first | exact h | cases h
theorem look_scr {xs : List EV} (h : look s v = .scr xs) : v = .scr xs := by
  cases v with
  | obj n =>
    rcases look_obj (s := s) n with ⟨ys, _, e⟩ | e <;> rw [e] at h <;> cases h
  | non => exact h
  | bl _ => exact h
  | int _ => exact h
  | str _ => exact h
  | tup _ => exact h
  | lst _ => exact h
  | scr _ => exact h
theorem Rep.scr_iff {xs : List EV} : Rep K H M (.scr xs) r ↔ ∃ a vs, r = .ref a ∧ ScrAt K H M a vs ∧ Reps K H M xs vs := by
  constructor
  · intro h; unfold Rep at h; exact h
  · intro h; unfold Rep; exact h
theorem Rep.tup_iff {xs : List EV} : Rep K H M (.tup xs) r ↔ ∃ a vs, r = .ref a ∧ TupAt K H M a vs ∧ Reps K H M xs vs := by
  constructor
  · intro h; unfold Rep at h; exact h
  · intro h; unfold Rep; exact h
theorem Rep.lst_iff {xs : List EV} : Rep K H M (.lst xs) r ↔ ∃ a vs, r = .ref a ∧ LstAt K H M a vs ∧ Reps K H M xs vs := by
  constructor
  · intro h; unfold Rep at h; exact h
  · intro h; unfold Rep; exact h
theorem Rep.new_tup {xs : List EV} {vs : List V} {p : Addr} (S : StOk K H M s) (h : H p = none) (hl : vs.length ≤ sizeLine) (R : Reps K H M xs vs) : Rep K (upd H p (.tup vs)) M (.tup xs) (.ref p) := by
  rw [Rep.tup_iff]
  exact ⟨p, vs, rfl, ⟨hl, .inl ⟨.inl upd_same, S.new h⟩⟩, Reps.grow (Grow.laid S h) xs vs R⟩
theorem Rep.new_lst {xs : List EV} {vs : List V} {p : Addr} (S : StOk K H M s) (h : H p = none) (hl : vs.length ≤ sizeLine) (R : Reps K H M xs vs) : Rep K (upd H p (.lst vs)) M (.lst xs) (.ref p) := by
  rw [Rep.lst_iff]
  exact ⟨p, vs, rfl, ⟨hl, .inl upd_same, S.new h⟩, Reps.grow (Grow.laid S h) xs vs R⟩
theorem Rep.new_obj {p : Addr} (S : StOk K H M s) : Rep K H' (M.more p) (.obj s.length) (.ref p) := by
  unfold Rep
  refine ⟨p, rfl, ?_⟩
  show (M.ad ++ [p])[s.length]? = some p
  rw [← S.len, List.getElem?_append_right (Nat.le_refl _)]
  simp
theorem big_eq : big = sizeLine := by rw [sizeLine_eq]; rfl
theorem SOk.append {a b : Str} (h : SOk a) (g : SOk b) (hl : a.length + b.length ≤ big) : SOk (a ++ b) := by
  have e : (a ++ b).cps = a.cps ++ b.cps := rfl
  refine ⟨?_, ?_⟩
  · rw [← big_eq]
    show (a ++ b).cps.size ≤ big
    rw [e, Array.size_append]; exact hl
  · rw [e, Array.all_append, h.2, g.2]; rfl
/-- a new tuple -/
theorem KV.tup {Q : VK} {xs : List EV} {vs : List V} (S : StOk K H M s) (hl : vs.length ≤ sizeLine) (R : Reps K H M xs vs) (h : KV K H M Q (.tup xs) s) : ∀ p, H p = none → Q (.ref p) (upd H p (.tup vs)) :=
  fun p hp => h _ M _ (Grow.laid S hp) (S.laid hp) (Rep.new_tup S hp hl R)
theorem KV.lst {Q : VK} {xs : List EV} {vs : List V} (S : StOk K H M s) (hl : vs.length ≤ sizeLine) (R : Reps K H M xs vs) (h : KV K H M Q (.lst xs) s) : ∀ p, H p = none → Q (.ref p) (upd H p (.lst vs)) :=
  fun p hp => h _ M _ (Grow.laid S hp) (S.laid hp) (Rep.new_lst S hp hl R)
theorem KV.obj {Q : VK} {xs : List EV} {vs : List V} (S : StOk K H M s) (hl : vs.length ≤ sizeLine) (R : Reps K H M xs vs) (h : KV K H M Q (.obj s.length) (s ++ [.lst xs])) : ∀ p, H p = none → Q (.ref p) (upd H p (.lst vs)) :=
  fun p hp => h _ (M.more p) _ (Grow.more S hp) (S.more hp hl R) (Rep.new_obj S)
/-- the same heap -/
theorem KV.same {Q : VK} (h : KV K H M Q v s) (S : StOk K H M s) (R : Rep K H M v r) : Q r H := h H M r Grow.refl S R
end

section
variable {X : Cx}
/-- list + list, of any that are read -/
theorem op_cat' : OpR X (binaryOp .Add) (fun x y H Q => ∃ l b xs zs, x = .ref l ∧ y = .ref b ∧ Rd H l (.lst xs) ∧ Rd H b (.lst zs) ∧ xs.length + zs.length ≤ sizeLine ∧ ∀ p, H p = none → Q (.ref p) (upd H p (.lst (xs ++ zs)))) := by
  intro pins s σ H x y v u Q I rx ry h
  obtain ⟨l, b, xs, zs, rfl, rfl, hH, hB, hz, q⟩ := h
  cases rx
  cases ry
  obtain ⟨z, its, n, r, e⟩ := hH.ok I.hok
  obtain ⟨z2, its2, n2, r2, e2⟩ := hB.ok I.hok
  have hl := r.length
  have hl2 := r2.length
  refine PySem.P.add_list e e2 ?_ (by rw [List.size_toArray, List.size_toArray]; omega)
  have ea : its.toArray ++ its2.toArray = (its ++ its2).toArray := by simp
  rw [ea]
  exact ⟨.ref _, _, I.lnew (t' := s.toks) (r.append r2) (by rw [List.length_append]; omega), rfl, q _ I.fresh⟩

theorem r2_add : OpR X (binaryOp .Add) (r2 X.kw (binf .add)) := by
  intro pins s σ H x y v u Q I rx ry h
  obtain ⟨W, vx, vy, M, st, S, R1, R2, p⟩ := h
  have lists : (∃ xs ys, look st vx = .lst xs ∧ look st vy = .lst ys ∧ xs.length + ys.length ≤ big ∧ KV X.kw H M Q (.lst (xs ++ ys)) st) → wpAny (model X.prog X.w) X.A (binaryOp .Add v u) (EP X pins σ Q) X.xe s := by
    rintro ⟨xs, ys, e1, e2, hl, k⟩
    obtain ⟨a, vs, rfl, h1, h2, h3⟩ := look_lst S R1 e1
    obtain ⟨b, ws, rfl, g1, g2, g3⟩ := look_lst S R2 e2
    have l1 := h3.length
    have l2 := g3.length
    have hz : vs.length + ws.length ≤ sizeLine := by rw [l1, l2, ← big_eq]; exact hl
    refine op_cat' pins s σ H _ _ v u Q I rx ry ⟨a, b, vs, ws, rfl, rfl, h1, g1, hz, k.lst S ?_ (h3.append g3)⟩
    rw [List.length_append]; exact hz
  have rest : binf .add vx vy st = (match look st vx, look st vy with
      | .lst x, .lst y => if x.length + y.length ≤ big then .ok (.lst (x ++ y)) st else .stuck
      | _, _ => .stuck) → wpAny (model X.prog X.w) X.A (binaryOp .Add v u) (EP X pins σ Q) X.xe s := by
    intro e
    rw [e] at p
    refine lists ?_
    split at p
    · rename_i xs ys e1 e2
      split at p
      · rename_i hl; exact ⟨xs, ys, e1, e2, hl, p⟩
      · exact p.elim
    · exact p.elim
  cases vx with
  | int i =>
    cases vy with
    | int j => exact op_add pins s σ H x y v u Q I rx ry ⟨i, j, R1, R2, KV.same (v := .int _) p S rfl⟩
    | _ => exact rest rfl
  | str a =>
    cases vy with
    | str b =>
      have p' : Post W (if a.length + b.length ≤ big then .ok (.str (a ++ b)) st else .stuck) (KV X.kw H M Q) := p
      split at p'
      · rename_i hl
        exact op_add_str pins s σ H x y v u Q I rx ry ⟨a, b, R1.1, R2.1, by rw [← big_eq]; exact hl, KV.same (v := .str _) p' S ⟨rfl, SOk.append R1.2 R2.2 hl⟩⟩
      · exact p'.elim
    | _ => exact rest rfl
  | tup a =>
    cases vy with
    | tup b =>
      have p' : Post W (if a.length + b.length ≤ big then .ok (.tup (a ++ b)) st else .stuck) (KV X.kw H M Q) := p
      split at p'
      · rename_i hl
        rw [Rep.tup_iff] at R1 R2
        obtain ⟨p1, vs, rfl, t1, q1⟩ := R1
        obtain ⟨p2, ws, rfl, t2, q2⟩ := R2
        have l1 := q1.length
        have l2 := q2.length
        have hz : vs.length + ws.length ≤ sizeLine := by rw [l1, l2, ← big_eq]; exact hl
        refine op_catA pins s σ H _ _ v u Q I rx ry ⟨p1, p2, vs, ws, rfl, rfl, t1.sq, t2.sq, hz, fun e => ?_, fun _ e => ?_, fun _ _ => p'.tup S (by rw [List.length_append]; exact hz) (q1.append q2)⟩
        · subst e
          have ea : a = [] := List.eq_nil_of_length_eq_zero (by simpa using l1.symm)
          subst ea
          exact KV.same p' S (Rep.tup_iff.mpr ⟨p2, ws, rfl, t2, q2⟩)
        · subst e
          have ea : b = [] := List.eq_nil_of_length_eq_zero (by simpa using l2.symm)
          subst ea
          rw [List.append_nil] at p'
          exact KV.same p' S (Rep.tup_iff.mpr ⟨p1, vs, rfl, t1, q1⟩)
      · exact p'.elim
    | _ => exact rest rfl
  | _ => exact rest rfl
end
end Pm

end
section
namespace Pm
open PySem L2
theorem all_sub {a b : Array Nat} {p : Nat → Bool} (h : a.all p = true) (hs : ∀ c ∈ b.toList, c ∈ a.toList) : b.all p = true := by
  rw [Array.all_eq_true'] at h ⊢
  intro c hc
  exact h c (Array.mem_toList_iff.mp (hs c (Array.mem_toList_iff.mpr hc)))
theorem sOk_one {z : Str} (ok : SOk z) {c : Nat} (h : c ∈ z.cps.toList) : SOk ⟨#[c]⟩ := by
  refine ⟨by show 1 ≤ sizeLine; decide, all_sub ok.2 fun d hd => ?_⟩
  have e : d = c := by simpa using hd
  rw [e]; exact h

mutual
theorem veq_pd : ∀ (x y : EV) (n m : Nat), okd x n = true → okd y m = true → PyData.eqv (pd x) (pd y) = veq x y
  | .non, y, n, m, h, g => by cases y <;> first | rfl | (cases g)
  | .bl a, y, n, m, h, g => by cases y <;> first | rfl | (cases g)
  | .int a, y, n, m, h, g => by cases y <;> first | rfl | (cases g)
  | .str a, y, n, m, h, g => by cases y <;> first | rfl | (cases g)
  | .obj a, y, n, m, h, g => by cases h
  | .scr a, y, n, m, h, g => by cases h
  | .tup xs, y, n, m, h, g => by
    cases n with
    | zero => cases h
    | succ n =>
      have h' : okds xs n = true := h
      cases y with
      | tup ys =>
        cases m with
        | zero => cases g
        | succ m => exact veqs_pd xs ys n m h' g
      | obj _ => cases g
      | scr _ => cases g
      | _ => rfl
  | .lst xs, y, n, m, h, g => by
    cases n with
    | zero => cases h
    | succ n =>
      have h' : okds xs n = true := h
      cases y with
      | lst ys =>
        cases m with
        | zero => cases g
        | succ m => exact veqs_pd xs ys n m h' g
      | obj _ => cases g
      | scr _ => cases g
      | _ => rfl
theorem veqs_pd : ∀ (xs ys : List EV) (n m : Nat), okds xs n = true → okds ys m = true → PyData.eqvAll (pds xs) (pds ys) = veqs xs ys
  | [], [], _, _, _, _ => rfl
  | [], _ :: _, _, _, _, _ => rfl
  | _ :: _, [], _, _, _, _ => rfl
  | x :: xs, y :: ys, n, m, h, g => by
    have h' : (okd x n && okds xs n) = true := h
    have g' : (okd y m && okds ys m) = true := g
    rw [Bool.and_eq_true] at h' g'
    show (PyData.eqv (pd x) (pd y) && PyData.eqvAll (pds xs) (pds ys)) = (veq x y && veqs xs ys)
    rw [veq_pd x y n m h'.1 g'.1, veqs_pd xs ys n m h'.2 g'.2]
end
mutual
theorem pd_depth : ∀ (x : EV) (n : Nat), okd x n = true → (pd x).depth ≤ n
  | .non, _, _ => Nat.zero_le _
  | .bl _, _, _ => Nat.zero_le _
  | .int _, _, _ => Nat.zero_le _
  | .str _, _, _ => Nat.zero_le _
  | .obj _, _, _ => Nat.zero_le _
  | .scr _, _, _ => Nat.zero_le _
  | .tup xs, n, h => by
    cases n with
    | zero => cases h
    | succ n => exact Nat.succ_le_succ (pds_depth xs n h)
  | .lst xs, n, h => by
    cases n with
    | zero => cases h
    | succ n => exact Nat.succ_le_succ (pds_depth xs n h)
theorem pds_depth : ∀ (xs : List EV) (n : Nat), okds xs n = true → PyData.depthAll (pds xs) ≤ n
  | [], _, _ => Nat.zero_le _
  | x :: xs, n, h => by
    have h' : (okd x n && okds xs n) = true := h
    rw [Bool.and_eq_true] at h'
    exact Nat.max_le.mpr ⟨pd_depth x n h'.1, pds_depth xs n h'.2⟩
end
section
variable {K : Fw} {H H' : Hp} {M M' : Mp} {s : Sto}
mutual
theorem Rep.dp : ∀ (x : EV) (v : V) (n : Nat), okd x n = true → Rep K H M x v → Dp K H v (pd x) ∧ (pd x).canLay0 = true
  | .non, v, n, h, r => by
    have e : v = .non := r
    subst e; exact ⟨.non, rfl⟩
  | .bl b, v, n, h, r => by
    have e : v = .bl b := r
    subst e; exact ⟨.bl b, rfl⟩
  | .int b, v, n, h, r => by
    have e : v = .int b := r
    subst e; exact ⟨.int b, rfl⟩
  | .str b, v, n, h, r => by
    have e : v = .str b ∧ SOk b := r
    obtain ⟨e, o⟩ := e
    subst e; exact ⟨.str b, o.2⟩
  | .obj _, v, n, h, r => by cases h
  | .scr _, v, n, h, r => by cases h
  | .tup xs, v, n, h, r => by
    cases n with
    | zero => cases h
    | succ n =>
      rw [Rep.tup_iff] at r
      obtain ⟨a, vs, rfl, t, q⟩ := r
      obtain ⟨h1, h2⟩ := Reps.dp xs vs n h q
      exact ⟨.tup t.sq h1, h2⟩
  | .lst xs, v, n, h, r => by
    cases n with
    | zero => cases h
    | succ n =>
      rw [Rep.lst_iff] at r
      obtain ⟨a, vs, rfl, t, q⟩ := r
      obtain ⟨h1, h2⟩ := Reps.dp xs vs n h q
      exact ⟨.lst t.sq h1, h2⟩
theorem Reps.dp : ∀ (xs : List EV) (vs : List V) (n : Nat), okds xs n = true → Reps K H M xs vs → DpAll K H vs (pds xs) ∧ PyData.canLayAll0 (pds xs) = true
  | [], vs, n, h, r => by
    rw [Reps.nil_iff] at r; subst r; exact ⟨.nil, rfl⟩
  | x :: xs, vs, n, h, r => by
    have h' : (okd x n && okds xs n) = true := h
    rw [Bool.and_eq_true] at h'
    rw [Reps.cons_iff] at r
    obtain ⟨v, r, rfl, r1, r2⟩ := r
    obtain ⟨a1, a2⟩ := Rep.dp x v n h'.1 r1
    obtain ⟨b1, b2⟩ := Reps.dp xs r n h'.2 r2
    refine ⟨.cons a1 b1, ?_⟩
    show (PyData.canLay0 (pd x) && PyData.canLayAll0 (pds xs)) = true
    rw [a2, b2]; rfl
end
theorem look_dp {v : EV} {r : V} {n : Nat} (S : StOk K H M s) (R : Rep K H M v r) (h : okd (look s v) n = true) : Dp K H r (pd (look s v)) ∧ (pd (look s v)).canLay0 = true := by
  cases v with
  | obj k =>
    rcases look_obj (s := s) k with ⟨ys, e, e'⟩ | e'
    · obtain ⟨a, vs, rfl, h1, h2, h3⟩ := look_lst S R e'
      rw [e'] at h ⊢
      cases n with
      | zero => cases h
      | succ n =>
        obtain ⟨b1, b2⟩ := Reps.dp ys vs n h h3
        exact ⟨.lst (.inl h1) b1, b2⟩
    · rw [e'] at h; cases h
  | non => exact Rep.dp _ _ n h R
  | bl _ => exact Rep.dp _ _ n h R
  | int _ => exact Rep.dp _ _ n h R
  | str _ => exact Rep.dp _ _ n h R
  | tup _ => exact Rep.dp _ _ n h R
  | lst _ => exact Rep.dp _ _ n h R
  | scr _ => exact Rep.dp _ _ n h R
theorem shaped_of {v : EV} {n : Nat} (h : okd v n = true) (hn : n ≤ 64) (c : (pd v).canLay0 = true) : SeqAt.shaped (pd v) = true := by
  unfold SeqAt.shaped
  rw [c, decide_eq_true (Nat.le_trans (pd_depth v n h) hn)]; rfl
end

section
variable {X : Cx}
theorem r2_eq (hu : X.A.units + 64 < cLine) : OpR X (compareOp .Eq) (r2 X.kw (cmpf .eq)) := by
  intro pins s σ H x y v u Q I rx ry h
  obtain ⟨W, vx, vy, M, st, S, R1, R2, p⟩ := h
  have p' : Post W (if (okd (look st vx) 60 && okd (look st vy) 60) = true then .ok (.bl (veq (look st vx) (look st vy))) st else .stuck) (KV X.kw H M Q) := p
  split at p'
  · rename_i hk
    rw [Bool.and_eq_true] at hk
    obtain ⟨d1, c1⟩ := look_dp S R1 hk.1
    obtain ⟨d2, c2⟩ := look_dp S R2 hk.2
    refine op_eqD hu pins s σ H x y v u Q I rx ry ⟨_, _, d1, d2, shaped_of hk.1 (by decide) c1, shaped_of hk.2 (by decide) c2, ?_⟩
    rw [veq_pd _ _ _ _ hk.1 hk.2]
    exact KV.same (v := .bl _) p' S rfl
  · exact p'.elim
theorem r2_ne (hu : X.A.units + 64 < cLine) : OpR X (compareOp .NotEq) (r2 X.kw (cmpf .ne)) := by
  intro pins s σ H x y v u Q I rx ry h
  obtain ⟨W, vx, vy, M, st, S, R1, R2, p⟩ := h
  have p' : Post W (if (okd (look st vx) 60 && okd (look st vy) 60) = true then .ok (.bl (!veq (look st vx) (look st vy))) st else .stuck) (KV X.kw H M Q) := p
  split at p'
  · rename_i hk
    rw [Bool.and_eq_true] at hk
    obtain ⟨d1, c1⟩ := look_dp S R1 hk.1
    obtain ⟨d2, c2⟩ := look_dp S R2 hk.2
    refine op_neD hu pins s σ H x y v u Q I rx ry ⟨_, _, d1, d2, shaped_of hk.1 (by decide) c1, shaped_of hk.2 (by decide) c2, ?_⟩
    rw [veq_pd _ _ _ _ hk.1 hk.2]
    exact KV.same (v := .bl _) p' S rfl
  · exact p'.elim
/-- x == [], x a list of any things -/
theorem r2_eqn (hu : X.A.units + 64 < cLine) : OpR X (compareOp .Eq) (r2 X.kw (cmpf .eqn)) := by
  intro pins s σ H x y v u Q I rx ry h
  obtain ⟨W, vx, vy, M, st, S, R1, R2, p⟩ := h
  unfold cmpf at p
  simp only at p
  split at p
  · rename_i xs e1 e2
    have p' : KV X.kw H M Q (.bl xs.isEmpty) st := p
    obtain ⟨a, ws, rfl, h1, h2, h3⟩ := look_lst S R1 e1
    obtain ⟨b, ws2, rfl, h4, h5, h6⟩ := look_lst S R2 e2
    obtain ⟨its, r1, pl1, _⟩ := I.list (.inl h1 : SqL X.K H a ws)
    obtain ⟨its2, r2, pl2, _⟩ := I.list (.inl h4 : SqL X.K H b ws2)
    have l1 : its.length = xs.length := by rw [← r1.length, h3.length]
    have l2 : its2.length = 0 := by rw [← r2.length, h6.length]; rfl
    cases rx
    cases ry
    cases xs with
    | nil => exact SeqAt.eq_listAt (e := fun _ => true) pl1.isList pl2.isList (by simp [l1, l2]) (by omega) (fun j hj _ => by simp [l1] at hj) ⟨.bl true, H, I, by simp [l1]; rfl, KV.same p' S rfl⟩
    | cons z zs => exact SeqAt.eq_list_lengthsAt pl1.isList pl2.isList (by simp [l1, l2]) (by omega) ⟨.bl false, H, I, rfl, KV.same p' S rfl⟩
  · exact p.elim
/-- an operation of two ints -/
theorem r2_ii {f : Value → Value → Sem Value} {g : EV → EV → Sto → R EV} (C : Int → Int → Prop) (k : Int → Int → EV) (kv : Int → Int → V) (op : OpR X f (rI C kv))
    (hk : ∀ i j H M, Rep X.kw H M (k i j) (kv i j))
    (hg : ∀ {W : Nat → List EV → Sto → Prop} {vx vy : EV} {st : Sto} {Q : EV → Sto → Prop}, Post W (g vx vy st) Q → ∃ i j, vx = .int i ∧ vy = .int j ∧ C i j ∧ Q (k i j) st) : OpR X f (r2 X.kw g) := by
  intro pins s σ H x y v u Q I rx ry h
  obtain ⟨W, vx, vy, M, st, S, R1, R2, p⟩ := h
  obtain ⟨i, j, rfl, rfl, c, q⟩ := hg p
  exact op pins s σ H x y v u Q I rx ry ⟨i, j, R1, R2, c, KV.same q S (hk i j H M)⟩
theorem rI_of0 {f : Value → Value → Sem Value} {kv : Int → Int → V} (op : OpR X f (rI0 kv)) : OpR X f (rI (fun _ _ => True) kv) := by
  intro pins s σ H x y v u Q I rx ry h
  obtain ⟨i, j, e1, e2, _, q⟩ := h
  exact op pins s σ H x y v u Q I rx ry ⟨i, j, e1, e2, q⟩
theorem r2_sub : OpR X (binaryOp .Sub) (r2 X.kw (binf .sub)) := r2_ii (fun _ _ => True) (fun i j => .int (i - j)) _ (rI_of0 op_sub) (fun _ _ _ _ => rfl) (by
  intro W vx vy st Q p
  cases vx <;> cases vy <;> first | exact ⟨_, _, rfl, rfl, trivial, p⟩ | exact p.elim)
theorem r2_fdiv : OpR X (binaryOp .FloorDiv) (r2 X.kw (binf .fdiv)) := r2_ii CDiv (fun i j => .int (i / j)) _ op_fdiv (fun _ _ _ _ => rfl) (by
  intro W vx vy st Q p
  cases vx with
  | int i =>
    cases vy with
    | int j =>
      have p' : Post W (if 0 < j ∧ j < 1073741824 then .ok (.int (i / j)) st else .stuck) Q := p
      split at p'
      · rename_i hc
        exact ⟨i, j, rfl, rfl, hc, p'⟩
      · exact p'.elim
    | _ => exact p.elim
  | _ => exact p.elim)
theorem r2_mod : OpR X (binaryOp .Mod) (r2 X.kw (binf .mod)) := r2_ii (fun _ j => 0 < j) (fun i j => .int (i % j)) _ op_mod (fun _ _ _ _ => rfl) (by
  intro W vx vy st Q p
  cases vx with
  | int i =>
    cases vy with
    | int j =>
      have p' : Post W (if 0 < j then .ok (.int (i % j)) st else .stuck) Q := p
      split at p'
      · rename_i hc
        exact ⟨i, j, rfl, rfl, hc, p'⟩
      · exact p'.elim
    | _ => exact p.elim
  | _ => exact p.elim)
theorem r2_pow : OpR X (binaryOp .Pow) (r2 X.kw (binf .pow)) := r2_ii CPow (fun i j => .int (i ^ j.toNat)) _ op_pow (fun _ _ _ _ => rfl) (by
  intro W vx vy st Q p
  cases vx with
  | int i =>
    cases vy with
    | int j =>
      have p' : Post W (if 0 ≤ j ∧ j ≤ 1000000 ∧ i.natAbs < 2 ^ 64 then .ok (.int (i ^ j.toNat)) st else .stuck) Q := p
      split at p'
      · rename_i hc
        exact ⟨i, j, rfl, rfl, hc, p'⟩
      · exact p'.elim
    | _ => exact p.elim
  | _ => exact p.elim)
theorem cmp_ints {W : Nat → List EV → Sto → Prop} {vx vy : EV} {st : Sto} {Q : EV → Sto → Prop} {g : EV → EV → Sto → R EV} {k : Int → Int → EV}
    (h1 : ∀ i j, g (.int i) (.int j) st = .ok (k i j) st) (h2 : ∀ a b, (∀ i j, ¬ (a = .int i ∧ b = .int j)) → g a b st = .stuck) (p : Post W (g vx vy st) Q) : ∃ i j, vx = .int i ∧ vy = .int j ∧ True ∧ Q (k i j) st := by
  by_cases h : ∃ i j, vx = .int i ∧ vy = .int j
  · obtain ⟨i, j, rfl, rfl⟩ := h
    rw [h1] at p
    exact ⟨i, j, rfl, rfl, trivial, p⟩
  · rw [h2 vx vy fun i j e => h ⟨i, j, e.1, e.2⟩] at p
    exact p.elim
theorem Rep.non_iff {K : Fw} {H : Hp} {M : Mp} {v : EV} {r : V} (R : Rep K H M v r) : decide (r = .non) = isNone v := by
  cases v with
  | non => have e : r = .non := R; subst e; rfl
  | bl b => have e : r = .bl b := R; subst e; rfl
  | int b => have e : r = .int b := R; subst e; rfl
  | str b => have e : r = .str b := R.1; subst e; rfl
  | obj n => obtain ⟨a, e, _⟩ : ∃ a, r = .ref a ∧ M.ad[n]? = some a := R; subst e; rfl
  | tup xs => rw [Rep.tup_iff] at R; obtain ⟨a, _, e, _⟩ := R; subst e; rfl
  | lst xs => rw [Rep.lst_iff] at R; obtain ⟨a, _, e, _⟩ := R; subst e; rfl
  | scr xs => rw [Rep.scr_iff] at R; obtain ⟨a, _, e, _⟩ := R; subst e; rfl
theorem r2_is : OpR X (compareOp .Is) (r2 X.kw (cmpf .is)) := by
  intro pins s σ H x y v u Q I rx ry h
  obtain ⟨W, vx, vy, M, st, S, R1, R2, p⟩ := h
  cases vy with
  | non =>
    refine op_isN pins s σ H x y v u Q I rx ry ⟨R2, ?_⟩
    rw [Rep.non_iff R1]
    exact KV.same (v := .bl _) p S rfl
  | _ => exact (show False from p).elim
theorem r2_isn : OpR X (compareOp .IsNot) (r2 X.kw (cmpf .isn)) := by
  intro pins s σ H x y v u Q I rx ry h
  obtain ⟨W, vx, vy, M, st, S, R1, R2, p⟩ := h
  cases vy with
  | non =>
    refine op_notN pins s σ H x y v u Q I rx ry ⟨R2, ?_⟩
    rw [Rep.non_iff R1]
    exact KV.same (v := .bl _) p S rfl
  | _ => exact (show False from p).elim
/-- truth -/
theorem truth_ok {K : Fw} {H : Hp} {M : Mp} {v : EV} {r : V} {s : Sto} {b : Bool} (S : StOk K H M s) (R : Rep K H M v r) (h : truth s v = some b) : TruV K r H b := by
  have seq : ∀ {xs : List EV} {vs : List V}, Reps K H M xs vs → (!xs.isEmpty) = !vs.isEmpty := fun {xs vs} q => by
    have l := q.length
    cases xs <;> cases vs <;> first | rfl | simp at l
  cases v with
  | non => have e : r = .non := R; subst e; cases h; rfl
  | bl c => have e : r = .bl c := R; subst e; cases h; rfl
  | int c => have e : r = .int c := R; subst e; cases h; rfl
  | str c =>
    have e : r = .str c := R.1
    subst e; cases h
    refine ⟨R.2.1, ?_⟩
    cases e : c.length <;> simp
    omega
  | tup xs =>
    rw [Rep.tup_iff] at R
    obtain ⟨a, vs, e, t, q⟩ := R
    subst e
    cases h
    exact .inr (.inl ⟨vs, t.sq, seq q⟩)
  | lst xs =>
    rw [Rep.lst_iff] at R
    obtain ⟨a, vs, e, t, q⟩ := R
    subst e
    cases h
    exact .inl ⟨vs, t.sq, seq q⟩
  | scr xs => cases h
  | obj n =>
    obtain ⟨a, e, e2⟩ : ∃ a, r = .ref a ∧ M.ad[n]? = some a := R
    subst e
    cases e3 : s[n]? with
    | none => simp [truth, e3] at h
    | some o =>
      have q := S.at_ n a o e2 e3
      cases o with
      | lst xs =>
        obtain ⟨vs, h1, h2, h3⟩ := q
        have h' : some (!xs.isEmpty) = some b := by simpa [truth, e3] using h
        cases h'
        exact .inl ⟨vs, .inl (.inl h1), seq h3⟩
      | dct _ _ => simp [truth, e3] at h
/-- neg -/
def r1 (K : Fw) (g : EV → Sto → R EV) : V → Hp → VK → Prop := fun x H Q =>
  ∃ W vx M s, StOk K H M s ∧ Rep K H M vx x ∧ Post W (g vx s) (KV K H M Q)
def negf (x : EV) (s : Sto) : R EV := match x with
  | .int i => .ok (.int (-i)) s
  | _ => .stuck
theorem r1_neg : UnR X (unaryOp .USub) (r1 X.kw negf) := by
  intro pins s σ H x v Q I rx h
  obtain ⟨W, vx, M, st, S, R1, p⟩ := h
  cases vx with
  | int i => exact un_neg pins s σ H x v Q I rx ⟨i, R1, KV.same (v := .int _) p S rfl⟩
  | _ => exact (show False from p).elim
/-- items -/
theorem ixn_eq (n : Nat) (i : Int) : ixn n i = ixN n i := rfl
theorem r2_idxL : IxR X (r2 X.kw idxL) := by
  intro ev es pins s σ H x y v u Q I rx ry h hp
  obtain ⟨W, vx, vy, M, st, S, R1, R2, p⟩ := h
  have go : ∀ {xs : List EV} {vs : List V} {i : Int}, Reps X.kw H M xs vs → Post W (match (ixn xs.length i).bind fun j => xs[j]? with | some v => .ok v st | none => .stuck) (KV X.kw H M Q) → ∃ w, atI vs i = some w ∧ Q w H := by
    intro xs vs i q z
    cases e : (ixn xs.length i).bind fun j => xs[j]? with
    | none => rw [e] at z; exact z.elim
    | some w =>
      rw [e] at z
      obtain ⟨j, e1, e2⟩ := Option.bind_eq_some_iff.mp e
      obtain ⟨w', h1, h2⟩ := q.get e2
      refine ⟨w', ?_, KV.same z S h2⟩
      unfold atI
      rw [q.length, ← ixn_eq, e1]
      exact h1
  unfold idxL at p
  split at p
  · rename_i xs i e1
    have e := look_tup e1
    subst e
    rw [Rep.tup_iff] at R1
    obtain ⟨a, vs, rfl, t, q⟩ := R1
    obtain ⟨w, h1, h2⟩ := go q p
    exact ix_tup ev es pins s σ H _ y v u Q I rx ry ⟨a, vs, i, w, rfl, R2, t.sq, h1, h2⟩ hp
  · rename_i xs i e1
    obtain ⟨a, vs, rfl, t, _, q⟩ := look_lst S R1 e1
    obtain ⟨w, h1, h2⟩ := go q p
    exact ix_list ev es pins s σ H _ y v u Q I rx ry ⟨a, vs, i, w, rfl, R2, .inl t, h1, h2⟩ hp
  · rename_i z i e1
    have e := look_str e1
    subst e
    obtain ⟨e2, ok⟩ : x = .str z ∧ SOk z := R1
    subst e2
    cases ec : (ixn z.cps.toList.length i).bind fun j => z.cps.toList[j]? with
    | none => rw [ec] at p; exact p.elim
    | some c =>
      rw [ec] at p
      have hm : c ∈ z.cps.toList := by
        obtain ⟨j, _, h2⟩ := Option.bind_eq_some_iff.mp ec
        exact List.mem_of_getElem? h2
      exact ix_str ev es pins s σ H _ y v u Q I rx ry ⟨z, i, c, rfl, R2, ok.1, ec, KV.same (v := .str _) p S ⟨rfl, sOk_one ok hm⟩⟩ hp
  · exact p.elim
end
end Pm

end
section
set_option maxHeartbeats 4000000
/-! Texts as rows of signs; a text, a tuple, a list, so often. -/
namespace Pm
open PySem PySem.Spec PyProof.Rows L2
/-- a text's signs, as they lie -/
def signV (z : Str) : List V := z.cps.toList.map fun c => .str ⟨#[c]⟩
theorem signV_len (z : Str) : (signV z).length = z.length := by
  unfold signV
  rw [List.length_map]
  rfl
theorem signs_rep {K : Fw} {H : Hp} {M : Mp} {z : Str} (ok : SOk z) : Reps K H M (signs z) (signV z) := by
  have go : ∀ l : List Nat, (∀ c ∈ l, c ∈ z.cps.toList) → Reps K H M (l.map fun c => EV.str ⟨#[c]⟩) (l.map fun c => V.str ⟨#[c]⟩) := by
    intro l
    induction l with
    | nil => intro _; rw [List.map_nil, Reps.nil_iff]; rfl
    | cons c l ih =>
      intro h
      rw [List.map_cons, List.map_cons, Reps.cons_iff]
      exact ⟨_, _, rfl, ⟨rfl, sOk_one ok (h c List.mem_cons_self)⟩, ih fun d hd => h d (List.mem_cons_of_mem _ hd)⟩
  exact go z.cps.toList fun c hc => hc
theorem signs_vals {z : Str} {acc : Array Value} (h : ItemsOf (SignAt z) acc z.cps.size) : Vals (signV z) acc.toList := by
  obtain ⟨hl, hi⟩ := h
  have go : ∀ (l : List Nat) (us : List Value), us.length = l.length → (∀ i (h : i < l.length), ∃ t, us[i]? = some (.str ⟨#[l[i]]⟩ t)) → Vals (l.map fun c => V.str ⟨#[c]⟩) us := by
    intro l
    induction l with
    | nil =>
      intro us e _
      have : us = [] := List.eq_nil_of_length_eq_zero e
      subst this
      exact .nil
    | cons c l ih =>
      intro us e h
      cases us with
      | nil => cases e
      | cons u us =>
        obtain ⟨t, e1⟩ := h 0 (by simp)
        have e1 : u = .str ⟨#[c]⟩ t := by simpa using e1
        refine .cons ⟨t, e1⟩ (ih us (by simpa using e) fun i hi => ?_)
        obtain ⟨t, e2⟩ := h (i + 1) (by simpa using hi)
        exact ⟨t, by simpa using e2⟩
  refine go z.cps.toList acc.toList (by simpa using hl) fun i hi' => ?_
  have hi2 : i < acc.size := by rw [hl]; simpa using hi'
  obtain ⟨c, t, e1, e2⟩ := hi i acc[i] (by rw [Array.getElem?_eq_getElem hi2])
  refine ⟨t, ?_⟩
  rw [Array.getElem?_toList, Array.getElem?_eq_getElem hi2, e2]
  congr 4
  have hz : i < z.cps.size := by simpa using hi'
  rw [Array.getElem?_eq_getElem hz] at e1
  rw [Array.getElem_toList]
  rw [← Option.some.inj e1]
section
variable {X : Cx}
theorem call_list_txt (hc : X.calm = true) : CallR X (.type "list") (fun xs H Q => ∃ z : Str, xs = [.str z] ∧ z.length ≤ sizeLine ∧ ∀ l, H l = none → Q (.ref l) (upd H l (.lst (signV z)))) := by
  intro pins s σ H xs us Q I r h
  obtain ⟨z, rfl, hl, q⟩ := h
  obtain ⟨u, rfl, t, rfl⟩ := vals1 r
  refine call_list_str (I.ok.hd hc) z t (fun h' tk acc c kp e ha => ?_) hl
  exact ⟨.ref s.heap.objs.size, _, I.laid (t' := tk) kp (Nat.le_refl _) (show ObjOk X.prog X.w _ h' _ (.lst (signV z)) from ⟨by rw [signV_len]; exact hl, acc.toList, c, signs_vals ha, by simpa using e⟩), rfl, q _ (I.hok.fresh (Nat.le_refl _))⟩
theorem call_tuple_txt (hc : X.calm = true) : CallR X (.type "tuple") (fun xs H Q => ∃ z : Str, xs = [.str z] ∧ z.length ≤ sizeLine ∧ ∀ l, H l = none → Q (.ref l) (upd H l (.tup (signV z)))) := by
  intro pins s σ H xs us Q I r h
  obtain ⟨z, rfl, hl, q⟩ := h
  obtain ⟨u, rfl, t, rfl⟩ := vals1 r
  refine call_tuple_str (I.ok.hd hc) z t (fun h' tk acc kp ha => ?_) hl
  have I1 : Inv X pins σ H { s with heap := h', toks := tk } := I.kept (t' := tk) kp
  have I2 : Inv X pins σ (upd H h'.objs.size (.tup (signV z))) { s with heap := h'.push { cls := .type "tuple", data := .seq acc }, toks := tk } :=
    I1.laid (t' := tk) (fun b o e => Heap.get?_push_of_some _ e) (Nat.le_refl _) (show ObjOk X.prog X.w _ _ _ (.tup (signV z)) from ⟨by rw [signV_len]; exact hl, acc.toList, signs_vals ha, by simpa using IsTup.new _ acc⟩)
  exact ⟨.ref h'.objs.size, _, I2, rfl, q _ (I1.hok.fresh (Nat.le_refl _))⟩
/-! ### so often -/
theorem rep_arr (a : Array Nat) : ∀ n : Nat, (List.replicate n a).foldl (· ++ ·) #[] = (List.replicate n a.toList).flatten.toArray := by
  have go : ∀ (n : Nat) (b : Array Nat), (List.replicate n a).foldl (· ++ ·) b = b ++ (List.replicate n a.toList).flatten.toArray := by
    intro n
    induction n with
    | zero => intro b; simp
    | succ n ih =>
      intro b
      rw [List.replicate_succ, List.foldl_cons, ih, List.replicate_succ, List.flatten_cons]
      apply Array.ext'
      simp
  intro n
  rw [go]; simp
theorem op_mulS : OpR X (binaryOp .Mult) (fun x y H Q => ∃ (z : Str) (k : Int), x = .str z ∧ y = .int k ∧ k < 1000001 ∧ -1000001 < k ∧ z.length * k.toNat ≤ sizeLine ∧ Q (.str (repS z k)) H) := by
  intro pins s σ H x y v u Q I rx ry h
  obtain ⟨z, k, rfl, rfl, h1, h2, hl, q⟩ := h
  obtain ⟨t, rfl⟩ := rx
  obtain ⟨t', rfl⟩ := ry
  refine PySem.P.mul_str (by rw [decide_eq_false (by omega), decide_eq_false (by omega)]; rfl) (fun hk hb hc => ?_) (fun _ _ => ?_) ?_
  · have e1 : 1 ≤ z.length := by
      rw [Bool.or_eq_false_iff] at hb
      have : z.length ≠ 0 := by simpa using hb.2
      omega
    have e2 : (z.length : Int) ≤ 16777216 := by
      rw [sizeLine_eq] at hl
      have : z.length * 1 ≤ z.length * k.toNat := Nat.mul_le_mul_left _ (by omega)
      omega
    have e3 : (2 ^ 63 - 1 : Int) / k ≥ (2 ^ 63 - 1) / 1000001 := by
      apply Int.le_ediv_of_mul_le (by omega)
      have : (2 ^ 63 - 1 : Int) / 1000001 * k ≤ (2 ^ 63 - 1) / 1000001 * 1000001 := Int.mul_le_mul_of_nonneg_left (by omega) (by decide)
      have e4 : (2 ^ 63 - 1 : Int) / 1000001 * 1000001 ≤ 2 ^ 63 - 1 := by decide
      omega
    have e5 : (2 ^ 63 - 1 : Int) / 1000001 > 16777216 := by decide
    omega
  · unfold Builtin.Str.tooLong
    exact decide_eq_false (by omega)
  · have er : ∀ {n : Nat}, n = k.toNat → (⟨(List.replicate n z.cps).foldl (· ++ ·) #[]⟩ : Str) = repS z k := fun {n} e => by
      subst e
      unfold repS
      rw [rep_arr]
    by_cases c1 : k < 1
    · rw [if_pos c1]
      have e : repS z k = Str.empty := by
        unfold repS
        rw [show k.toNat = 0 by omega]
        rfl
      rw [e] at q
      exact ⟨by decide, .str _, H, I.tok _, ⟨_, rfl⟩, q⟩
    · rw [if_neg c1]
      by_cases c2 : (k == 1 || z.length == 0) = true
      · rw [if_pos c2]
        have e : repS z k = z := by
          rw [Bool.or_eq_true] at c2
          rcases c2 with c2 | c2
          · have : k = 1 := by simpa using c2
            subst this
            unfold repS
            simp
          · have e0 : z.cps.toList = [] := List.eq_nil_of_length_eq_zero (by simpa [Str.length] using c2)
            unfold repS
            rw [e0]
            have e1 : (List.replicate k.toNat ([] : List Nat)).flatten = [] := by simp
            rw [e1]
            have : z.cps = #[] := by simpa using e0
            cases z
            simp_all
        rw [e] at q
        exact ⟨.str _, H, I, ⟨_, rfl⟩, q⟩
      · rw [if_neg c2]
        refine ⟨?_, .str _, H, I.tok _, ⟨_, rfl⟩, by rw [er rfl]; exact q⟩
        rw [er rfl]
        have e0 : (repS z k).length = k.toNat * z.length := by
          unfold repS
          show (List.toArray _).size = _
          rw [List.size_toArray, PyProof.Rows.lm_len_rep_flat]
          simp [Str.length]
        rw [e0, Nat.mul_comm]
        exact hl
/-- a tuple, more often -/
theorem op_repT2 : OpR X (binaryOp .Mult) (fun x y H Q => ∃ l k xs, x = .ref l ∧ y = .int k ∧ SqT X.K H l xs ∧ xs ≠ [] ∧ 2 ≤ k ∧ k ≤ 100000 ∧ xs.length ≤ 100 ∧ ∀ p, H p = none → Q (.ref p) (upd H p (.tup (List.replicate k.toNat xs).flatten))) := by
  intro pins s σ H x y v u Q I rx ry h
  obtain ⟨l, k, xs, rfl, rfl, hT, hne, h1, h2, hz, q⟩ := h
  cases rx
  obtain ⟨t, rfl⟩ := ry
  obtain ⟨its, r, ⟨⟨cls, dd, data, sl⟩, ho, hc, n, hd⟩, hs⟩ := I.tuple hT
  simp only at hc hd
  subst hc hd
  have hle : its.length = xs.length := r.length.symm
  have hn : its ≠ [] := fun e => hne (by
    rw [e] at hle
    exact List.eq_nil_of_length_eq_zero hle.symm)
  have hi : its.toArray.isEmpty = false := by
    cases its with
    | nil => exact absurd rfl hn
    | cons a b => rfl
  have hsz0 : its.toArray.size = xs.length := by rw [List.size_toArray, hle]
  have hm : ((its.toArray.size : Nat) : Int) * k ≤ 10000000 := by
    rw [hsz0]
    have a1 : ((xs.length : Nat) : Int) * k ≤ 100 * k := Int.mul_le_mul_of_nonneg_right (by omega) (by omega)
    omega
  have flen : (List.replicate k.toNat its).flatten.length ≤ sizeLine := by
    rw [PyProof.Rows.lm_len_rep_flat, hle, sizeLine_eq]
    have a1 : k.toNat * xs.length ≤ 100000 * 100 := Nat.mul_le_mul (by omega) hz
    omega
  have c0 : (decide (k < -(2 ^ 63)) || decide (k ≥ 2 ^ 63)) = false := by
    rw [decide_eq_false (by omega), decide_eq_false (by omega)] <;> rfl
  have c1 : (its.toArray.isEmpty || k == 1) = false := by
    rw [hi, Bool.false_or]
    exact beq_eq_false_iff_ne.mpr (by omega)
  have c2 : (decide (k ≤ 0) || its.toArray.isEmpty) = false := by
    rw [hi, Bool.or_false]
    exact decide_eq_false (by omega)
  have c4 : Builtin.Tuple.tupleTooMany (((its.toArray.size : Nat) : Int) * k) = false := by
    unfold Builtin.Tuple.tupleTooMany
    rw [sizeLine_eq]
    exact decide_eq_false (by omega)
  refine wpAny_binaryOp_repeat_ref (T := "tuple") (U := "int") (by decide) ⟨_, ho, rfl⟩ (fun s' => typeIs_int s' k t) noFill_tuple_mul F.fills_int_mul F.slot_int_rmul repeat_tuple F.slot_int_index.lookup
    (call_meets F.slot_int_rmul (typeIs_int s k t) F.entry_int_rmul (F.args_int_rmul_2 _ _) (int_rmul_tuple k t l its.toArray n dd sl)
      ⟨ho, rfl, ⟨_, ho, rfl⟩, call_meets F.slot_tuple_mul ⟨_, ho, rfl⟩ F.entry_tuple_mul (F.args_tuple_mul_2 _ _) (tuple_mulW l its.toArray n dd sl k t c0 c1 c2 (by omega) c4 (by rw [size_rep, List.size_toArray]; exact flen)) ⟨ho, ?_⟩⟩)
  rw [size_rep]
  refine ⟨.ref s.heap.objs.size, _, I.laid (t' := s.toks) (o := .tup (List.replicate k.toNat xs).flatten) (fun b ob q => Heap.get?_push_of_some _ q) (Nat.le_refl _) ?_, rfl, q _ (I.hok.fresh (Nat.le_refl _))⟩
  exact ⟨by rw [PyProof.Rows.lm_len_rep_flat, sizeLine_eq]; have a1 : k.toNat * xs.length ≤ 100000 * 100 := Nat.mul_le_mul (by omega) hz; omega, _, r.rep k.toNat, IsTup.new _ _⟩
/-- a list, more often -/
theorem op_repL2 : OpR X (binaryOp .Mult) (fun x y H Q => ∃ l k xs, x = .ref l ∧ y = .int k ∧ Rd H l (.lst xs) ∧ -(2 ^ 63) ≤ k ∧ k < 2 ^ 63 ∧ xs.length * k.toNat ≤ sizeLine ∧ ∀ p, H p = none → Q (.ref p) (upd H p (.lst (List.replicate k.toNat xs).flatten))) := by
  intro pins s σ H x y v u Q I rx ry h
  obtain ⟨l, k, xs, rfl, rfl, hH, h1, h2, hz, q⟩ := h
  cases rx
  obtain ⟨t, rfl⟩ := ry
  obtain ⟨z, its, n, r, e⟩ := hH.ok I.hok
  have hl : xs.length = its.length := r.length
  have hlen : its.toArray.size * k.toNat ≤ sizeLine := by rw [List.size_toArray, ← hl]; exact hz
  have hcap : ¬ its.toArray.size * k.toNat > (2 ^ 63 - 1) / 8 := by
    have : (sizeLine : Nat) ≤ (2 ^ 63 - 1) / 8 := by decide
    omega
  have hfit : ¬ (!Builtin.List.listFitsIndex k) = true := by
    rw [fitsIndex_both h1 h2]
    exact Bool.false_ne_true
  have hlong : ¬ Builtin.List.listTooLong (its.toArray.size * k.toNat) = true := by
    rw [notLongL hlen]
    exact Bool.false_ne_true
  have hnew : List.foldl (fun x1 x2 => x1 ++ x2) #[] (List.replicate (if its.toArray.isEmpty = true then 0 else k.toNat) its.toArray) = (List.replicate k.toNat its).flatten.toArray := by
    have f0 : ∀ m : Nat, List.foldl (fun x1 x2 => x1 ++ x2) #[] (List.replicate m its.toArray) = (List.replicate m its).flatten.toArray := fun m => by
      have := foldl_rep its m []
      rw [List.nil_append] at this
      exact this
    rw [f0]
    cases its with
    | nil => simp
    | cons a r' => rw [if_neg (by simp)]
  refine wpAny_binaryOp_repeat_ref (T := "list") (U := "int") (by decide) ⟨_, e, rfl⟩ (fun s' => typeIs_int s' k t) noFill_list_mul F.fills_int_mul F.slot_int_rmul repeat_list F.slot_int_index.lookup
    (call_meets F.slot_int_rmul (typeIs_int s k t) F.entry_int_rmul (F.args_int_rmul_2 _ _) (int___rmul___int_list k t l its.toArray n)
      ⟨e, rfl, ⟨_, e, rfl⟩, call_meets F.slot_list_mul ⟨_, e, rfl⟩ F.entry_list_mul (F.args_list_mul_2 _ _) (AutoListH.list___mul___list_int_3 l its.toArray n k t hfit hcap hlong) ⟨e, ?_⟩⟩)
  rw [hnew]
  exact ⟨.ref _, _, I.lnew (t' := s.toks) (r.rep k.toNat) (by rw [PyProof.Rows.lm_len_rep_flat, Nat.mul_comm]; exact hz), rfl, q _ I.fresh⟩
theorem reps_rep {K : Fw} {H : Hp} {M : Mp} {xs : List EV} {vs : List V} (R : Reps K H M xs vs) : ∀ n : Nat, Reps K H M (List.replicate n xs).flatten (List.replicate n vs).flatten
  | 0 => by simp [Reps.nil_iff]
  | n + 1 => by
    rw [List.replicate_succ, List.replicate_succ, List.flatten_cons, List.flatten_cons]
    exact R.append (reps_rep R n)
theorem repS_ok {z : Str} {k : Int} (ok : SOk z) (hl : z.length * k.toNat ≤ sizeLine) : SOk (repS z k) := by
  refine ⟨?_, all_sub ok.2 fun c hc => ?_⟩
  · unfold repS
    show (List.toArray _).size ≤ _
    rw [List.size_toArray, PyProof.Rows.lm_len_rep_flat, Array.length_toList, Nat.mul_comm]
    exact hl
  · unfold repS at hc
    have hc : c ∈ (List.replicate k.toNat z.cps.toList).flatten := by simpa using hc
    obtain ⟨l, h1, h2⟩ := List.mem_flatten.mp hc
    rw [(List.mem_replicate.mp h1).2] at h2
    exact h2
theorem r2_mul : OpR X (binaryOp .Mult) (r2 X.kw (binf .mul)) := by
  intro pins s σ H x y v u Q I rx ry h
  obtain ⟨W, vx, vy, M, st, S, R1, R2, p⟩ := h
  cases vy with
  | int j =>
    have ey : y = .int j := R2
    cases vx with
    | int i =>
      have p' : Post W (if ((decide (-(2 ^ 64) < i) && decide (i < 2 ^ 64)) || (decide (-(2 ^ 64) < j) && decide (j < 2 ^ 64))) = true then .ok (.int (i * j)) st else .stuck) (KV X.kw H M Q) := p
      split at p'
      · rename_i hc
        simp only [Bool.or_eq_true, Bool.and_eq_true, decide_eq_true_eq] at hc
        exact op_mul pins s σ H x y v u Q I rx ry ⟨i, j, R1, R2, hc, KV.same (v := .int _) p' S rfl⟩
      · exact p'.elim
    | str z =>
      have p' : Post W (if j < 1000001 ∧ -1000001 < j ∧ z.length * j.toNat ≤ big then .ok (.str (repS z j)) st else .stuck) (KV X.kw H M Q) := p
      obtain ⟨e1, ok⟩ : x = .str z ∧ SOk z := R1
      split at p'
      · rename_i hc
        rw [big_eq] at hc
        exact op_mulS pins s σ H x y v u Q I rx ry ⟨z, j, e1, ey, hc.1, hc.2.1, hc.2.2, KV.same (v := .str _) p' S ⟨rfl, repS_ok ok hc.2.2⟩⟩
      · exact p'.elim
    | tup zs =>
      have p' : Post W (if 2 ≤ j ∧ j ≤ 100000 ∧ zs.isEmpty = false ∧ zs.length ≤ 100 then .ok (.tup (List.replicate j.toNat zs).flatten) st else .stuck) (KV X.kw H M Q) := p
      rw [Rep.tup_iff] at R1
      obtain ⟨a, vs, rfl, t, q⟩ := R1
      split at p'
      · rename_i hc
        obtain ⟨h1, h2, h3, h4⟩ := hc
        have hl := q.length
        have hl2 : (List.replicate j.toNat vs).flatten.length ≤ sizeLine := by
          rw [PyProof.Rows.lm_len_rep_flat, sizeLine_eq]
          have a1 : j.toNat * vs.length ≤ 100000 * 100 := Nat.mul_le_mul (by omega) (by omega)
          omega
        refine op_repT2 pins s σ H _ y v u Q I rx ry ⟨a, j, vs, rfl, ey, t.sq, ?_, h1, h2, by omega, KV.tup S hl2 (reps_rep q _) p'⟩
        intro e
        rw [e] at hl
        cases zs with
        | nil => cases h3
        | cons _ _ => cases hl
      · exact p'.elim
    | lst zs =>
      have p' : Post W (if 0 ≤ j ∧ j ≤ 100000 ∧ zs.length ≤ 100 then .ok (.lst (List.replicate j.toNat zs).flatten) st else .stuck) (KV X.kw H M Q) := p
      split at p'
      · rename_i hc
        obtain ⟨h1, h2, h4⟩ := hc
        obtain ⟨a, vs, rfl, t, tl, q⟩ := look_lst S R1 (show look st (.lst zs) = .lst zs from rfl)
        have hl := q.length
        have hl3 : vs.length * j.toNat ≤ 100 * 100000 := Nat.mul_le_mul (by omega) (by omega)
        have hl2 : (List.replicate j.toNat vs).flatten.length ≤ sizeLine := by
          rw [PyProof.Rows.lm_len_rep_flat, sizeLine_eq, Nat.mul_comm]
          omega
        exact op_repL2 pins s σ H _ y v u Q I rx ry ⟨a, j, vs, rfl, ey, t, by omega, by omega, by rw [sizeLine_eq]; omega, KV.lst S hl2 (reps_rep q _) p'⟩
      · exact p'.elim
    | _ => exact (show False from p).elim
  | _ => cases vx <;> exact (show False from p).elim
end
end Pm

end
section
namespace Pm
open PySem L2
section
variable {X : Cx}
theorem cut_eq {xs : List V} {lo hi : Option Int} : cutV xs lo hi = cut xs lo hi := by
  have e : ∀ (n d : Nat) (o : Option Int), HT.sIx n d o = six n d o := fun n d o => by cases o <;> rfl
  unfold cutV cut
  rw [e, e]
theorem Reps.cut {K : Fw} {H : Hp} {M : Mp} {xs : List EV} {vs : List V} {lo hi : Option Int} (q : Reps K H M xs vs) : Reps K H M (Pm.cut xs lo hi) (cutV vs lo hi) := by
  rw [cut_eq]
  unfold Pm.cut
  rw [q.length]
  exact (q.drop _).take _
/-- a slice -/
def rS (K : Fw) : V → Option Int → Option Int → Hp → VK → Prop := fun x lo hi H Q =>
  ∃ W vx M s, StOk K H M s ∧ Rep K H M vx x ∧ Post W (slcf vx lo hi s) (KV K H M Q)
theorem part_map (o : Option Int) : part (o.map .int) = some o := by cases o <;> rfl
theorem rs_ok : SlR X (rS X.kw) := by
  intro pins s σ H x v vl vu lo hi sl Q I rx hs pl pu h
  obtain ⟨W, vx, M, st, S, R1, p⟩ := h
  unfold slcf at p
  split at p
  · rename_i xs e1
    have e := look_tup e1
    subst e
    have R1' := R1
    rw [Rep.tup_iff] at R1
    obtain ⟨a, vs, rfl, t, q⟩ := R1
    have ql : (cutV vs lo hi).length ≤ sizeLine := Nat.le_trans (cutV_length vs lo hi) t.1
    refine sl_tupA pins s σ H _ v vl vu lo hi sl Q I rx hs pl pu ⟨a, vs, rfl, t.sq, fun hw => ?_, fun _ => KV.tup S ql q.cut p⟩
    have ec : Pm.cut xs lo hi = xs := by
      have e : ∀ (n d : Nat) (o : Option Int), HT.sIx n d o = six n d o := fun n d o => by cases o <;> rfl
      unfold Pm.cut
      have h1 := hw.1
      have h2 := hw.2
      rw [e, q.length] at h1
      rw [e, q.length] at h2
      rw [h1, h2]; simp
    rw [ec] at p
    exact KV.same p S R1'
  · rename_i xs e1
    obtain ⟨a, vs, rfl, t, tl, q⟩ := look_lst S R1 e1
    have ql : (cutV vs lo hi).length ≤ sizeLine := Nat.le_trans (cutV_length vs lo hi) tl
    exact sl_list pins s σ H _ v vl vu lo hi sl Q I rx hs pl pu ⟨a, vs, rfl, .inl t, KV.lst S ql q.cut p⟩
  · rename_i z e1
    have e := look_str e1
    subst e
    obtain ⟨e2, ok⟩ : x = .str z ∧ SOk z := R1
    subst e2
    have ec : (⟨(Pm.cut z.cps.toList lo hi).toArray⟩ : Str) = cutS z lo hi := by
      have e : ∀ (n d : Nat) (o : Option Int), HT.sIx n d o = six n d o := fun n d o => by cases o <;> rfl
      unfold cutS Pm.cut
      rw [e, e, Array.length_toList]
      rfl
    rw [ec] at p
    refine sl_str pins s σ H _ v vl vu lo hi sl Q I rx hs pl pu ⟨z, rfl, ok.1, KV.same (v := .str _) p S ⟨rfl, Nat.le_trans (cutS_length z _ _) ok.1, ?_⟩⟩
    rw [← ec]
    refine all_sub ok.2 fun c hc => ?_
    unfold Pm.cut at hc
    exact List.mem_of_mem_drop (List.mem_of_mem_take (by simpa using hc))
  · exact p.elim
/-- a store to an item -/
def rSetG (K : Fw) (g : EV → EV → EV → Sto → R Unit) : V → V → V → Hp → (Hp → Prop) → Prop := fun o i v H Q =>
  ∃ W vo vi vv M s, StOk K H M s ∧ Rep K H M vo o ∧ Rep K H M vi i ∧ Rep K H M vv v ∧ Post W (g vo vi vv s) fun _ s' => ∀ H' M', Grow H M H' M' → StOk K H' M' s' → Q H'
abbrev rSet (K : Fw) := rSetG K setix
theorem set_okL : PSet X (rSetG X.kw setL) := by
  intro pins s σ H o i v ov iv u Q I ro ri rv h
  obtain ⟨W, vo, vi, vv, M, st, S, R1, R2, R3, p⟩ := h
  unfold setL at p
  split at p
  · rename_i n k
    split at p
    · rename_i xs e
      split at p
      · rename_i j ej
        obtain ⟨a, rfl, ea⟩ : ∃ a, o = .ref a ∧ M.ad[n]? = some a := R1
        obtain ⟨vs, h1, h2, h3⟩ := S.at_ n a _ ea e
        have ei : i = .int k := R2
        have p' : ∀ H' M', Grow H M H' M' → StOk X.kw H' M' (st.set n (.lst (xs.set j vv))) → Q H' := p
        refine set_list pins s σ H _ _ v ov iv u Q I ro ri rv ⟨a, vs, k, j, rfl, ei, h1, by rw [h3.length, ← ixn_eq]; exact ej, ?_⟩
        exact p' _ M (Grow.write ea) (S.write ea (by rw [List.length_set]; exact h2) (h3.set j R3))
      · exact p.elim
    · exact p.elim
  · exact p.elim
/-- a built-in by values -/
def rP (K : Fw) (g : List EV → Sto → R EV) : List V → Hp → VK → Prop := fun xs H Q =>
  ∃ W vs M s, StOk K H M s ∧ Reps K H M vs xs ∧ Post W (g vs s) (KV K H M Q)
theorem look_seq {K : Fw} {H : Hp} {M : Mp} {s : Sto} {v : EV} {r : V} {xs : List EV} (S : StOk K H M s) (R : Rep K H M v r) (h : look s v = .tup xs ∨ look s v = .lst xs) : ∃ a vs, r = .ref a ∧ (SqL K H a vs ∨ SqT K H a vs) ∧ vs.length ≤ sizeLine ∧ Reps K H M xs vs := by
  rcases h with h | h
  · have e := look_tup h
    subst e
    rw [Rep.tup_iff] at R
    obtain ⟨a, vs, rfl, t, q⟩ := R
    exact ⟨a, vs, rfl, .inr t.sq, t.1, q⟩
  · obtain ⟨a, vs, rfl, t, tl, q⟩ := look_lst S R h
    exact ⟨a, vs, rfl, .inl (.inl t), tl, q⟩
theorem rp_tup (hc : X.calm = true) : CallR X (.type "tuple") (rP X.kw tupf) := by
  intro pins s σ H xs us Q I r h
  obtain ⟨W, vs, M, st, S, R1, p⟩ := h
  unfold tupf at p
  split at p
  · obtain ⟨x, rfl, R⟩ := R1.inv1
    split at p
    · rename_i ys e
      have e' := look_tup e
      subst e'
      have R' := R
      rw [Rep.tup_iff] at R
      obtain ⟨a, ws, rfl, t, q⟩ := R
      exact call_tuple_of pins s σ H _ us Q I r ⟨a, ws, rfl, .inr ⟨t.sq, KV.same p S R'⟩⟩
    · rename_i ys e
      obtain ⟨a, ws, rfl, t, tl, q⟩ := look_lst S R e
      exact call_tuple_of pins s σ H _ us Q I r ⟨a, ws, rfl, .inl ⟨.inl t, KV.tup S tl q p⟩⟩
    · rename_i z e
      have e' := look_str e
      subst e'
      obtain ⟨e2, ok⟩ : x = .str z ∧ SOk z := R
      subst e2
      have hl : (signV z).length ≤ sizeLine := by rw [signV_len]; exact ok.1
      exact call_tuple_txt hc pins s σ H _ us Q I r ⟨z, rfl, ok.1, KV.tup S hl (signs_rep ok) p⟩
    · exact p.elim
  · exact p.elim
theorem rp_int : CallR X (.type "int") (rP X.kw intf) := by
  intro pins s σ H xs us Q I r h
  obtain ⟨W, vs, M, st, S, R1, p⟩ := h
  unfold intf at p
  split at p
  · rename_i i
    obtain ⟨x, rfl, R⟩ := R1.inv1
    have e : x = .int i := R
    subst e
    exact call_int1 pins s σ H _ us Q I r (.inl ⟨i, rfl, KV.same (v := .int _) p S rfl⟩)
  · rename_i z
    obtain ⟨x, rfl, R⟩ := R1.inv1
    obtain ⟨e2, ok⟩ : x = .str z ∧ SOk z := R
    subst e2
    split at p
    · rename_i n en
      split at p
      · rename_i hl
        exact call_int_str pins s σ H _ us Q I r ⟨z, n, rfl, en, hl, KV.same (v := .int _) p S rfl⟩
      · exact p.elim
    · exact p.elim
  · exact p.elim
theorem rp_abs : CallR X (.builtin "abs") (rP X.kw absf) := by
  intro pins s σ H xs us Q I r h
  obtain ⟨W, vs, M, st, S, R1, p⟩ := h
  unfold absf at p
  split at p
  · rename_i i
    obtain ⟨x, rfl, R⟩ := R1.inv1
    have e : x = .int i := R
    subst e
    exact call_abs pins s σ H _ us Q I r ⟨i, rfl, KV.same (v := .int _) p S rfl⟩
  · exact p.elim
theorem rp_max2 (hc : X.calm = true) : CallR X (.builtin "max") (rP X.kw max2f) := by
  intro pins s σ H xs us Q I r h
  obtain ⟨W, vs, M, st, S, R1, p⟩ := h
  unfold max2f at p
  split at p
  · rename_i i j
    obtain ⟨x, y, rfl, R, R'⟩ := R1.inv2
    have e : x = .int i := R
    have e' : y = .int j := R'
    subst e e'
    exact call_max2 hc pins s σ H _ us Q I r ⟨i, j, rfl, KV.same (v := .int _) p S rfl⟩
  · exact p.elim
theorem rp_min2 (hc : X.calm = true) : CallR X (.builtin "min") (rP X.kw min2f) := by
  intro pins s σ H xs us Q I r h
  obtain ⟨W, vs, M, st, S, R1, p⟩ := h
  unfold min2f at p
  split at p
  · rename_i i j
    obtain ⟨x, y, rfl, R, R'⟩ := R1.inv2
    have e : x = .int i := R
    have e' : y = .int j := R'
    subst e e'
    exact call_min2 hc pins s σ H _ us Q I r ⟨i, j, rfl, KV.same (v := .int _) p S rfl⟩
  · exact p.elim
def tyName : Nat → String
  | 0 => "NoneType"
  | 1 => "bool"
  | 2 => "int"
  | 3 => "str"
  | 4 => "tuple"
  | _ => "list"
theorem tyn_ok {K : Fw} {H : Hp} {M : Mp} {s : Sto} {v : EV} {r : V} {t : Nat} (S : StOk K H M s) (R : Rep K H M v r) (h : tyn s v = some t) : TyX K H r (.type (tyName t)) ∧ t < 6 := by
  have rdl : ∀ {a : Addr} {vs : List V}, Rd H a (.lst vs) → TyX K H (.ref a) (.type "list") := fun {a vs} q => by
    rcases q with q | ⟨o, q⟩
    · exact .base (.lst q)
    · exact .base (.frz q)
  cases v with
  | non => cases h; have e : r = .non := R; subst e; exact ⟨.base .non, by decide⟩
  | bl b => cases h; have e : r = .bl b := R; subst e; exact ⟨.base (.bl b), by decide⟩
  | int b => cases h; have e : r = .int b := R; subst e; exact ⟨.base (.int b), by decide⟩
  | str b => cases h; have e : r = .str b := R.1; subst e; exact ⟨.base (.str b), by decide⟩
  | tup xs =>
    cases h
    rw [Rep.tup_iff] at R
    obtain ⟨a, vs, rfl, ⟨_, t⟩, q⟩ := R
    refine ⟨?_, by decide⟩
    rcases t with ⟨t | ⟨o, t⟩, _⟩ | ⟨o, its, n, h1, h2, _⟩
    · exact .base (.tup t)
    · exact .fTuple t
    · exact .kTuple h1 h2
  | lst xs =>
    cases h
    rw [Rep.lst_iff] at R
    obtain ⟨a, vs, rfl, ⟨_, t, _⟩, q⟩ := R
    exact ⟨rdl t, by decide⟩
  | scr _ => cases h
  | obj n =>
    obtain ⟨a, rfl, ea⟩ : ∃ a, r = .ref a ∧ M.ad[n]? = some a := R
    cases e : s[n]? with
    | none => simp [tyn, e] at h
    | some o =>
      cases o with
      | dct _ _ => simp [tyn, e] at h
      | lst xs =>
        have e' : t = 5 := by simpa [tyn, e] using h.symm
        subst e'
        obtain ⟨vs, h1, _⟩ := S.at_ n a _ ea e
        exact ⟨rdl (.inl h1), by decide⟩
theorem rp_is (T : String) (c : Nat → Bool) (hk : ∀ t, t < 6 → kitB (tyName t) T = some (c t)) : CallR X (.builtin "isinstance") (fun xs H Q => ∃ x, xs = [x, .ty T] ∧ rP X.kw (isf c) [x] H Q) := by
  intro pins s σ H xs us Q I r h
  obtain ⟨x, rfl, W, vs, M, st, S, R1, p⟩ := h
  unfold isf at p
  split at p
  · obtain ⟨x', e, R⟩ := R1.inv1
    cases e
    split at p
    · rename_i t et
      obtain ⟨ty, ht⟩ := tyn_ok S R et
      exact call_isi pins s σ H _ us Q I r ⟨x, .ty T, _, _, c t, rfl, .ty T, ty, kit_ty (hk t ht), KV.same (v := .bl _) p S rfl⟩
    · exact p.elim
  · exact p.elim
theorem kit_tuple : ∀ t, t < 6 → kitB (tyName t) "tuple" = some (isTupC t) := by
  have h : ((List.range 6).all fun t => decide (kitB (tyName t) "tuple" = some (isTupC t))) = true := by decide +kernel
  intro t ht
  exact of_decide_eq_true (List.all_eq_true.mp h t (List.mem_range.mpr ht))
theorem kit_int : ∀ t, t < 6 → kitB (tyName t) "int" = some (isIntC t) := by
  have h : ((List.range 6).all fun t => decide (kitB (tyName t) "int" = some (isIntC t))) = true := by decide +kernel
  intro t ht
  exact of_decide_eq_true (List.all_eq_true.mp h t (List.mem_range.mpr ht))
theorem kit_str : ∀ t, t < 6 → kitB (tyName t) "str" = some (isStrC t) := by
  have h : ((List.range 6).all fun t => decide (kitB (tyName t) "str" = some (isStrC t))) = true := by decide +kernel
  intro t ht
  exact of_decide_eq_true (List.all_eq_true.mp h t (List.mem_range.mpr ht))
theorem kit_bool : ∀ t, t < 6 → kitB (tyName t) "bool" = some (isBoolC t) := by
  have h : ((List.range 6).all fun t => decide (kitB (tyName t) "bool" = some (isBoolC t))) = true := by decide +kernel
  intro t ht
  exact of_decide_eq_true (List.all_eq_true.mp h t (List.mem_range.mpr ht))
/-- a method by values: the receiver, the arguments -/
def rM (K : Fw) (g : List EV → Sto → R EV) : V → List V → Hp → VK → Prop := fun x xs H Q => rP K g (x :: xs) H Q
theorem rm_append : MtR X "list.append" (rM X.kw appendf) := by
  intro pins s σ H x xs v us Q I rx r h
  obtain ⟨W, vs, M, st, S, R1, p⟩ := h
  unfold appendf at p
  split at p
  · rename_i n y
    rw [Reps.cons_iff] at R1
    obtain ⟨x', r', e, R1, R2⟩ := R1
    cases e
    obtain ⟨y', rfl, R3⟩ := R2.inv1
    obtain ⟨a, rfl, ea⟩ : ∃ a, x = .ref a ∧ M.ad[n]? = some a := R1
    split at p
    · rename_i ys e
      split at p
      · rename_i hl
        obtain ⟨ws, h1, h2, h3⟩ := S.at_ n a _ ea e
        have hl' : ws.length < sizeLine := by rw [h3.length, ← big_eq]; exact hl
        have p' : KV X.kw H M Q .non (st.set n (.lst (ys ++ [y]))) := p
        exact mt_append pins s σ H _ _ v us Q I rx r ⟨a, ws, y', rfl, rfl, h1, hl', p' _ M _ (Grow.write ea) (S.write ea (by rw [List.length_append]; exact hl') (h3.append (Reps.single R3))) rfl⟩
      · exact p.elim
    · exact p.elim
  · exact p.elim
end
end Pm

end
section
set_option maxHeartbeats 2000000
/-! Order, sorting, dicts. -/
namespace Pm
open PySem L2
open PySem.W (alike alikeAll dataLt keyToks keyToksAll EachIs)
open PyProof.Rows (itemOrd)
theorem merge_congr {α : Type} {le le' : α → α → Bool} : ∀ (xs ys : List α), (∀ a ∈ xs, ∀ b ∈ ys, le a b = le' a b) → List.merge xs ys le = List.merge xs ys le'
  | [], ys, _ => by simp
  | x :: xs, [], _ => by simp
  | x :: xs, y :: ys, h => by
    rw [List.cons_merge_cons, List.cons_merge_cons, h x (by simp) y (by simp)]
    rw [merge_congr xs (y :: ys) fun a ha b hb => h a (List.mem_cons_of_mem _ ha) b hb, merge_congr (x :: xs) ys fun a ha b hb => h a ha b (List.mem_cons_of_mem _ hb)]
theorem mergeSort_congr {α : Type} {le le' : α → α → Bool} : ∀ (n : Nat) (xs : List α), xs.length ≤ n → (∀ a ∈ xs, ∀ b ∈ xs, le a b = le' a b) → xs.mergeSort le = xs.mergeSort le'
  | 0, xs, hn, _ => by
    have : xs = [] := List.length_eq_zero_iff.mp (by omega)
    subst this; simp
  | n + 1, [], _, _ => by simp
  | n + 1, [a], _, _ => by simp
  | n + 1, a :: b :: xs, hn, h => by
    rw [List.mergeSort, List.mergeSort]
    have hl : ∀ {x}, x ∈ (List.MergeSort.Internal.splitInTwo (⟨a :: b :: xs, rfl⟩ : { l : List α // l.length = xs.length + 2 })).1.1 → x ∈ a :: b :: xs := fun {x} hx => by
      rw [List.MergeSort.Internal.splitInTwo_fst] at hx
      exact List.mem_of_mem_take hx
    have hr : ∀ {x}, x ∈ (List.MergeSort.Internal.splitInTwo (⟨a :: b :: xs, rfl⟩ : { l : List α // l.length = xs.length + 2 })).2.1 → x ∈ a :: b :: xs := fun {x} hx => by
      rw [List.MergeSort.Internal.splitInTwo_snd] at hx
      exact List.mem_of_mem_drop hx
    have e1 := mergeSort_congr n (List.MergeSort.Internal.splitInTwo (⟨a :: b :: xs, rfl⟩ : { l : List α // l.length = xs.length + 2 })).1.1 (by
      rw [(List.MergeSort.Internal.splitInTwo (⟨a :: b :: xs, rfl⟩ : { l : List α // l.length = xs.length + 2 })).1.2]
      simp at hn; omega) fun x hx y hy => h x (hl hx) y (hl hy)
    have e2 := mergeSort_congr n (List.MergeSort.Internal.splitInTwo (⟨a :: b :: xs, rfl⟩ : { l : List α // l.length = xs.length + 2 })).2.1 (by
      rw [(List.MergeSort.Internal.splitInTwo (⟨a :: b :: xs, rfl⟩ : { l : List α // l.length = xs.length + 2 })).2.2]
      simp at hn; omega) fun x hx y hy => h x (hr hx) y (hr hy)
    rw [e1, e2]
    exact merge_congr _ _ fun x hx y hy => h x (hl (List.mem_mergeSort.mp hx)) y (hr (List.mem_mergeSort.mp hy))

/-! ### order -/
mutual
theorem alike_pd : ∀ (a b : EV) (n m : Nat), okd a n = true → okd b m = true → vlike a b = true → alike (pd a) (pd b) = true
  | .non, b, n, m, h1, h2, h => by cases b <;> first | rfl | cases h
  | .bl _, b, n, m, h1, h2, h => by cases b <;> first | rfl | cases h
  | .int _, b, n, m, h1, h2, h => by cases b <;> first | rfl | cases h
  | .str _, b, n, m, h1, h2, h => by cases b <;> first | rfl | cases h
  | .obj _, b, n, m, h1, h2, h => by cases h1
  | .scr _, b, n, m, h1, h2, h => by cases h1
  | .tup xs, b, n, m, h1, h2, h => by
    cases b with
    | tup ys =>
      cases n with
      | zero => cases h1
      | succ n => cases m with
        | zero => cases h2
        | succ m => exact alikes_pd xs ys n m h1 h2 h
    | _ => cases h
  | .lst xs, b, n, m, h1, h2, h => by
    cases b with
    | lst ys =>
      cases n with
      | zero => cases h1
      | succ n => cases m with
        | zero => cases h2
        | succ m => exact alikes_pd xs ys n m h1 h2 h
    | _ => cases h
theorem alikes_pd : ∀ (xs ys : List EV) (n m : Nat), okds xs n = true → okds ys m = true → vlikes xs ys = true → alikeAll (pds xs) (pds ys) = true
  | [], ys, n, m, h1, h2, h => by
    show alikeAll [] (pds ys) = true
    unfold alikeAll; rfl
  | x :: xs, [], n, m, h1, h2, h => by
    show alikeAll (pd x :: pds xs) [] = true
    unfold alikeAll; rfl
  | x :: xs, y :: ys, n, m, h1, h2, h => by
    have h1' : (okd x n && okds xs n) = true := h1
    have h2' : (okd y m && okds ys m) = true := h2
    have h' : (vlike x y && vlikes xs ys) = true := h
    rw [Bool.and_eq_true] at h1' h2' h'
    show alikeAll (pd x :: pds xs) (pd y :: pds ys) = true
    unfold alikeAll
    rw [alike_pd x y n m h1'.1 h2'.1 h'.1, alikes_pd xs ys n m h1'.2 h2'.2 h'.2]; rfl
end
mutual
theorem vlt_pd : ∀ (a b : EV) (n m : Nat), okd a n = true → okd b m = true → vlike a b = true → dataLt (pd a) (pd b) = vlt a b
  | .non, b, n, m, h1, h2, h => by
    cases b <;> first | cases h | skip
    show PyProof.Rows.lexLt itemOrd [] [] = false
    rfl
  | .bl x, b, n, m, h1, h2, h => by
    cases b with
    | bl y =>
      show dataLt (.bool x) (.bool y) = (!x && y)
      rw [PySem.W.dataLt_bool]
      cases x <;> cases y <;> rfl
    | _ => cases h
  | .int x, b, n, m, h1, h2, h => by
    cases b with
    | int y => exact PySem.W.dataLt_int x y
    | _ => cases h
  | .str x, b, n, m, h1, h2, h => by
    cases b with
    | str y => exact PySem.W.dataLt_str x y
    | _ => cases h
  | .obj _, b, n, m, h1, h2, h => by cases h1
  | .scr _, b, n, m, h1, h2, h => by cases h1
  | .tup xs, b, n, m, h1, h2, h => by
    cases b with
    | tup ys =>
      cases n with
      | zero => cases h1
      | succ n => cases m with
        | zero => cases h2
        | succ m =>
          show dataLt (.tuple (pds xs)) (.tuple (pds ys)) = vlts xs ys
          rw [PySem.W.dataLt_tuple]
          exact vlts_pd xs ys n m h1 h2 h
    | _ => cases h
  | .lst xs, b, n, m, h1, h2, h => by
    cases b with
    | lst ys =>
      cases n with
      | zero => cases h1
      | succ n => cases m with
        | zero => cases h2
        | succ m =>
          show dataLt (.list (pds xs)) (.list (pds ys)) = vlts xs ys
          rw [PySem.W.dataLt_list]
          exact vlts_pd xs ys n m h1 h2 h
    | _ => cases h
theorem vlts_pd : ∀ (xs ys : List EV) (n m : Nat), okds xs n = true → okds ys m = true → vlikes xs ys = true → PyProof.Rows.lexLt itemOrd (keyToksAll (pds xs)) (keyToksAll (pds ys)) = vlts xs ys
  | [], [], n, m, h1, h2, h => by
    show PyProof.Rows.lexLt itemOrd (keyToksAll []) (keyToksAll []) = vlts [] []
    unfold keyToksAll vlts
    decide
  | [], y :: ys, n, m, h1, h2, h => by
    show PyProof.Rows.lexLt itemOrd (keyToksAll []) (keyToksAll (pd y :: pds ys)) = vlts [] (y :: ys)
    unfold keyToksAll vlts
    rfl
  | x :: xs, [], n, m, h1, h2, h => by
    show PyProof.Rows.lexLt itemOrd (keyToksAll (pd x :: pds xs)) (keyToksAll []) = vlts (x :: xs) []
    unfold keyToksAll vlts
    rfl
  | x :: xs, y :: ys, n, m, h1, h2, h => by
    have h1' : (okd x n && okds xs n) = true := h1
    have h2' : (okd y m && okds ys m) = true := h2
    have h' : (vlike x y && vlikes xs ys) = true := h
    rw [Bool.and_eq_true] at h1' h2' h'
    have al := alike_pd x y n m h1'.1 h2'.1 h'.1
    have ev := veq_pd x y n m h1'.1 h2'.1
    show PyProof.Rows.lexLt itemOrd (keyToksAll (pd x :: pds xs)) (keyToksAll (pd y :: pds ys)) = if veq x y then vlts xs ys else vlt x y
    cases e : veq x y with
    | true =>
      rw [e] at ev
      rw [PySem.W.dataLt_all_yes al ev]
      exact vlts_pd xs ys n m h1'.2 h2'.2 h'.2
    | false =>
      rw [e] at ev
      rw [PySem.W.dataLt_all_no al ev]
      exact vlt_pd x y n m h1'.1 h2'.1 h'.1
end
mutual
theorem vlike_comm : ∀ (a b : EV), vlike a b = true → vlike b a = true
  | .non, b, h => by cases b <;> first | rfl | cases h
  | .bl _, b, h => by cases b <;> first | rfl | cases h
  | .int _, b, h => by cases b <;> first | rfl | cases h
  | .str _, b, h => by cases b <;> first | rfl | cases h
  | .obj _, b, h => by cases b <;> cases h
  | .scr _, b, h => by cases b <;> cases h
  | .tup xs, b, h => by
    cases b with
    | tup ys => exact vlikes_comm xs ys h
    | _ => cases h
  | .lst xs, b, h => by
    cases b with
    | lst ys => exact vlikes_comm xs ys h
    | _ => cases h
theorem vlikes_comm : ∀ (xs ys : List EV), vlikes xs ys = true → vlikes ys xs = true
  | [], [], h => rfl
  | [], y :: ys, h => rfl
  | x :: xs, [], h => rfl
  | x :: xs, y :: ys, h => by
    have h' : (vlike x y && vlikes xs ys) = true := h
    rw [Bool.and_eq_true] at h'
    show (vlike y x && vlikes ys xs) = true
    rw [vlike_comm x y h'.1, vlikes_comm xs ys h'.2]; rfl
end
section
variable {X : Cx}
theorem ord_of {K : Fw} {H : Hp} {M : Mp} {st : Sto} {vx vy : EV} {x y : V} {W : Nat → List EV → Sto → Prop} {f : EV → EV → Bool} {Q : VK} (S : StOk K H M st) (R1 : Rep K H M vx x) (R2 : Rep K H M vy y) (p : Post W (ordf f vx vy st) (KV K H M Q)) :
    ∃ a b, Dp K H x (pd a) ∧ Dp K H y (pd b) ∧ okd a 60 = true ∧ okd b 60 = true ∧ alike (pd a) (pd b) = true ∧ alike (pd b) (pd a) = true ∧ dataLt (pd a) (pd b) = vlt a b ∧ dataLt (pd b) (pd a) = vlt b a ∧ pd a ≠ .none ∧ Q (.bl (f a b)) H := by
  unfold ordf at p
  split at p
  · rename_i h
    unfold ordOk at h
    rw [Bool.and_eq_true, Bool.and_eq_true, Bool.and_eq_true] at h
    obtain ⟨⟨⟨h1, h2⟩, h3⟩, h4⟩ := h
    have al := alike_pd _ _ _ _ h1 h2 h3
    have al2 : alike (pd (look st vy)) (pd (look st vx)) = true := by rw [PySem.W.alike_comm]; exact al
    have sy : vlike (look st vy) (look st vx) = true := vlike_comm _ _ h3
    refine ⟨look st vx, look st vy, (look_dp S R1 h1).1, (look_dp S R2 h2).1, h1, h2, al, al2, vlt_pd _ _ _ _ h1 h2 h3, vlt_pd _ _ _ _ h2 h1 sy, fun e => ?_, KV.same (v := .bl _) p S rfl⟩
    cases ev : look st vx with
    | non => rw [ev] at h4; cases h4
    | obj _ => rw [ev] at h1; cases h1
    | scr _ => rw [ev] at h1; cases h1
    | _ => rw [ev] at e; cases e
  · exact p.elim
theorem ord_room {A : Around} {a b : EV} (hu : A.units + 64 < cLine) (h1 : okd a 60 = true) : A.units + min (pd a).depth (pd b).depth < cLine := by
  have := pd_depth a 60 h1
  omega
theorem int_or (a b : EV) : (∃ i j, a = .int i ∧ b = .int j) ∨ ∀ i j, ¬(a = .int i ∧ b = .int j) := by
  cases a <;> cases b <;> first | exact .inl ⟨_, _, rfl, rfl⟩ | exact .inr fun _ _ h => by cases h.1; try cases h.2
theorem r2_lt (hu : X.A.units + 64 < cLine) : OpR X (compareOp .Lt) (r2 X.kw (cmpf .lt)) := by
  intro pins s σ H x y v u Q I rx ry h
  obtain ⟨W, vx, vy, M, st, S, R1, R2, p⟩ := h
  rcases int_or vx vy with ⟨i, j, rfl, rfl⟩ | hn
  · exact op_lt pins s σ H x y v u Q I rx ry ⟨i, j, R1, R2, KV.same (v := .bl _) p S rfl⟩
  · have p' : Post W (ordf (fun a b => vlt a b) vx vy st) (KV X.kw H M Q) := by cases vx <;> cases vy <;> first | exact p | exact absurd ⟨rfl, rfl⟩ (hn _ _)
    obtain ⟨a, b, d1, d2, o1, o2, al, al2, e1, e2, nn, q⟩ := ord_of S R1 R2 p'
    obtain ⟨as, t1⟩ := Dp.reads I _ x v d1 rx
    obtain ⟨bs, t2⟩ := Dp.reads I _ y u d2 ry
    exact PySem.W.lt_data t1 t2 al nn (ord_room hu o1) ⟨.bl _, H, I, rfl, by rw [e1]; exact q⟩
theorem r2_gt (hu : X.A.units + 64 < cLine) : OpR X (compareOp .Gt) (r2 X.kw (cmpf .gt)) := by
  intro pins s σ H x y v u Q I rx ry h
  obtain ⟨W, vx, vy, M, st, S, R1, R2, p⟩ := h
  rcases int_or vx vy with ⟨i, j, rfl, rfl⟩ | hn
  · exact op_gt pins s σ H x y v u Q I rx ry ⟨i, j, R1, R2, KV.same (v := .bl _) p S rfl⟩
  · have p' : Post W (ordf (fun a b => vlt b a) vx vy st) (KV X.kw H M Q) := by cases vx <;> cases vy <;> first | exact p | exact absurd ⟨rfl, rfl⟩ (hn _ _)
    obtain ⟨a, b, d1, d2, o1, o2, al, al2, e1, e2, nn, q⟩ := ord_of S R1 R2 p'
    obtain ⟨as, t1⟩ := Dp.reads I _ x v d1 rx
    obtain ⟨bs, t2⟩ := Dp.reads I _ y u d2 ry
    exact PySem.W.gt_data t1 t2 al nn (ord_room hu o1) ⟨.bl _, H, I, rfl, by rw [e2]; exact q⟩
theorem r2_le (hu : X.A.units + 64 < cLine) : OpR X (compareOp .LtE) (r2 X.kw (cmpf .le)) := by
  intro pins s σ H x y v u Q I rx ry h
  obtain ⟨W, vx, vy, M, st, S, R1, R2, p⟩ := h
  rcases int_or vx vy with ⟨i, j, rfl, rfl⟩ | hn
  · exact op_le pins s σ H x y v u Q I rx ry ⟨i, j, R1, R2, KV.same (v := .bl _) p S rfl⟩
  · have p' : Post W (ordf (fun a b => !vlt b a) vx vy st) (KV X.kw H M Q) := by cases vx <;> cases vy <;> first | exact p | exact absurd ⟨rfl, rfl⟩ (hn _ _)
    obtain ⟨a, b, d1, d2, o1, o2, al, al2, e1, e2, nn, q⟩ := ord_of S R1 R2 p'
    obtain ⟨as, t1⟩ := Dp.reads I _ x v d1 rx
    obtain ⟨bs, t2⟩ := Dp.reads I _ y u d2 ry
    exact PySem.W.le_data t1 t2 al nn (ord_room hu o1) ⟨.bl _, H, I, rfl, by rw [e2]; exact q⟩
theorem r2_ge (hu : X.A.units + 64 < cLine) : OpR X (compareOp .GtE) (r2 X.kw (cmpf .ge)) := by
  intro pins s σ H x y v u Q I rx ry h
  obtain ⟨W, vx, vy, M, st, S, R1, R2, p⟩ := h
  rcases int_or vx vy with ⟨i, j, rfl, rfl⟩ | hn
  · exact op_ge pins s σ H x y v u Q I rx ry ⟨i, j, R1, R2, KV.same (v := .bl _) p S rfl⟩
  · have p' : Post W (ordf (fun a b => !vlt a b) vx vy st) (KV X.kw H M Q) := by cases vx <;> cases vy <;> first | exact p | exact absurd ⟨rfl, rfl⟩ (hn _ _)
    obtain ⟨a, b, d1, d2, o1, o2, al, al2, e1, e2, nn, q⟩ := ord_of S R1 R2 p'
    obtain ⟨as, t1⟩ := Dp.reads I _ x v d1 rx
    obtain ⟨bs, t2⟩ := Dp.reads I _ y u d2 ry
    exact PySem.W.ge_data t1 t2 al nn (ord_room hu o1) ⟨.bl _, H, I, rfl, by rw [e1]; exact q⟩
/-! ### sorting -/
def RepB (K : Fw) (H : Hp) (M : Mp) (u : Value) (v : EV) : Prop := ∃ r, RelV r u ∧ Rep K H M v r
theorem each_of {K : Fw} {H : Hp} {M : Mp} : ∀ {vs : List V} {us : List Value} {xs : List EV}, Vals vs us → Reps K H M xs vs → EachIs (RepB K H M) us xs
  | [], us, xs, r, q => by
    cases r
    cases xs with
    | nil => exact .nil
    | cons x xs => rw [Reps.cons_iff] at q; obtain ⟨_, _, e, _⟩ := q; cases e
  | v :: vs, us, xs, r, q => by
    cases r with
    | cons r1 r2 =>
    cases xs with
    | nil => rw [Reps.nil_iff] at q; cases q
    | cons x xs =>
      rw [Reps.cons_iff] at q
      obtain ⟨_, _, e, q1, q2⟩ := q
      cases e
      exact .cons ⟨v, r1, q1⟩ (each_of r2 q2)
theorem of_each {K : Fw} {H : Hp} {M : Mp} : ∀ {us : List Value} {xs : List EV}, EachIs (RepB K H M) us xs → ∃ vs, Vals vs us ∧ Reps K H M xs vs
  | [], xs, h => by cases h; exact ⟨[], .nil, by rw [Reps.nil_iff]⟩
  | u :: us, xs, h => by
    cases h with
    | cons h1 h2 =>
      obtain ⟨r, a1, a2⟩ := h1
      obtain ⟨vs, b1, b2⟩ := of_each h2
      exact ⟨r :: vs, .cons a1 b1, Reps.cons_iff.mpr ⟨_, _, rfl, a2, b2⟩⟩
theorem srt_like {xs : List EV} (h : srtOk xs = true) : (∀ x ∈ xs, okd x 60 = true ∧ ∀ y ∈ xs, vlike x y = true) ∧ ((∀ x ∈ xs, ∃ y ys, x = .tup (y :: ys)) ∨ ∀ x ∈ xs, pd x ≠ .none ∧ ∀ ys, pd x ≠ .tuple ys) := by
  unfold srtOk at h
  rw [Bool.and_eq_true, Bool.or_eq_true, List.all_eq_true, List.all_eq_true, List.all_eq_true] at h
  have h1 : ∀ x ∈ xs, okd x 60 = true ∧ ∀ y ∈ xs, vlike x y = true := fun x hx => by
    have := h.1 x hx
    rw [Bool.and_eq_true, List.all_eq_true] at this
    exact this
  refine ⟨h1, h.2.imp (fun q x hx => ?_) fun q x hx => ?_⟩
  · have := q x hx
    cases x with
    | tup ys => cases ys with
      | nil => cases this
      | cons y ys => exact ⟨y, ys, rfl⟩
    | _ => cases this
  · have q := q x hx
    have o := (h1 x hx).1
    cases x with
    | tup _ => cases q
    | non => cases q
    | obj _ => cases o
    | scr _ => cases o
    | bl _ => exact ⟨fun e => (nomatch e), fun _ e => (nomatch e)⟩
    | int _ => exact ⟨fun e => (nomatch e), fun _ e => (nomatch e)⟩
    | str _ => exact ⟨fun e => (nomatch e), fun _ e => (nomatch e)⟩
    | lst _ => exact ⟨fun e => (nomatch e), fun _ e => (nomatch e)⟩
theorem vsort_pd {xs : List EV} (h : srtOk xs = true) : xs.mergeSort (PySem.W.dataLe false pd) = vsort xs := by
  have h1 := (srt_like h).1
  refine mergeSort_congr xs.length xs (Nat.le_refl _) fun a ha b hb => ?_
  show (!dataLt (pd b) (pd a)) = !vlt b a
  rw [vlt_pd b a 60 60 (h1 b hb).1 (h1 a ha).1 ((h1 b hb).2 a ha)]
def sortLf : List EV → Sto → R EV
  | [v], s => match look s v with
    | .lst xs => if srtOk xs then .ok (.lst (vsort xs)) s else .stuck
    | _ => .stuck
  | _, _ => .stuck
theorem rp_sortedL (hu : X.A.units + 64 < cLine) : CallR X (.builtin "sorted") (rP X.kw sortLf) := by
  intro pins s σ H xs us Q I r h
  obtain ⟨W, vs, M, st, S, R1, p⟩ := h
  unfold sortLf at p
  split at p
  · rename_i v
    obtain ⟨x, rfl, R⟩ := R1.inv1
    split at p
    · rename_i ys e
      split at p
      · rename_i hs
        obtain ⟨a, ws, rfl, h1, h2, h3⟩ := look_lst S R e
        obtain ⟨its, rv, hl, hz⟩ := I.list (.inl h1 : SqL X.K H a ws)
        rw [Vals.ref1 r]
        obtain ⟨l1, l2⟩ := srt_like hs
        have ea : EachIs (RepB X.kw H M) its ys := each_of rv h3
        have reads : EachIs (fun v b => ∃ as, Reads s.heap v (pd b) as) its ys := by
          refine (PySem.W.each_mem ea).mono fun v b ⟨⟨r, q1, q2⟩, hb⟩ => ?_
          exact Dp.reads I _ r v (Rep.dp b r 60 (l1 b hb).1 q2).1 q1
        refine PySem.W.sorted_data hl.isList ea reads (fun d hd d' hd' => ?_) (l2.imp (fun q d hd => ?_) fun q d hd => ?_) (by rw [← ea.length, ← rv.length]; exact hz) (fun b hb => ?_) fun out ho eo => ?_
        · obtain ⟨b, hb, rfl⟩ := List.mem_map.mp hd
          obtain ⟨b', hb', rfl⟩ := List.mem_map.mp hd'
          exact alike_pd b b' 60 60 (l1 b hb).1 (l1 b' hb').1 ((l1 b hb).2 b' hb')
        · obtain ⟨b, hb, rfl⟩ := List.mem_map.mp hd
          obtain ⟨y, r, rfl⟩ := q b hb
          exact ⟨pd y, pds r, rfl⟩
        · obtain ⟨b, hb, rfl⟩ := List.mem_map.mp hd
          exact q b hb
        · have := pd_depth b 60 (l1 b hb).1
          omega
        · rw [vsort_pd hs] at eo
          obtain ⟨zs, z1, z2⟩ := of_each eo
          obtain ⟨ep, he'⟩ := PyProof.Rows.sortedAll_at s.heap its out.toArray
          have hn := I.hok.fresh (Nat.le_succ s.heap.objs.size)
          have hlen : zs.length ≤ sizeLine := by
            rw [z1.length, ho, ← ea.length, ← rv.length]; exact hz
          refine ⟨.ref _, upd H (s.heap.objs.size + 1) (.lst zs), I.laid (t' := s.toks) (fun _ _ => PyProof.Rows.sortedAll_old) (Nat.le_succ _) ⟨hlen, out, ep, z1, he'⟩, rfl, ?_⟩
          have p' : KV X.kw H M Q (.lst (vsort ys)) st := p
          refine p' _ M _ (Grow.laid S hn) (S.laid hn) ?_
          rw [Rep.lst_iff]
          exact ⟨_, zs, rfl, ⟨hlen, .inl upd_same, S.new hn⟩, Reps.grow (Grow.laid S hn) _ _ z2⟩
      · exact p.elim
    · exact p.elim
  · exact p.elim
/-! ### x in c -/
theorem any_pd {a : EV} {n m : Nat} (ha : okd a m = true) : ∀ ys : List EV, okds ys n = true → ((pds ys).any fun y => PyData.eqv y (pd a)) = ys.any fun y => veq y a
  | [], _ => rfl
  | y :: ys, h => by
    have h' : (okd y n && okds ys n) = true := h
    rw [Bool.and_eq_true] at h'
    show (PyData.eqv (pd y) (pd a) || (pds ys).any _) = (veq y a || ys.any _)
    rw [veq_pd y a n m h'.1 ha, any_pd ha ys h'.2]
theorem sign_iff {v : EV} {c : Nat} (h : sign? v = some c) : v = .str ⟨#[c]⟩ := by
  unfold sign? at h
  split at h
  · cases h; rfl
  · cases h
theorem mem_of {K : Fw} {H : Hp} {M : Mp} {st : Sto} {vx vy : EV} {x y : V} {W : Nat → List EV → Sto → Prop} {neg : Bool} {Q : VK} (S : StOk K H M st) (R1 : Rep K H M vx x) (R2 : Rep K H M vy y) (p : Post W (memf neg vx vy st) (KV K H M Q)) :
    (∃ c z, x = .str ⟨#[c]⟩ ∧ y = .str z ∧ Q (.bl (xor neg (decide (c ∈ z.cps.toList)))) H) ∨ ∃ a ys, Dp K H x (pd a) ∧ (pd a).canLay0 = true ∧ (pd a).depth ≤ 60 ∧ (Dp K H y (.list (pds ys)) ∧ (PyData.list (pds ys)).canLay0 = true ∨ Dp K H y (.tuple (pds ys)) ∧ (PyData.tuple (pds ys)).canLay0 = true) ∧ Q (.bl (xor neg ((pds ys).any fun y => PyData.eqv y (pd a)))) H := by
  unfold memf at p
  split at p
  · rename_i ys e
    split at p
    · rename_i h
      rw [Bool.and_eq_true] at h
      have h2 : okd (look st vy) 60 = true := by rw [e]; exact h.2
      obtain ⟨d1, c1⟩ := look_dp S R1 h.1
      obtain ⟨d2, c2⟩ := look_dp S R2 h2
      rw [e] at d2 c2
      refine .inr ⟨look st vx, ys, d1, c1, pd_depth _ 60 h.1, .inl ⟨d2, c2⟩, ?_⟩
      rw [any_pd h.1 ys h.2]
      exact KV.same (v := .bl _) p S rfl
    · exact p.elim
  · rename_i ys e
    split at p
    · rename_i h
      rw [Bool.and_eq_true] at h
      have h2 : okd (look st vy) 60 = true := by rw [e]; exact h.2
      obtain ⟨d1, c1⟩ := look_dp S R1 h.1
      obtain ⟨d2, c2⟩ := look_dp S R2 h2
      rw [e] at d2 c2
      refine .inr ⟨look st vx, ys, d1, c1, pd_depth _ 60 h.1, .inr ⟨d2, c2⟩, ?_⟩
      rw [any_pd h.1 ys h.2]
      exact KV.same (v := .bl _) p S rfl
    · exact p.elim
  · rename_i z e
    have e' := look_str e
    subst e'
    obtain ⟨e2, ok⟩ : y = .str z ∧ SOk z := R2
    subst e2
    split at p
    · rename_i c ec
      have ex := sign_iff ec
      subst ex
      obtain ⟨e3, _⟩ : x = .str ⟨#[c]⟩ ∧ SOk ⟨#[c]⟩ := R1
      exact .inl ⟨c, z, e3, rfl, KV.same (v := .bl _) p S rfl⟩
    · exact p.elim
  · exact p.elim
theorem op_in_both {X : Cx} : True := trivial
theorem r2_mem (hu : X.A.units + 65 < cLine) : OpR X (compareOp .In) (r2 X.kw (memf false)) := by
  intro pins s σ H x y v u Q I rx ry h
  obtain ⟨W, vx, vy, M, st, S, R1, R2, p⟩ := h
  rcases mem_of S R1 R2 p with ⟨c, z, e1, e2, q⟩ | ⟨a, ys, d1, c1, hd, d2, q⟩
  · rw [Bool.false_xor] at q
    exact op_in_sign pins s σ H x y v u Q I rx ry ⟨c, z, e1, e2, q⟩
  rw [Bool.false_xor] at q
  obtain ⟨as, t1⟩ := Dp.reads I _ x v d1 rx
  rcases d2 with ⟨d2, c2⟩ | ⟨d2, c2⟩
  · obtain ⟨bs, t2⟩ := Dp.reads I _ y u d2 ry
    exact PySem.SeqAt.in_list_data t2 t1 (PyData.plain_of_canLay0 _ c2) (PyData.plain_of_canLay0 _ c1) (by omega) ⟨.bl _, H, I, rfl, q⟩
  · obtain ⟨bs, t2⟩ := Dp.reads I _ y u d2 ry
    exact PySem.SeqAt.in_tuple_data t2 t1 (PyData.plain_of_canLay0 _ c2) (PyData.plain_of_canLay0 _ c1) (by omega) ⟨.bl _, H, I, rfl, q⟩
theorem r2_nmem (hu : X.A.units + 65 < cLine) : OpR X (compareOp .NotIn) (r2 X.kw (memf true)) := by
  intro pins s σ H x y v u Q I rx ry h
  obtain ⟨W, vx, vy, M, st, S, R1, R2, p⟩ := h
  rcases mem_of S R1 R2 p with ⟨c, z, e1, e2, q⟩ | ⟨a, ys, d1, c1, hd, d2, q⟩
  · rw [Bool.true_xor] at q
    exact op_notIn_sign pins s σ H x y v u Q I rx ry ⟨c, z, e1, e2, q⟩
  rw [Bool.true_xor] at q
  obtain ⟨as, t1⟩ := Dp.reads I _ x v d1 rx
  rcases d2 with ⟨d2, c2⟩ | ⟨d2, c2⟩
  · obtain ⟨bs, t2⟩ := Dp.reads I _ y u d2 ry
    exact PySem.SeqAt.notIn_list_data t2 t1 (PyData.plain_of_canLay0 _ c2) (PyData.plain_of_canLay0 _ c1) (by omega) ⟨.bl _, H, I, rfl, q⟩
  · obtain ⟨bs, t2⟩ := Dp.reads I _ y u d2 ry
    exact PySem.SeqAt.notIn_tuple_data t2 t1 (PyData.plain_of_canLay0 _ c2) (PyData.plain_of_canLay0 _ c1) (by omega) ⟨.bl _, H, I, rfl, q⟩
end
end Pm

end
section
set_option maxHeartbeats 2000000
/-! Dicts. -/
namespace Pm
open PySem L2
section
variable {K : Fw} {H H' : Hp} {M M' : Mp} {a : Addr}
theorem key_false {k : EV} {y : V} (h : isKey false k = true) (R : Rep K H M k y) : ∃ k', k = kE k' ∧ y = kV k' ∧ KOk k' := by
  cases k with
  | int i => exact ⟨.inl i, rfl, R, trivial⟩
  | str x => exact ⟨.inr x, rfl, R.1, R.2⟩
  | _ => cases h
theorem veq_kE (a b : Key) : veq (kE a) (kE b) = decide (a = b) := by
  cases a with
  | inl i => cases b with
    | inl j =>
      show (i == j) = _
      by_cases h : i = j
      · subst h; simp
      · simp [h]
    | inr y => exact (decide_eq_false (fun e => by cases e)).symm
  | inr x => cases b with
    | inl j => exact (decide_eq_false (fun e => by cases e)).symm
    | inr y =>
      show (x == y) = _
      by_cases h : x = y
      · subst h; simp
      · simp [h]
theorem dks_get (k : Key) : ∀ (kvs : List (EV × EV)) (xs : List (Key × V)), DKs K H M kvs xs → (dget kvs (kE k) = none ∧ valV xs k = none) ∨ ∃ v r, dget kvs (kE k) = some v ∧ valV xs k = some r ∧ Rep K H M v r
  | [], xs, h => by
    have e : xs = [] := h
    subst e
    exact .inl ⟨rfl, rfl⟩
  | p :: kvs, xs, h => by
    obtain ⟨k1, v1, r1, rfl, h1, h2, h3, h4⟩ := h
    have e : dget (p :: kvs) (kE k) = if veq p.1 (kE k) then some p.2 else dget kvs (kE k) := rfl
    rw [e, h1, veq_kE]
    by_cases q : k1 = k
    · subst q
      exact .inr ⟨p.2, v1, by simp, valV_pos rfl, h3⟩
    · rw [decide_eq_false q, valV_neg q]
      exact dks_get k kvs r1 h4
theorem dks_rep {v : EV} {r : V} (k : Key) (R : Rep K H M v r) : ∀ (kvs : List (EV × EV)) (xs : List (Key × V)), DKs K H M kvs xs → DKs K H M (drep kvs (kE k) v) (xs.map fun kv => if kv.1 = k then (kv.1, r) else kv)
  | [], xs, h => by
    have e : xs = [] := h
    subst e
    rfl
  | p :: kvs, xs, h => by
    obtain ⟨k1, v1, r1, rfl, h1, h2, h3, h4⟩ := h
    have ih := dks_rep k R kvs r1 h4
    have e : drep (p :: kvs) (kE k) v = (if veq p.1 (kE k) then (p.1, v) else p) :: drep kvs (kE k) v := rfl
    rw [e, h1, veq_kE, List.map_cons]
    by_cases q : k1 = k
    · subst q
      exact ⟨k1, r, _, by simp, by simp, h2, by simpa using R, ih⟩
    · exact ⟨k1, v1, _, by simp [q], by simp [q, h1], h2, by simpa [q] using h3, ih⟩
theorem dks_snoc {v : EV} {r : V} {k : Key} (R : Rep K H M v r) (ok : KOk k) : ∀ (kvs : List (EV × EV)) (xs : List (Key × V)), DKs K H M kvs xs → DKs K H M (kvs ++ [(kE k, v)]) (xs ++ [(k, r)])
  | [], xs, h => by
    have e : xs = [] := h
    subst e
    exact ⟨k, r, [], rfl, rfl, ok, R, rfl⟩
  | p :: kvs, xs, h => by
    obtain ⟨k1, v1, r1, rfl, h1, h2, h3, h4⟩ := h
    exact ⟨k1, v1, _, rfl, h1, h2, h3, dks_snoc R ok kvs r1 h4⟩
theorem dks_put {v : EV} {r : V} {k : Key} {kvs : List (EV × EV)} {xs : List (Key × V)} (h : DKs K H M kvs xs) (R : Rep K H M v r) (ok : KOk k) : DKs K H M (dput kvs (kE k) v) (putK xs k r) := by
  unfold dput putK
  rw [valV_any]
  rcases dks_get k kvs xs h with ⟨e1, e2⟩ | ⟨v', r', e1, e2, _⟩
  · rw [e1, e2]; exact dks_snoc R ok kvs xs h
  · rw [e1, e2]; exact dks_rep k R kvs xs h
theorem dks_len : ∀ (kvs : List (EV × EV)) (xs : List (Key × V)), DKs K H M kvs xs → xs.length = kvs.length
  | [], xs, h => by
    have e : xs = [] := h
    subst e; rfl
  | p :: kvs, xs, h => by
    obtain ⟨k1, v1, r1, rfl, h1, h2, h3, h4⟩ := h
    show r1.length + 1 = kvs.length + 1
    rw [dks_len kvs r1 h4]
/-! ### nested keys -/
mutual
theorem veq_nkey : ∀ (a b : EV) (n m : Nat), nkOk a n = true → nkOk b m = true → veq a b = NestedKey.beq (nkey a) (nkey b)
  | .non, b, n, m, h1, h2 => by cases b <;> first | rfl | cases h2
  | .int i, b, n, m, h1, h2 => by
    cases b <;> first | cases h2; done | skip
    · rfl
    · show (_ == _) = decide _
      rename_i j
      by_cases h : i = j
      · subst h; simp
      · simp [h]
    · rfl
    · rfl
  | .str x, b, n, m, h1, h2 => by
    cases b <;> first | cases h2; done | skip
    · rfl
    · rfl
    · show (_ == _) = decide _
      rename_i j
      by_cases h : x = j
      · subst h; simp
      · simp [h]
    · rfl
  | .bl _, b, n, m, h1, h2 => by cases h1
  | .lst _, b, n, m, h1, h2 => by cases n <;> cases h1
  | .obj _, b, n, m, h1, h2 => by cases h1
  | .scr _, b, n, m, h1, h2 => by cases h1
  | .tup xs, b, n, m, h1, h2 => by
    cases b with
    | tup ys =>
      cases n with
      | zero => cases h1
      | succ n => cases m with
        | zero => cases h2
        | succ m => exact veqs_nkeys xs ys n m h1 h2
    | non => rfl
    | int _ => rfl
    | str _ => rfl
    | bl _ => cases h2
    | lst _ => cases m <;> cases h2
    | obj _ => cases h2
    | scr _ => cases h2
theorem veqs_nkeys : ∀ (xs ys : List EV) (n m : Nat), nkOks xs n = true → nkOks ys m = true → veqs xs ys = NestedKey.beqAll (nkeys xs) (nkeys ys)
  | [], [], n, m, h1, h2 => rfl
  | [], y :: ys, n, m, h1, h2 => rfl
  | x :: xs, [], n, m, h1, h2 => rfl
  | x :: xs, y :: ys, n, m, h1, h2 => by
    have h1' : (nkOk x n && nkOks xs n) = true := h1
    have h2' : (nkOk y m && nkOks ys m) = true := h2
    rw [Bool.and_eq_true] at h1' h2'
    show (veq x y && veqs xs ys) = (NestedKey.beq (nkey x) (nkey y) && NestedKey.beqAll (nkeys xs) (nkeys ys))
    rw [veq_nkey x y n m h1'.1 h2'.1, veqs_nkeys xs ys n m h1'.2 h2'.2]
end
theorem key_nk {k : EV} (h : isKey true k = true) : nkOk k 8 = true := by
  cases k with
  | tup xs => exact h
  | _ => cases h
theorem veq_key {a b : EV} (h1 : isKey true a = true) (h2 : isKey true b = true) : veq a b = decide (nkey a = nkey b) := by
  rw [NestedKey.decide_eq]
  exact veq_nkey a b 8 8 (key_nk h1) (key_nk h2)
theorem key_ref {k : EV} {y : V} (h : isKey true k = true) (R : Rep K H M k y) : ∃ b, y = .ref b := by
  cases k with
  | tup xs =>
    rw [Rep.tup_iff] at R
    obtain ⟨b, _, e, _⟩ := R
    exact ⟨b, e⟩
  | _ => cases h
abbrev NP : NX → List (NestedKey × Addr × Value) → Prop := Paired fun (p : NestedKey × V × V) (q : NestedKey × Addr × Value) => p.1 = q.1 ∧ p.2.1 = V.ref q.2.1 ∧ RelV p.2.2 q.2.2
theorem at_pos {x : NestedKey × Addr × Value} {r : List (NestedKey × Addr × Value)} {k : NestedKey} (e : x.1 = k) : atKey (x :: r) k = some x.2 := by simp [atKey, List.find?_cons, e]
theorem at_neg {x : NestedKey × Addr × Value} {r : List (NestedKey × Addr × Value)} {k : NestedKey} (e : ¬x.1 = k) : atKey (x :: r) k = atKey r k := by simp [atKey, List.find?_cons, e]
theorem dns_get {k : EV} (hk : isKey true k = true) : ∀ (kvs : List (EV × EV)) (xs : NX) (ys : List (NestedKey × Addr × Value)), DNs K H M kvs xs → NP xs ys →
    (dget kvs k = none ∧ atKey ys (nkey k) = none) ∨ ∃ v r p, dget kvs k = some v ∧ atKey ys (nkey k) = some p ∧ RelV r p.2 ∧ Rep K H M v r
  | [], xs, ys, h, q => by
    have e : xs = [] := h
    subst e
    cases q
    exact .inl ⟨rfl, rfl⟩
  | p :: kvs, xs, ys, h, q => by
    obtain ⟨k1, v1, r1, rfl, h1, h2, h3, h4⟩ := h
    cases q with
    | @cons _ y _ ys q1 q2 =>
    obtain ⟨q3, q4, q5⟩ := q1
    have e : dget (p :: kvs) k = if veq p.1 k then some p.2 else dget kvs k := rfl
    rw [e, veq_key h1 hk]
    have q3 : nkey p.1 = y.1 := q3
    by_cases z : nkey p.1 = nkey k
    · rw [decide_eq_true z, at_pos (q3.symm.trans z)]
      exact .inr ⟨p.2, v1, _, rfl, rfl, q5, h3⟩
    · rw [decide_eq_false z, at_neg fun e => z (q3.trans e)]
      exact dns_get hk kvs r1 ys h4 q2
theorem dns_rep {k v : EV} {r : V} {u : Value} (hk : isKey true k = true) (R : Rep K H M v r) (ru : RelV r u) : ∀ (kvs : List (EV × EV)) (xs : NX) (ys : List (NestedKey × Addr × Value)), DNs K H M kvs xs → NP xs ys →
    ∃ xs', DNs K H M (drep kvs k v) xs' ∧ NP xs' (ys.map (putAt (nkey k) u))
  | [], xs, ys, h, q => by
    have e : xs = [] := h
    subst e
    cases q
    exact ⟨[], rfl, .nil⟩
  | p :: kvs, xs, ys, h, q => by
    obtain ⟨k1, v1, r1, rfl, h1, h2, h3, h4⟩ := h
    cases q with
    | @cons _ y _ ys q1 q2 =>
    obtain ⟨q3, q4, q5⟩ := q1
    obtain ⟨xs', i1, i2⟩ := dns_rep hk R ru kvs r1 ys h4 q2
    have e : drep (p :: kvs) k v = (if veq p.1 k then (p.1, v) else p) :: drep kvs k v := rfl
    have q3 : nkey p.1 = y.1 := q3
    rw [e, veq_key h1 hk]
    by_cases z : nkey p.1 = nkey k
    · rw [decide_eq_true z]
      refine ⟨(nkey p.1, k1, r) :: xs', ⟨k1, r, xs', rfl, h1, h2, R, i1⟩, .cons ?_ i2⟩
      unfold putAt
      rw [if_pos (q3.symm.trans z)]
      exact ⟨q3, q4, ru⟩
    · rw [decide_eq_false z]
      refine ⟨(nkey p.1, k1, v1) :: xs', ⟨k1, v1, xs', rfl, h1, h2, h3, i1⟩, .cons ?_ i2⟩
      unfold putAt
      rw [if_neg fun e => z (q3.trans e)]
      exact ⟨q3, q4, q5⟩
theorem dns_snoc {k v : EV} {r : V} {u : Value} {b : Addr} (hk : isKey true k = true) (Rk : Rep K H M k (.ref b)) (R : Rep K H M v r) (ru : RelV r u) : ∀ (kvs : List (EV × EV)) (xs : NX) (ys : List (NestedKey × Addr × Value)), DNs K H M kvs xs → NP xs ys →
    ∃ xs', DNs K H M (kvs ++ [(k, v)]) xs' ∧ NP xs' (ys ++ [(nkey k, b, u)])
  | [], xs, ys, h, q => by
    have e : xs = [] := h
    subst e
    cases q
    exact ⟨[(nkey k, .ref b, r)], ⟨_, _, [], rfl, hk, Rk, R, rfl⟩, .cons ⟨rfl, rfl, ru⟩ .nil⟩
  | p :: kvs, xs, ys, h, q => by
    obtain ⟨k1, v1, r1, rfl, h1, h2, h3, h4⟩ := h
    cases q with
    | @cons _ y _ ys q1 q2 =>
    obtain ⟨xs', i1, i2⟩ := dns_snoc hk Rk R ru kvs r1 ys h4 q2
    exact ⟨(nkey p.1, k1, v1) :: xs', ⟨k1, v1, xs', rfl, h1, h2, h3, i1⟩, .cons q1 i2⟩
theorem dns_put {k v : EV} {r : V} {u : Value} {b : Addr} {kvs : List (EV × EV)} {xs : NX} {ys : List (NestedKey × Addr × Value)} (hk : isKey true k = true) (Rk : Rep K H M k (.ref b)) (R : Rep K H M v r) (ru : RelV r u) (h : DNs K H M kvs xs) (q : NP xs ys) :
    ∃ xs', DNs K H M (dput kvs k v) xs' ∧ NP xs' (storedH ys (nkey k) b u) := by
  unfold dput storedH
  rcases dns_get hk kvs xs ys h q with ⟨e1, e2⟩ | ⟨v', r', p, e1, e2, _⟩
  · rw [e1, e2]; exact dns_snoc hk Rk R ru kvs xs ys h q
  · rw [e1, e2]; exact dns_rep hk R ru kvs xs ys h q
theorem drep_len (k v : EV) : ∀ kvs : List (EV × EV), (drep kvs k v).length = kvs.length
  | [] => rfl
  | p :: kvs => by
    show (drep kvs k v).length + 1 = kvs.length + 1
    rw [drep_len k v kvs]
theorem dput_len (kvs : List (EV × EV)) (k v : EV) : (dput kvs k v).length ≤ kvs.length + 1 := by
  unfold dput
  split
  · rw [drep_len]; omega
  · simp
end
section
variable {X : Cx} {pins : List (Addr × Obj)} {σ : L2.St} {H : Hp} {s : Shared} {M : Mp} {a : Addr}
mutual
theorem nk_nested (I : Inv X pins σ H s) : ∀ (v : EV) (n : Nat) (r : V) (u : Value), nkOk v n = true → Rep X.kw H M v r → RelV r u → NestedIs s.heap (nkey v) u ∧ (nkey v).depth ≤ n
  | .non, n, r, u, h, R, ru => by
    have e : r = .non := R
    subst e
    have e : u = .none := ru
    subst e
    exact ⟨.none, Nat.zero_le _⟩
  | .int i, n, r, u, h, R, ru => by
    have e : r = .int i := R
    subst e
    obtain ⟨t, e⟩ := (show ∃ t, u = Value.int i t from ru)
    subst e
    exact ⟨.int i t, Nat.zero_le _⟩
  | .str x, n, r, u, h, R, ru => by
    have e : r = .str x := R.1
    subst e
    obtain ⟨t, e⟩ := (show ∃ t, u = Value.str x t from ru)
    subst e
    exact ⟨.text x t, Nat.zero_le _⟩
  | .bl _, n, r, u, h, R, ru => by cases h
  | .lst _, n, r, u, h, R, ru => by cases n <;> cases h
  | .obj _, n, r, u, h, R, ru => by cases h
  | .scr _, n, r, u, h, R, ru => by cases h
  | .tup xs, n, r, u, h, R, ru => by
    cases n with
    | zero => cases h
    | succ n =>
      rw [Rep.tup_iff] at R
      obtain ⟨b, vs, rfl, t, q⟩ := R
      cases (show u = Value.ref b from ru)
      obtain ⟨its, rv, ⟨o, o1, o2, m, o3⟩, _⟩ := I.tuple t.sq
      obtain ⟨i1, i2⟩ := nks_nested I xs n vs its h q rv
      exact ⟨.tup o1 o2 o3 (by simpa using i1), Nat.succ_le_succ i2⟩
theorem nks_nested (I : Inv X pins σ H s) : ∀ (xs : List EV) (n : Nat) (vs : List V) (us : List Value), nkOks xs n = true → Reps X.kw H M xs vs → Vals vs us → NestedAll s.heap (nkeys xs) us ∧ NestedKey.depthAll (nkeys xs) ≤ n
  | [], n, vs, us, h, R, ru => by
    rw [Reps.nil_iff] at R
    subst R
    cases ru
    exact ⟨.nil, Nat.zero_le _⟩
  | x :: xs, n, vs, us, h, R, ru => by
    rw [Reps.cons_iff] at R
    obtain ⟨v, r, rfl, r1, r2⟩ := R
    have h' : (nkOk x n && nkOks xs n) = true := h
    rw [Bool.and_eq_true] at h'
    cases ru with
    | cons u1 u2 =>
      obtain ⟨i1, i2⟩ := nk_nested I x n v _ h'.1 r1 u1
      obtain ⟨j1, j2⟩ := nks_nested I xs n r _ h'.2 r2 u2
      exact ⟨.cons i1 j1, Nat.max_le.mpr ⟨i2, j2⟩⟩
end
theorem key_is {k : EV} {b : Addr} (I : Inv X pins σ H s) (hk : isKey true k = true) (R : Rep X.kw H M k (.ref b)) : (nestedKind X.prog X.w).is s.heap (nkey k) b := nk_nested I k 8 _ _ (key_nk hk) R rfl
theorem dns_is (I : Inv X pins σ H s) : ∀ (kvs : List (EV × EV)) (xs : NX) (ys : List (NestedKey × Addr × Value)), DNs X.kw H M kvs xs → NP xs ys → ∀ y ∈ ys, (nestedKind X.prog X.w).is s.heap y.1 y.2.1
  | [], xs, ys, h, q, y, hy => by
    have e : xs = [] := h
    subst e
    cases q
    cases hy
  | p :: kvs, xs, ys, h, q, y, hy => by
    obtain ⟨k1, v1, r1, rfl, h1, h2, h3, h4⟩ := h
    cases q with
    | @cons _ z _ ys q1 q2 =>
    obtain ⟨q3, q4, q5⟩ := q1
    rcases List.mem_cons.mp hy with e | hy
    · subst e
      have q3 : nkey p.1 = y.1 := q3
      have q4 : k1 = .ref y.2.1 := q4
      rw [← q3]
      exact key_is I h1 (by rw [← q4]; exact h2)
    · exact dns_is I kvs r1 ys h4 q2 y hy
/-- a dict with tuples for keys, opened -/
theorem n_open {kvs : List (EV × EV)} {xs : NX} (I : Inv X pins σ H s) (h : H a = some (NDO X.w a xs)) (d : DNs X.kw H M kvs xs) : ∃ ys, NP xs ys ∧ s.heap.DictOfH (nestedKind X.prog X.w) a ys := by
  obtain ⟨⟨P, o, es, ep, ys, h1, h2, h3, h4, h5, h6⟩, _⟩ := (show _ ∧ _ ∧ _ from I.hok a _ h)
  exact ⟨ys, h6, o, es, ep, h1, h2, h3, h4, dns_is I kvs xs ys d h6, h5⟩
theorem n_lay {P : Program} {H' : Hp} {h' : Heap} {xs : NX} {ys : List (NestedKey × Addr × Value)} (q : NP xs ys) (d : h'.DictOfH (nestedKind P X.w) a ys) : ObjOk X.prog X.w H' h' a (NDO X.w a xs) := by
  obtain ⟨o, es, ep, h1, h2, h3, h4, _, h5⟩ := d
  refine ⟨⟨P, o, es, ep, ys, h1, h2, h3, h4, h5, q⟩, ⟨o, h1⟩, fun g1 g2 ⟨P, o, es, ep, ys, h1, h2, h3, h4, h5, q⟩ z => ⟨P, o, es, ep, ys, z o h1, h2, h3, h4, h5, q⟩⟩
end
/-! ### the rules -/
theorem odct_ok {K : Fw} {H : Hp} {M : Mp} {st : Sto} {o : EV} {x : V} {f : Bool} {kvs : List (EV × EV)} (S : StOk K H M st) (R : Rep K H M o x) (h : odct st o = some (f, kvs)) :
    ∃ n a, o = .obj n ∧ x = .ref a ∧ M.ad[n]? = some a ∧ st[n]? = some (.dct f kvs) ∧ DctAt K H M a f kvs := by
  cases o with
  | obj n =>
    obtain ⟨a, rfl, ea⟩ : ∃ a, x = .ref a ∧ M.ad[n]? = some a := R
    cases e : st[n]? with
    | none => simp [odct, e] at h
    | some ob =>
      cases ob with
      | lst _ => simp [odct, e] at h
      | dct f' kvs' =>
        have h' : f' = f ∧ kvs' = kvs := by simpa [odct, e] using h
        obtain ⟨rfl, rfl⟩ := h'
        exact ⟨n, a, rfl, rfl, ea, e, S.at_ n a _ ea e⟩
  | _ => cases h
section
variable {X : Cx} {pins : List (Addr × Obj)} {σ : L2.St} {H : Hp} {s : Shared} {M : Mp} {a : Addr} {f : Bool} {kvs : List (EV × EV)} {k : EV} {y : V} {u : Value} {A : Around} {E : Value → Shared → Prop}
theorem dct_type (I : Inv X pins σ H s) (d : DctAt X.kw H M a f kvs) : s.TypeIs (.ref a) "dict" ∧ ∀ b, Value.ref a = .ref b → ∃ ob, s.heap.get? b = some ob ∧ ob.dict = none := by
  cases f with
  | false =>
    obtain ⟨xs, h1, h2⟩ := d
    have g : DGet H a (kV (.inl 0)) _ := DGet.k h1
    exact ⟨dict_typeIs I g, dict_noDict I g⟩
  | true =>
    obtain ⟨xs, h1, _, _, h2⟩ := d
    obtain ⟨ys, q, o, es, ep, o1, o2, o3⟩ := n_open I h1 h2
    exact ⟨⟨o, o1, o2.1⟩, fun b e => by cases e; exact ⟨o, o1, o2.2.1⟩⟩
/-- d[k] -/
theorem dx_get (hu : A.units + 64 < cLine) (I : Inv X pins σ H s) (d : DctAt X.kw H M a f kvs) (hk : isKey f k = true) (R : Rep X.kw H M k y) (ry : RelV y u) {w : EV} (hw : dget kvs k = some w) :
    ∃ u' r, RelV r u' ∧ Rep X.kw H M w r ∧ ∀ Q : Value → Shared → Prop, (∀ s', Inv X pins σ H s' → Q u' s') → wpAny (model X.prog X.w) A (getItem (.ref a) u) Q E s := by
  cases f with
  | false =>
    obtain ⟨xs, h1, h2⟩ := d
    obtain ⟨k', rfl, rfl, ok⟩ := key_false hk R
    rcases dks_get k' kvs xs h2 with ⟨e1, _⟩ | ⟨v, r, e1, e2, e3⟩
    · rw [e1] at hw; cases hw
    rw [e1] at hw; cases hw
    obtain ⟨z, hd, vs, rel, dd⟩ := dk_of I.hok h1
    obtain ⟨u', hw', rw'⟩ := RelO.some_of (v := r) (o := valueAt vs k') (by rw [← e2]; exact rel.val k')
    exact ⟨u', r, rw', e3, fun Q q => wpAny_getItem_of (kV_is ry) dd.mapOf hw' (q _ (I.tok _))⟩
  | true =>
    obtain ⟨xs, h1, _, _, h2⟩ := d
    obtain ⟨b, rfl⟩ := key_ref hk R
    cases (show u = Value.ref b from ry)
    obtain ⟨ys, q, dd⟩ := n_open I h1 h2
    rcases dns_get hk kvs xs ys h2 q with ⟨e1, _⟩ | ⟨v, r, p, e1, e2, e3, e4⟩
    · rw [e1] at hw; cases hw
    rw [e1] at hw; cases hw
    exact ⟨p.2, r, e3, e4, fun Q q => wpAny_getItem_heap (show A.units + 1 + 8 < cLine by omega) (key_is I hk R) dd e2 (q _ (I.tok _))⟩
/-- k in d -/
theorem dx_in (hu : A.units + 64 < cLine) (I : Inv X pins σ H s) (d : DctAt X.kw H M a f kvs) (hk : isKey f k = true) (R : Rep X.kw H M k y) (ry : RelV y u) (Q : Value → Shared → Prop) (q : ∀ s', Inv X pins σ H s' → Q (.bool (dget kvs k).isSome) s') :
    wpAny (model X.prog X.w) A (compareOp .In u (.ref a)) Q E s := by
  cases f with
  | false =>
    obtain ⟨xs, h1, h2⟩ := d
    obtain ⟨k', rfl, rfl, ok⟩ := key_false hk R
    refine d_in (by omega) I (DGet.k h1) ry fun s' I' => ?_
    have e : (valV xs k').isSome = (dget kvs (kE k')).isSome := by
      rcases dks_get k' kvs xs h2 with ⟨e1, e2⟩ | ⟨v, r, e1, e2, _⟩ <;> rw [e1, e2] <;> rfl
    rw [e]
    exact q s' I'
  | true =>
    obtain ⟨xs, h1, hd, _, h2⟩ := d
    obtain ⟨b, rfl⟩ := key_ref hk R
    cases (show u = Value.ref b from ry)
    obtain ⟨ys, qn, dd⟩ := n_open I h1 h2
    refine wpAny_in_heap (show A.units + 1 + 8 < cLine by omega) (key_is I hk R) hd dd ?_
    have e : (atKey ys (nkey k)).isSome = (dget kvs k).isSome := by
      rcases dns_get hk kvs xs ys h2 qn with ⟨e1, e2⟩ | ⟨v, r, p, e1, e2, _⟩ <;> rw [e1, e2] <;> rfl
    rw [e]
    exact q _ (I.tok _)
theorem dx_nin (hu : A.units + 64 < cLine) (I : Inv X pins σ H s) (d : DctAt X.kw H M a f kvs) (hk : isKey f k = true) (R : Rep X.kw H M k y) (ry : RelV y u) (Q : Value → Shared → Prop) (q : ∀ s', Inv X pins σ H s' → Q (.bool (!(dget kvs k).isSome)) s') :
    wpAny (model X.prog X.w) A (compareOp .NotIn u (.ref a)) Q E s := by
  cases f with
  | false =>
    obtain ⟨xs, h1, h2⟩ := d
    obtain ⟨k', rfl, rfl, ok⟩ := key_false hk R
    refine d_notIn (by omega) I (DGet.k h1) ry fun s' I' => ?_
    have e : (valV xs k').isSome = (dget kvs (kE k')).isSome := by
      rcases dks_get k' kvs xs h2 with ⟨e1, e2⟩ | ⟨v, r, e1, e2, _⟩ <;> rw [e1, e2] <;> rfl
    rw [e]
    exact q s' I'
  | true =>
    obtain ⟨xs, h1, hd, _, h2⟩ := d
    obtain ⟨b, rfl⟩ := key_ref hk R
    cases (show u = Value.ref b from ry)
    obtain ⟨ys, qn, dd⟩ := n_open I h1 h2
    refine PyProof.Rows.wpAny_notIn_heap (show A.units + 1 + 8 < cLine by omega) (key_is I hk R) hd dd ?_
    have e : (atKey ys (nkey k)).isSome = (dget kvs k).isSome := by
      rcases dns_get hk kvs xs ys h2 qn with ⟨e1, e2⟩ | ⟨v, r, p, e1, e2, _⟩ <;> rw [e1, e2] <;> rfl
    rw [e]
    exact q _ (I.tok _)
/-- d.get(k, x) -/
theorem dx_get2 (hu : A.units + 64 < cLine) (I : Inv X pins σ H s) (d : DctAt X.kw H M a f kvs) (hk : isKey f k = true) (R : Rep X.kw H M k y) (ry : RelV y u) {x : EV} {z : V} {t : Value} (Rx : Rep X.kw H M x z) (rz : RelV z t) (Q : Value → Shared → Prop)
    (q : ∀ s' u' r, Inv X pins σ H s' → RelV r u' → Rep X.kw H M ((dget kvs k).getD x) r → Q u' s') : wpAny (model X.prog X.w) A (call (.builtin "dict.get") [.ref a, u, t]) Q E s := by
  cases f with
  | false =>
    obtain ⟨xs, h1, h2⟩ := d
    obtain ⟨k', rfl, rfl, ok⟩ := key_false hk R
    refine d_get2 (by omega) I (DGet.k h1) ry rz fun u' s' I' r' => ?_
    rcases dks_get k' kvs xs h2 with ⟨e1, e2⟩ | ⟨v, r, e1, e2, e3⟩
    · rw [e2] at r'
      exact q s' u' z I' r' (by rw [e1]; exact Rx)
    · rw [e2] at r'
      exact q s' u' r I' r' (by rw [e1]; exact e3)
  | true =>
    obtain ⟨xs, h1, hd, _, h2⟩ := d
    obtain ⟨b, rfl⟩ := key_ref hk R
    cases (show u = Value.ref b from ry)
    obtain ⟨ys, qn, dd⟩ := n_open I h1 h2
    have fin : Q (((atKey ys (nkey k)).map (·.2)).getD t) { s with toks := s.toks + (nestedKind X.prog X.w).draws (nkey k) } := by
      rcases dns_get hk kvs xs ys h2 qn with ⟨e1, e2⟩ | ⟨v, r, p, e1, e2, e3, e4⟩
      · rw [e2]
        exact q _ _ z (I.tok _) rz (by rw [e1]; exact Rx)
      · rw [e2]
        exact q _ _ r (I.tok _) e3 (by rw [e1]; exact e4)
    exact call_meetsIn PySem.F.slot_dict_get dd.typeIs PySem.F.entry_dict_get (PySem.F.args_dict_get_3 _ _ _) (meetsH_dict_get_default (nestedKind X.prog X.w) a b hd t) ⟨(show A.units + 1 + 8 < cLine by omega), nkey k, ys, key_is I hk R, dd, fin⟩
end
end Pm

end
section
set_option maxHeartbeats 2000000
/-! Dicts: the rules by values. -/
namespace Pm
open PySem L2
section
variable {X : Cx}
theorem r2_inn (hu : X.A.units + 65 < cLine) : OpR X (compareOp .In) (r2 X.kw (cmpf .inn)) := by
  intro pins s σ H x y v u Q I rx ry h
  obtain ⟨W, vx, vy, M, st, S, R1, R2, p⟩ := h
  have p' : Post W (match odct st vy with
    | some (f, kvs) => if isKey f vx then .ok (.bl (dget kvs vx).isSome) st else .stuck
    | none => memf false vx vy st) (KV X.kw H M Q) := p
  cases e : odct st vy with
  | none => rw [e] at p'; exact r2_mem hu pins s σ H x y v u Q I rx ry ⟨W, vx, vy, M, st, S, R1, R2, p'⟩
  | some fk =>
    obtain ⟨f, kvs⟩ := fk
    rw [e] at p'
    have p2 : Post W (if isKey f vx then .ok (.bl (dget kvs vx).isSome) st else .stuck) (KV X.kw H M Q) := p'
    clear p'
    have p' := p2
    clear p2
    split at p'
    · rename_i hk
      obtain ⟨n, a, rfl, rfl, ea, es, d⟩ := odct_ok S R2 e
      cases (show u = Value.ref a from ry)
      exact dx_in (by omega) I d hk R1 rx _ fun s' I' => ⟨.bl _, H, I', rfl, KV.same (v := .bl _) p' S rfl⟩
    · exact p'.elim
theorem r2_nin (hu : X.A.units + 65 < cLine) : OpR X (compareOp .NotIn) (r2 X.kw (cmpf .nin)) := by
  intro pins s σ H x y v u Q I rx ry h
  obtain ⟨W, vx, vy, M, st, S, R1, R2, p⟩ := h
  have p' : Post W (match odct st vy with
    | some (f, kvs) => if isKey f vx then .ok (.bl (!(dget kvs vx).isSome)) st else .stuck
    | none => memf true vx vy st) (KV X.kw H M Q) := p
  cases e : odct st vy with
  | none => rw [e] at p'; exact r2_nmem hu pins s σ H x y v u Q I rx ry ⟨W, vx, vy, M, st, S, R1, R2, p'⟩
  | some fk =>
    obtain ⟨f, kvs⟩ := fk
    rw [e] at p'
    have p2 : Post W (if isKey f vx then .ok (.bl (!(dget kvs vx).isSome)) st else .stuck) (KV X.kw H M Q) := p'
    clear p'
    have p' := p2
    clear p2
    split at p'
    · rename_i hk
      obtain ⟨n, a, rfl, rfl, ea, es, d⟩ := odct_ok S R2 e
      cases (show u = Value.ref a from ry)
      exact dx_nin (by omega) I d hk R1 rx _ fun s' I' => ⟨.bl _, H, I', rfl, KV.same (v := .bl _) p' S rfl⟩
    · exact p'.elim
theorem r2_idx (hu : X.A.units + 64 < cLine) : IxR X (r2 X.kw idxf) := by
  intro ev es pins s σ H x y v u Q I rx ry h hp
  obtain ⟨W, vx, vy, M, st, S, R1, R2, p⟩ := h
  unfold idxf at p
  cases e : odct st vx with
  | none => rw [e] at p; exact r2_idxL ev es pins s σ H x y v u Q I rx ry ⟨W, vx, vy, M, st, S, R1, R2, p⟩ hp
  | some fk =>
    obtain ⟨f, kvs⟩ := fk
    rw [e] at p
    have p1 : Post W (if isKey f vy then (match dget kvs vy with
      | some v => .ok v st
      | none => .stuck) else .stuck) (KV X.kw H M Q) := p
    split at p1
    · rename_i hk
      obtain ⟨n, a, rfl, rfl, ea, es', d⟩ := odct_ok S R1 e
      cases (show v = Value.ref a from rx)
      cases ew : dget kvs vy with
      | none => rw [ew] at p1; exact p1.elim
      | some w =>
        rw [ew] at p1
        have p2 : KV X.kw H M Q w st := p1
        obtain ⟨u', r, r1, r2, q⟩ := dx_get (A := X.A) (E := X.xe) hu I d hk R2 ry ew
        exact PyProof.Rows.subscriptTail_builtinR (x := u') (dct_type I d).1 PySem.F.slot_dict_getitem.lookup (q _ fun s' I' => ⟨rfl, r, H, I', r1, KV.same p2 S r2⟩) hp
    · exact p1.elim
theorem set_ok (hu : X.A.units + 64 < cLine) : PSet X (rSet X.kw) := by
  intro pins s σ H o i v ov iv u Q I ro ri rv h
  obtain ⟨W, vo, vi, vv, M, st, S, R1, R2, R3, p⟩ := h
  unfold setix at p
  cases e : odct st vo with
  | none => rw [e] at p; exact set_okL pins s σ H o i v ov iv u Q I ro ri rv ⟨W, vo, vi, vv, M, st, S, R1, R2, R3, p⟩
  | some fk =>
    obtain ⟨f, kvs⟩ := fk
    rw [e] at p
    have p : Post W (if (isKey f vi && decide (kvs.length < big)) = true then .ok () (st.set (onum vo) (.dct f (dput kvs vi vv))) else .stuck) fun _ s' => ∀ H' M', Grow H M H' M' → StOk X.kw H' M' s' → Q H' := p
    split at p
    · rename_i hk
      rw [Bool.and_eq_true, decide_eq_true_eq] at hk
      obtain ⟨hk, hl⟩ := hk
      rw [big_eq] at hl
      obtain ⟨n, a, rfl, rfl, ea, es', d⟩ := odct_ok S R1 e
      cases (show ov = Value.ref a from ro)
      have p : ∀ H' M', Grow H M H' M' → StOk X.kw H' M' (st.set n (.dct f (dput kvs vi vv))) → Q H' := p
      cases f with
      | false =>
        obtain ⟨xs, h1, h2⟩ := d
        obtain ⟨k', rfl, rfl, ok⟩ := key_false hk R2
        refine d_setItem (by omega) I (DPut.k h1 (by rw [dks_len kvs xs h2]; exact hl)) ri rv fun s' I' => ⟨_, I', p _ M (Grow.write ea) (S.put ea ?_)⟩
        exact ⟨_, upd_same, DKs.mov (Grow.write ea).mov _ _ (dks_put h2 R3 ok)⟩
      | true =>
        obtain ⟨xs, h1, hd, hl2, h2⟩ := d
        obtain ⟨b, rfl⟩ := key_ref hk R2
        cases (show iv = Value.ref b from ri)
        obtain ⟨ys, qn, dd⟩ := n_open I h1 h2
        obtain ⟨xs', g1, g2⟩ := dns_put hk R2 R3 rv h2 qn
        have hz : ys.length ≤ sizeLine := by
          have e1 : ∀ (kvs : List (EV × EV)) (xs : NX), DNs X.kw H M kvs xs → xs.length = kvs.length := by
            intro kvs
            induction kvs with
            | nil => intro xs h; have e : xs = [] := h; subst e; rfl
            | cons p r ih =>
              intro xs h
              obtain ⟨_, _, r', rfl, _, _, _, h4⟩ := h
              show r'.length + 1 = r.length + 1
              rw [ih r' h4]
          rw [← Paired.length qn, e1 kvs xs h2]; exact hl2
        refine wpAny_setItem_heap (hsz := hz) (show X.A.units + 1 + 8 < cLine by omega) (key_is I hk R2) dd fun h' dd' hs => ⟨upd H a (NDO X.w a xs'), ?_, p _ M (Grow.write ea) (S.put ea ?_)⟩
        · refine d_write I (by rw [h1]; exact True.intro) hs ?_ (n_lay g2 dd')
          obtain ⟨q, _, _, hq, _⟩ := dd'
          exact ⟨q, hq⟩
        · exact ⟨xs', upd_same, hd, Nat.le_trans (dput_len kvs vi vv) hl, DNs.mov (Grow.write ea).mov _ _ g1⟩
    · exact p.elim
theorem rm_get2 (hu : X.A.units + 64 < cLine) : MtR X "dict.get" (rM X.kw get2f) := by
  intro pins s σ H x xs v us Q I rx r h
  obtain ⟨W, vs, M, st, S, R1, p⟩ := h
  unfold get2f at p
  split at p
  · rename_i o k d
    rw [Reps.cons_iff] at R1
    obtain ⟨x', r', e, R1, R2⟩ := R1
    cases e
    obtain ⟨k', d', rfl, R3, R4⟩ := R2.inv2
    cases e : odct st o with
    | none => rw [e] at p; exact p.elim
    | some fk =>
      obtain ⟨f, kvs⟩ := fk
      rw [e] at p
      have p : Post W (if isKey f k then .ok ((dget kvs k).getD d) st else .stuck) (KV X.kw H M Q) := p
      split at p
      · rename_i hk
        obtain ⟨n, a, rfl, rfl, ea, es', dd⟩ := odct_ok S R1 e
        cases (show v = Value.ref a from rx)
        obtain ⟨u1, u2, rfl, q1, q2⟩ := vals2 r
        exact dx_get2 hu I dd hk R3 q1 R4 q2 _ fun s' u' r I' r1 r2 => ⟨r, H, I', r1, KV.same p S r2⟩
      · exact p.elim
  · exact p.elim
/-! ### dict(pairs) -/
theorem pairs_ok {K : Fw} {H : Hp} {M : Mp} : ∀ (xs : List EV) (kvs : List (EV × EV)) (vs : List V), pairs false xs = some kvs → Reps K H M xs vs →
    ∃ (ps : List Addr) (ks : List (Key × V)), vs = ps.map V.ref ∧ Paired (fun p (kv : Key × V) => SqT K.f H p [kV kv.1, kv.2]) ps ks ∧ DKs K H M kvs ks
  | [], kvs, vs, h, R => by
    cases h
    rw [Reps.nil_iff] at R
    subst R
    exact ⟨[], [], rfl, .nil, rfl⟩
  | x :: xs, kvs, vs, h, R => by
    rw [Reps.cons_iff] at R
    obtain ⟨v, r, rfl, R1, R2⟩ := R
    unfold pairs at h
    split at h
    · rename_i e; cases e
    · rename_i k w xs' e
      cases e
      split at h
      · rename_i hk
        cases e2 : pairs false xs with
        | none => rw [e2] at h; cases h
        | some q =>
          rw [e2] at h
          cases h
          obtain ⟨ps, ks, e3, h1, h2⟩ := pairs_ok xs q r e2 R2
          subst e3
          rw [Rep.tup_iff] at R1
          obtain ⟨a, ws, rfl, t, q1⟩ := R1
          obtain ⟨y, z, rfl, q2, q3⟩ := q1.inv2
          obtain ⟨k', rfl, rfl, ok⟩ := key_false hk q2
          exact ⟨a :: ps, (k', z) :: ks, rfl, .cons t.sq h1, ⟨k', z, ks, rfl, rfl, ok, q3, h2⟩⟩
      · cases h
    · cases h
theorem dks_make {K : Fw} {H : Hp} {M : Mp} : ∀ (kvs : List (EV × EV)) (ks : List (Key × V)) (acc : List (EV × EV)) (as : List (Key × V)), DKs K H M kvs ks → DKs K H M acc as →
    DKs K H M (kvs.foldl (fun a p => dput a p.1 p.2) acc) (mergeK as ks)
  | [], ks, acc, as, h, h2 => by
    have e : ks = [] := h
    subst e
    exact h2
  | p :: kvs, ks, acc, as, h, h2 => by
    obtain ⟨k1, v1, r1, rfl, g1, g2, g3, g4⟩ := h
    show DKs K H M (kvs.foldl (fun a p => dput a p.1 p.2) (dput acc p.1 p.2)) (mergeK (putK as k1 v1) r1)
    rw [g1]
    exact dks_make kvs r1 _ _ g4 (dks_put h2 g3 g2)
theorem rp_dictK (hc : X.calm = true) : CallR X (.type "dict") (rP X.kw (dictf false)) := by
  intro pins s σ H xs us Q I r h
  obtain ⟨W, vs, M, st, S, R1, p⟩ := h
  unfold dictf at p
  split at p
  · rename_i v
    obtain ⟨x, rfl, R⟩ := R1.inv1
    split at p
    · rename_i ys e
      split at p
      · rename_i kvs ek
        obtain ⟨a, ws, rfl, h1, h2, h3⟩ := look_lst S R e
        obtain ⟨ps, ks, rfl, g1, g2⟩ := pairs_ok ys kvs ws ek h3
        have p : KV X.kw H M Q (.obj st.length) (st ++ [.dct false (dmake kvs)]) := p
        refine call_dictP hc pins s σ H _ us Q I r ⟨a, ps, ks, rfl, .inl h1, g1, fun b hb => ?_⟩
        have g : Grow H M (upd H b (.dK (mergeK [] ks))) (M.more b) := Grow.more S hb
        refine p _ _ _ g (S.newO hb ⟨_, upd_same, DKs.mov g.mov _ _ (dks_make kvs ks [] [] g2 rfl)⟩) ?_
        refine ⟨b, rfl, ?_⟩
        show (M.ad ++ [b])[st.length]? = some b
        rw [← S.len]; simp
      · exact p.elim
    · exact p.elim
  · exact p.elim
end
end Pm

end
section
set_option maxHeartbeats 2000000
/-! dict(pairs) with tuples for keys. -/
namespace Pm
open PySem L2
/-- pairs as they lie: the list's items, the entries -/
structure PrOk (X : Cx) (H : Hp) (M : Mp) (h : Heap) (kvs : List (EV × EV)) (its : List Value) (es : List (NestedKey × Addr × Value)) : Prop where
  len : its.length = es.length
  at_ : ∀ (j : Nat) (k : NestedKey) (b : Addr) (v : Value), es[j]? = some (k, b, v) → ∃ T, its[j]? = some (.ref T) ∧ PairAt h T (.ref b) v
section
variable {X : Cx}
theorem prs_ok {pins : List (Addr × Obj)} {σ : L2.St} {H : Hp} {s : Shared} {M : Mp} (I : Inv X pins σ H s) : ∀ (xs : List EV) (kvs : List (EV × EV)) (vs : List V) (its : List Value), pairs true xs = some kvs → Reps X.kw H M xs vs → Vals vs its →
    ∃ (es : List (NestedKey × Addr × Value)) (ns : NX), PrOk X H M s.heap kvs its es ∧ DNs X.kw H M kvs ns ∧ NP ns es
  | [], kvs, vs, its, h, R, rv => by
    cases h
    rw [Reps.nil_iff] at R
    subst R
    cases rv
    exact ⟨[], [], ⟨rfl, fun j k b v e => by simp at e⟩, rfl, .nil⟩
  | x :: xs, kvs, vs, its, h, R, rv => by
    rw [Reps.cons_iff] at R
    obtain ⟨v, r, rfl, R1, R2⟩ := R
    unfold pairs at h
    split at h
    · rename_i e; cases e
    · rename_i k w xs' e
      cases e
      split at h
      · rename_i hk
        cases e2 : pairs true xs with
        | none => rw [e2] at h; cases h
        | some q =>
          rw [e2] at h
          cases h
          cases rv with
          | cons rv1 rv2 =>
          obtain ⟨es, ns, o, d, p⟩ := prs_ok I xs q r _ e2 R2 rv2
          rw [Rep.tup_iff] at R1
          obtain ⟨a, ws, rfl, t, q1⟩ := R1
          cases (show _ = Value.ref a from rv1)
          obtain ⟨y, z, rfl, q2, q3⟩ := q1.inv2
          obtain ⟨b, rfl⟩ := key_ref hk q2
          obtain ⟨its2, rv3, ht, _⟩ := I.tuple t.sq
          obtain ⟨u1, u2, rfl, g1, g2⟩ := vals2 rv3
          cases (show u1 = Value.ref b from g1)
          refine ⟨(nkey k, b, u2) :: es, (nkey k, .ref b, z) :: ns, ⟨by simp [o.len], fun j k' b' v' e => ?_⟩, ⟨_, _, ns, rfl, hk, q2, q3, d⟩, .cons ⟨rfl, rfl, g2⟩ p⟩
          cases j with
          | zero =>
            simp at e
            obtain ⟨rfl, rfl, rfl⟩ := e
            exact ⟨a, rfl, .inl ht⟩
          | succ j =>
            obtain ⟨T, e3, e4⟩ := o.at_ j k' b' v' (by simpa using e)
            exact ⟨T, by simpa using e3, e4⟩
      · cases h
    · cases h
theorem dns_make {K : Fw} {H : Hp} {M : Mp} : ∀ (kvs : List (EV × EV)) (ns : NX) (es : List (NestedKey × Addr × Value)) (acc : List (EV × EV)) (as : NX) (fs : List (NestedKey × Addr × Value)), DNs K H M kvs ns → NP ns es → DNs K H M acc as → NP as fs →
    ∃ xs', DNs K H M (kvs.foldl (fun a p => dput a p.1 p.2) acc) xs' ∧ NP xs' (storedAllH fs es)
  | [], ns, es, acc, as, fs, h, q, h2, q2 => by
    have e : ns = [] := h
    subst e
    cases q
    exact ⟨as, h2, q2⟩
  | p :: kvs, ns, es, acc, as, fs, h, q, h2, q2 => by
    obtain ⟨k1, v1, r1, rfl, g1, g2, g3, g4⟩ := h
    cases q with
    | @cons _ y _ ys q1 q3 =>
    obtain ⟨z1, z2, z3⟩ := q1
    have z1 : nkey p.1 = y.1 := z1
    have z2 : k1 = .ref y.2.1 := z2
    rw [z2] at g2
    obtain ⟨xs', i1, i2⟩ := dns_put (b := y.2.1) (u := y.2.2) (r := v1) g1 g2 g3 z3 h2 q2
    obtain ⟨xs2, j1, j2⟩ := dns_make kvs r1 ys _ xs' _ g4 q3 i1 i2
    refine ⟨xs2, j1, ?_⟩
    have e : storedAllH fs (y :: ys) = storedAllH (storedH fs (nkey p.1) y.2.1 y.2.2) ys := by rw [z1]; rfl
    rw [e]; exact j2
theorem foldput_len : ∀ (kvs acc : List (EV × EV)), (kvs.foldl (fun a p => dput a p.1 p.2) acc).length ≤ acc.length + kvs.length
  | [], acc => Nat.le_refl _
  | p :: kvs, acc => by
    have h1 := foldput_len kvs (dput acc p.1 p.2)
    have h2 := dput_len acc p.1 p.2
    show (kvs.foldl (fun a p => dput a p.1 p.2) (dput acc p.1 p.2)).length ≤ acc.length + (kvs.length + 1)
    omega
theorem np_len {K : Fw} {H : Hp} {M : Mp} : ∀ (kvs : List (EV × EV)) (ns : NX), DNs K H M kvs ns → ns.length = kvs.length
  | [], ns, h => by
    have e : ns = [] := h
    subst e; rfl
  | p :: kvs, ns, h => by
    obtain ⟨_, _, r', rfl, _, _, _, h4⟩ := h
    show r'.length + 1 = kvs.length + 1
    rw [np_len kvs r' h4]
def tsOf (its : List Value) (j : Nat) : Addr := match its[j]? with
  | some (.ref T) => T
  | _ => 0
theorem rp_dictN (hc : X.calm = true) (hu : X.A.units + 64 < cLine) : CallR X (.type "dict") (rP X.kw (dictf true)) := by
  intro pins s σ H xs us Q I r h
  obtain ⟨W, vs, M, st, S, R1, p⟩ := h
  unfold dictf at p
  split at p
  · rename_i v
    obtain ⟨x, rfl, R⟩ := R1.inv1
    split at p
    · rename_i ys e
      split at p
      · rename_i kvs ek
        obtain ⟨a, ws, rfl, h1, h2, h3⟩ := look_lst S R e
        obtain ⟨its, rv, pl, hz⟩ := I.list (.inl h1 : SqL X.K H a ws)
        rw [Vals.ref1 r]
        obtain ⟨es, ns, o, d, q⟩ := prs_ok I ys kvs ws its ek h3 rv
        have p : KV X.kw H M Q (.obj st.length) (st ++ [.dct true (dmake kvs)]) := p
        have l1 : es.length = kvs.length := by rw [← Paired.length q, np_len kvs ns d]
        have l2 : its.length ≤ sizeLine := by rw [← rv.length]; exact hz
        have hm : (s.heap.objs.size == sysModules) = false := beq_eq_false_iff_ne.mpr (Nat.ne_of_gt I.big)
        obtain ⟨xs', d', q'⟩ := dns_make (K := X.kw) (H := H) (M := M) kvs ns es [] [] [] d q rfl .nil
        have at_ : ∀ j k v, (es.map fun e => (Value.ref e.2.1, e.2.2))[j]? = some (k, v) → ∃ n b, es[j]? = some (n, b, v) ∧ k = Value.ref b := fun j k v hj => by
          rw [List.getElem?_map] at hj
          cases ej : es[j]? with
          | none => rw [ej] at hj; cases hj
          | some z =>
            obtain ⟨n, b, v'⟩ := z
            rw [ej] at hj
            cases hj
            exact ⟨n, b, ej, rfl⟩
        have items : PairItems s.heap its.toArray (tsOf its) (es.map fun e => (Value.ref e.2.1, e.2.2)) := by
          refine ⟨by simp [o.len], fun j k v hj => ?_⟩
          obtain ⟨n, b, ej, rfl⟩ := at_ j k v hj
          obtain ⟨T, t1, t2⟩ := o.at_ j n b v ej
          have e1 : tsOf its j = T := by unfold tsOf; rw [t1]
          rw [e1]
          exact ⟨by simpa using t1, t2⟩
        obtain ⟨ob, n, o1, o2, o3, o4⟩ := pl
        refine call_dict_pairsH (knd := nestedKind X.prog X.w) (ps := es) (PairArg.list a its.toArray (tsOf its) (es.map fun e => (Value.ref e.2.1, e.2.2))) (I.ok.hd hc) (show X.A.units + 1 + 1 + 8 < cLine by omega) ⟨⟨ob, n, o1, o2, o3, o4⟩, items⟩ ⟨by simp, fun i k v hj => at_ i k v hj⟩ (fun h' hk y hy => ?_) (by simp; rw [← o.len]; exact l2) fun h' tk hd' k => ?_
        · obtain ⟨i1, i2⟩ := dns_is I kvs ns es d q y hy
          exact ⟨NestedIs.at (fun b ob vs n hb _ => hk b ob (Nat.ne_of_lt (Heap.lt_size hb)) (by simp) hb) _ _ i1, i2⟩
        · have hb := I.hok.fresh (Nat.le_refl s.heap.objs.size)
          have g : Grow H M (upd H s.heap.objs.size (NDO X.w s.heap.objs.size xs')) (M.more s.heap.objs.size) := Grow.more S hb
          refine ⟨.ref s.heap.objs.size, upd H s.heap.objs.size (NDO X.w s.heap.objs.size xs'), I.laid (t' := tk) (fun b u e => k b u (by simp) e) (Nat.le_refl _) (n_lay q' hd'), rfl, ?_⟩
          refine p _ _ _ g (S.newO hb ⟨xs', upd_same, hm, ?_, DNs.mov g.mov _ _ d'⟩) ⟨_, rfl, ?_⟩
          · have := foldput_len kvs []
            have e : dmake kvs = kvs.foldl (fun a p => dput a p.1 p.2) [] := rfl
            rw [e]
            have : kvs.length ≤ sizeLine := by rw [← l1, ← o.len]; exact l2
            simp at *; omega
          · show (M.ad ++ [s.heap.objs.size])[st.length]? = some _
            rw [← S.len]; simp
      · exact p.elim
    · exact p.elim
  · exact p.elim
end
end Pm

end
section
set_option maxHeartbeats 2000000
/-! A dict of either kind as a row of entries: sorted(d), list(d), len(d). -/
namespace Pm
open PySem L2
open PySem.W (alike alikeAll dataLt EachIs)
section
variable {K : Fw} {H : Hp} {M : Mp}
theorem nd_each : ∀ (kvs : List (EV × EV)) (xs : NX) (ys : List (NestedKey × Addr × Value)), DNs K H M kvs xs → NP xs ys →
    EachIs (RepB K H M) (ys.map fun y => Value.ref y.2.1) (kvs.map (·.1)) ∧ EachIs (RepB K H M) (ys.map fun y => y.2.2) (kvs.map (·.2))
  | [], xs, ys, h, q => by
    have h : xs = [] := h
    subst h
    cases q
    exact ⟨.nil, .nil⟩
  | p :: r, xs, ys, h, q => by
    obtain ⟨k, v, r', e, h1, h2, h3, h4⟩ := h
    subst e
    cases q with
    | cons q1 q2 =>
      rename_i y ys'
      obtain ⟨e1, e2, e3⟩ := q1
      obtain ⟨g1, g2⟩ := nd_each r r' _ h4 q2
      have e2 : k = .ref y.2.1 := e2
      exact ⟨.cons ⟨k, by rw [e2]; rfl, h2⟩ g1, .cons ⟨v, e3, h3⟩ g2⟩
theorem kv_each {P : Program} {w : World} : ∀ (kvs : List (EV × EV)) (xs : List (Key × V)) (vs : List (Key × Value)) (es : List DictEntry), DKs K H M kvs xs → L2.KV xs vs → Pairs (mixKind P w) es vs →
    EachIs (RepB K H M) (es.map (·.key)) (kvs.map (·.1)) ∧ EachIs (RepB K H M) (es.map (·.val)) (kvs.map (·.2))
  | [], xs, vs, es, h, q, t => by
    have h : xs = [] := h
    subst h
    cases q
    cases t
    exact ⟨.nil, .nil⟩
  | p :: r, xs, vs, es, h, q, t => by
    obtain ⟨k, v, r', e, h1, h2, h3, h4⟩ := h
    subst e
    cases q with
    | cons q1 q2 =>
      rename_i y ys'
      obtain ⟨e1, e3⟩ := q1
      cases t with
      | cons t1 t2 t3 =>
        obtain ⟨g1, g2⟩ := kv_each r r' _ _ h4 q2 t3
        have e1 : k = y.1 := e1
        refine ⟨.cons ?_ g1, .cons ⟨v, by show RelV v (DictEntry.val _); rw [t2]; exact e3, h3⟩ g2⟩
        rw [← e1] at t1
        rcases keyIs_shape (show keyIs k _ = true from t1) with ⟨i, t, ek, ev⟩ | ⟨z, t, ek, ev⟩
        · subst ek
          refine ⟨.int i, ⟨t, ev⟩, ?_⟩
          show Rep K H M p.1 _
          rw [h1]; rfl
        · subst ek
          refine ⟨.str z, ⟨t, ev⟩, ?_⟩
          show Rep K H M p.1 _
          rw [h1]; exact ⟨rfl, h2⟩
end
section
variable {X : Cx} {pins : List (Addr × Obj)} {σ : L2.St} {H : Hp} {s : Shared} {M : Mp} {a : Addr} {f : Bool} {kvs : List (EV × EV)}
/-- a dict, as its entries -/
theorem dct_raw (I : Inv X pins σ H s) (d : DctAt X.kw H M a f kvs) : ∃ es ep, s.heap.DictRaw a es ep ∧ (a == sysModules) = false ∧ kvs.length ≤ sizeLine ∧ es.size = kvs.length ∧
    EachIs (RepB X.kw H M) (es.toList.map (·.key)) (kvs.map (·.1)) ∧ EachIs (RepB X.kw H M) (es.toList.map (·.val)) (kvs.map (·.2)) := by
  cases f with
  | false =>
    obtain ⟨xs, h1, h2⟩ := d
    obtain ⟨z, hd, vs, rel, dd⟩ := dk_rd I.hok (.inl h1)
    obtain ⟨o, es, ep, ho, hc, hdt, _, hp, _⟩ := dd
    obtain ⟨g1, g2⟩ := kv_each kvs xs vs es.toList h2 rel hp
    have hl := g1.length
    simp at hl
    exact ⟨es, ep, ⟨o, ho, hc, hdt⟩, hd, by rw [← dks_len _ _ h2]; exact z, hl, g1, g2⟩
  | true =>
    obtain ⟨xs, h1, h3, h4, h2⟩ := d
    obtain ⟨ys, q, o, es, ep, o1, o2, o3, o4, _⟩ := n_open I h1 h2
    obtain ⟨g1, g2⟩ := nd_each kvs xs ys h2 q
    have e1 : es.toList.map (·.key) = ys.map fun y => Value.ref y.2.1 := by rw [o4, List.map_map]; rfl
    have e2 : es.toList.map (·.val) = ys.map fun y => y.2.2 := by rw [o4, List.map_map]; rfl
    rw [← e1] at g1
    rw [← e2] at g2
    have hl := g1.length
    simp at hl
    exact ⟨es, ep, ⟨o, o1, o2, o3⟩, h3, h4, hl, g1, g2⟩
/-- what was collected of the keys -/
theorem keys_of {es : Array DictEntry} {P : Nat → Value → Prop} {acc : Array Value} (hP : ∀ i v, P i v → ∃ hi : i < es.size, v = es[i].key) (h : ItemsOf P acc es.size) : acc.toList = es.toList.map (·.key) := by
  apply List.ext_getElem
  · simp [h.1]
  · intro i h1 h2
    have e := h.2 i acc[i] (by rw [Array.getElem?_eq_getElem])
    obtain ⟨hi, e⟩ := hP _ _ e
    simpa using e
end
section
variable {prog : Program} {w : World} {A : Around} {E : Value → Shared → Prop} {s : Shared} {d : Addr} {es : Array DictEntry} {ep : Nat}
/-- len of a dict, by its entries -/
theorem len_raw {Q : Value → Shared → Prop} (hd : (d == sysModules) = false) (hm : s.heap.DictRaw d es ep) (hz : es.size < 2 ^ 62) (h : ∀ t, Q (.int es.size t) { s with toks := t + 1 }) :
    wpAny (model prog w) A (call (.builtin "len") [.ref d]) Q E s := by
  refine Calls.call_function_entry PySem.kind_len PySem.plain_len PySem.entry_len
    (PySem.args_len1 _) ?_
  unfold Builtin.«len»
  refine wpAny_bind (m := oneArg "len" _)
    (wpAny_pure ?_)
  refine wpAny_bind (wpAny_callSpecial?_slot (name := Str.ofString "__len__") hm.typeIs PySem.F.slot_dict_len
    (PySem.call_len_raw hd hm ?_))
  refine wpAny_bind (wpAny_holding (s := { s with toks := s.toks + 1 }) (wpAny_pure ?_))
  refine wpAny_bind (wpAny_letGo ?_)
  have z1 : ¬((es.size : Nat) : Int) < 0 := by omega
  have z2 : ¬((es.size : Nat) : Int) ≥ 2 ^ 63 := by omega
  show wpAny _ _ (if ((es.size : Nat) : Int) < 0 then _
    else _) _ _ _
  rw [if_neg z1]
  show wpAny _ _ (if ((es.size : Nat) : Int) ≥ 2 ^ 63
    then _ else _) _ _ _
  rw [if_neg z2]
  exact wpAny_bind (wpAny_mkInt (wpAny_pure ⟨_, rfl, h (s.toks + 1)⟩))
end
section
variable {X : Cx}
theorem rp_len : CallR X (.builtin "len") (rP X.kw lenf) := by
  intro pins s σ H xs us Q I r h
  obtain ⟨W, vs, M, st, S, R1, p⟩ := h
  unfold lenf at p
  split at p
  · rename_i v
    obtain ⟨x, rfl, R⟩ := R1.inv1
    split at p
    · rename_i f kvs e
      obtain ⟨n, a, rfl, rfl, ea, es, d⟩ := odct_ok S R e
      rw [Vals.ref1 r]
      cases f with
      | false =>
        obtain ⟨ys, h1, h2⟩ := d
        refine d_len I (.inl h1) fun t s' I' => ⟨.int ys.length, H, I', ⟨t, rfl⟩, ?_⟩
        rw [dks_len _ _ h2]
        exact KV.same (v := .int _) p S rfl
      | true =>
        obtain ⟨es, ep, hr, hd, hz, hs, _⟩ := dct_raw I d
        refine len_raw hd hr (by rw [hs]; rw [sizeLine_eq] at hz; omega) fun t => ⟨.int es.size, H, I.tok _, ⟨t, rfl⟩, ?_⟩
        rw [hs]
        exact KV.same (v := .int _) p S rfl
    · split at p
      · rename_i ys e
        obtain ⟨a, ws, rfl, t, tl, q⟩ := look_seq S R (.inl e)
        refine call_len_seq pins s σ H _ us Q I r ⟨a, ws, rfl, t, ?_⟩
        rw [q.length]
        exact KV.same (v := .int _) p S rfl
      · rename_i ys e
        obtain ⟨a, ws, rfl, t, tl, q⟩ := look_seq S R (.inr e)
        refine call_len_seq pins s σ H _ us Q I r ⟨a, ws, rfl, t, ?_⟩
        rw [q.length]
        exact KV.same (v := .int _) p S rfl
      · rename_i z e
        have e' := look_str e
        subst e'
        obtain ⟨e2, ok⟩ : x = .str z ∧ SOk z := R
        subst e2
        exact call_len_str pins s σ H _ us Q I r ⟨z, rfl, ok.1, KV.same (v := .int _) p S rfl⟩
      · exact p.elim
  · exact p.elim
theorem rp_lst (hc : X.calm = true) : CallR X (.type "list") (rP X.kw lstf) := by
  intro pins s σ H xs us Q I r h
  obtain ⟨W, vs, M, st, S, R1, p⟩ := h
  unfold lstf at p
  split at p
  · rename_i v
    obtain ⟨x, rfl, R⟩ := R1.inv1
    split at p
    · rename_i f kvs e
      obtain ⟨n, a, rfl, rfl, ea, es, d⟩ := odct_ok S R e
      rw [Vals.ref1 r]
      obtain ⟨es, ep, hr, hd, hz, hs, k1, k2⟩ := dct_raw I d
      refine PySem.W.kdl_call (PySem.KdlSrc.rawDict hd) (I.ok.hd hc) hr (Nat.le_trans (Nat.le_of_eq hs) hz) fun h' tk acc c hk hS hacc => ?_
      have ek := keys_of (fun i v q => q) hacc
      rw [← ek] at k1
      obtain ⟨zs, z1, z2⟩ := of_each k1
      have hn := I.hok.fresh (Nat.le_refl s.heap.objs.size)
      have hlen : zs.length ≤ sizeLine := by
        rw [z1.length, ek]
        simp
        omega
      have p' : KV X.kw H M Q (.lst (kvs.map (·.1))) st := p
      refine ⟨.ref _, upd H s.heap.objs.size (.lst zs), I.laid (t' := tk) hk (Nat.le_refl _) ⟨hlen, acc.toList, c, z1, hS⟩, rfl, ?_⟩
      refine p' _ M _ (Grow.laid S hn) (S.laid hn) ?_
      rw [Rep.lst_iff]
      exact ⟨_, zs, rfl, ⟨hlen, .inl upd_same, S.new hn⟩, Reps.grow (Grow.laid S hn) _ _ z2⟩
    · split at p
      · rename_i ys e
        obtain ⟨a, ws, rfl, t, tl, q⟩ := look_seq S R (.inl e)
        exact call_list_of pins s σ H _ us Q I r ⟨a, ws, rfl, t, KV.lst S tl q p⟩
      · rename_i ys e
        obtain ⟨a, ws, rfl, t, tl, q⟩ := look_seq S R (.inr e)
        exact call_list_of pins s σ H _ us Q I r ⟨a, ws, rfl, t, KV.lst S tl q p⟩
      · rename_i ys e
        have e' := look_scr e
        subst e'
        rw [Rep.scr_iff] at R
        obtain ⟨a, ws, rfl, t, q⟩ := R
        obtain ⟨_, _, _, tl⟩ := I.list t.sq
        exact call_list_of pins s σ H _ us Q I r ⟨a, ws, rfl, .inl t.sq, KV.lst S tl q p⟩
      · rename_i z e
        have e' := look_str e
        subst e'
        obtain ⟨e2, ok⟩ : x = .str z ∧ SOk z := R
        subst e2
        have hl : (signV z).length ≤ sizeLine := by rw [signV_len]; exact ok.1
        exact call_list_txt hc pins s σ H _ us Q I r ⟨z, rfl, ok.1, KV.lst S hl (signs_rep ok) p⟩
      · exact p.elim
  · exact p.elim
end
end Pm

end
section
set_option maxHeartbeats 2000000
/-! sorted(d), min(xs), max(xs), repr(x). -/
namespace Pm
open PySem L2
open PySem.W (alike alikeAll dataLt EachIs)
open PyProof.Rows (seqObj)
mutual
theorem reads_lt {h : Heap} : ∀ {v : Value} {d : PyData} {as : List Addr}, Reads h v d as → ∀ b ∈ as, b < h.objs.size
  | _, _, _, .none, b, hb => nomatch hb
  | _, _, _, .bool _, b, hb => nomatch hb
  | _, _, _, .int _ _, b, hb => nomatch hb
  | _, _, _, .str _ _, b, hb => nomatch hb
  | _, _, _, .list h1 h2 h3 h4, b, hb => by
    rcases List.mem_cons.mp hb with e | hb
    · subst e; exact Heap.lt_size h1
    · exact readsAll_lt h4 b hb
  | _, _, _, .tuple h1 h2 h3 h4, b, hb => readsAll_lt h4 b hb
  | _, _, _, .dict h1 h2 h3 h4 h5, b, hb => by
    rcases List.mem_append.mp hb with hb | hb
    · rcases List.mem_cons.mp hb with e | hb
      · subst e; exact Heap.lt_size h1
      · exact readsAll_lt h4 b hb
    · exact readsAll_lt h5 b hb
theorem readsAll_lt {h : Heap} : ∀ {v : List Value} {d : List PyData} {as : List Addr}, ReadsAll h v d as → ∀ b ∈ as, b < h.objs.size
  | _, _, _, .nil, b, hb => nomatch hb
  | _, _, _, .cons h1 h2, b, hb => by
    rcases List.mem_append.mp hb with hb | hb
    · exact reads_lt h1 b hb
    · exact readsAll_lt h2 b hb
end
section
variable {X : Cx}
/-- sorted of what was collected -/
theorem sort_keys {pins : List (Addr × Obj)} {σ : L2.St} {H : Hp} {s : Shared} {M : Mp} {st : Sto} {Q : VK} {W : Nat → List EV → Sto → Prop} {ks : List EV} {l : List Value} (hu : X.A.units + 65 < cLine) (I : Inv X pins σ H s) (S : StOk X.kw H M st) (hs : srtOk ks = true) (ea : EachIs (RepB X.kw H M) l ks) (hz : ks.length ≤ sizeLine)
    (p : KV X.kw H M Q (.lst (vsort ks)) st) {h' : Heap} {tk : Nat} (hk : ∀ b o, s.heap.get? b = some o → h'.get? b = some o) :
    wpAny (model X.prog X.w) X.A.in1 (call (.builtin "list.sort") [.ref h'.objs.size]) (fun _ s' => EP X pins σ Q (.ref h'.objs.size) s') X.xe { s with heap := h'.push (seqObj "list" l.toArray 0), toks := tk } := by
  obtain ⟨l1, l2⟩ := srt_like hs
  have I1 : Inv X pins σ H { s with heap := h', toks := tk } := I.kept hk
  have reads : EachIs (fun v b => ∃ as, Reads (h'.push (seqObj "list" l.toArray 0)) v (pd b) as ∧ h'.objs.size ∉ as) l ks := by
    refine (PySem.W.each_mem ea).mono fun v b ⟨⟨r, q1, q2⟩, hb⟩ => ?_
    obtain ⟨as, ra⟩ := Dp.reads I1 _ r v (Rep.dp b r 60 (l1 b hb).1 q2).1 q1
    refine ⟨as, PyProof.Rows.Reads.keeps (fun b o e => Heap.get?_push_of_some _ e) ra, fun hm => ?_⟩
    exact Nat.lt_irrefl _ (reads_lt ra _ hm)
  have hoL : (h'.push (seqObj "list" l.toArray 0)).get? h'.objs.size = some (seqObj "list" l.toArray 0) := Heap.get?_push_size _ rfl
  refine PySem.W.list_sort_data (s := { s with heap := h'.push (seqObj "list" l.toArray 0), toks := tk }) hoL ea reads (fun d hd d' hd' => ?_) (l2.imp (fun q d hd => ?_) fun q d hd => ?_) hz (fun b hb => ?_) fun out ho eo => ?_
  · obtain ⟨b, hb, rfl⟩ := List.mem_map.mp hd
    obtain ⟨b', hb', rfl⟩ := List.mem_map.mp hd'
    exact alike_pd b b' 60 60 (l1 b hb).1 (l1 b' hb').1 ((l1 b hb).2 b' hb')
  · obtain ⟨b, hb, rfl⟩ := List.mem_map.mp hd
    obtain ⟨y, r, rfl⟩ := q b hb
    exact ⟨pd y, pds r, rfl⟩
  · obtain ⟨b, hb, rfl⟩ := List.mem_map.mp hd
    exact q b hb
  · have := pd_depth b 60 (l1 b hb).1
    show X.A.units + 1 + 1 + _ < _
    omega
  · rw [vsort_pd hs] at eo
    obtain ⟨zs, z1, z2⟩ := of_each eo
    obtain ⟨ep, he'⟩ := PyProof.Rows.sortedHeap_at (vs := l) (out := out.toArray) hoL
    have hn := I1.hok.fresh (Nat.le_refl h'.objs.size)
    have hlen : zs.length ≤ sizeLine := by
      rw [z1.length, ho]; exact hz
    refine ⟨.ref _, upd H h'.objs.size (.lst zs), I1.laid (t' := tk) (fun b u e => ?_) (Nat.le_refl _) ⟨hlen, out, ep, z1, he'⟩, rfl, ?_⟩
    · have hb : b < h'.objs.size := Heap.lt_size e
      rw [PyProof.Rows.sortedHeap_old (Nat.ne_of_lt hb) (by rw [PyProof.Rows.size_push']; exact Nat.lt_succ_of_lt hb)]
      exact Heap.get?_push_of_some _ e
    · refine p _ M _ (Grow.laid S hn) (S.laid hn) ?_
      rw [Rep.lst_iff]
      exact ⟨_, zs, rfl, ⟨hlen, .inl upd_same, S.new hn⟩, Reps.grow (Grow.laid S hn) _ _ z2⟩
theorem rp_sorted (hc : X.calm = true) (hu : X.A.units + 65 < cLine) : CallR X (.builtin "sorted") (rP X.kw sortf) := by
  intro pins s σ H xs us Q I r h
  obtain ⟨W, vs, M, st, S, R1, p⟩ := h
  unfold sortf at p
  split at p
  · rename_i v
    obtain ⟨x, rfl, R⟩ := R1.inv1
    split at p
    · rename_i f kvs e
      split at p
      · rename_i hs
        obtain ⟨n, a, rfl, rfl, ea, es, d⟩ := odct_ok S R e
        rw [Vals.ref1 r]
        obtain ⟨es, ep, hr, hd, hz, hsz, k1, k2⟩ := dct_raw I d
        have p' : KV X.kw H M Q (.lst (vsort (kvs.map (·.1)))) st := p
        refine Calls.call_function_entry PyProof.Rows.kind_sorted PyProof.Rows.plain_sorted PyProof.Rows.entry_sorted (PyProof.Rows.args_sorted1 _) ?_
        unfold Builtin.«sorted»
        refine wpAny_bind (m := checkCount "sorted" 1 1 _) (wpAny_pure ?_)
        refine wpAny_bind (PySem.W.kdu_collect (A := X.A.in1) (PySem.KdlSrc.rawDict hd) (I.ok.hd hc) hr (Nat.le_trans (Nat.le_of_eq hsz) hz) fun h' tk acc hk hacc => ?_)
        have ek := keys_of (fun i v q => q) hacc
        rw [← ek] at k1
        have hl : acc.toList.length ≤ sizeLine := by
          rw [ek]; simp; omega
        refine wpAny_bind (wpAny_newList ?_ hl)
        refine wpAny_bind (wpAny_holding (wpAny_mono (sort_keys (W := W) hu I S hs k1 (by simpa using hz) p' (tk := tk) hk) (fun _ s' x => ?_) fun _ _ e => e))
        exact wpAny_pure ⟨_, rfl, x⟩
      · exact p.elim
    · rename_i e
      have p' : Post W (sortLf [v] st) (KV X.kw H M Q) := p
      exact rp_sortedL (by omega) pins s σ H _ us Q I r ⟨W, [v], M, st, S, R1, p'⟩
  · exact p.elim
end
/-! ### the least, the greatest -/
theorem pds_map : ∀ xs : List EV, pds xs = xs.map pd
  | [] => rfl
  | x :: xs => by
    show pd x :: pds xs = _
    rw [pds_map xs]; rfl
mutual
theorem pd_inj : ∀ (a b : EV) (n m : Nat), okd a n = true → okd b m = true → pd a = pd b → a = b
  | .non, b, n, m, h1, h2, e => by cases b <;> first | rfl | (cases h2; done) | cases e
  | .bl _, b, n, m, h1, h2, e => by cases b <;> first | (cases h2; done) | (cases e; done) | (cases e; rfl)
  | .int _, b, n, m, h1, h2, e => by cases b <;> first | (cases h2; done) | (cases e; done) | (cases e; rfl)
  | .str _, b, n, m, h1, h2, e => by cases b <;> first | (cases h2; done) | (cases e; done) | (cases e; rfl)
  | .obj _, b, n, m, h1, h2, e => by cases h1
  | .scr _, b, n, m, h1, h2, e => by cases h1
  | .tup xs, b, n, m, h1, h2, e => by
    cases b with
    | tup ys =>
      cases n with
      | zero => cases h1
      | succ n => cases m with
        | zero => cases h2
        | succ m =>
          have e : PyData.tuple (pds xs) = .tuple (pds ys) := e
          injection e with e
          rw [pds_inj xs ys n m h1 h2 e]
    | obj _ => cases h2
    | scr _ => cases h2
    | _ => cases e
  | .lst xs, b, n, m, h1, h2, e => by
    cases b with
    | lst ys =>
      cases n with
      | zero => cases h1
      | succ n => cases m with
        | zero => cases h2
        | succ m =>
          have e : PyData.list (pds xs) = .list (pds ys) := e
          injection e with e
          rw [pds_inj xs ys n m h1 h2 e]
    | obj _ => cases h2
    | scr _ => cases h2
    | _ => cases e
theorem pds_inj : ∀ (xs ys : List EV) (n m : Nat), okds xs n = true → okds ys m = true → pds xs = pds ys → xs = ys
  | [], [], n, m, h1, h2, e => rfl
  | [], y :: ys, n, m, h1, h2, e => nomatch e
  | x :: xs, [], n, m, h1, h2, e => nomatch e
  | x :: xs, y :: ys, n, m, h1, h2, e => by
    have h1' : (okd x n && okds xs n) = true := h1
    have h2' : (okd y m && okds ys m) = true := h2
    rw [Bool.and_eq_true] at h1' h2'
    have e : pd x :: pds xs = pd y :: pds ys := e
    injection e with e1 e2
    rw [pd_inj x y n m h1'.1 h2'.1 e1, pds_inj xs ys n m h1'.2 h2'.2 e2]
end
theorem alk_ok {xs : List EV} (h : alkOk xs = true) : ∀ x ∈ xs, okd x 60 = true ∧ isNone x = false ∧ ∀ y ∈ xs, vlike x y = true := fun x hx => by
  have := List.all_eq_true.mp h x hx
  rw [Bool.and_eq_true, Bool.and_eq_true, List.all_eq_true] at this
  refine ⟨this.1.1, by simpa using this.1.2, this.2⟩
theorem alk_alike {xs : List EV} (h : alkOk xs = true) : PySem.W.AlikeAll (xs.map pd) := by
  refine ⟨fun d hd d' hd' => ?_, fun d hd e => ?_⟩
  · obtain ⟨b, hb, rfl⟩ := List.mem_map.mp hd
    obtain ⟨b', hb', rfl⟩ := List.mem_map.mp hd'
    exact alike_pd b b' 60 60 (alk_ok h b hb).1 (alk_ok h b' hb').1 ((alk_ok h b hb).2.2 b' hb')
  · obtain ⟨b, hb, rfl⟩ := List.mem_map.mp hd
    obtain ⟨g1, g2, _⟩ := alk_ok h b hb
    cases b with
    | non => cases g2
    | obj _ => cases g1
    | scr _ => cases g1
    | _ => cases e
/-- a choice among them, step by step -/
theorem pick_pd {all : List EV} (h : alkOk all = true) (f : EV → EV → Bool) (g : PyData → PyData → Bool) (hf : ∀ a ∈ all, ∀ b ∈ all, g (pd a) (pd b) = f a b) : ∀ (xs : List EV) (x : EV), x ∈ all → (∀ y ∈ xs, y ∈ all) →
    (xs.map pd).foldl (fun a y => if g y a then y else a) (pd x) = pd (xs.foldl (fun a y => if f y a then y else a) x) ∧ xs.foldl (fun a y => if f y a then y else a) x ∈ all
  | [], x, hx, _ => ⟨rfl, hx⟩
  | y :: ys, x, hx, hs => by
    have hy := hs y (List.mem_cons_self ..)
    rw [List.map_cons, List.foldl_cons, List.foldl_cons, hf y hy x hx]
    cases f y x with
    | true => exact pick_pd h f g hf ys y hy fun z hz => hs z (List.mem_cons_of_mem _ hz)
    | false => exact pick_pd h f g hf ys x hx fun z hz => hs z (List.mem_cons_of_mem _ hz)
theorem each_get {K : Fw} {H : Hp} {M : Mp} : ∀ {us : List Value} {xs : List EV} {i : Nat} {u : Value}, EachIs (RepB K H M) us xs → us[i]? = some u → ∃ x, xs[i]? = some x ∧ RepB K H M u x
  | [], _, _, _, _, e => by simp at e
  | v :: us, xs, i, u, h, e => by
    cases h with
    | cons h1 h2 =>
      cases i with
      | zero => simp at e; subst e; exact ⟨_, by simp, h1⟩
      | succ i => simp at e ⊢; exact each_get h2 e
section
variable {X : Cx}
theorem depth_le : ∀ (xs : List EV), (∀ x ∈ xs, okd x 60 = true) → PyData.depthAll (pds xs) ≤ 60
  | [], _ => Nat.zero_le _
  | x :: xs, h => by
    show max (pd x).depth (PyData.depthAll (pds xs)) ≤ 60
    have := pd_depth x 60 (h x (List.mem_cons_self ..))
    have := depth_le xs fun y hy => h y (List.mem_cons_of_mem _ hy)
    omega
theorem rp_min1 (hc : X.calm = true) (hu : X.A.units + 65 < cLine) : CallR X (.builtin "min") (rP X.kw min1f) := by
  intro pins s σ H xs us Q I r h
  obtain ⟨W, vs, M, st, S, R1, p⟩ := h
  unfold min1f at p
  split at p
  · rename_i v
    obtain ⟨x, rfl, R⟩ := R1.inv1
    split at p
    · rename_i y ys e
      split at p
      · rename_i ha
        obtain ⟨a, ws, rfl, h1, h2, h3⟩ := look_lst S R e
        obtain ⟨its, rv, hl, hz⟩ := I.list (.inl h1 : SqL X.K H a ws)
        rw [Vals.ref1 r]
        have ok := alk_ok ha
        have ea : EachIs (RepB X.kw H M) its (y :: ys) := each_of rv h3
        have rd : EachIs (fun v b => ∃ as, Reads s.heap v (pd b) as) its (y :: ys) := by
          refine (PySem.W.each_mem ea).mono fun v b ⟨⟨r, q1, q2⟩, hb⟩ => ?_
          exact Dp.reads I _ r v (Rep.dp b r 60 (ok b hb).1 q2).1 q1
        obtain ⟨as, ra⟩ := PySem.W.each_readsAll pd rd
        have hp := pick_pd ha (fun a b => vlt a b) dataLt (fun b hb b' hb' => vlt_pd b b' 60 60 (ok b hb).1 (ok b' hb').1 ((ok b hb).2.2 b' hb')) ys y (List.mem_cons_self ..) fun z hz => List.mem_cons_of_mem _ hz
        have hd := depth_le (y :: ys) fun x hx => (ok x hx).1
        rw [pds_map] at hd
        have p' : KV X.kw H M Q (vmin y ys) st := p
        refine PySem.W.min_list_data (I.ok.hd hc) hl.isList ra (alk_alike ha) (by
          have : PyData.depthAll (pd y :: ys.map pd) ≤ 60 := hd
          omega) fun i v h' tk bs hv hr hk => ?_
        have hv' : its[i]? = some v := by simpa using hv
        obtain ⟨b, hb, r0, q1, q2⟩ := each_get ea hv'
        have hbm := List.mem_of_getElem? hb
        have I' : Inv X pins σ H { s with heap := h', toks := tk } := I.kept hk
        obtain ⟨as2, ra2⟩ := Dp.reads I' _ r0 v (Rep.dp b r0 60 (ok b hbm).1 q2).1 q1
        have e1 := (PySem.Reads.unique ra2 _ _ hr).1
        have e2 : pd b = pd (vmin y ys) := e1.trans hp.1
        have e3 : b = vmin y ys := pd_inj _ _ 60 60 (ok b hbm).1 (ok _ hp.2).1 e2
        exact ⟨r0, H, I', q1, KV.same p' S (e3 ▸ q2)⟩
      · exact p.elim
    · exact p.elim
  · exact p.elim
theorem rp_max1 (hc : X.calm = true) (hu : X.A.units + 65 < cLine) : CallR X (.builtin "max") (rP X.kw max1f) := by
  intro pins s σ H xs us Q I r h
  obtain ⟨W, vs, M, st, S, R1, p⟩ := h
  unfold max1f at p
  split at p
  · rename_i v
    obtain ⟨x, rfl, R⟩ := R1.inv1
    split at p
    · rename_i y ys e
      split at p
      · rename_i ha
        obtain ⟨a, ws, rfl, h1, h2, h3⟩ := look_lst S R e
        obtain ⟨its, rv, hl, hz⟩ := I.list (.inl h1 : SqL X.K H a ws)
        rw [Vals.ref1 r]
        have ok := alk_ok ha
        have ea : EachIs (RepB X.kw H M) its (y :: ys) := each_of rv h3
        have rd : EachIs (fun v b => ∃ as, Reads s.heap v (pd b) as) its (y :: ys) := by
          refine (PySem.W.each_mem ea).mono fun v b ⟨⟨r, q1, q2⟩, hb⟩ => ?_
          exact Dp.reads I _ r v (Rep.dp b r 60 (ok b hb).1 q2).1 q1
        obtain ⟨as, ra⟩ := PySem.W.each_readsAll pd rd
        have hp := pick_pd ha (fun a b => vlt b a) (fun a b => dataLt b a) (fun b hb b' hb' => vlt_pd b' b 60 60 (ok b' hb').1 (ok b hb).1 ((ok b' hb').2.2 b hb)) ys y (List.mem_cons_self ..) fun z hz => List.mem_cons_of_mem _ hz
        have hd := depth_le (y :: ys) fun x hx => (ok x hx).1
        rw [pds_map] at hd
        have p' : KV X.kw H M Q (vmax y ys) st := p
        refine PySem.W.max_list_data (I.ok.hd hc) hl.isList ra (alk_alike ha) (by
          have : PyData.depthAll (pd y :: ys.map pd) ≤ 60 := hd
          omega) fun i v h' tk bs hv hr hk => ?_
        have hv' : its[i]? = some v := by simpa using hv
        obtain ⟨b, hb, r0, q1, q2⟩ := each_get ea hv'
        have hbm := List.mem_of_getElem? hb
        have I' : Inv X pins σ H { s with heap := h', toks := tk } := I.kept hk
        obtain ⟨as2, ra2⟩ := Dp.reads I' _ r0 v (Rep.dp b r0 60 (ok b hbm).1 q2).1 q1
        have e1 := (PySem.Reads.unique ra2 _ _ hr).1
        have e2 : pd b = pd (vmax y ys) := e1.trans hp.1
        have e3 : b = vmax y ys := pd_inj _ _ 60 60 (ok b hbm).1 (ok _ hp.2).1 e2
        exact ⟨r0, H, I', q1, KV.same p' S (e3 ▸ q2)⟩
      · exact p.elim
    · exact p.elim
  · exact p.elim
end
/-! ### texts of values -/
def Vld (x : Str) : Prop := ∀ c ∈ x.cps.toList, c < 0x110000
theorem vld_all {x : Str} : x.cps.all (· < 0x110000) = true ↔ Vld x := by
  unfold Vld
  rw [← Array.all_toList, List.all_eq_true]
  exact ⟨fun h c hc => by simpa using h c hc, fun h c hc => by simpa using h c hc⟩
theorem vld_append {x y : Str} (h1 : Vld x) (h2 : Vld y) : Vld (x ++ y) := by
  intro c hc
  have e : (x ++ y).cps = x.cps ++ y.cps := rfl
  rw [e, Array.toList_append] at hc
  rcases List.mem_append.mp hc with h | h
  · exact h1 c h
  · exact h2 c h
theorem vld_of (s : String) : Vld (Str.ofString s) := by
  intro c hc
  rw [Str.ofString_eq_toList] at hc
  obtain ⟨d, hd, rfl⟩ := List.mem_map.mp (show c ∈ s.toList.map Char.toNat from hc)
  have h := d.valid
  have h2 : d.toNat = d.val.toNat := rfl
  rcases h with h | h
  · have : d.val.toNat < 0xd800 := h
    omega
  · have := h.2
    omega
theorem vld_join {sep : Str} (hs : Vld sep) : ∀ ts : List Str, (∀ t ∈ ts, Vld t) → Vld (Str.join sep ts)
  | [], _ => fun c hc => nomatch hc
  | [x], h => h x (by simp)
  | x :: y :: r, h => vld_append (vld_append (h x (by simp)) hs) (vld_join hs (y :: r) fun t ht => h t (List.mem_cons_of_mem _ ht))
theorem vld_text : ∀ (ts : List Str) (k : Nat) (acc : Str), Vld acc → (∀ t ∈ ts, Vld t) → Vld (textFrom k acc ts)
  | [], _, _, h, _ => h
  | t :: ts, k, acc, h, hs => vld_text ts (k + 1) _ (vld_append (vld_append h (vld_of _)) (hs t (by simp))) fun u hu => hs u (List.mem_cons_of_mem _ hu)
theorem dig_lt {n b : Nat} (hb : 1 < b) (hb2 : b ≤ 16) : ∀ c ∈ (Nat.toDigits b n).map Char.toNat, c < 0x110000 := by
  intro c hc
  obtain ⟨d, hd, rfl⟩ := List.mem_map.mp hc
  have h := d.valid
  rcases h with h | h
  · have : d.val.toNat < 0xd800 := h
    show d.val.toNat < _
    omega
  · exact h.2
theorem repr_char {q c : Nat} (hq : q < 0x110000) (hc : c < 0x110000) : ∀ d ∈ Builtin.Str.reprChar q c, d < 0x110000 := by
  intro d hd
  have hx : ∀ w, ∀ d ∈ List.replicate (w - ((Nat.toDigits 16 c).map Char.toNat).length) 48 ++ (Nat.toDigits 16 c).map Char.toNat, d < 0x110000 := fun w d hd => by
    rcases List.mem_append.mp hd with h | h
    · rw [List.eq_of_mem_replicate h]; omega
    · exact dig_lt (by omega) (by omega) d h
  unfold Builtin.Str.reprChar at hd
  simp only at hd
  split at hd
  · simp at hd; rcases hd with rfl | rfl <;> omega
  split at hd
  · simp at hd; rcases hd with rfl | rfl <;> omega
  split at hd
  · simp at hd; rcases hd with rfl | rfl <;> omega
  split at hd
  · simp at hd; rcases hd with rfl | rfl <;> omega
  split at hd
  · simp at hd; omega
  split at hd
  · rcases List.mem_append.mp hd with h | h
    · simp at h; rcases h with rfl | rfl <;> omega
    · exact hx 2 d h
  split at hd
  · rcases List.mem_append.mp hd with h | h
    · simp at h; rcases h with rfl | rfl <;> omega
    · exact hx 4 d h
  · rcases List.mem_append.mp hd with h | h
    · simp at h; rcases h with rfl | rfl <;> omega
    · exact hx 8 d h
theorem vld_fold {q : Nat} (hq : q < 0x110000) : ∀ (l : List Nat) (acc : Array Nat), (∀ c ∈ acc.toList, c < 0x110000) → (∀ c ∈ l, c < 0x110000) → ∀ c ∈ (l.foldl (fun out c => out ++ (Builtin.Str.reprChar q c).toArray) acc).toList, c < 0x110000
  | [], acc, h, _ => h
  | a :: l, acc, h, hl => vld_fold hq l _ (fun c hc => by
      rw [Array.toList_append] at hc
      rcases List.mem_append.mp hc with hc | hc
      · exact h c hc
      · exact repr_char hq (hl a (by simp)) c (by simpa using hc)) fun c hc => hl c (List.mem_cons_of_mem _ hc)
theorem vld_repr {x : Str} (h : Vld x) : Vld (reprText x) := by
  have hq : reprQuote x < 0x110000 := by unfold reprQuote; split <;> omega
  intro c hc
  unfold reprText at hc
  have hc : c ∈ (((x.cps.foldl (fun out c => out ++ (Builtin.Str.reprChar (reprQuote x) c).toArray) #[reprQuote x]).push (reprQuote x))).toList := hc
  rw [Array.toList_push] at hc
  rcases List.mem_append.mp hc with hc | hc
  · rw [← Array.foldl_toList] at hc
    exact vld_fold hq x.cps.toList _ (fun c hc => by simp at hc; omega) h c hc
  · simp at hc; omega
theorem list_text_le (ts : List Str) : (listText ts).length ≤ piled ts + 3 := by
  unfold listText
  rw [strLen_append]
  have e1 : ((("]" : String) : Str)).length = 1 := rfl
  have e2 : ((("[" : String) : Str)).length = 1 := rfl
  cases ts with
  | nil => rw [e1]; show (("[" : String) : Str).length + 1 ≤ _; rw [e2]; simp [piled]
  | cons t r =>
    show (textFrom 1 (("[" : Str) ++ (if (0 : Nat) > 0 then ", " else "" : String) ++ t) r).length + _ ≤ _
    rw [textFrom_length_pos r 1 _ (by omega), strLen_append, strLen_append, e1, e2, piled_cons]
    have e3 : (((if (0 : Nat) > 0 then ", " else "" : String)) : Str).length = 0 := rfl
    rw [e3]; omega
mutual
/-- a value's text: how long, of which signs -/
theorem shw_ok {K : Fw} {H : Hp} {M : Mp} : ∀ (v : EV) (n : Nat) (r : V), okd v n = true → (pd v).showable = true → Rep K H M v r → (shw v).length ≤ rlen v ∧ Vld (shw v)
  | .non, n, r, h, hs, R => ⟨by decide +kernel, vld_of _⟩
  | .bl b, n, r, h, hs, R => by cases b <;> exact ⟨by decide +kernel, vld_of _⟩
  | .int i, n, r, h, hs, R => by
    have h2 : i.natAbs.log2 < 1920 := by simpa [pd, PyData.showable] using hs
    refine ⟨?_, vld_of _⟩
    show (Str.ofString (toString i)).length ≤ if i.natAbs < 10 ^ 20 then 21 else 2000
    rw [ofString_length]
    split
    · rename_i h3
      exact int_text_length_le10 (by decide) h3
    · have := int_text_length_le (k := 1920) (by decide) h2
      omega
  | .str x, n, r, h, hs, R => by
    have ok : SOk x := R.2
    have v := vld_all.mp ok.2
    exact ⟨StrLaws.reprText_len x fun c hc => by have := v c hc; omega, vld_repr v⟩
  | .tup xs, n, r, h, hs, R => by
    cases n with
    | zero => cases h
    | succ n =>
      rw [Rep.tup_iff] at R
      obtain ⟨a, vs, rfl, t, q⟩ := R
      obtain ⟨g1, g2⟩ := shws_ok xs n vs h (by simpa [pd, PyData.showable] using hs) q
      have e : shw (.tup xs) = tupleText (PyData.shownAll (pds xs)) := rfl
      rw [e]
      refine ⟨?_, ?_⟩
      · have := fmt_text (PyData.shownAll (pds xs))
        show _ ≤ rlens xs + 3
        omega
      · unfold tupleText
        exact vld_append (vld_append (vld_of _) (vld_join (vld_of _) _ g2)) (vld_of _)
  | .lst xs, n, r, h, hs, R => by
    cases n with
    | zero => cases h
    | succ n =>
      rw [Rep.lst_iff] at R
      obtain ⟨a, vs, rfl, t, q⟩ := R
      obtain ⟨g1, g2⟩ := shws_ok xs n vs h (by simpa [pd, PyData.showable] using hs) q
      have e : shw (.lst xs) = listText (PyData.shownAll (pds xs)) := rfl
      rw [e]
      refine ⟨?_, ?_⟩
      · have := list_text_le (PyData.shownAll (pds xs))
        show _ ≤ rlens xs + 3
        omega
      · unfold listText
        exact vld_append (vld_text _ 0 _ (vld_of _) g2) (vld_of _)
  | .obj _, n, r, h, hs, R => by cases h
  | .scr _, n, r, h, hs, R => by cases h
theorem shws_ok {K : Fw} {H : Hp} {M : Mp} : ∀ (xs : List EV) (n : Nat) (rs : List V), okds xs n = true → PyData.showableAll (pds xs) = true → Reps K H M xs rs → piled (PyData.shownAll (pds xs)) ≤ rlens xs ∧ ∀ t ∈ PyData.shownAll (pds xs), Vld t
  | [], n, rs, h, hs, R => ⟨Nat.le_refl _, fun t ht => nomatch ht⟩
  | x :: xs, n, rs, h, hs, R => by
    rw [Reps.cons_iff] at R
    obtain ⟨v, r, rfl, R1, R2⟩ := R
    have h : (okd x n && okds xs n) = true := h
    have hs : ((pd x).showable && PyData.showableAll (pds xs)) = true := hs
    rw [Bool.and_eq_true] at h hs
    obtain ⟨a1, a2⟩ := shw_ok x n v h.1 hs.1 R1
    obtain ⟨b1, b2⟩ := shws_ok xs n r h.2 hs.2 R2
    have e : PyData.shownAll (pds (x :: xs)) = shw x :: PyData.shownAll (pds xs) := rfl
    rw [e]
    refine ⟨?_, fun t ht => ?_⟩
    · rw [piled_cons]
      show _ ≤ rlen x + 2 + rlens xs
      omega
    · rcases List.mem_cons.mp ht with rfl | ht
      · exact a2
      · exact b2 t ht
end
section
variable {X : Cx}
/-- repr(x), x data, where no text is under way -/
theorem rp_repr (hg : X.A.guards = some []) (hu : X.A.units + 65 < cLine) : CallR X (.builtin "repr") (rP X.kw reprf) := by
  intro pins s σ H xs us Q I r h
  obtain ⟨W, vs, M, st, S, R1, p⟩ := h
  unfold reprf at p
  split at p
  · rename_i v
    obtain ⟨x, rfl, R⟩ := R1.inv1
    split at p
    · rename_i hh
      rw [Bool.and_eq_true, Bool.and_eq_true, decide_eq_true_eq] at hh
      obtain ⟨⟨h1, h2⟩, h3⟩ := hh
      obtain ⟨u, rfl, ru⟩ := vals1 r
      obtain ⟨dp, cl⟩ := look_dp S R h1
      obtain ⟨as, rd⟩ := Dp.reads I _ x u dp ru
      have hd := pd_depth _ 60 h1
      have lk : (shw (look st v)).length ≤ rlen (look st v) ∧ Vld (shw (look st v)) := by
        by_cases hv : ∃ n, v = .obj n
        · obtain ⟨n, rfl⟩ := hv
          obtain ⟨a, rfl, ea⟩ : ∃ a, x = .ref a ∧ M.ad[n]? = some a := R
          have e0 : look st (.obj n) = match st[n]? with
            | some (.lst xs) => .lst xs
            | _ => .obj n := rfl
          rw [e0] at h1 h2 ⊢
          cases e : st[n]? with
          | none => rw [e] at h1; cases h1
          | some o =>
            cases o with
            | dct _ _ => rw [e] at h1; cases h1
            | lst ys =>
              rw [e] at h1 h2
              obtain ⟨ws, w1, w2, w3⟩ := S.at_ n a _ ea e
              have h1 : okds ys 59 = true := h1
              obtain ⟨g1, g2⟩ := shws_ok ys 59 ws h1 (by simpa [pd, PyData.showable] using h2) w3
              have e : shw (.lst ys) = listText (PyData.shownAll (pds ys)) := rfl
              show (shw (.lst ys)).length ≤ rlen (.lst ys) ∧ Vld (shw (.lst ys))
              rw [e]
              refine ⟨?_, ?_⟩
              · have := list_text_le (PyData.shownAll (pds ys))
                show _ ≤ rlens ys + 3
                omega
              · unfold listText
                exact vld_append (vld_text _ 0 _ (vld_of _) g2) (vld_of _)
        · have e : look st v = v := by
            cases v with
            | obj n => exact absurd ⟨n, rfl⟩ hv
            | _ => rfl
          rw [e] at h1 h2 ⊢
          exact shw_ok v 60 x h1 h2 R
      have sok : SOk (shw (look st v)) := ⟨by rw [← big_eq]; exact Nat.le_trans lk.1 h3, vld_all.mpr lk.2⟩
      have p' : KV X.kw H M Q (.str (shw (look st v))) st := p
      have fin : ∀ (u' : Tok) (s' : Shared), Inv X pins σ H s' → EP X pins σ Q (.str (shw (look st v)) u') s' := fun u' s' I' => ⟨.str _, H, I', ⟨u', rfl⟩, KV.same p' S ⟨rfl, sok⟩⟩
      have hnd : (pd (look st v)).hasDict = false := PyData.hasDict_of_canLay _ cl
      cases u with
      | ref a => exact repr_of_reads' rd h2 (PyData.noDict_hsm hnd) hg (by omega) (fun _ _ e => e) (fun h' u tk hk => fin u _ (I.kept hk)) sok.1
      | int i t =>
        have e : pd (look st v) = .int i := by generalize pd (look st v) = d at rd; cases rd; rfl
        have e2 : shw (look st v) = toString i := by unfold shw; rw [e]; rfl
        rw [e2] at fin
        rw [e] at h2
        exact P.repr_of_int (by simpa [PyData.showable] using h2) (fin _ _ (I.tok _))
      | str y t =>
        have e : pd (look st v) = .str y := by generalize pd (look st v) = d at rd; cases rd; rfl
        have e2 : shw (look st v) = reprText y := by unfold shw; rw [e]; rfl
        rw [e2] at fin sok
        exact P.repr_of_str (fin _ _ (I.tok _)) sok.1
      | bool b =>
        have e : pd (look st v) = .bool b := by generalize pd (look st v) = d at rd; cases rd; rfl
        have e2 : shw (look st v) = if b then Str.ofString "True" else Str.ofString "False" := by unfold shw; rw [e]; cases b <;> rfl
        rw [e2] at fin
        exact P.repr_of_bool (fin _ _ (I.tok _))
      | none =>
        have e : pd (look st v) = .none := by generalize pd (look st v) = d at rd; cases rd; rfl
        have e2 : shw (look st v) = "None" := by unfold shw; rw [e]; rfl
        rw [e2] at fin
        exact P.repr_of_none (fin _ _ (I.tok _))
      | _ => exact (by generalize pd (look st v) = d at rd; cases rd)
    · exact p.elim
  · exact p.elim
end
end Pm

end
section
/-! Sorting: what does not lean on the order of what is sorted. -/
namespace Po
open PySem Pm
open PySem.W (alike alikeAll dataLt dataLe keyToks keyToksAll toks_eqv lex_pre)
open PyProof.Rows (itemOrd lexLt lex_trans lex_negTrans lex_total lex_irrefl)
mutual
theorem veq_eq : ∀ (a b : EV), vlike a b = true → veq a b = true → a = b
  | .non, b, h, e => by cases b <;> first | rfl | cases h
  | .bl x, b, h, e => by
    cases b with
    | bl y => rw [veq, beq_iff_eq] at e; rw [e]
    | _ => cases h
  | .int x, b, h, e => by
    cases b with
    | int y => rw [veq, beq_iff_eq] at e; rw [e]
    | _ => cases h
  | .str x, b, h, e => by
    cases b with
    | str y => rw [veq, beq_iff_eq] at e; rw [e]
    | _ => cases h
  | .tup xs, b, h, e => by
    cases b with
    | tup ys => rw [veq] at e; rw [veqs_eq xs ys h e]
    | _ => cases h
  | .lst xs, b, h, e => by
    cases b with
    | lst ys => rw [veq] at e; rw [veqs_eq xs ys h e]
    | _ => cases h
  | .obj _, b, h, e => by cases b <;> cases h
  | .scr _, b, h, e => by cases b <;> cases h
theorem veqs_eq : ∀ (xs ys : List EV), vlikes xs ys = true → veqs xs ys = true → xs = ys
  | [], [], _, _ => rfl
  | [], y :: ys, _, e => by cases e
  | x :: xs, [], _, e => by cases e
  | x :: xs, y :: ys, h, e => by
    have h : (vlike x y && vlikes xs ys) = true := h
    rw [veqs] at e
    rw [Bool.and_eq_true] at h e
    rw [veq_eq x y h.1 e.1, veqs_eq xs ys h.2 e.2]
end
def dle : EV → EV → Bool := dataLe false pd
theorem dle_eq (a b : EV) : dle a b = !dataLt (pd b) (pd a) := rfl
theorem dle_total (a b : EV) : (dle a b || dle b a) = true := by
  rw [dle_eq, dle_eq]
  cases h1 : dataLt (pd b) (pd a) with
  | false => rfl
  | true =>
    cases h2 : dataLt (pd a) (pd b) with
    | false => rfl
    | true =>
      have := lex_trans _ _ _ h1 h2
      rw [lex_irrefl] at this
      cases this
theorem dle_trans (a b c : EV) (h1 : dle a b = true) (h2 : dle b c = true) : dle a c = true := by
  rw [dle_eq] at *
  cases h : dataLt (pd c) (pd a) with
  | false => rfl
  | true =>
    rcases lex_negTrans _ (keyToks (pd b)) _ h with q | q
    · have q : dataLt (pd c) (pd b) = true := q
      rw [q] at h2; cases h2
    · have q : dataLt (pd b) (pd a) = true := q
      rw [q] at h1; cases h1
theorem dle_anti {a b : EV} {n m : Nat} (ha : okd a n = true) (hb : okd b m = true) (hl : vlike a b = true) (h1 : dle a b = true) (h2 : dle b a = true) : a = b := by
  rw [dle_eq] at h1 h2
  have h1 : dataLt (pd b) (pd a) = false := by simpa using h1
  have h2 : dataLt (pd a) (pd b) = false := by simpa using h2
  have hk := lex_total _ _ h2 h1
  have al := alike_pd a b n m ha hb hl
  have ev := veq_pd a b n m ha hb
  refine veq_eq a b hl ?_
  rw [← ev]
  cases he : PyData.eqv (pd a) (pd b) with
  | true => rfl
  | false =>
    have q := (toks_eqv _ _ al).2 he [] [.inl 0]
    rw [hk, lex_irrefl, lex_pre] at q
    cases q
/-- can be sorted: any order of it can -/
theorem srt_perm {xs ys : List EV} (p : xs.Perm ys) (h : srtOk xs = true) : srtOk ys = true := by
  unfold srtOk at h ⊢
  rw [Bool.and_eq_true, Bool.or_eq_true, List.all_eq_true, List.all_eq_true, List.all_eq_true] at h ⊢
  refine ⟨fun x hx => ?_, h.2.imp (fun q x hx => q x (p.mem_iff.mpr hx)) fun q x hx => q x (p.mem_iff.mpr hx)⟩
  have := h.1 x (p.mem_iff.mpr hx)
  rw [Bool.and_eq_true, List.all_eq_true] at this ⊢
  exact ⟨this.1, fun y hy => this.2 y (p.mem_iff.mpr hy)⟩
theorem vsort_perm (xs : List EV) : (vsort xs).Perm xs := List.mergeSort_perm ..
theorem vsort_sorted {xs : List EV} (h : srtOk xs = true) : (vsort xs).Pairwise fun a b => dle a b = true := by
  rw [← vsort_pd h]
  exact List.pairwise_mergeSort dle_trans dle_total xs
theorem sorted_unique {xs ys : List EV} (h : srtOk xs = true) (p : xs.Perm ys) (h1 : xs.Pairwise fun a b => dle a b = true) (h2 : ys.Pairwise fun a b => dle a b = true) : xs = ys := by
  refine List.Perm.eq_of_pairwise (fun a b ha hb z1 z2 => ?_) h1 h2 p
  have l1 := (srt_like h).1
  have hb' := p.mem_iff.mpr hb
  exact dle_anti (l1 a ha).1 (l1 b hb').1 ((l1 a ha).2 b hb') z1 z2
/-- the order of what is sorted does not matter -/
theorem vsort_congr {xs ys : List EV} (p : xs.Perm ys) (h : srtOk xs = true) : vsort xs = vsort ys :=
  sorted_unique (srt_perm (vsort_perm xs).symm h) ((vsort_perm xs).trans (p.trans (vsort_perm ys).symm)) (vsort_sorted h) (vsort_sorted (srt_perm p h))
theorem vsort_id {xs : List EV} (h : srtOk xs = true) (hs : xs.Pairwise fun a b => dle a b = true) : vsort xs = xs :=
  sorted_unique (srt_perm (vsort_perm xs).symm h) (vsort_perm xs) (vsort_sorted h) hs
theorem dle_vlt {a b : EV} {n m : Nat} (ha : okd a n = true) (hb : okd b m = true) (hl : vlike b a = true) : dle a b = !vlt b a := by
  rw [dle_eq, vlt_pd b a m n hb ha hl]
/-! ### the least -/
theorem vmin_go {all : List EV} (h : alkOk all = true) : ∀ (xs : List EV) (x : EV), x ∈ all → (∀ y ∈ xs, y ∈ all) →
    vmin x xs ∈ all ∧ dle (vmin x xs) x = true ∧ ∀ y ∈ xs, dle (vmin x xs) y = true
  | [], x, hx, _ => ⟨hx, (show dle x x = true by have := dle_total x x; simpa using this), fun _ h => nomatch h⟩
  | y :: ys, x, hx, hs => by
    have hy := hs y (List.mem_cons_self ..)
    have ht : ∀ z ∈ ys, z ∈ all := fun z hz => hs z (List.mem_cons_of_mem _ hz)
    have ok := alk_ok h
    have e : dle x y = !vlt y x := dle_vlt (ok x hx).1 (ok y hy).1 ((ok y hy).2.2 x hx)
    have e2 : dle y x = !vlt x y := dle_vlt (ok y hy).1 (ok x hx).1 ((ok x hx).2.2 y hy)
    have tt := dle_total x y
    show vmin (if vlt y x then y else x) ys ∈ all ∧ dle (vmin (if vlt y x then y else x) ys) x = true ∧ ∀ z ∈ y :: ys, dle (vmin (if vlt y x then y else x) ys) z = true
    cases hv : vlt y x with
    | true =>
      rw [hv] at e
      rw [e] at tt
      have hyx : dle y x = true := by simpa using tt
      obtain ⟨g1, g2, g3⟩ := vmin_go h ys y hy ht
      rw [if_pos rfl]
      refine ⟨g1, dle_trans _ _ _ g2 hyx, fun z hz => ?_⟩
      rcases List.mem_cons.mp hz with rfl | hz
      · exact g2
      · exact g3 z hz
    | false =>
      rw [hv] at e
      obtain ⟨g1, g2, g3⟩ := vmin_go h ys x hx ht
      rw [if_neg (by simp)]
      refine ⟨g1, g2, fun z hz => ?_⟩
      rcases List.mem_cons.mp hz with rfl | hz
      · exact dle_trans _ _ _ g2 (by simpa using e)
      · exact g3 z hz
theorem vmin_ok {x : EV} {xs : List EV} (h : alkOk (x :: xs) = true) : vmin x xs ∈ x :: xs ∧ ∀ y ∈ x :: xs, dle (vmin x xs) y = true := by
  obtain ⟨g1, g2, g3⟩ := vmin_go h xs x (List.mem_cons_self ..) fun y hy => List.mem_cons_of_mem _ hy
  refine ⟨g1, fun y hy => ?_⟩
  rcases List.mem_cons.mp hy with rfl | hy
  · exact g2
  · exact g3 y hy
/-! ### of data -/
section
variable {β : Type} (g : β → EV)
/-- sorted, as data -/
def tsort (xs : List β) : List β := xs.mergeSort fun a b => !vlt (g b) (g a)
theorem tsort_map (xs : List β) : vsort (xs.map g) = (tsort g xs).map g := (List.map_mergeSort (f := g) (r := fun a b => !vlt (g b) (g a)) (s := fun a b => !vlt b a) fun a _ b _ => rfl).symm
theorem tsort_perm (xs : List β) : (tsort g xs).Perm xs := List.mergeSort_perm ..
theorem map_inj {g : β → EV} (hg : ∀ a b, g a = g b → a = b) : ∀ {xs ys : List β}, xs.map g = ys.map g → xs = ys
  | [], [], _ => rfl
  | [], _ :: _, h => nomatch h
  | _ :: _, [], h => nomatch h
  | x :: xs, y :: ys, h => by
    rw [List.map_cons, List.map_cons] at h
    injection h with h1 h2
    rw [hg x y h1, map_inj hg h2]
theorem tsort_congr {g : β → EV} (hg : ∀ a b, g a = g b → a = b) {xs ys : List β} (p : xs.Perm ys) (h : srtOk (xs.map g) = true) : tsort g xs = tsort g ys := by
  apply map_inj hg
  rw [← tsort_map, ← tsort_map]
  exact vsort_congr (p.map g) h
theorem tsort_sorted {g : β → EV} {xs : List β} (h : srtOk (xs.map g) = true) : (tsort g xs).Pairwise fun a b => vlt (g b) (g a) = false := by
  have h1 := vsort_sorted h
  rw [tsort_map, List.pairwise_map] at h1
  refine h1.imp_of_mem fun {a b} ha hb z => ?_
  have l := (srt_like h).1
  have ha' := (tsort_perm g xs).mem_iff.mp ha
  have hb' := (tsort_perm g xs).mem_iff.mp hb
  have l1 := l _ (List.mem_map_of_mem (f := g) ha')
  have l2 := l _ (List.mem_map_of_mem (f := g) hb')
  rw [dle_vlt l1.1 l2.1 (l2.2 _ (List.mem_map_of_mem (f := g) ha'))] at z
  simpa using z
theorem tsort_id {g : β → EV} (hg : ∀ a b, g a = g b → a = b) {xs : List β} (h : srtOk (xs.map g) = true) (hs : xs.Pairwise fun a b => vlt (g b) (g a) = false) : tsort g xs = xs := by
  apply map_inj hg
  rw [← tsort_map]
  refine vsort_id h ?_
  rw [List.pairwise_map]
  refine hs.imp_of_mem fun {a b} ha hb z => ?_
  have l := (srt_like h).1
  have l1 := l _ (List.mem_map_of_mem (f := g) ha)
  have l2 := l _ (List.mem_map_of_mem (f := g) hb)
  rw [dle_vlt l1.1 l2.1 (l2.2 _ (List.mem_map_of_mem (f := g) ha)), z]; rfl
end
end Po

end
section
set_option maxHeartbeats 2000000
/-! Calls where no text is under way: a def's promise that may lean on it. -/
namespace Pm
open PySem PySem.Spec PyProof.Rows L2
/-- .. as L2.FnOk, for calls where no text is under way -/
structure FnG (P : Program) (w : World) (K : PySem.W.Frag) (mg : Str → Option Value) (base : Heap) (C : CXT) (k : Nat) (f : Addr) (fd : FuncData) (ps : List Str) (sp : Sp) : Prop where
  len : ∀ vs H Q E, sp vs H Q E → vs.length = ps.length
  go : ∀ (A : Around) (outer : List Env) (s : Shared) (H : Hp) (args : Args) (us : List Value) (vs : List V) (Q : VK) (E : XK), A.guards = some [] → Room k A →
    Env0 P w K mg base A outer s H → BindsTo s fd args (ps.zip us) → Vals vs us → sp vs H Q E → codeAny (model P w) A (.call (.ref f) args) (CR C outer P w H s Q E) s
section
variable {X : Cx} {C : CXT} {k : Nat} {f : Addr} {fd : FuncData} {ps : List Str} {sp : Sp} {E : L2.St → XK} {x : Str} {p pos : Pos} {e : Expr} {es : List Expr} {t : TA}
theorem run_fnG {pins : List (Addr × Obj)} {σ : L2.St} {H : Hp} {s : Shared} {Q : VK} {us : List Value} {vs : List V} (F : FnG X.prog X.w X.K X.mg X.base C k f fd ps sp) (gd : X.A.guards = some []) (hr : Room k X.A) (hb : Binds X.K fd ps [])
    (hx : PassesAt C X σ (E σ)) (I : Inv X pins σ H s) (r : Vals vs us) (h : sp vs H Q (E σ)) : wpAny (model X.prog X.w) X.A (call (.ref f) us) (EP X pins σ Q) X.xe s := by
  have bd := hb s us I.kIn (by rw [List.append_nil, ← r.length]; exact F.len _ _ _ _ h)
  rw [List.append_nil] at bd
  refine wpAny_call (codeAny_mono (F.go X.A X.stack s H ⟨us, []⟩ us vs Q (E σ) gd hr I.env0 bd r h) fun res s' hq => ?_)
  match res, hq with
  | .error u, hq => exact hx pins H s u s' I hq
  | .ok (.ret u), hq => exact I.after hq
  | .ok .next, hq => exact False.elim hq
  | .ok .brk, hq => exact False.elim hq
  | .ok .cont, hq => exact False.elim hq
theorem pe_callG (F : FnG X.prog X.w X.K X.mg X.base C k f fd ps sp) (gd : X.A.guards = some []) (hr : Room k X.A) (hg : Gl X x) (hm : X.mg x = some (.ref f)) (hk : PySem.W.keepIn X.K (.ref f) = true) (hb : Binds X.K fd ps [])
    (hx : ∀ σ, PassesAt C X σ (E σ)) (ha : PA X (e :: es) t) (hdb : (x == ("__debug__" : Str)) = false) (he : starEach (e :: es) X.env = (false, eval e X.env) :: starEach es X.env)
    (hpl : (backTo pos (starEach es X.env)).any (·.1) = false) : PE X (.Call (.Name x p) (e :: es) [] pos) (tCallS sp E t) :=
  ⟨fun pins s σ H Q I h => wpAny_Call_Name_kw (ld_glob I hg hm (PySem.W.callWith_K (h₀ := X.base) I.ok.mod.kin hk
    (thn (ha.run pos pins s σ H _ I h) fun us s1 ⟨vs, H1, I1, r, q⟩ => ⟨I1.kIn, run_fnG F gd hr hb (hx σ) I1 r q⟩) he hpl) hdb)⟩
end
/-- a def of the text, by its body, where no text is under way -/
theorem fnG_of {C : CXT} {P : Program} {w : World} {K : PySem.W.Frag} {mg : Str → Option Value} {base : Heap} {k : Nat} {f : Addr} {x qual : Str} {params : Arguments} {body : List Stmt} {scope : Scope} {dvs : List V} {kws : List (Str × V)} {fd : FuncData} {N ps : List Str} {sp : Sp}
    (F : FunD K x qual params body scope dvs kws f fd) (S : FnScope N ps scope) (len : ∀ vs H Q E, sp vs H Q E → vs.length = ps.length)
    (hbody : ∀ (cdv : Value) (A : Around) (outer : List Env) (s : Shared) (H : Hp) (vs : List V) (Q : VK) (E : XK), A.guards = some [] → Room k (A.deeper (envOfC qual scope s.heap.objs.size f cdv)) → sp vs H Q E →
      ∃ t, PSs (cxOf C P w K mg base N qual scope f cdv A outer s H E) body t ∧ t { nx := fun _ H' => Q .non H', rt := Q } (L2.start N vs) H) : FnG P w K mg base C (k + 1) f fd ps sp := by
  obtain ⟨oc, od, dV, kV, doc, pm, an, cdv, ct, osl, rfl, lk, hcd, _, _⟩ := F.ex
  refine ⟨len, fun A outer s H args us vs Q E gd hr e0 hb r hsp => ?_⟩
  have KX : K.In s.heap := e0.mod.kin.keeps fun b o e => (e0.bs b o e).1
  have lim : s.heap.NoLimit := e0.mod.nolimit.keeps fun b o e => (e0.bs b o e).1
  have kinds : ∀ y ∈ ps.zip us, scope.names.lookup y.1 = some .local ∨ (scope.names.lookup y.1 = some .cell ∧ ((cellsFrom (s.heap.objs.size + 1) scope.names []).lookup y.1).isSome = true) := by
    rintro ⟨n, v⟩ hy
    exact (S.par n (List.of_mem_zip hy).1).imp id fun q => ⟨q, PySem.W.cellsFrom_some _ _ _ (.inl q)⟩
  refine codeAny_call_function hr.depth (KX _ _ lk) rfl S.co S.gen rfl (PySem.W.codeRec_of KX hcd)
    (hb _ _ _ _ (wpAny_newFunctionEnv_cells S.kind kinds fun env he s1 y => ?_))
  subst he
  refine ⟨lim.keeps y.toInCall.keep, codeAny_func ?_⟩
  obtain ⟨t, ht, hq⟩ := hbody cdv A outer s H vs Q E gd (hr.deeper _) hsp
  have I := inv_start (CX := C) (f := f) (cd := cdv) (qual := qual) (E := E) S hr.hd e0 (len _ _ _ _ hsp) r y
  refine wpAny_mono (ht.run [] s1 (L2.start N vs) H _ I hq)
    (fun fl s' hs => ?_) fun e s' hs => hs
  match fl, hs with
  | .ret u, hs =>
    obtain ⟨v, σ', H', J, rv, q⟩ := hs
    exact ⟨v, H', J.os, J.bare, J.base, J.hok, rv, q⟩
  | .next, hs =>
    obtain ⟨σ', H', J, q⟩ := hs
    exact ⟨.non, H', J.os, J.bare, J.base, J.hok, rfl, q⟩
  | .brk, hs =>
    obtain ⟨_, _, _, q⟩ := hs
    exact q.elim
  | .cont, hs =>
    obtain ⟨_, _, _, q⟩ := hs
    exact q.elim
/-- the law's call, from such a promise -/
theorem law_callG {P : Program} {w : World} {K : PySem.W.Frag} {mg mb : Str → Option Value} {C : CXT} {k : Nat} {fa a : Addr} {fd : FuncData} {x : Str} {sp : Sp} {s₁ : Shared} {vs : List Value} {ns : List Int}
    (KX : K.In s₁.heap) (hns : s₁.heap.Ns mainGlobals mg) (hb : s₁.heap.Ns builtinsNs mb) (hbb : ∀ x : Str, x ≠ "__name__" → mb x = bootBuiltins x) (hlim : s₁.heap.NoLimit) (hg : s₁.gens = #[])
    (ha : s₁.heap.get? a = some { cls := .type "list", data := .seq vs.toArray }) (hi : IntsAre vs ns) (hl : ns.length ≤ sizeLine) (hr : Room k callerA)
    (F : ∀ base : Heap, K.In base → base.Ns mainGlobals mg → FnG P w K mg base C k fa fd [x] sp) (hbind : ∀ (s : Shared) (u : Value), BindsTo s fd ⟨[u], []⟩ [(x, u)])
    (hsp : ∀ H : Hp, Only H → SqL K H a (ns.map V.int) → sp [.ref a] H (fun v _ => v = .bl true) fun _ _ _ => False) (hCX : ∀ H e s', C [] H s₁ (fun _ _ _ => False) e s' → False) :
    codeAny (model P w) callerA (.call (.ref fa) ⟨[.ref a], []⟩) (fun r s' => r = .ok (.ret (.bool true)) ∧ OldK s₁.heap s'.heap ∧ s'.os = s₁.os ∧ AllBare s'.gens) s₁ := by
  have rv := vals_ints hi
  have lenV := hi.length
  have core : ∀ H : Hp, Only H → SqL K H a (ns.map V.int) → HOk P w H s₁.heap → (∀ b, H b ≠ none → b = a) → (H a ≠ none → K.lookup a = none) →
      codeAny (model P w) callerA (.call (.ref fa) ⟨[.ref a], []⟩) (fun r s' => r = .ok (.ret (.bool true)) ∧ OldK s₁.heap s'.heap ∧ s'.os = s₁.os ∧ AllBare s'.gens) s₁ := fun H hO hS hok hA hK => by
    have away : ∀ {b : Addr} {o : Obj}, s₁.heap.get? b = some o → (∀ u, H b = some u → False) → (hidT s₁.heap H).get? b = some o := fun {b o} e n => hidT_get e (by
      cases q : H b with
      | none => rfl
      | some u => exact (n u q).elim)
    have nsK : ∀ {b : Addr} {m : Str → Option Value}, s₁.heap.Ns b m → (hidT s₁.heap H).Ns b m := fun {b m} ⟨o, es, ep, e, d, r⟩ => ⟨o, es, ep, away e (fun u q => by
      obtain rfl : b = a := hA b (by rw [q]; simp)
      have e2 := e.symm.trans ha
      cases e2
      cases d), d, r⟩
    have hKb : K.In (hidT s₁.heap H) := fun b o e => away (KX b o e) (fun u q => by
      obtain rfl : b = a := hA b (by rw [q]; simp)
      have e2 := (hK (by rw [q]; simp)).symm.trans e
      cases e2)
    have hM : Mod K mg (hidT s₁.heap H) := ⟨hKb, nsK hns, ⟨mb, nsK hb, hbb⟩, by
      obtain ⟨mc, h1, h2⟩ := hlim
      exact ⟨mc, nsK h1, h2⟩⟩
    have e0 : Env0 P w K mg (hidT s₁.heap H) callerA [] s₁ H := ⟨rfl, hM, fun b o e => of_hidT e, Nat.le_of_eq (hidT_size _ _), trivial, fun b hb => (nomatch (show b ∈ ([] : List Addr) from hb)), hok, .of_eq hg⟩
    have run := (F _ hKb (nsK hns)).go callerA [] s₁ H ⟨[.ref a], []⟩ [.ref a] [.ref a] _ _ rfl hr e0 (hbind s₁ (.ref a)) (.cons rfl .nil) (hsp H hO hS)
    refine codeAny_mono run fun r s' h => ?_
    match r, h with
    | .error e, h => exact (hCX H e s' h).elim
    | .ok .next, h => exact False.elim h
    | .ok .brk, h => exact False.elim h
    | .ok .cont, h => exact False.elim h
    | .ok (.ret u), h =>
      obtain ⟨v, H', os, bare, un, hok', r', q⟩ := h
      obtain rfl : v = .bl true := q
      obtain rfl : u = Value.bool true := r'
      refine ⟨rfl, OldK.of_keep fun b o e => ?_, os, bare⟩
      cases q : H b with
      | none => exact un.keep b o e q (fun z => nomatch (show b ∈ ([] : List Addr) from z)) (by simp)
      | some u =>
        rcases hO b with z | ⟨ob, xs, z⟩
        · exact nomatch q.symm.trans z
        · have g1 := (hok b _ z).1
          have g2 := (hok' b _ (un.frzs b ob _ z)).1
          have g3 := Option.some.inj (e.symm.trans g1)
          rw [g3]; exact g2
  cases hk : K.lookup a with
  | some o =>
    obtain rfl := Option.some.inj (ha.symm.trans (KX a o hk))
    exact core (fun _ => none) (fun _ => .inl rfl)
      (.inr ⟨_, vs.toArray, _, hk, rfl, rfl, rfl, by rw [List.size_toArray, lenV]; exact hl, by simpa using rv⟩)
      (fun b u z => nomatch (show (none : Option HO) = some u from z)) (fun b z => (z rfl).elim) fun z => (z rfl).elim
  | none =>
    let H : Hp := fun b => if b = a then some (.frz { cls := .type "list", data := .seq vs.toArray } (.lst (ns.map V.int))) else none
    have Ha : H a = some (.frz { cls := .type "list", data := .seq vs.toArray } (.lst (ns.map V.int))) := if_pos rfl
    have Hn : ∀ b, b ≠ a → H b = none := fun b hb => if_neg hb
    refine core H (fun b => ?_) (.inl (.inr ⟨_, Ha⟩)) (fun b u z => ?_) (fun b z => ?_) fun _ => hk
    · by_cases hb : b = a
      · subst hb; exact .inr ⟨_, _, Ha⟩
      · exact .inl (Hn b hb)
    · by_cases hb : b = a
      · subst hb
        obtain rfl := Option.some.inj (Ha.symm.trans z)
        exact ⟨ha, by rw [List.length_map]; exact hl, vs, _, rv, ha⟩
      · exact nomatch (Hn b hb).symm.trans z
    · exact Classical.byContradiction fun hb => z (Hn b hb)
/-- a law's end, from such a promise -/
theorem walk_ofG {l : PySem.W.OpenLaw} {n k : Nat} {q : Program} {loose : List Str} {XP : (Str → Option Value) → Heap → Prop} {YP : World → Heap → Prop} {d : DefRec} {C : CXT} {x : Str}
    (hn : l.most = some n) (hn2 : n ≤ sizeLine) (hdf : d.params.defaults = []) (hr : Room k callerA)
    (F : ∀ (w : World) (mg : Str → Option Value) (fa : Addr) (h : Heap), YP w h → h.Ns mainGlobals mg → mg d.name = some (.ref fa) → ∃ (K : PySem.W.Frag) (fd : FuncData) (sp : Sp), K.In h ∧ (∀ (s : Shared) (u : Value), BindsTo s fd ⟨[u], []⟩ [(x, u)]) ∧
        (∀ (H : Hp) (a : Addr) (ns : List Int), ns.length ≤ n → Only H → SqL K H a (ns.map V.int) → sp [.ref a] H (fun v _ => v = .bl true) fun _ _ _ => False) ∧
        ∀ base : Heap, K.In base → base.Ns mainGlobals mg → FnG l.prog w K mg base C k fa fd [x] sp)
    (hCX : ∀ (H : Hp) (s : Shared) (e : Value) (s' : Shared), C [] H s (fun _ _ _ => False) e s' → False) : PySem.W.WalkO q loose XP YP l.row.toRowW d [] (fun f vs => PySem.call f vs) :=
  Att.attach_call hn hdf fun w s₀ s₁ mg mb fa o pm cd doc a vs ns G Y ho hd hcd hmg hobj hints hlen hg => by
    obtain ⟨K, fd, sp, KX, hb, hsp, hF⟩ := F w mg fa s₁.heap Y G.T.g hmg
    exact law_callG KX G.T.g G.T.b G.T.builtins G.T.nolimit hg hobj hints (Nat.le_trans hlen hn2) hr hF hb
      (fun H hO hS => hsp H a ns hlen hO hS) fun H e s' => hCX H s₁ e s'
end Pm

end
section
set_option maxHeartbeats 2000000
/-! sorted(set(xs)), xs a list of tuples of numbers. -/
namespace Pm
open PySem L2
open PySem.W (EachIs)
open PyProof.Rows (seqObj)
theorem intsOf_iff : ∀ {xs : List EV} {n : List Int}, intsOf xs = some n → xs = n.map EV.int
  | [], n, h => by cases h; rfl
  | .int i :: r, n, h => by
    unfold intsOf at h
    obtain ⟨q, h1, rfl⟩ := Option.map_eq_some_iff.mp h
    rw [intsOf_iff h1]; rfl
  | .non :: _, _, h => by cases h
  | .bl _ :: _, _, h => by cases h
  | .str _ :: _, _, h => by cases h
  | .tup _ :: _, _, h => by cases h
  | .lst _ :: _, _, h => by cases h
  | .obj _ :: _, _, h => by cases h
  | .scr _ :: _, _, h => by cases h
theorem tupsOf_iff : ∀ {xs : List EV} {n : List (List Int)}, tupsOf xs = some n → xs = n.map tupE
  | [], n, h => by cases h; rfl
  | .tup ys :: r, n, h => by
    unfold tupsOf at h
    obtain ⟨q, h1, h2⟩ := Option.bind_eq_some_iff.mp h
    obtain ⟨p, h3, rfl⟩ := Option.map_eq_some_iff.mp h2
    rw [tupsOf_iff h3, intsOf_iff h1]; rfl
  | .non :: _, _, h => by cases h
  | .bl _ :: _, _, h => by cases h
  | .str _ :: _, _, h => by cases h
  | .int _ :: _, _, h => by cases h
  | .lst _ :: _, _, h => by cases h
  | .obj _ :: _, _, h => by cases h
  | .scr _ :: _, _, h => by cases h
theorem mem_once {x : List Int} : ∀ {ns : List (List Int)}, x ∈ once ns ↔ x ∈ ns
  | [] => Iff.rfl
  | y :: r => by
    unfold once
    by_cases h : y ∈ r
    · rw [if_pos h, mem_once, List.mem_cons]
      exact ⟨.inr, fun z => z.elim (fun e => e ▸ h) id⟩
    · rw [if_neg h, List.mem_cons, List.mem_cons, mem_once]
theorem once_nodup : ∀ (ns : List (List Int)), (once ns).Nodup
  | [] => .nil
  | y :: r => by
    unfold once
    by_cases h : y ∈ r
    · rw [if_pos h]; exact once_nodup r
    · rw [if_neg h, List.nodup_cons, mem_once]
      exact ⟨h, once_nodup r⟩
theorem once_perm {ns ms : List (List Int)} (hn : ms.Nodup) (h : ∀ x, x ∈ ms ↔ x ∈ ns) : ms.Perm (once ns) :=
  (List.perm_ext_iff_of_nodup hn (once_nodup ns)).mpr fun x => (h x).trans mem_once.symm
section
variable {X : Cx}
/-- sorted(a set) -/
def rSS (X : Cx) : List V → Hp → VK → Prop := fun xs H Q => ∃ (a : Addr) (L : List (Addr × List Int)) (ns : List (List Int)) (M : Mp) (st : Sto), xs = [V.ref a] ∧ H a = some (SetTO X.prog X.w a L) ∧ StOk X.kw H M st ∧ (∀ p ∈ L, Rep X.kw H M (tupE p.2) (V.ref p.1)) ∧
  (∀ x, x ∈ L.map (·.2) ↔ x ∈ ns) ∧ srtOk ((once ns).map tupE) = true ∧ KV X.kw H M Q (.lst (vsort ((once ns).map tupE))) st
theorem perm_pre {α β : Type} {f : α → β} : ∀ (vs : List β) (L : List α), vs.Perm (L.map f) → ∃ L1 : List α, vs = L1.map f ∧ L1.Perm L
  | [], L, h => by
    have : L = [] := by
      have := h.length_eq
      cases L with
      | nil => rfl
      | cons _ _ => simp at this
    exact ⟨[], rfl, this ▸ .refl _⟩
  | v :: vs, L, h => by
    obtain ⟨p, hp, rfl⟩ := List.mem_map.mp (h.mem_iff.mp (List.mem_cons_self ..))
    obtain ⟨s, t, rfl⟩ := List.append_of_mem hp
    have h2 : vs.Perm ((s ++ t).map f) := by
      have q : (f p :: vs).Perm (f p :: (s ++ t).map f) := h.trans (by
        rw [List.map_append, List.map_cons, List.map_append]
        exact List.perm_middle)
      exact q.cons_inv
    obtain ⟨L1, e, q⟩ := perm_pre vs (s ++ t) h2
    exact ⟨p :: L1, by rw [e]; rfl, (q.cons p).trans List.perm_middle.symm⟩
theorem reps_tups {H : Hp} {M : Mp} : ∀ {ns : List (List Int)} {ws : List V}, Reps X.kw H M (ns.map tupE) ws → ∃ ks : List (Addr × List Int), ws = ks.map (fun p => V.ref p.1) ∧ ks.map (·.2) = ns ∧ ∀ p ∈ ks, Rep X.kw H M (tupE p.2) (V.ref p.1)
  | [], ws, h => by
    have := (Reps.nil_iff ..).mp h
    exact ⟨[], this, rfl, fun _ h => nomatch h⟩
  | n :: ns, ws, h => by
    rw [List.map_cons, Reps.cons_iff] at h
    obtain ⟨v, r, rfl, R1, R2⟩ := h
    obtain ⟨ks, e1, e2, e3⟩ := reps_tups R2
    have R0 := R1
    unfold tupE at R1
    rw [Rep.tup_iff] at R1
    obtain ⟨b, vs, rfl, t, q⟩ := R1
    refine ⟨(b, n) :: ks, by rw [e1]; rfl, by rw [List.map_cons, e2], fun p hp => ?_⟩
    rcases List.mem_cons.mp hp with rfl | hp
    · exact R0
    · exact e3 p hp
theorem tups_reps {H : Hp} {M : Mp} : ∀ {ks : List (Addr × List Int)}, (∀ p ∈ ks, Rep X.kw H M (tupE p.2) (V.ref p.1)) → Reps X.kw H M (ks.map fun p => tupE p.2) (ks.map fun p => V.ref p.1)
  | [], _ => (Reps.nil_iff ..).mpr rfl
  | p :: ks, h => by
    rw [List.map_cons, List.map_cons, Reps.cons_iff]
    exact ⟨_, _, rfl, h p (List.mem_cons_self ..), tups_reps fun q hq => h q (List.mem_cons_of_mem _ hq)⟩
theorem rep_sqT {H : Hp} {M : Mp} {a : Addr} {n : List Int} (h : Rep X.kw H M (tupE n) (V.ref a)) : SqT X.K H a (n.map V.int) := by
  unfold tupE at h
  rw [Rep.tup_iff] at h
  obtain ⟨b, vs, e, t, q⟩ := h
  cases e
  have : vs = n.map V.int := by
    clear t
    induction n generalizing vs with
    | nil => exact (Reps.nil_iff ..).mp q
    | cons i n ih =>
      rw [List.map_cons, Reps.cons_iff] at q
      obtain ⟨v, r, rfl, R1, R2⟩ := q
      rw [ih r R2]
      have R1 : v = .int i := R1
      rw [R1]; rfl
  exact this ▸ t.sq
theorem rp_sortedS (hc : X.calm = true) (hu : X.A.units + 65 < cLine) : CallR X (.builtin "sorted") (rSS X) := by
  intro pins s σ H xs us Q I r h
  obtain ⟨a, L, ns, M, st, rfl, ha, S, hL, hm, hs, p⟩ := h
  rw [Vals.ref1 r]
  have R0 : SetT0 X.prog X.w s.heap a L := (I.hok a _ ha).1
  obtain ⟨es, ep, t, R⟩ := R0.full fun p hp => I.isT (rep_sqT (hL p hp))
  obtain ⟨o, ho, hex, hd⟩ := R.ob
  have hsz := R.size
  have hfew := R.few
  refine Calls.call_function_entry PyProof.Rows.kind_sorted PyProof.Rows.plain_sorted PyProof.Rows.entry_sorted (PyProof.Rows.args_sorted1 _) ?_
  unfold Builtin.«sorted»
  refine wpAny_bind (m := checkCount "sorted" 1 1 _) (wpAny_pure ?_)
  refine wpAny_bind (collect_set (A := X.A.in1) (I.ok.hd hc) ⟨o, ho, hex.1, hd⟩ R.fits (by unfold scanBound; omega) R.tab.ris R.led fun s1 vs k1 hz g1 o1 pm => ?_)
  have hes : es.toList.map (·.2) = L.map fun q => Value.ref q.1 := by
    rw [R.rows]
    unfold rowsOf
    rw [List.map_map]; rfl
  rw [hes] at pm
  have I1 : Inv X pins σ H s1 := I.call' (ch := []) o1 (Un.kept k1) (I.hok.kept k1) (by rw [g1]; exact I.bare) (fun _ z => nomatch z)
  obtain ⟨L1, e1, p1⟩ := perm_pre vs L pm
  have pn : (L1.map fun p => tupE p.2).Perm ((once ns).map tupE) := by
    have := (once_perm R.nd hm).map tupE
    rw [List.map_map] at this
    exact (p1.map _).trans this
  have ks1 : srtOk (L1.map fun p => tupE p.2) = true := Po.srt_perm pn.symm hs
  have ea : EachIs (RepB X.kw H M) vs (L1.map fun p => tupE p.2) := by
    rw [e1]
    exact each_of (vals_of_refs L1) (tups_reps fun p hp => hL p (p1.mem_iff.mp hp))
  have hlen : vs.length ≤ sizeLine := by
    rw [e1, List.length_map, p1.length_eq, sizeLine_eq]; omega
  have p2 : KV X.kw H M Q (.lst (vsort (L1.map fun p => tupE p.2))) st := by
    rw [Po.vsort_congr pn ks1]; exact p
  refine wpAny_bind (wpAny_newList ?_ hlen)
  refine wpAny_bind (wpAny_holding (wpAny_mono (sort_keys (W := fun _ _ _ => False) (tk := s1.toks) hu I1 S ks1 ea (by
    rw [List.length_map, ← List.length_map (f := fun q => Value.ref q.1), ← e1]; exact hlen) p2 (fun _ _ e => e)) (fun _ s' x => ?_) fun _ _ e => e))
  exact wpAny_pure ⟨_, rfl, x⟩
end
end Pm

end
section
set_option maxHeartbeats 2000000
/-! all(xs), str(i), s.join(xs), xs.pop(). -/
namespace Pm
open PySem L2
theorem bitsOf_iff : ∀ {xs : List EV} {n : List Bool}, bitsOf xs = some n → xs = n.map EV.bl
  | [], n, h => by cases h; rfl
  | .bl i :: r, n, h => by
    unfold bitsOf at h
    obtain ⟨q, h1, rfl⟩ := Option.map_eq_some_iff.mp h
    rw [bitsOf_iff h1]; rfl
  | .non :: _, _, h => by cases h
  | .int _ :: _, _, h => by cases h
  | .str _ :: _, _, h => by cases h
  | .tup _ :: _, _, h => by cases h
  | .lst _ :: _, _, h => by cases h
  | .obj _ :: _, _, h => by cases h
  | .scr _ :: _, _, h => by cases h
theorem textsOf_iff : ∀ {xs : List EV} {n : List Str}, textsOf xs = some n → xs = n.map EV.str
  | [], n, h => by cases h; rfl
  | .str i :: r, n, h => by
    unfold textsOf at h
    obtain ⟨q, h1, rfl⟩ := Option.map_eq_some_iff.mp h
    rw [textsOf_iff h1]; rfl
  | .non :: _, _, h => by cases h
  | .int _ :: _, _, h => by cases h
  | .bl _ :: _, _, h => by cases h
  | .tup _ :: _, _, h => by cases h
  | .lst _ :: _, _, h => by cases h
  | .obj _ :: _, _, h => by cases h
  | .scr _ :: _, _, h => by cases h
section
variable {K : Fw} {H : Hp} {M : Mp}
theorem reps_bits : ∀ {bs : List Bool} {vs : List V}, Reps K H M (bs.map EV.bl) vs → vs = bs.map V.bl
  | [], vs, h => by rw [List.map_nil, Reps.nil_iff] at h; exact h
  | b :: bs, vs, h => by
    rw [List.map_cons, Reps.cons_iff] at h
    obtain ⟨v, r, rfl, h1, h2⟩ := h
    rw [reps_bits h2, show v = .bl b from h1]; rfl
theorem reps_texts : ∀ {bs : List Str} {vs : List V}, Reps K H M (bs.map EV.str) vs → vs = bs.map V.str ∧ ∀ b ∈ bs, SOk b
  | [], vs, h => by rw [List.map_nil, Reps.nil_iff] at h; exact ⟨h, fun _ z => (nomatch z)⟩
  | b :: bs, vs, h => by
    rw [List.map_cons, Reps.cons_iff] at h
    obtain ⟨v, r, rfl, h1, h2⟩ := h
    obtain ⟨e, ok⟩ : v = .str b ∧ SOk b := h1
    obtain ⟨e2, ok2⟩ := reps_texts h2
    exact ⟨by rw [e2, e]; rfl, fun c hc => (List.mem_cons.mp hc).elim (fun z => z ▸ ok) (ok2 c)⟩
end
theorem join_mem {a : Str} {c : Nat} : ∀ {ys : List Str}, c ∈ (Str.join a ys).cps.toList → c ∈ a.cps.toList ∨ ∃ y ∈ ys, c ∈ y.cps.toList
  | [], h => by
    have h : c ∈ ([] : List Nat) := h
    cases h
  | [y], h => .inr ⟨y, by simp, h⟩
  | y :: z :: r, h => by
    have e : (Str.join a (y :: z :: r)).cps.toList = y.cps.toList ++ a.cps.toList ++ (Str.join a (z :: r)).cps.toList := by
      show ((y ++ a ++ Str.join a (z :: r)).cps).toList = _
      show (y.cps ++ a.cps ++ (Str.join a (z :: r)).cps).toList = _
      simp
    rw [e, List.mem_append, List.mem_append] at h
    rcases h with (h | h) | h
    · exact .inr ⟨y, by simp, h⟩
    · exact .inl h
    · rcases join_mem h with h | ⟨w, hw, h⟩
      · exact .inl h
      · exact .inr ⟨w, by simp [List.mem_cons.mp hw], h⟩
theorem sOk_mem {z : Str} (ok : SOk z) {c : Nat} (h : c ∈ z.cps.toList) : c < 0x110000 := by
  have := (Array.all_eq_true'.mp ok.2) c (Array.mem_toList_iff.mp h)
  simpa using this
theorem sOk_join {a : Str} {ys : List Str} (ok : SOk a) (oks : ∀ y ∈ ys, SOk y) (hl : (ys.map (·.length)).sum + ys.length * a.length ≤ big) : SOk (Str.join a ys) := by
  refine ⟨Nat.le_trans (StrLaws.join_length_le a ys) (by rw [← big_eq]; exact hl), ?_⟩
  rw [Array.all_eq_true']
  intro c hc
  rcases join_mem (Array.mem_toList_iff.mpr hc) with h | ⟨y, hy, h⟩
  · simpa using sOk_mem ok h
  · simpa using sOk_mem (oks y hy) h
section
variable {X : Cx}
theorem rp_all (hc : X.calm = true) : CallR X (.builtin "all") (rP X.kw allf) := by
  intro pins s σ H xs us Q I r h
  obtain ⟨W, vs, M, st, S, R1, p⟩ := h
  unfold allf at p
  split at p
  · obtain ⟨x, rfl, R⟩ := R1.inv1
    split at p
    · rename_i ys e
      split at p
      · rename_i bs eb
        have eb := bitsOf_iff eb
        subst eb
        obtain ⟨a, ws, rfl, t, tl, q⟩ := look_lst S R e
        rw [reps_bits q] at t
        exact cr_all hc pins s σ H _ us Q I r ⟨a, bs, rfl, .inl t, KV.same (v := .bl _) p S rfl⟩
      · exact p.elim
    · exact p.elim
  · exact p.elim
theorem sOk_int {i : Int} (h : i.natAbs.log2 < 1920) : SOk (toString i : String) := by
  refine ⟨int_text_fits h, ?_⟩
  rw [Array.all_eq_true']
  intro c hc
  have hc : c ∈ (cpsOfBytes 0 0 (toString i : String).toByteArray.data.toList).toArray := hc
  rw [cpsOfBytes_string] at hc
  have hc : c ∈ (toString i : String).toList.map Char.toNat := by simpa using hc
  obtain ⟨ch, _, rfl⟩ := List.mem_map.mp hc
  have hv : ch.val.toNat < 1114112 := by
    have h := ch.valid
    simp only [UInt32.isValidChar, Nat.isValidChar] at h
    omega
  exact decide_eq_true hv
theorem rp_strI : CallR X (.type "str") (rP X.kw strIf) := by
  intro pins s σ H xs us Q I r h
  obtain ⟨W, vs, M, st, S, R1, p⟩ := h
  unfold strIf at p
  split at p
  · rename_i i
    obtain ⟨x, rfl, R⟩ := R1.inv1
    have e : x = .int i := R
    subst e
    split at p
    · rename_i hl
      exact call_str_int pins s σ H _ us Q I r ⟨i, rfl, hl, KV.same (v := .str _) p S ⟨rfl, sOk_int hl⟩⟩
    · exact p.elim
  · exact p.elim
theorem rm_join : MtR X "str.join" (rM X.kw joinf) := by
  intro pins s σ H x xs v us Q I rx r h
  obtain ⟨W, vs, M, st, S, R1, p⟩ := h
  unfold joinf at p
  split at p
  · rename_i a y
    rw [Reps.cons_iff] at R1
    obtain ⟨x', r', e, R1, R2⟩ := R1
    cases e
    obtain ⟨y', rfl, R3⟩ := R2.inv1
    obtain ⟨ex, ok⟩ : x = .str a ∧ SOk a := R1
    subst ex
    split at p
    · rename_i ys e
      split at p
      · rename_i zs ez
        have ez := textsOf_iff ez
        subst ez
        split at p
        · rename_i hl
          obtain ⟨b, ws, rfl, t, tl, q⟩ := look_lst S R3 e
          obtain ⟨ew, oks⟩ := reps_texts q
          rw [ew] at t
          have p' : KV X.kw H M Q (.str (Str.join a zs)) st := p
          rw [show Str.join a zs = Txt.join a zs from (StrLaws.glued_eq_join a zs).symm] at p'
          refine mt_join pins s σ H _ _ v us Q I rx r ⟨a, b, zs, rfl, rfl, .inl (.inl t), hl, KV.same p' S ⟨rfl, ?_⟩⟩
          rw [show Txt.join a zs = Str.join a zs from StrLaws.glued_eq_join a zs]
          exact sOk_join ok oks hl
        · exact p.elim
      · exact p.elim
    · exact p.elim
  · exact p.elim
theorem reps_last {K : Fw} {H : Hp} {M : Mp} {xs : List EV} {vs : List V} {x : EV} (R : Reps K H M xs vs) (h : xs.getLast? = some x) : ∃ v, vs[vs.length - 1]? = some v ∧ Rep K H M x v ∧ Reps K H M xs.dropLast vs.dropLast := by
  rw [List.getLast?_eq_getElem?] at h
  obtain ⟨v, h1, h2⟩ := R.get h
  refine ⟨v, by rw [R.length]; exact h1, h2, ?_⟩
  rw [List.dropLast_eq_take, List.dropLast_eq_take, R.length]
  exact R.take _
theorem rm_pop : MtR X "list.pop" (rM X.kw popf) := by
  intro pins s σ H x xs v us Q I rx r h
  obtain ⟨W, vs, M, st, S, R1, p⟩ := h
  unfold popf at p
  split at p
  · rename_i n
    obtain ⟨x', e0, R9⟩ := R1.inv1
    obtain ⟨e1, e2⟩ := List.cons.inj e0
    subst e2
    subst e1
    have R1 : Rep X.kw H M (.obj n) x := R9
    obtain ⟨a, rfl, ea⟩ : ∃ a, x = .ref a ∧ M.ad[n]? = some a := R1
    split at p
    · rename_i ys e
      split at p
      · rename_i w ew
        obtain ⟨ws, h1, h2, h3⟩ := S.at_ n a _ ea e
        obtain ⟨rw', g1, g2, g3⟩ := reps_last h3 ew
        have p' : KV X.kw H M Q w (st.set n (.lst ys.dropLast)) := p
        have hl : ws.dropLast.length ≤ sizeLine := by rw [List.length_dropLast]; omega
        exact mt_pop pins s σ H _ _ v us Q I rx r ⟨a, ws, rw', rfl, rfl, h1, g1, p' _ M _ (Grow.write ea) (S.write ea hl g3) (Rep.grow (Grow.write ea) _ _ g2)⟩
      · exact p.elim
    · exact p.elim
  · exact p.elim
end
end Pm

end
section
/-! The machine's expressions are the program's. -/
namespace Pm
open PySem L2

/-! ### the check -/
structure Cc where
  N : List Str
  sc : Scope
  fns : List (Str × Nat)
  cns : List Str
  all : Str → Bool

def vis (sc : Scope) (x : Str) : Bool := match sc.names.lookup x with
  | some .local => true
  | some .cell => true
  | some .free => true
  | _ => false
def loc (sc : Scope) (x : Str) : Bool := match sc.names.lookup x with
  | some .local => true
  | some .cell => true
  | _ => false
def isLocal (sc : Scope) (x : Str) : Bool := match sc.names.lookup x with
  | some .local => true
  | _ => false
def glob (sc : Scope) (x : Str) : Bool := match sc.names.lookup x with
  | some .globalImplicit => true
  | _ => false
def isAt (N : List Str) (i : Nat) (x : Str) : Bool := match N[i]? with
  | some y => decide (y = x)
  | none => false
def plainName (x : Str) : Bool := !(x == ("__debug__" : Str)) && !(x == ("__classdict__" : Str))
def notStar : Expr → Bool
  | .Starred _ _ => false
  | _ => true
def notSet : Expr → Bool
  | .Set _ _ _ => false
  | _ => true
def plainTest : Expr → Bool
  | .UnaryOp .Not _ _ => false
  | .BoolOp _ _ _ => false
  | .IfExp _ _ _ _ => false
  | .Compare _ _ _ _ => false
  | _ => true
def plainIx : Expr → Bool
  | .Slice _ _ none _ => false
  | _ => true
def bopIs : Bop → Operator → Bool
  | .add, .Add => true
  | .sub, .Sub => true
  | .mul, .Mult => true
  | .fdiv, .FloorDiv => true
  | .mod, .Mod => true
  | .pow, .Pow => true
  | _, _ => false
def copIs : Cop → CmpOp → Bool
  | .eq, .Eq => true
  | .ne, .NotEq => true
  | .lt, .Lt => true
  | .le, .LtE => true
  | .gt, .Gt => true
  | .ge, .GtE => true
  | .inn, .In => true
  | .nin, .NotIn => true
  | .is, .Is => true
  | .isn, .IsNot => true
  | .eqn, .Eq => true
  | _, _ => false
def sOk (x : Str) : Bool := decide (x.length ≤ 1000) && x.cps.all (· < 0x110000)
def cstIs : EV → Const → Bool
  | .non, .none => true
  | .bl b, .bool c => b == c
  | .int i, .int j => decide (i = j)
  | .str x, .str y => decide (x = y) && sOk x
  | _, _ => false
/-- a built-in that is called by its name -/
inductive PK where
  | blt (x id : String) | typ (x T : String) | isi (T : String) | met (T m id : String) | ss | met0 (T m id : String)
def primK : Prim → PK
  | .len => .blt "len" "len"
  | .tup => .typ "tuple" "tuple"
  | .lst => .typ "list" "list"
  | .int => .typ "int" "int"
  | .abs => .blt "abs" "abs"
  | .max2 => .blt "max" "max"
  | .min2 => .blt "min" "min"
  | .isTup => .isi "tuple"
  | .isInt => .isi "int"
  | .isStr => .isi "str"
  | .isBool => .isi "bool"
  | .append => .met "list" "append" "list.append"
  | .dict _ => .typ "dict" "dict"
  | .sorted => .blt "sorted" "sorted"
  | .get2 => .met "dict" "get" "dict.get"
  | .min1 => .blt "min" "min"
  | .max1 => .blt "max" "max"
  | .repr => .blt "repr" "repr"
  | .srtset => .ss
  | .all => .blt "all" "all"
  | .strI => .typ "str" "str"
  | .join => .met "str" "join" "str.join"
  | .pop => .met0 "list" "pop" "list.pop"
def nameIs (sc : Scope) (x : String) : Expr → Bool
  | .Name y _ => decide (y = (x : Str)) && glob sc y
  | _ => false
/-- the names of built-ins that the machine takes to stand -/
def blts : List String := ["len", "tuple", "list", "int", "abs", "max", "min", "isinstance", "str", "bool", "range", "dict", "sorted", "repr", "set", "all", "enumerate", "zip"]
def As.len : As → Nat
  | .nil => 0
  | .cons _ r => r.len + 1
/-- it gives new pairs: the target is a tuple -/
def srcTup : Src → Bool
  | .enm _ => true
  | .zip _ _ => true
  | _ => false
def isTupE : Expr → Bool
  | .Tuple _ _ _ => true
  | _ => false
def tgOk (s : Src) (tg : Expr) : Bool := !srcTup s || isTupE tg
def ownOf (N : List Str) (own : List Nat) : List (Str × Nat) := own.map fun i => (N.getD i Str.empty, i)

mutual
def chk (c : Cc) : Ex → Expr → Bool
  | .var i, e => match e with
    | .Name x _ => isAt c.N i x && vis c.sc x && plainName x
    | _ => false
  | .cst v, e => match e with
    | .Constant k _ _ => cstIs v k
    | _ => false
  | .glo g, e => match e with
    | .Name x _ => isAt c.cns g x && glob c.sc x && plainName x
    | _ => false
  | .tup es, e => match e with
    | .Tuple xs _ _ => chkA c es xs && decide (es.len ≤ 1000)
    | _ => false
  | .lst m es, e => match e with
    | .List xs _ => chkA c es xs && decide (es.len ≤ 1000)
    | _ => false
  | .bin o a b, e => match e with
    | .BinOp x op y _ => bopIs o op && (chk c a x && chk c b y)
    | _ => false
  | .neg a, e => match e with
    | .UnaryOp .USub x _ => chk c a x
    | _ => false
  | .notE a, e => match e with
    | .UnaryOp .Not x _ => chk c a x
    | _ => false
  | .cmp o a b, e => match e with
    | .Compare x [op] [y] _ => copIs o op && notSet y && (chk c a x && chk c b y)
    | _ => false
  | .andE a b, e => match e with
    | .BoolOp .And [x, y] _ => chk c a x && chk c b y
    | .BoolOp .And (x :: y :: z :: r) p => chk c a x && chk c b (.BoolOp .And (y :: z :: r) p)
    | _ => false
  | .orE a b, e => match e with
    | .BoolOp .Or [x, y] _ => chk c a x && chk c b y
    | .BoolOp .Or (x :: y :: z :: r) p => chk c a x && chk c b (.BoolOp .Or (y :: z :: r) p)
    | _ => false
  | .ite t a b, e => match e with
    | .IfExp z x y _ => chk c t z && (chk c a x && chk c b y)
    | _ => false
  | .call f es, e => match e with
    | .Call (.Name x _) xs [] _ => (match c.fns[f]? with
      | some (y, n) => decide (y = x) && decide (es.len = n)
      | none => false) && glob c.sc x && plainName x && chkA c es xs
    | _ => false
  | .prim p es, e => match e with
    | .Call f xs [] cp => match primK p with
      | .blt x _ => nameIs c.sc x f && chkA c es xs && decide (es.len ≠ 0)
      | .typ x _ => nameIs c.sc x f && chkA c es xs && decide (es.len ≠ 0)
      | .isi T => match es, xs with
        | .cons e1 .nil, [x, y] => nameIs c.sc "isinstance" f && nameIs c.sc T y && notStar x && chk c e1 x
        | _, _ => false
      | .met _ _ _ => false
      | .met0 _ _ _ => false
      | .ss => match xs with
        | [.Call g ys [] _] => nameIs c.sc "sorted" f && nameIs c.sc "set" g && chkA c es ys && decide (es.len = 1)
        | _ => false
    | _ => false
  | .meth p eo es, e => match e with
    | .Call (.Attribute o n ap) xs [] cp => match primK p with
      | .met T m _ => decide (T ≠ "") && (decide (n = (m : Str)) && (ap.endLine == cp.line) && notCall o && chk c eo o && chkA c es xs && decide (es.len < 20) && decide (es.len ≠ 0))
      | .met0 T m _ => decide (n = (m : Str)) && (ap.endLine == cp.line) && notCall o && chk c eo o && xs.isEmpty && decide (es.len = 0)
      | _ => false
    | _ => false
  | .idx a b, e => match e with
    | .Subscript x y _ => chk c a x && chk c b y && plainIx y
    | _ => false
  | .slc a lo hi, e => match e with
    | .Subscript x (.Slice l h none _) _ => chk c a x && chkO c lo l && chkO c hi h
    | _ => false
  | .dnw n, e => match e with
    | .Dict [] [] _ => true
    | _ => false
  | .comp m t s cn el own, e => match e with
    | .ListComp elt [⟨tg, iter, ifs, 0⟩] scope _ => (notSet iter && tgOk s tg) && blkC c.N c.sc scope (ownOf c.N own) && (own.all fun i => decide (i < c.N.length)) && tin t (fun j => own.contains j)
        && chkS c s iter && chkT ⟨c.N, relS scope c.sc, c.fns, c.cns, fun x => scope.names.lookup x == some .cell⟩ t tg && (match ifs with
          | [] => chkO ⟨c.N, relS scope c.sc, c.fns, c.cns, fun x => scope.names.lookup x == some .cell⟩ cn none
          | [z] => chkO ⟨c.N, relS scope c.sc, c.fns, c.cns, fun x => scope.names.lookup x == some .cell⟩ cn (some z)
          | _ => false) && chk ⟨c.N, relS scope c.sc, c.fns, c.cns, fun x => scope.names.lookup x == some .cell⟩ el elt
    | _ => false
  | .compK t v cn el own, e => match e with
    | .ListComp elt [⟨tg, iter, ifs, 0⟩] scope _ => (match iter with
        | .Name x _ => isAt c.N v x && vis c.sc x && plainName x
        | _ => false) && notSet iter && blkC c.N c.sc scope (ownOf c.N own) && (own.all fun i => decide (i < c.N.length)) && tin t (fun j => own.contains j)
        && chkT ⟨c.N, relS scope c.sc, c.fns, c.cns, fun x => scope.names.lookup x == some .cell⟩ t tg && (match ifs with
          | [] => chkO ⟨c.N, relS scope c.sc, c.fns, c.cns, fun x => scope.names.lookup x == some .cell⟩ cn none
          | [z] => chkO ⟨c.N, relS scope c.sc, c.fns, c.cns, fun x => scope.names.lookup x == some .cell⟩ cn (some z)
          | _ => false) && chk ⟨c.N, relS scope c.sc, c.fns, c.cns, fun x => scope.names.lookup x == some .cell⟩ el elt
    | _ => false
  | .chn o p a b z, e => match e with
    | .Compare x [op, op'] [y, w] _ => copIs o op && copIs p op' && !lastMarks [op, op'] [y, w] && (chk c a x && chk c b y && chk c z w)
    | _ => false
  | .bad, _ => true
def chkA (c : Cc) : As → List Expr → Bool
  | .nil, xs => xs.isEmpty
  | .cons e r, xs => match xs with
    | x :: ys => notStar x && chk c e x && chkA c r ys
    | [] => false
def chkO (c : Cc) : Op → Option Expr → Bool
  | .no, o => o.isNone
  | .yes e, o => match o with
    | some x => chk c e x
    | none => false
def chkS (c : Cc) : Src → Expr → Bool
  | .ex e, x => chk c e x
  | .rng1 a, x => match x with
    | .Call f [y] [] _ => nameIs c.sc "range" f && notStar y && chk c a y
    | _ => false
  | .rng2 a b, x => match x with
    | .Call f [y, z] [] _ => nameIs c.sc "range" f && notStar y && notStar z && chk c a y && chk c b z
    | _ => false
  | .enm a, x => match x with
    | .Call f [y] [] _ => nameIs c.sc "enumerate" f && notStar y && chk c a y
    | _ => false
  | .zip a b, x => match x with
    | .Call f [y, z] [] _ => nameIs c.sc "zip" f && notStar y && notStar z && chk c a y && chk c b z
    | _ => false
def chkT (c : Cc) : Tg → Expr → Bool
  | .var i, x => match x with
    | .Name y _ => isAt c.N i y && loc c.sc y && (c.all y || isLocal c.sc y)
    | _ => false
  | .tup ts, x => match x with
    | .Tuple xs _ _ => chkTs c ts xs
    | _ => false
  | .sub o i, x => match x with
    | .Subscript y z _ => chk c o y && chk c i z && plainIx z && notStar z
    | _ => false
def chkTs (c : Cc) : Tgs → List Expr → Bool
  | .nil, xs => xs.isEmpty
  | .cons t r, xs => match xs with
    | y :: ys => notStar y && chkT c t y && chkTs c r ys
    | [] => false
/-- all names of a target are among these -/
def tin : Tg → (Nat → Bool) → Bool
  | .var i, own => own i
  | .tup ts, own => tins ts own
  | .sub _ _, _ => true
def tins : Tgs → (Nat → Bool) → Bool
  | .nil, _ => true
  | .cons t r, own => tin t own && tins r own
def notCall : Expr → Bool
  | .Call _ _ _ _ => false
  | _ => true
end
end Pm

end
section
set_option maxHeartbeats 1000000
namespace Pm
open PySem L2

/-! ### readings by the machine -/
/-- how an error of the machine lies: its class, its one field -/
def ExAt (K : Fw) (xs : Nat → Option (Value × Str)) (H : Hp) (M : Mp) (c : Nat) (fs : List EV) (cls : Value) (d : Option Addr) : Prop :=
  ∃ f, xs c = some (cls, f) ∧ match fs with
    | [] => d = none
    | [v] => ∃ a r, d = some a ∧ H a = some (.xd [(f, r)]) ∧ Rep K H M v r ∧ M.no a
    | _ => False
def wsh (K : Fw) (xs : Nat → Option (Value × Str)) (H : Hp) (M : Mp) (E : XK) : Nat → List EV → Sto → Prop := fun c fs s' =>
  ∀ H' M' cls d, Grow H M H' M' → StOk K H' M' s' → ExAt K xs H' M' c fs cls d → E cls d H'
section
variable {K : Fw} {xs : Nat → Option (Value × Str)} {H H' : Hp} {M M' : Mp} {E : XK}
theorem wsh.grow (g : Grow H M H' M') {c : Nat} {fs : List EV} {s : Sto} (h : wsh K xs H M E c fs s) : wsh K xs H' M' E c fs s :=
  fun H2 M2 cls d g2 S x => h H2 M2 cls d (g.trans g2) S x
theorem KV.grow (g : Grow H M H' M') {Q : VK} {v : EV} {s : Sto} (h : KV K H M Q v s) : KV K H' M' Q v s := fun H2 M2 r g2 S R => h H2 M2 r (g.trans g2) S R
/-- arguments -/
def KVs (K : Fw) (H : Hp) (M : Mp) (Q : List V → Hp → Prop) (vs : List EV) (s : Sto) : Prop := ∀ H' M' rs, Grow H M H' M' → StOk K H' M' s → Reps K H' M' vs rs → Q rs H'
theorem KVs.grow (g : Grow H M H' M') {Q : List V → Hp → Prop} {v : List EV} {s : Sto} (h : KVs K H M Q v s) : KVs K H' M' Q v s := fun H2 M2 r g2 S R => h H2 M2 r (g.trans g2) S R
/-- a test's answer -/
def KT (K : Fw) (H : Hp) (M : Mp) (Q : Bool → Hp → Prop) (v : EV) (s : Sto) : Prop := ∃ b, truth s v = some b ∧ ∀ H' M', Grow H M H' M' → StOk K H' M' s → Q b H'
theorem KT.grow (g : Grow H M H' M') {Q : Bool → Hp → Prop} {v : EV} {s : Sto} (h : KT K H M Q v s) : KT K H' M' Q v s :=
  let ⟨b, h1, h2⟩ := h; ⟨b, h1, fun H2 M2 g2 S => h2 H2 M2 (g.trans g2) S⟩
end
def tR (K : Fw) (xs : Nat → Option (Value × Str)) (W : WX) (f : En → Sto → R EV) : TE := fun σ H Q =>
  ∃ ρ M s, EnOk K H M ρ σ ∧ StOk K H M s ∧ Post (wsh K xs H M (WE W σ)) (f ρ s) (KV K H M Q)
def tRs (K : Fw) (xs : Nat → Option (Value × Str)) (W : WX) (f : En → Sto → R (List EV)) : TA := fun σ H Q =>
  ∃ ρ M s, EnOk K H M ρ σ ∧ StOk K H M s ∧ Post (wsh K xs H M (WE W σ)) (f ρ s) (KVs K H M Q)
def tRt (K : Fw) (xs : Nat → Option (Value × Str)) (W : WX) (f : En → Sto → R EV) : TT := fun σ H Q =>
  ∃ ρ M s, EnOk K H M ρ σ ∧ StOk K H M s ∧ Post (wsh K xs H M (WE W σ)) (f ρ s) (KT K H M Q)

theorem _root_.L2.PE.imp {X : Cx} {e : Expr} {t t' : TE} (h : PE X e t) (w : ∀ σ H Q, t' σ H Q → t σ H Q) : PE X e t' := ⟨fun pins s σ H Q I q => h.run pins s σ H Q I (w σ H Q q)⟩
theorem _root_.L2.PT.imp {X : Cx} {e : Expr} {t t' : TT} (h : PT X e t) (w : ∀ σ H Q, t' σ H Q → t σ H Q) : PT X e t' := ⟨fun pins s σ H Q I q => h.run pins s σ H Q I (w σ H Q q)⟩
theorem _root_.L2.PW.imp {X : Cx} {e : Expr} {t t' : TT} (h : PW X e t) (w : ∀ σ H Q, t' σ H Q → t σ H Q) : PW X e t' := ⟨fun wh pins s σ H Q I q => h.run wh pins s σ H Q I (w σ H Q q)⟩
theorem _root_.L2.PA.imp {X : Cx} {e : List Expr} {t t' : TA} (h : PA X e t) (w : ∀ σ H Q, t' σ H Q → t σ H Q) : PA X e t' := ⟨fun p pins s σ H Q I q => h.run p pins s σ H Q I (w σ H Q q)⟩
theorem _root_.L2.PS.imp {X : Cx} {e : Stmt} {t t' : TS} (h : PS X e t) (w : ∀ D σ H, t' D σ H → t D σ H) : PS X e t' := ⟨fun pins s σ H Q I q => h.run pins s σ H Q I (w Q σ H q)⟩

/-! ### what stands around -/
/-- a def's promise by the machine's function -/
def spF (K : Fw) (xs : Nat → Option (Value × Str)) (C : Ct) (n i : Nat) : Sp := fun vs H Q E =>
  ∃ as M s, vs.length = n ∧ StOk K H M s ∧ Reps K H M as vs ∧ Post (wsh K xs H M E) (C.F i as s) (KV K H M Q)
structure Ok (c : Cc) (X : Cx) (C : Ct) (xs : Nat → Option (Value × Str)) (W : WX) : Prop where
  N : X.N = c.N
  sc : X.env.scope = c.sc
  nd : X.N.Nodup
  calm : X.calm = true
  room : X.A.units + 65 < cLine
  gd : X.A.guards = some []
  fns : ∀ i x n, c.fns[i]? = some (x, n) → ∃ f fd ps k, X.mg x = some (.ref f) ∧ PySem.W.keepIn X.kw (.ref f) = true ∧ Binds X.kw fd ps [] ∧ ps.length = n ∧ Room k X.A ∧ FnG X.prog X.w X.kw X.mg X.base (L2.CX X.prog X.w) k f fd ps (spF X.kw xs C n i)
  cns : ∀ g x, c.cns[g]? = some x → ∀ v, C.G g = some v → ∃ u r, X.mg x = some u ∧ RelV r u ∧ ∀ H M, Rep X.kw H M v r
  blt : ∀ x ∈ blts, X.mg (x : Str) = none
  tk : Takes X W
  fn : ∀ x, c.all x = true → X.fn x = true

section
variable {c : Cc} {X : Cx} {C : Ct} {xs : Nat → Option (Value × Str)} {W : WX}
theorem vis_ok (O : Ok c X C xs W) {x : Str} (h : vis c.sc x = true) : Vis X.env.scope x := by
  unfold vis at h
  unfold Vis
  rw [O.sc]
  split at h <;> first | exact .inl (by assumption) | exact .inr (.inl (by assumption)) | exact .inr (.inr (by assumption)) | cases h
theorem loc_ok (O : Ok c X C xs W) {x : Str} (h : loc c.sc x = true) : L2.Loc X.env.scope x := by
  unfold loc at h
  unfold L2.Loc
  rw [O.sc]
  split at h <;> first | exact .inl (by assumption) | exact .inr (by assumption) | cases h
theorem isLocal_ok (O : Ok c X C xs W) {x : Str} (h : isLocal c.sc x = true) : X.env.scope.names.lookup x = some .local := by
  unfold isLocal at h
  rw [O.sc]
  split at h
  · assumption
  · cases h
theorem glob_ok (O : Ok c X C xs W) {x : Str} (h : glob c.sc x = true) : Gl X x := by
  unfold glob at h
  show X.env.scope.names.lookup x = some .globalImplicit
  rw [O.sc]
  split at h
  · assumption
  · cases h
theorem isAt_ok {N : List Str} {i : Nat} {x : Str} (h : isAt N i x = true) : N[i]? = some x := by
  unfold isAt at h
  split at h
  · rename_i y e
    rw [e, of_decide_eq_true h]
  · cases h
theorem plain_ok {x : Str} (h : plainName x = true) : (x == ("__debug__" : Str)) = false ∧ (x == ("__classdict__" : Str)) = false := by
  unfold plainName at h
  rw [Bool.and_eq_true, Bool.not_eq_true', Bool.not_eq_true'] at h
  exact h
theorem star_ok {e : Expr} {es : List Expr} {env : Env} (h : notStar e = true) : starEach (e :: es) env = (false, eval e env) :: starEach es env := by
  cases e <;> first | rfl | cases h
theorem assignEach_ok {e : Expr} {es : List Expr} {env : Env} (h : notStar e = true) : assignEach (e :: es) env = (false, assign e env) :: assignEach es env := by
  cases e <;> first | rfl | cases h
theorem mark_ok {e : Expr} {op : CmpOp} (h : notSet e = true) : behindInMarks op e = false := by
  cases e <;> first | rfl | cases h
theorem fold_ok {e : Expr} {env : Env} (h : notSet e = true) : ∀ x, foldedSetIterable e env x = pure x := by
  intro x
  cases e <;> first | rfl | cases h
theorem test_ok {e : Expr} (h : plainTest e = true) (env : Env) : ∀ whole, isTrue e env whole = (do let v ← whole; standAt e.pos; holding [v] (truthy v)) := by
  intro whole
  cases e with
  | UnaryOp op a p => cases op <;> first | rfl | cases h
  | BoolOp _ _ _ => cases h
  | IfExp _ _ _ _ => cases h
  | Compare _ _ _ _ => cases h
  | _ => rfl
theorem ix_ok {e : Expr} (h : plainIx e = true) : PlainIx e := by
  intro o i
  cases e with
  | Slice l u st p =>
    cases st with
    | none => cases h
    | some _ => rfl
  | _ => rfl
def noStars : List Expr → Bool
  | [] => true
  | e :: r => notStar e && noStars r
theorem stars_ok {pos : Pos} {env : Env} : ∀ {es : List Expr}, noStars es = true → (backTo pos (starEach es env)).any (·.1) = false
  | [], _ => rfl
  | e :: r, h => by
    unfold noStars at h
    rw [Bool.and_eq_true] at h
    rw [star_ok h.1]
    show (false || (backTo pos (starEach r env)).any (·.1)) = false
    rw [stars_ok h.2]; rfl
theorem stars_all {pos : Pos} {env : Env} : ∀ {es : List Expr}, noStars es = true → (backTo pos (starEach es env)).all (fun x => !x.1) = true
  | [], _ => rfl
  | e :: r, h => by
    unfold noStars at h
    rw [Bool.and_eq_true] at h
    rw [star_ok h.1]
    show (!false && (backTo pos (starEach r env)).all (fun x => !x.1)) = true
    rw [stars_all h.2]; rfl
theorem chkA_stars {c : Cc} : ∀ {es : As} {xs : List Expr}, chkA c es xs = true → noStars xs = true ∧ xs.length = es.len
  | .nil, [], _ => ⟨rfl, rfl⟩
  | .nil, _ :: _, h => by simp [chkA] at h
  | .cons e r, [], h => by simp [chkA] at h
  | .cons e r, x :: ys, h => by
    have h' : (notStar x && chk c e x && chkA c r ys) = true := by simpa [chkA] using h
    rw [Bool.and_eq_true, Bool.and_eq_true] at h'
    obtain ⟨h1, h2⟩ := chkA_stars h'.2
    unfold noStars
    rw [h'.1.1, h1]
    refine ⟨rfl, ?_⟩
    show ys.length + 1 = r.len + 1
    rw [h2]

/-! ### expressions, one construct at a time -/
section
variable {K : Fw}
/-- two values, then what they make -/
theorem tR_op {g : EV → EV → Sto → R EV} {fa fb : En → Sto → R EV} (σ : St) (H : Hp) (Q : VK)
    (h : tR K xs W (fun ρ s => (fa ρ s).bind fun x s1 => (fb ρ s1).bind fun y s2 => g x y s2) σ H Q) : tOp (r2 K g) (tR K xs W fa) (tR K xs W fb) σ H Q := by
  obtain ⟨ρ, M, s, e, S, p⟩ := h
  refine ⟨ρ, M, s, e, S, (Post.bind.mp p).mono (fun vx s1 p1 H1 M1 x g1 S1 R1 => ?_) fun _ _ _ z => z⟩
  refine ⟨ρ, M1, s1, e.grow g1, S1, (Post.bind.mp p1).mono (fun vy s2 p2 H2 M2 y g2 S2 R2 => ?_) fun _ _ _ z => z.grow g1⟩
  exact ⟨_, vx, vy, M2, s2, S2, Rep.grow g2 _ _ R1, R2, p2.mono (fun _ _ z => z.grow (g1.trans g2)) fun _ _ _ z => z⟩
theorem tR_un {g : EV → Sto → R EV} {fa : En → Sto → R EV} (σ : St) (H : Hp) (Q : VK)
    (h : tR K xs W (fun ρ s => (fa ρ s).bind fun x s1 => g x s1) σ H Q) : tUn (r1 K g) (tR K xs W fa) σ H Q := by
  obtain ⟨ρ, M, s, e, S, p⟩ := h
  refine ⟨ρ, M, s, e, S, (Post.bind.mp p).mono (fun vx s1 p1 H1 M1 x g1 S1 R1 => ?_) fun _ _ _ z => z⟩
  exact ⟨_, vx, M1, s1, S1, R1, p1.mono (fun _ _ z => z.grow g1) fun _ _ _ z => z⟩
theorem tR_nil (σ : St) (H : Hp) (Q : List V → Hp → Prop) (h : tRs K xs W (fun ρ s => .ok [] s) σ H Q) : tNil σ H Q := by
  obtain ⟨ρ, M, s, e, S, p⟩ := h
  have p' : KVs K H M Q [] s := p
  exact p' H M [] Grow.refl S (by rw [Reps.nil_iff])
theorem tR_cons {fa : En → Sto → R EV} {fr : En → Sto → R (List EV)} (σ : St) (H : Hp) (Q : List V → Hp → Prop)
    (h : tRs K xs W (fun ρ s => (fa ρ s).bind fun v s1 => (fr ρ s1).bind fun vs s2 => .ok (v :: vs) s2) σ H Q) : tCons (tR K xs W fa) (tRs K xs W fr) σ H Q := by
  obtain ⟨ρ, M, s, e, S, p⟩ := h
  refine ⟨ρ, M, s, e, S, (Post.bind.mp p).mono (fun vx s1 p1 H1 M1 x g1 S1 R1 => ?_) fun _ _ _ z => z⟩
  refine ⟨ρ, M1, s1, e.grow g1, S1, (Post.bind.mp p1).mono (fun vy s2 p2 H2 M2 y g2 S2 R2 => ?_) fun _ _ _ z => z.grow g1⟩
  have p3 : KVs K H M Q (vx :: vy) s2 := p2
  refine p3 H2 M2 _ (g1.trans g2) S2 ?_
  rw [Reps.cons_iff]
  exact ⟨x, y, rfl, Rep.grow g2 _ _ R1, R2⟩
/-- values, then what they make -/
theorem tR_args {g : List EV → Sto → R EV} {fs : En → Sto → R (List EV)} (σ : St) (H : Hp) (Q : VK)
    (h : tR K xs W (fun ρ s => (fs ρ s).bind fun vs s1 => g vs s1) σ H Q) : tCB (rP K g) (tRs K xs W fs) σ H Q := by
  obtain ⟨ρ, M, s, e, S, p⟩ := h
  refine ⟨ρ, M, s, e, S, (Post.bind.mp p).mono (fun vs s1 p1 H1 M1 x g1 S1 R1 => ?_) fun _ _ _ z => z⟩
  exact ⟨_, vs, M1, s1, S1, R1, p1.mono (fun _ _ z => z.grow g1) fun _ _ _ z => z⟩
theorem tR_tup {fs : En → Sto → R (List EV)} (n : Nat) (hn : n ≤ 1000) (hl : ∀ ρ s vs s', fs ρ s = .ok vs s' → vs.length = n) (σ : St) (H : Hp) (Q : VK)
    (h : tR K xs W (fun ρ s => (fs ρ s).bind fun vs s1 => .ok (.tup vs) s1) σ H Q) : tTup (tRs K xs W fs) σ H Q := by
  obtain ⟨ρ, M, s, e, S, p⟩ := h
  have p := Post.bind.mp p
  refine ⟨ρ, M, s, e, S, ?_⟩
  cases ef : fs ρ s with
  | ok vs s1 =>
    rw [ef] at p
    intro H1 M1 x g1 S1 R1
    have hz : x.length ≤ sizeLine := by
      rw [R1.length, hl ρ s vs s1 ef, sizeLine_eq]; omega
    have p' : KV K H M Q (.tup vs) s1 := p
    exact ⟨hz, KV.tup S1 hz R1 (p'.grow g1)⟩
  | exc c fs' s' => rw [ef] at p; exact p
  | stuck => rw [ef] at p; exact p
theorem tR_lst {fs : En → Sto → R (List EV)} (m : Bool) (n : Nat) (hn : n ≤ 1000) (hl : ∀ ρ s vs s', fs ρ s = .ok vs s' → vs.length = n) (σ : St) (H : Hp) (Q : VK)
    (h : tR K xs W (fun ρ s => (fs ρ s).bind fun vs s1 => if m then .ok (EV.obj s1.length) (s1 ++ [Ob.lst vs]) else .ok (EV.lst vs) s1) σ H Q) : tLst (tRs K xs W fs) σ H Q := by
  obtain ⟨ρ, M, s, e, S, p⟩ := h
  have p := Post.bind.mp p
  refine ⟨ρ, M, s, e, S, ?_⟩
  cases ef : fs ρ s with
  | ok vs s1 =>
    rw [ef] at p
    intro H1 M1 x g1 S1 R1
    have hz : x.length ≤ sizeLine := by
      rw [R1.length, hl ρ s vs s1 ef, sizeLine_eq]; omega
    refine ⟨hz, ?_⟩
    cases m with
    | true =>
      have p' : KV K H M Q (.obj s1.length) (s1 ++ [.lst vs]) := p
      exact KV.obj S1 hz R1 (p'.grow g1)
    | false =>
      have p' : KV K H M Q (.lst vs) s1 := p
      exact KV.lst S1 hz R1 (p'.grow g1)
  | exc c fs' s' => rw [ef] at p; exact p
  | stuck => rw [ef] at p; exact p
/-- truth of a value, as a test -/
theorem tR_test {f : En → Sto → R EV} (σ : St) (H : Hp) (Q : Bool → Hp → Prop) (h : tRt K xs W f σ H Q) : tR K xs W f σ H fun x H' => ∃ k, TruV K x H' k ∧ Q k H' := by
  obtain ⟨ρ, M, s, e, S, p⟩ := h
  refine ⟨ρ, M, s, e, S, p.mono (fun v s1 ⟨b, hb, q⟩ H1 M1 x g1 S1 R1 => ?_) fun _ _ _ z => z⟩
  exact ⟨b, truth_ok S1 R1 hb, q H1 M1 g1 S1⟩
theorem tR_not {fa : En → Sto → R EV} (σ : St) (H : Hp) (Q : VK)
    (h : tR K xs W (fun ρ s => (fa ρ s).bind fun x s1 => match truth s1 x with | some b => .ok (.bl (!b)) s1 | none => .stuck) σ H Q) : tNotT K (tR K xs W fa) σ H Q := by
  obtain ⟨ρ, M, s, e, S, p⟩ := h
  refine ⟨ρ, M, s, e, S, (Post.bind.mp p).mono (fun vx s1 p1 H1 M1 x g1 S1 R1 => ?_) fun _ _ _ z => z⟩
  cases hb : truth s1 vx with
  | none => rw [hb] at p1; exact p1.elim
  | some b =>
    rw [hb] at p1
    exact ⟨b, truth_ok S1 R1 hb, KV.same (v := .bl _) (KV.grow g1 p1) S1 rfl⟩
theorem tRt_not {fa : En → Sto → R EV} (σ : St) (H : Hp) (Q : Bool → Hp → Prop)
    (h : tRt K xs W (fun ρ s => (fa ρ s).bind fun x s1 => match truth s1 x with | some b => .ok (.bl (!b)) s1 | none => .stuck) σ H Q) : tNot (tRt K xs W fa) σ H Q := by
  obtain ⟨ρ, M, s, e, S, p⟩ := h
  refine ⟨ρ, M, s, e, S, (Post.bind.mp p).mono (fun vx s1 p1 => ?_) fun _ _ _ z => z⟩
  cases hb : truth s1 vx with
  | none => rw [hb] at p1; exact p1.elim
  | some b =>
    rw [hb] at p1
    obtain ⟨b', e', q⟩ : KT K H M Q (.bl (!b)) s1 := p1
    cases e'
    exact ⟨b, hb, q⟩
theorem tR_and {fa fb : En → Sto → R EV} (σ : St) (H : Hp) (Q : VK)
    (h : tR K xs W (fun ρ s => (fa ρ s).bind fun x s1 => match truth s1 x with | some true => fb ρ s1 | some false => .ok x s1 | none => .stuck) σ H Q) : tAndT K (tR K xs W fa) (tR K xs W fb) σ H Q := by
  obtain ⟨ρ, M, s, e, S, p⟩ := h
  refine ⟨ρ, M, s, e, S, (Post.bind.mp p).mono (fun vx s1 p1 H1 M1 x g1 S1 R1 => ?_) fun _ _ _ z => z⟩
  cases hb : truth s1 vx with
  | none => rw [hb] at p1; exact p1.elim
  | some b =>
    rw [hb] at p1
    refine ⟨b, truth_ok S1 R1 hb, ?_⟩
    cases b with
    | true => exact ⟨ρ, M1, s1, e.grow g1, S1, p1.mono (fun _ _ z => z.grow g1) fun _ _ _ z => z.grow g1⟩
    | false => exact KV.same (KV.grow g1 p1) S1 R1
theorem tR_or {fa fb : En → Sto → R EV} (σ : St) (H : Hp) (Q : VK)
    (h : tR K xs W (fun ρ s => (fa ρ s).bind fun x s1 => match truth s1 x with | some true => .ok x s1 | some false => fb ρ s1 | none => .stuck) σ H Q) : tOrT K (tR K xs W fa) (tR K xs W fb) σ H Q := by
  obtain ⟨ρ, M, s, e, S, p⟩ := h
  refine ⟨ρ, M, s, e, S, (Post.bind.mp p).mono (fun vx s1 p1 H1 M1 x g1 S1 R1 => ?_) fun _ _ _ z => z⟩
  cases hb : truth s1 vx with
  | none => rw [hb] at p1; exact p1.elim
  | some b =>
    rw [hb] at p1
    refine ⟨b, truth_ok S1 R1 hb, ?_⟩
    cases b with
    | false => exact ⟨ρ, M1, s1, e.grow g1, S1, p1.mono (fun _ _ z => z.grow g1) fun _ _ _ z => z.grow g1⟩
    | true => exact KV.same (KV.grow g1 p1) S1 R1
theorem tRt_and {fa fb : En → Sto → R EV} (σ : St) (H : Hp) (Q : Bool → Hp → Prop)
    (h : tRt K xs W (fun ρ s => (fa ρ s).bind fun x s1 => match truth s1 x with | some true => fb ρ s1 | some false => .ok x s1 | none => .stuck) σ H Q) : tAnd (tRt K xs W fa) (tRt K xs W fb) σ H Q := by
  obtain ⟨ρ, M, s, e, S, p⟩ := h
  refine ⟨ρ, M, s, e, S, (Post.bind.mp p).mono (fun vx s1 p1 => ?_) fun _ _ _ z => z⟩
  cases hb : truth s1 vx with
  | none => rw [hb] at p1; exact p1.elim
  | some b =>
    rw [hb] at p1
    refine ⟨b, hb, fun H1 M1 g1 S1 => ?_⟩
    cases b with
    | true => exact ⟨ρ, M1, s1, e.grow g1, S1, p1.mono (fun _ _ z => z.grow g1) fun _ _ _ z => z.grow g1⟩
    | false =>
      obtain ⟨b', e', q⟩ : KT K H M Q vx s1 := p1
      rw [hb] at e'; cases e'
      exact q H1 M1 g1 S1
theorem tRt_or {fa fb : En → Sto → R EV} (σ : St) (H : Hp) (Q : Bool → Hp → Prop)
    (h : tRt K xs W (fun ρ s => (fa ρ s).bind fun x s1 => match truth s1 x with | some true => .ok x s1 | some false => fb ρ s1 | none => .stuck) σ H Q) : tOr (tRt K xs W fa) (tRt K xs W fb) σ H Q := by
  obtain ⟨ρ, M, s, e, S, p⟩ := h
  refine ⟨ρ, M, s, e, S, (Post.bind.mp p).mono (fun vx s1 p1 => ?_) fun _ _ _ z => z⟩
  cases hb : truth s1 vx with
  | none => rw [hb] at p1; exact p1.elim
  | some b =>
    rw [hb] at p1
    refine ⟨b, hb, fun H1 M1 g1 S1 => ?_⟩
    cases b with
    | false => exact ⟨ρ, M1, s1, e.grow g1, S1, p1.mono (fun _ _ z => z.grow g1) fun _ _ _ z => z.grow g1⟩
    | true =>
      obtain ⟨b', e', q⟩ : KT K H M Q vx s1 := p1
      rw [hb] at e'; cases e'
      exact q H1 M1 g1 S1
theorem tR_ite {fc fa fb : En → Sto → R EV} (σ : St) (H : Hp) (Q : VK)
    (h : tR K xs W (fun ρ s => (fc ρ s).bind fun x s1 => match truth s1 x with | some true => fa ρ s1 | some false => fb ρ s1 | none => .stuck) σ H Q) : tIf (tRt K xs W fc) (tR K xs W fa) (tR K xs W fb) σ H Q := by
  obtain ⟨ρ, M, s, e, S, p⟩ := h
  refine ⟨ρ, M, s, e, S, (Post.bind.mp p).mono (fun vx s1 p1 => ?_) fun _ _ _ z => z⟩
  cases hb : truth s1 vx with
  | none => rw [hb] at p1; exact p1.elim
  | some b =>
    rw [hb] at p1
    refine ⟨b, hb, fun H1 M1 g1 S1 => ?_⟩
    cases b with
    | true => exact ⟨ρ, M1, s1, e.grow g1, S1, p1.mono (fun _ _ z => z.grow g1) fun _ _ _ z => z.grow g1⟩
    | false => exact ⟨ρ, M1, s1, e.grow g1, S1, p1.mono (fun _ _ z => z.grow g1) fun _ _ _ z => z.grow g1⟩
def tIfT (t ta tb : TT) : TT := fun σ H Q => t σ H fun c H1 => if c = true then ta σ H1 Q else tb σ H1 Q
theorem tRt_ite {fc fa fb : En → Sto → R EV} (σ : St) (H : Hp) (Q : Bool → Hp → Prop)
    (h : tRt K xs W (fun ρ s => (fc ρ s).bind fun x s1 => match truth s1 x with | some true => fa ρ s1 | some false => fb ρ s1 | none => .stuck) σ H Q) : tIfT (tRt K xs W fc) (tRt K xs W fa) (tRt K xs W fb) σ H Q := by
  obtain ⟨ρ, M, s, e, S, p⟩ := h
  refine ⟨ρ, M, s, e, S, (Post.bind.mp p).mono (fun vx s1 p1 => ?_) fun _ _ _ z => z⟩
  cases hb : truth s1 vx with
  | none => rw [hb] at p1; exact p1.elim
  | some b =>
    rw [hb] at p1
    refine ⟨b, hb, fun H1 M1 g1 S1 => ?_⟩
    cases b with
    | true => exact ⟨ρ, M1, s1, e.grow g1, S1, p1.mono (fun _ _ z => z.grow g1) fun _ _ _ z => z.grow g1⟩
    | false => exact ⟨ρ, M1, s1, e.grow g1, S1, p1.mono (fun _ _ z => z.grow g1) fun _ _ _ z => z.grow g1⟩
theorem pt_ifExp {z x y : Expr} {pos : Pos} {t ta tb : TT} (hc : PT X z t) (ha : PT X x ta) (hb : PT X y tb) : PT X (.IfExp z x y pos) (tIfT t ta tb) := by
  refine ⟨fun pins s σ H Q I h => ?_⟩
  refine PyProof.Rows.isTrue_IfExp (thn (hc.run pins s σ H _ I h) fun d s1 ⟨H1, I1, q1⟩ => ?_)
  cases d with
  | true => exact ha.run pins s1 σ H1 Q I1 q1
  | false => exact hb.run pins s1 σ H1 Q I1 q1
end
end
end Pm

end
section
set_option maxHeartbeats 1000000
namespace Pm
open PySem L2

/-! ### what is walked -/
def Its.nxt : Its → Nat → Sto → Option (Option EV)
  | .st xs, i, _ => some (xs[i]?)
  | .ob n, i, s => match s[n]? with
    | some (.lst xs) => some (xs[i]?)
    | _ => none
/-- an iterator walks what the machine walks -/
def Wks (K : Fw) (H : Hp) (M : Mp) (J : It) (its : Its) : Prop := ∀ i H' M' s, Mov H M H' M' → StOk K H' M' s →
  (its.nxt i s = some none → J.stop i H') ∧ ∀ x, its.nxt i s = some (some x) → i < sizeLine ∧ J.go i H' ∧ ∀ v H'', J.yld i H' v H'' → Grow H' M' H'' M' ∧ StOk K H'' M' s ∧ Rep K H'' M' x v
theorem Wks.grow {K : Fw} {H H' : Hp} {M M' : Mp} {J : It} {its : Its} (w : Wks K H M J its) (g : Mov H M H' M') : Wks K H' M' J its :=
  fun i H2 M2 s g2 S => w i H2 M2 s (g.trans g2) S
section
variable {K : Fw} {H : Hp} {M : Mp}
theorem wks_list {a : Addr} {xs : List EV} {vs : List V} (t : LstAt K H M a vs) (R : Reps K H M xs vs) : Wks K H M (Itl K a) (.st xs) := by
  intro i H' M' s g S
  have t' := (t.mov g).sq
  have R' := Reps.mov g xs vs R
  refine ⟨fun e => ?_, fun x e => ?_⟩
  · have e' : xs[i]? = none := Option.some.inj e
    exact ⟨vs, t', by rw [R'.length]; exact List.getElem?_eq_none_iff.mp e'⟩
  · have e' : xs[i]? = some x := Option.some.inj e
    obtain ⟨v, h1, h2⟩ := R'.get e'
    have hi := (List.getElem?_eq_some_iff.mp h1).1
    refine ⟨Nat.lt_of_lt_of_le hi t.1, ⟨vs, v, t', h1⟩, fun w H'' y => ?_⟩
    obtain ⟨e2, y⟩ := y
    have q := y vs t'
    rw [h1] at q; cases q
    subst e2
    exact ⟨Grow.refl, S, h2⟩
theorem wks_tup {a : Addr} {xs : List EV} {vs : List V} (t : TupAt K H M a vs) (R : Reps K H M xs vs) : Wks K H M (Itt K a) (.st xs) := by
  intro i H' M' s g S
  have t' := (t.mov g).sq
  have R' := Reps.mov g xs vs R
  refine ⟨fun e => ?_, fun x e => ?_⟩
  · have e' : xs[i]? = none := Option.some.inj e
    exact ⟨vs, t', by rw [R'.length]; exact List.getElem?_eq_none_iff.mp e'⟩
  · have e' : xs[i]? = some x := Option.some.inj e
    obtain ⟨v, h1, h2⟩ := R'.get e'
    have hi := (List.getElem?_eq_some_iff.mp h1).1
    refine ⟨Nat.lt_of_lt_of_le hi t.1, ⟨vs, v, t', h1⟩, fun w H'' y => ?_⟩
    obtain ⟨e2, y⟩ := y
    have q := y vs t'
    rw [h1] at q; cases q
    subst e2
    exact ⟨Grow.refl, S, h2⟩
theorem wks_obj {a : Addr} {n : Nat} (e : M.ad[n]? = some a) : Wks K H M (Itl K a) (.ob n) := by
  intro i H' M' s g S
  have e1 : M'.ad[n]? = some a := by
    obtain ⟨t, et⟩ := g.pre
    rw [et, List.getElem?_append_left (List.getElem?_eq_some_iff.mp e).1]
    exact e
  have key : ∀ o, (Its.ob n).nxt i s = some o → ∃ xs vs, s[n]? = some (.lst xs) ∧ o = xs[i]? ∧ H' a = some (.lst vs) ∧ vs.length ≤ sizeLine ∧ Reps K H' M' xs vs := by
    intro o q
    have q' : (match s[n]? with
      | some (.lst xs) => some (xs[i]?)
      | _ => none) = some o := q
    split at q'
    · rename_i xs es
      obtain ⟨vs, h1, h2, h3⟩ := S.at_ n a _ e1 es
      exact ⟨xs, vs, es, (Option.some.inj q').symm, h1, h2, h3⟩
    · cases q'
  refine ⟨fun q => ?_, fun x q => ?_⟩
  · obtain ⟨xs, vs, _, e2, h1, h2, h3⟩ := key _ q
    exact ⟨vs, .inl (.inl h1), by rw [h3.length]; exact List.getElem?_eq_none_iff.mp e2.symm⟩
  · obtain ⟨xs, vs, _, e2, h1, h2, h3⟩ := key _ q
    obtain ⟨v, h4, h5⟩ := h3.get e2.symm
    have hi := (List.getElem?_eq_some_iff.mp h4).1
    refine ⟨Nat.lt_of_lt_of_le hi h2, ⟨vs, v, .inl (.inl h1), h4⟩, fun w H'' y => ?_⟩
    obtain ⟨e3, y⟩ := y
    have q := y vs (.inl (.inl h1))
    rw [h4] at q; cases q
    subst e3
    exact ⟨Grow.refl, S, h5⟩
theorem wks_rng {a : Int} {n : Nat} (hn : n < big) : Wks K H M (Itr a n) (.st (rngs a n)) := by
  intro i H' M' s g S
  have hl : (rngs a n).length = n := by unfold rngs; simp
  refine ⟨fun e => ?_, fun x e => ?_⟩
  · have e' : (rngs a n)[i]? = none := Option.some.inj e
    have := List.getElem?_eq_none_iff.mp e'
    rw [hl] at this
    exact this
  · have e' : (rngs a n)[i]? = some x := Option.some.inj e
    have hi := (List.getElem?_eq_some_iff.mp e').1
    rw [hl] at hi
    have ex : x = .int (a + i) := by
      unfold rngs at e'
      rw [List.getElem?_map, List.getElem?_range hi] at e'
      exact (Option.some.inj e').symm
    subst ex
    refine ⟨by rw [← big_eq]; omega, hi, fun w H'' y => ?_⟩
    obtain ⟨e3, y⟩ := y
    subst y
    subst e3
    exact ⟨Grow.refl, S, rfl⟩
theorem wks_str {z : Str} (ok : SOk z) : Wks K H M (L2.Its z) (.st (signs z)) := by
  intro i H' M' s g S
  have hl : (signs z).length = z.cps.size := by unfold signs; simp
  refine ⟨fun e => ?_, fun x e => ?_⟩
  · have e' : (signs z)[i]? = none := Option.some.inj e
    have := List.getElem?_eq_none_iff.mp e'
    rw [hl] at this
    exact this
  · have e' : (signs z)[i]? = some x := Option.some.inj e
    have hi := (List.getElem?_eq_some_iff.mp e').1
    rw [hl] at hi
    refine ⟨Nat.lt_of_lt_of_le hi ok.1, hi, fun w H'' y => ?_⟩
    obtain ⟨e3, c, e4, e5⟩ := y
    subst e3
    have ex : x = .str ⟨#[c]⟩ := by
      unfold signs at e'
      rw [List.getElem?_map, Array.getElem?_toList, e4] at e'
      exact (Option.some.inj e').symm
    subst ex
    rw [e5]
    exact ⟨Grow.refl, S, rfl, sOk_one ok (Array.mem_toList_iff.mpr (Array.mem_of_getElem? e4))⟩
theorem enums_get : ∀ (xs : List EV) (k i : Nat), (enums k xs)[i]? = (xs[i]?).map fun x => EV.tup [.int ((k + i : Nat) : Int), x]
  | [], k, i => by simp [enums]
  | x :: xs, k, 0 => by simp [enums]
  | x :: xs, k, i + 1 => by
    show (enums (k + 1) xs)[i]? = _
    rw [enums_get xs (k + 1) i]
    simp [Nat.add_assoc, Nat.add_comm 1 i]
theorem rep_pair {p : Addr} {s : Sto} {x y : EV} {v w : V} (S : StOk K H M s) (hn : H p = none) (Rx : Rep K H M x v) (Ry : Rep K H M y w) : Grow H M (upd H p (.tup [v, w])) M ∧ StOk K (upd H p (.tup [v, w])) M s ∧ Rep K (upd H p (.tup [v, w])) M (.tup [x, y]) (.ref p) := by
  refine ⟨Grow.laid S hn, S.laid hn, Rep.new_tup S hn (by show 2 ≤ sizeLine; decide) ?_⟩
  rw [Reps.cons_iff]
  exact ⟨v, [w], rfl, Rx, Reps.single Ry⟩
theorem wks_enum {a : Addr} {xs : List EV} {vs : List V} (t : LstAt K H M a vs) (R : Reps K H M xs vs) : Wks K H M (Ite K a) (.st (enums 0 xs)) := by
  intro i H' M' s g S
  have t' := (t.mov g).sq
  have R' := Reps.mov g xs vs R
  refine ⟨fun e => ?_, fun x e => ?_⟩
  · have e' : (enums 0 xs)[i]? = none := Option.some.inj e
    rw [enums_get, Option.map_eq_none_iff] at e'
    exact ⟨vs, t', by rw [R'.length]; exact List.getElem?_eq_none_iff.mp e'⟩
  · have e' : (enums 0 xs)[i]? = some x := Option.some.inj e
    rw [enums_get] at e'
    obtain ⟨x', e1, e2⟩ := Option.map_eq_some_iff.mp e'
    subst e2
    obtain ⟨v, h1, h2⟩ := R'.get e1
    have hi := (List.getElem?_eq_some_iff.mp h1).1
    refine ⟨Nat.lt_of_lt_of_le hi t.1, ⟨vs, v, t', h1⟩, fun w H'' y => ?_⟩
    obtain ⟨T, y', e3, hn, e4, e5⟩ := y
    have q := e5 vs t'
    rw [h1] at q; cases q
    subst e3; subst e4
    exact rep_pair S hn (by rw [Nat.zero_add]; rfl) h2
theorem zips_get : ∀ (xs ys : List EV) (i : Nat), (zips xs ys)[i]? = match xs[i]?, ys[i]? with
    | some x, some y => some (EV.tup [x, y])
    | _, _ => none
  | [], _, i => by simp [zips]
  | x :: xs, [], i => by
    simp [zips]
  | x :: xs, y :: ys, 0 => by simp [zips]
  | x :: xs, y :: ys, i + 1 => by
    show (zips xs ys)[i]? = _
    rw [zips_get xs ys i]
    simp
theorem zips_some {xs ys : List EV} {i : Nat} {z : EV} (h : (zips xs ys)[i]? = some z) : ∃ x y, xs[i]? = some x ∧ ys[i]? = some y ∧ z = .tup [x, y] := by
  rw [zips_get] at h
  split at h
  · rename_i x y e1 e2
    cases h
    exact ⟨x, y, e1, e2, rfl⟩
  · cases h
theorem zips_none {xs ys : List EV} {i : Nat} (h : (zips xs ys)[i]? = none) : xs.length ≤ i ∨ ys.length ≤ i := by
  rw [zips_get] at h
  cases e1 : xs[i]? with
  | none => exact .inl (List.getElem?_eq_none_iff.mp e1)
  | some x =>
    cases e2 : ys[i]? with
    | none => exact .inr (List.getElem?_eq_none_iff.mp e2)
    | some y => rw [e1, e2] at h; cases h
theorem wks_zip {a b : Addr} {xs ys : List EV} {vs ws : List V} (t : LstAt K H M a vs) (R : Reps K H M xs vs) (t2 : LstAt K H M b ws) (R2 : Reps K H M ys ws) : Wks K H M (Itz K a b) (.st (zips xs ys)) := by
  intro i H' M' s g S
  have t' := (t.mov g).sq
  have R' := Reps.mov g xs vs R
  have t2' := (t2.mov g).sq
  have R2' := Reps.mov g ys ws R2
  refine ⟨fun e => ?_, fun x e => ?_⟩
  · have e' : (zips xs ys)[i]? = none := Option.some.inj e
    exact ⟨vs, ws, t', t2', by rw [R'.length, R2'.length]; exact zips_none e'⟩
  · have e' : (zips xs ys)[i]? = some x := Option.some.inj e
    obtain ⟨x', y', e1, e2, rfl⟩ := zips_some e'
    obtain ⟨v, h1, h2⟩ := R'.get e1
    obtain ⟨w, h3, h4⟩ := R2'.get e2
    have hi := (List.getElem?_eq_some_iff.mp h1).1
    refine ⟨Nat.lt_of_lt_of_le hi t.1, ⟨vs, ws, v, w, t', t2', h1, h3⟩, fun u H'' y => ?_⟩
    obtain ⟨T, v', w', e3, hn, e4, e5, e6⟩ := y
    have q := e5 vs t'
    rw [h1] at q; cases q
    have q := e6 ws t2'
    rw [h3] at q; cases q
    subst e3; subst e4
    exact rep_pair S hn h2 h4
theorem wks_zipT {a b : Addr} {xs ys : List EV} {vs ws : List V} (t : TupAt K H M a vs) (R : Reps K H M xs vs) (t2 : TupAt K H M b ws) (R2 : Reps K H M ys ws) : Wks K H M (RZ.ItzT K a b) (.st (zips xs ys)) := by
  intro i H' M' s g S
  have t' := (t.mov g).sq
  have R' := Reps.mov g xs vs R
  have t2' := (t2.mov g).sq
  have R2' := Reps.mov g ys ws R2
  refine ⟨fun e => ?_, fun x e => ?_⟩
  · have e' : (zips xs ys)[i]? = none := Option.some.inj e
    exact ⟨vs, ws, t', t2', by rw [R'.length, R2'.length]; exact zips_none e'⟩
  · have e' : (zips xs ys)[i]? = some x := Option.some.inj e
    obtain ⟨x', y', e1, e2, rfl⟩ := zips_some e'
    obtain ⟨v, h1, h2⟩ := R'.get e1
    obtain ⟨w, h3, h4⟩ := R2'.get e2
    have hi := (List.getElem?_eq_some_iff.mp h1).1
    refine ⟨Nat.lt_of_lt_of_le hi t.1, ⟨vs, ws, v, w, t', t2', h1, h3⟩, fun u H'' y => ?_⟩
    obtain ⟨T, v', w', e3, hn, e4, e5, e6⟩ := y
    have q := e5 vs t'
    rw [h1] at q; cases q
    have q := e6 ws t2'
    rw [h3] at q; cases q
    subst e3; subst e4
    exact rep_pair S hn h2 h4
end

/-- what a source asks -/
def tSrc (K : Fw) (xs : Nat → Option (Value × Str)) (W : WX) (f : En → Sto → R Its) : TI := fun σ H Q =>
  ∃ ρ M s, EnOk K H M ρ σ ∧ StOk K H M s ∧ Post (wsh K xs H M (WE W σ)) (f ρ s) fun its s' => ∀ H' M' J, Grow H M H' M' → StOk K H' M' s' → Wks K H' M' J its → Q J H'
theorem _root_.L2.PI.imp {X : Cx} {tg e : Expr} {t t' : TI} (h : PI X tg e t) (w : ∀ σ H Q, t' σ H Q → t σ H Q) : PI X tg e t' := ⟨fun pins s σ H Q I q => h.run pins s σ H Q I (w σ H Q q)⟩
/-- a list, a tuple or a text -/
theorem pi_seq {X : Cx} {tg l : Expr} {tl : TE} (hl : PE X l tl) : PI X tg l (fun σ H Q => tl σ H fun x H1 => (∃ z : Str, x = .str z ∧ Q (L2.Its z) H1) ∨ ∃ a, x = .ref a ∧
    ((∃ xs, SqL X.kw H1 a xs) ∧ Q (Itl X.kw a) H1 ∨ (∃ xs, SqT X.kw H1 a xs) ∧ Q (Itt X.kw a) H1)) := by
  refine ⟨fun pins s σ H R I h => ?_⟩
  refine thn (hl.run pins s σ H _ I h) fun v s1 ⟨x, H1, I1, r1, q1⟩ => ?_
  rcases q1 with ⟨z, ez, q⟩ | q1
  · subst ez
    obtain ⟨t, rfl⟩ := r1
    cases ha : z.cps.all (· < 128)
    · exact PySem.wpAny_pyIter_wide ha (pi_one (tk := s1.toks) I1 _ (turn_str _ z t "str_iterator" (.inr rfl)) ⟨_, Heap.get?_push_size _ rfl, rfl, rfl⟩ q)
    · exact PySem.wpAny_pyIter_ascii ha (pi_one (tk := s1.toks) I1 _ (turn_str _ z t "str_ascii_iterator" (.inl rfl)) ⟨_, Heap.get?_push_size _ rfl, rfl, rfl⟩ q)
  obtain ⟨a, e, q1⟩ := q1
  subst e
  cases r1
  rcases q1 with ⟨⟨xs, hq⟩, q⟩ | ⟨⟨xs, hq⟩, q⟩
  · obtain ⟨its, rv, p, hz⟩ := I1.list hq
    refine wpAny_pyIter_list p.isList ?_
    refine ⟨s1.heap.objs.size, [s1.heap.objs.size], _, _, H1, rfl, I1.kept (t' := s1.toks) fun b o e => Heap.get?_push_of_some _ e, turn_list a _, ⟨_, Heap.get?_push_size _ rfl, rfl, rfl⟩, fun b hb => ?_, q⟩
    have e : b = s1.heap.objs.size := by simpa using hb
    subst e
    exact I1.fpOk (Nat.le_refl _) (I1.hok.fresh (Nat.le_refl _))
  · obtain ⟨its, rv, p, hz⟩ := I1.tuple hq
    refine wpAny_pyIter_tuple (show s1.heap.IsTuple a its.toArray from p) ?_
    refine ⟨s1.heap.objs.size, [s1.heap.objs.size], _, _, H1, rfl, I1.kept (t' := s1.toks) fun b o e => Heap.get?_push_of_some _ e, turn_tuple a _, ⟨_, Heap.get?_push_size _ rfl, rfl, rfl⟩, fun b hb => ?_, q⟩
    have e : b = s1.heap.objs.size := by simpa using hb
    subst e
    exact I1.fpOk (Nat.le_refl _) (I1.hok.fresh (Nat.le_refl _))

/-! ### targets -/
/-- what a target asks: the slots outside of its names stay -/
def nope : Nat → List EV → Sto → Prop := fun _ _ _ => False
theorem Post.nox {α : Type} {W : Nat → List EV → Sto → Prop} {r : R α} {Q : α → Sto → Prop} : Post W r.nox Q ↔ Post nope r Q := by
  cases r <;> exact Iff.rfl
def tTg (K : Fw) (own : Nat → Bool) (f : EV → En → Sto → R En) : TG := fun r σ H Q =>
  ∃ v ρ M s, EnOk K H M ρ σ ∧ StOk K H M s ∧ Rep K H M v r ∧ Post nope (f v ρ s) fun ρ' s' => ∀ H' M' σ', Grow H M H' M' → StOk K H' M' s' → EnOk K H' M' ρ' σ' →
    σ'.length = σ.length → (∀ j, own j = false → σ'[j]? = σ[j]?) → Q σ' H'
def tTgs (K : Fw) (own : Nat → Bool) (f : List EV → En → Sto → R En) : TGs := fun rs σ H Q =>
  ∃ vs ρ M s, EnOk K H M ρ σ ∧ StOk K H M s ∧ Reps K H M vs rs ∧ Post nope (f vs ρ s) fun ρ' s' => ∀ H' M' σ', Grow H M H' M' → StOk K H' M' s' → EnOk K H' M' ρ' σ' →
    σ'.length = σ.length → (∀ j, own j = false → σ'[j]? = σ[j]?) → Q σ' H'
theorem _root_.L2.PG.imp {X : Cx} {tg : Expr} {t t' : TG} (h : PG X tg t) (w : ∀ v σ H Q, t' v σ H Q → t v σ H Q) : PG X tg t' := ⟨fun pins s σ H v u Q I r q => h.run pins s σ H v u Q I r (w v σ H Q q)⟩
theorem _root_.L2.PGs.imp {X : Cx} {tg : List Expr} {t t' : TGs} (h : PGs X tg t) (w : ∀ v σ H Q, t' v σ H Q → t v σ H Q) : PGs X tg t' := ⟨fun pins s σ H v u Q I r q => h.run pins s σ H v u Q I r (w v σ H Q q)⟩
end Pm

end
section
set_option maxHeartbeats 2000000
/-! Walking a dict with tuple keys while it is locked. -/
namespace Pm
open PySem PySem.Spec PyProof.Rows L2
/-- the keys of the locked dict -/
def ItN (w : World) (d : Addr) (o : Obj) (xs : NX) : It :=
  ⟨fun i H => H d = some (.frz o (NDO w d xs)) ∧ i < xs.length, fun i H x H' => H' = H ∧ ∃ p, xs[i]? = some p ∧ x = p.2.1, fun i H => H d = some (.frz o (NDO w d xs)) ∧ xs.length ≤ i⟩
section
variable {X : Cx} {pins : List (Addr × Obj)} {σ : L2.St} {H : Hp} {s : Shared} {d : Addr} {o : Obj} {xs : NX} {es : Array DictEntry} {ep : Nat}
theorem npaired {xs : NX} {ys : List (NestedKey × Addr × Value)} (h : Paired (fun (p : NestedKey × V × V) (q : NestedKey × Addr × Value) => p.1 = q.1 ∧ p.2.1 = V.ref q.2.1 ∧ RelV p.2.2 q.2.2) xs ys) : ∀ (i : Nat) (p : NestedKey × V × V), xs[i]? = some p → ∃ q, ys[i]? = some q ∧ p.2.1 = V.ref q.2.1 := by
  induction h with
  | nil => intro i p e; simp at e
  | cons h1 _ ih =>
    intro i p e
    cases i with
    | zero =>
      simp at e
      subst e
      exact ⟨_, by simp, h1.2.1⟩
    | succ i =>
      simp at e
      obtain ⟨q, e1, e2⟩ := ih i p e
      exact ⟨q, by simpa using e1, e2⟩
theorem frzN (I : Inv X pins σ H s) (h : H d = some (.frz o (NDO X.w d xs))) : s.heap.get? d = some o ∧ o.ExactDict ∧ ∃ (es : Array DictEntry) (ep : Nat), o.data = .dict es ep ∧ es.size = xs.length ∧
    ∀ (i : Nat) (p : NestedKey × V × V), xs[i]? = some p → ∃ (en : DictEntry) (q : Addr), es[i]? = some en ∧ en.key = .ref q ∧ p.2.1 = V.ref q := by
  obtain ⟨hd, ⟨P, o', es, ep, ys, h1, h2, h3, h4, h5, h6⟩, _⟩ := (show _ ∧ _ ∧ _ from I.hok d _ h)
  rw [hd] at h1
  cases h1
  have l1 : es.size = ys.length := by
    rw [← Array.length_toList, h4, List.length_map]
  have l2 : xs.length = ys.length := Paired.length h6
  refine ⟨hd, h2, es, ep, h3, by omega, fun i p e => ?_⟩
  obtain ⟨q, e1, e2⟩ := npaired h6 i p e
  refine ⟨entryOfKey (nestedKind P X.w) q, q.2.1, ?_, rfl, e2⟩
  rw [← Array.getElem?_toList, h4, List.getElem?_map, e1]; rfl
theorem turn_keysN {P : Program} {w : World} {K : PySem.W.Frag} {tg : Expr} (it : Addr) (hod : o.data = .dict es ep) : Turn P w K tg (ItN w d o xs) [it] it (fun i h => h.IsKeyIter it d i xs.length ep) where
  mem := by simp
  obj := fun i h st b hb => by
    have e : b = it := by simpa using hb
    subst e
    obtain ⟨oi, e, c, dd⟩ := st
    exact ⟨oi, e, fun v z => by rw [dd] at z; cases z⟩
  keep := fun i h h' st k => st.at fun oi e => k it (by simp) oi e
  item := by
    intro X hP hw hK hc i pins s σ H E I hf st hg
    subst hP hw hK
    obtain ⟨hd, hi⟩ := hg
    obtain ⟨f0, f1, f2, f3, f4, f5⟩ := hf it (by simp)
    obtain ⟨hgd, hx, es', ep', hdt, hsz, ent⟩ := frzN I hd
    obtain ⟨rfl, rfl⟩ := dict_ep hod hdt
    obtain ⟨p, hp⟩ : ∃ p, xs[i]? = some p := ⟨xs[i], List.getElem?_eq_getElem hi⟩
    obtain ⟨en, q, hen, hkey, hq⟩ := ent i p hp
    refine next_key_item st hgd hdt hsz hen fun h' st' sb => ?_
    have I1 : Inv X pins σ H { s with heap := h' } := I.turned (t' := s.toks) (fun b ob hb e => (sb.2 b hb).trans e) f0 f1 f3 f4 f5
    obtain ⟨oi, e, c, dd⟩ := id st'
    exact ⟨en.key, rfl, go_of (s := { s with heap := h' }) e c dd (by decide) ⟨.ref q, H, I1, hkey, ⟨rfl, p, hp, hq.symm⟩, st', fun b hb => (hf b hb).1⟩⟩
  done := by
    intro X hP hw hK hc i pins s σ H E I hf st hg
    subst hP hw hK
    obtain ⟨hd, hi⟩ := hg
    obtain ⟨f0, f1, f2, f3, f4, f5⟩ := hf it (by simp)
    obtain ⟨hgd, hx, es', ep', hdt, hsz, ent⟩ := frzN I hd
    obtain ⟨rfl, rfl⟩ := dict_ep hod hdt
    exact next_key_end (I.ok.hd hc) st hgd hdt hsz hi fun h' eb => ⟨rfl, I.turned (t' := s.toks) (fun b ob hb e => eb b ob hb e) f0 f1 f3 f4 f5⟩
  self := fun A i s Q E st h => by
    refine wpAny_pyIter_slot st.typeIs F.slot_dict_keyiterator_iter (wpAny_call_entry F.slot_dict_keyiterator_iter st.typeIs F.entry_dict_keyiterator_iter ?_ (F.args_dict_keyiterator_iter_1 _))
    show wpAny _ _ (ret (.ref it)) _ _ s
    exact wpAny_pure ⟨_, rfl, "dict_keyiterator", _, st.typeIs, F.slot_dict_keyiterator_next.lookup, h⟩
def iKN (w : World) (td : TE) : TI := fun σ H R => td σ H fun x H1 => ∃ (d : Addr) (o : Obj) (xs : NX), x = .ref d ∧ (d == sysModules) = false ∧ H1 d = some (.frz o (NDO w d xs)) ∧ R (ItN w d o xs) H1
theorem pi_keysN {tg e : Expr} {td : TE} (he : PE X e td) : PI X tg e (iKN X.w td) := by
  refine ⟨fun pins s σ H R I h => ?_⟩
  refine thn (he.run pins s σ H _ I h) fun u s1 ⟨x, H1, I1, rx, d, o, xs, ex, hs, hd, q⟩ => ?_
  subst ex
  obtain rfl : u = Value.ref d := rx
  obtain ⟨hgd, hx, es, ep, hdt, hsz, ent⟩ := frzN I1 hd
  refine iter_keys hs hgd hx hdt (pi_one (tk := s1.toks) I1 _ (turn_keysN _ hdt) ⟨_, Heap.get?_push_size _ rfl, rfl, ?_⟩ q)
  rw [hsz]; rfl
end
end Pm

end
section
set_option maxHeartbeats 1000000
namespace Pm
open PySem L2

/-- an optional test -/
def KTo (K : Fw) (H : Hp) (M : Mp) (Q : Bool → Hp → Prop) (o : Option EV) (s : Sto) : Prop :=
  ∃ b, o.elim (some true) (truth s) = some b ∧ ∀ H' M', Grow H M H' M' → StOk K H' M' s → Q b H'
def tRo (K : Fw) (f : En → Sto → R (Option EV)) : TT := fun σ H Q =>
  ∃ ρ M s, EnOk K H M ρ σ ∧ StOk K H M s ∧ Post nope (f ρ s) (KTo K H M Q)
/-- an expression within a block: no error comes -/
def tRn (K : Fw) (f : En → Sto → R EV) : TE := fun σ H Q =>
  ∃ ρ M s, EnOk K H M ρ σ ∧ StOk K H M s ∧ Post nope (f ρ s) (KV K H M Q)
theorem tRn_of {K : Fw} {xs : Nat → Option (Value × Str)} {W : WX} {f : En → Sto → R EV} (σ : St) (H : Hp) (Q : VK) (h : tRn K f σ H Q) : tR K xs W f σ H Q :=
  let ⟨ρ, M, s, e, S, p⟩ := h
  ⟨ρ, M, s, e, S, p.mono (fun _ _ z => z) fun _ _ _ z => z.elim⟩

/-- one turn of a comprehension -/
def cbody (C : Ct) (t : Tg) (cn : Op) (el : Ex) (ρ0 : En) (x : EV) (s2 : Sto) : R (Option EV) :=
  (asgT C t x ρ0 s2).bind fun ρ3 s3 => (denO C cn ρ3 s3).bind fun o s4 => match o.elim (some true) (truth s4) with
    | some true => (den C el ρ3 s4).bind fun y s5 => .ok (some y) s5
    | some false => .ok none s4
    | none => .stuck
/-- what is left of a comprehension's turns -/
structure Rem (its : Its) (body : EV → Sto → R (Option EV)) (P : Nat → Nat → Sto → (List EV → Sto → Prop) → Prop) : Prop where
  turn : ∀ i m s Q, P i m s Q → (its.nxt i s = some none ∧ Q [] s) ∨ ∃ x, its.nxt i s = some (some x) ∧ Post nope (body x s) fun o s1 => ∃ m', m' < m ∧ P (i + 1) m' s1 fun r s2 => Q (o.toList ++ r) s2
theorem rem_st (xs : List EV) (body : EV → Sto → R (Option EV)) : Rem (.st xs) body fun i m s Q => m = xs.length - i ∧ i ≤ xs.length ∧ Post nope (cst body (xs.drop i) s) Q := by
  refine ⟨fun i m s Q ⟨hm, hi, p⟩ => ?_⟩
  by_cases h : i < xs.length
  · right
    have e : xs.drop i = xs[i] :: xs.drop (i + 1) := List.drop_eq_getElem_cons h
    refine ⟨xs[i], by show some (xs[i]?) = _; rw [List.getElem?_eq_getElem h], ?_⟩
    rw [e] at p
    have p' : Post nope ((body xs[i] s).bind fun o s1 => (cst body (xs.drop (i + 1)) s1).bind fun r s2 => .ok (o.toList ++ r) s2) Q := p
    refine (Post.bind.mp p').mono (fun o s1 q => ⟨xs.length - (i + 1), by omega, rfl, h, ?_⟩) fun _ _ _ z => z
    exact (Post.bind.mp q).mono (fun _ _ z => z) fun _ _ _ z => z
  · left
    have e : xs.drop i = [] := List.drop_eq_nil_iff.mpr (by omega)
    rw [e] at p
    exact ⟨by show some (xs[i]?) = _; rw [List.getElem?_eq_none (by omega)], p⟩
theorem rem_ob (n : Nat) (body : EV → Sto → R (Option EV)) : Rem (.ob n) body fun i m s Q => Post nope (cdy n body m i s) Q := by
  refine ⟨fun i m s Q p => ?_⟩
  cases m with
  | zero => exact p.elim
  | succ m =>
    have p' : Post nope (match s[n]? with
      | some (.lst xs) => match xs[i]? with
        | none => .ok [] s
        | some x => (body x s).bind fun o s1 => (cdy n body m (i + 1) s1).bind fun r s2 => .ok (o.toList ++ r) s2
      | _ => .stuck) Q := p
    have nx : ∀ ys, s[n]? = some (.lst ys) → (Its.ob n).nxt i s = some (ys[i]?) := fun ys e => by
      show (match s[n]? with
        | some (.lst xs) => some (xs[i]?)
        | _ => none) = _
      rw [e]
    split at p'
    · rename_i ys e
      split at p'
      · rename_i e2
        left
        exact ⟨by rw [nx ys e, e2], p'⟩
      · rename_i x e2
        right
        refine ⟨x, by rw [nx ys e, e2], ?_⟩
        refine (Post.bind.mp p').mono (fun o s1 q => ⟨m, Nat.lt_succ_self m, ?_⟩) fun _ _ _ z => z
        exact (Post.bind.mp q).mono (fun _ _ z => z) fun _ _ _ z => z
    · exact p'.elim

theorem wipe_get {σ σ' : St} : ∀ {vs : List Nat}, σ'.length = σ.length → (∀ j, j ∉ vs → σ'[j]? = σ[j]?) → L2.wipe σ' vs = L2.wipe σ vs := by
  intro vs hl h
  apply List.ext_getElem?
  intro j
  have wl : ∀ (τ : St) (vs : List Nat), (L2.wipe τ vs).length = τ.length := fun τ vs => L2.wipe_length τ vs
  by_cases hj : j ∈ vs
  · have key : ∀ (τ : St) (vs : List Nat), j ∈ vs → j < τ.length → (L2.wipe τ vs)[j]? = some none := by
      intro τ vs
      induction vs with
      | nil => intro z; simp at z
      | cons v r ih =>
        intro z hjl
        unfold L2.wipe
        by_cases e : v = j
        · subst e
          rw [List.getElem?_set_self (by rw [wl]; exact hjl)]
        · rw [List.getElem?_set_ne e]
          refine ih ?_ hjl
          rcases List.mem_cons.mp z with q | q
          · exact absurd q.symm e
          · exact q
    by_cases hlt : j < σ.length
    · rw [key σ' vs hj (by rw [hl]; exact hlt), key σ vs hj hlt]
    · rw [List.getElem?_eq_none (by rw [wl, hl]; omega), List.getElem?_eq_none (by rw [wl]; omega)]
  · rw [L2.wipe_out hj, L2.wipe_out hj, h j hj]
theorem wipe_wipe {σ : St} {vs : List Nat} : L2.wipe (L2.wipe σ vs) vs = L2.wipe σ vs := wipe_get (L2.wipe_length σ vs) fun j hj => L2.wipe_out hj

section
variable {K : Fw} {xs : Nat → Option (Value × Str)} {W : WX}
/-- a comprehension's turns, from a walk that has begun -/
theorem tLc_core {C : Ct} {t : Tg} {cn : Op} {el : Ex} {own : List Nat} (m : Bool) (σ : St) (H : Hp) (Q : VK) {ρ : En} {M : Mp} {its : Its} {s1 : Sto} {H1 : Hp} {M1 : Mp} {J : It} (e : EnOk K H M ρ σ)
    (p1 : Post (wsh K xs H M (WE W σ)) ((match its with
        | .st xs => cst (cbody C t cn el (Pm.wipe ρ own)) xs s1
        | .ob n => cdy n (cbody C t cn el (Pm.wipe ρ own)) C.fu 0 s1).nox.bind fun vs s5 => if m then .ok (EV.obj s5.length) (s5 ++ [Ob.lst vs]) else .ok (EV.lst vs) s5) (KV K H M Q))
    (g1 : Grow H M H1 M1) (S1 : StOk K H1 M1 s1) (wk : Wks K H1 M1 J its) :
    tLc (fun _ _ R => R J H1) (tTg K (fun j => own.contains j) (asgT C t)) (tRo K (denO C cn)) (tRn K (den C el)) own σ H Q := by
  intro D hD
  -- the rest of the turns, of either kind
  let Fin : List EV → Sto → Prop := fun vs s5 => Post (wsh K xs H M (WE W σ)) (if m then .ok (EV.obj s5.length) (s5 ++ [Ob.lst vs]) else .ok (EV.lst vs) s5) (KV K H M Q)
  obtain ⟨P, rm, m0, P0⟩ : ∃ P, Rem its (cbody C t cn el (Pm.wipe ρ own)) P ∧ ∃ m0, P 0 m0 s1 Fin := by
    have p2 := Post.nox.mp (Post.bind.mp p1)
    cases its with
    | st ys => exact ⟨_, rem_st ys _, ys.length, by simp, Nat.zero_le _, p2⟩
    | ob n => exact ⟨_, rem_ob n _, C.fu, p2⟩
  have e1 := e.grow g1
  have mv0 : Mov H1 M1 (upd H1 D (.lst [])) (M1.priv D) := Mov.priv S1 hD
  have dnp : D ∉ M1.pv := (S1.new hD).2
  -- the invariant
  refine ⟨fun i m' H2 => ∃ ad s2 acc accV, Mov H1 M1 H2 ⟨ad, D :: M1.pv⟩ ∧ Grow H1 M1 H2 ⟨ad, M1.pv⟩ ∧ StOk K H2 ⟨ad, D :: M1.pv⟩ s2 ∧ EnOk K H2 ⟨ad, D :: M1.pv⟩ (Pm.wipe ρ own) (L2.wipe σ own) ∧
      H2 D = some (.lst accV) ∧ accV.length ≤ i ∧ accV.length ≤ sizeLine ∧ Reps K H2 ⟨ad, D :: M1.pv⟩ acc accV ∧ P i m' s2 fun r s3 => Fin (acc ++ r) s3,
    ⟨m0, M1.ad, s1, [], [], mv0, ?_, S1.priv hD, (e1.wipe own).mov mv0, upd_same, Nat.le_refl _, Nat.zero_le _, by rw [Reps.nil_iff], by simpa using P0⟩, ?_⟩
  · exact ⟨⟨[], by simp⟩, rfl, fun b u eb nb => ⟨by rw [upd_ne (ne_of_none eb hD)]; exact eb, nb⟩⟩
  rintro i m' H2 ⟨ad, s2, acc, accV, mv, gr, S2, en, hA, hAl, hAz, RA, PP⟩
  have wk2 := wk i H2 ⟨ad, D :: M1.pv⟩ s2 mv S2
  rcases rm.turn i m' s2 _ PP with ⟨nx, fin⟩ | ⟨x, nx, bd⟩
  · left
    refine ⟨wk2.1 nx, ?_⟩
    have S3 : StOk K H2 ⟨ad, M1.pv⟩ s2 := S2.unpriv
    have R3 : Reps K H2 ⟨ad, M1.pv⟩ acc accV := Reps.mov (Mov.unpriv (M := ⟨ad, M1.pv⟩)) _ _ RA
    have nD : (⟨ad, M1.pv⟩ : Mp).no D := ⟨(S2.pv D (by simp)).2, dnp⟩
    rw [List.append_nil] at fin
    cases m with
    | false =>
      have f' : KV K H M Q (.lst acc) s2 := fin
      refine f' H2 ⟨ad, M1.pv⟩ _ (g1.trans gr) S3 ?_
      rw [Rep.lst_iff]
      exact ⟨D, accV, rfl, ⟨hAz, .inl hA, nD⟩, R3⟩
    | true =>
      have f' : KV K H M Q (.obj s2.length) (s2 ++ [.lst acc]) := fin
      -- the list itself becomes an object of the machine
      have gm : Grow H1 M1 H2 ⟨ad ++ [D], M1.pv⟩ := by
        obtain ⟨t1, et⟩ := gr.pre
        refine ⟨⟨t1 ++ [D], by rw [show ad = M1.ad ++ t1 from et, List.append_assoc]⟩, rfl, fun b u eb nb => ?_⟩
        obtain ⟨q1, q2⟩ := gr.keep b u eb nb
        refine ⟨q1, ?_⟩
        show b ∉ ad ++ [D]
        have : b ≠ D := ne_of_none eb hD
        simp [show b ∉ ad from q2, this]
      have mv2 : Mov H2 ⟨ad, D :: M1.pv⟩ H2 ⟨ad ++ [D], M1.pv⟩ := by
        refine ⟨⟨[D], rfl⟩, fun b u eb nb => ⟨eb, ?_, fun z => nb.2 (List.mem_cons_of_mem _ z)⟩⟩
        show b ∉ ad ++ [D]
        have h1 : b ∉ ad := nb.1
        have h2 : b ≠ D := fun z => nb.2 (by rw [z]; exact List.mem_cons_self)
        simp [h1, h2]
      have hla : ad.length = s2.length := S2.len
      have S4 : StOk K H2 ⟨ad ++ [D], M1.pv⟩ (s2 ++ [.lst acc]) := by
        refine ⟨?_, ?_, fun n b u q1 q2 => ?_, fun b hb => ?_⟩
        · show (ad ++ [D]).Nodup
          rw [List.nodup_append]
          refine ⟨S2.nd, by simp, fun y hy z hz => ?_⟩
          simp at hz; subst hz
          rintro rfl
          exact nD.1 hy
        · show (ad ++ [D]).length = _
          simp [hla]
        · have q1' : (ad ++ [D])[n]? = some b := q1
          by_cases hn : n < ad.length
          · rw [List.getElem?_append_left hn] at q1'
            rw [List.getElem?_append_left (by rw [← hla]; exact hn)] at q2
            exact (S2.at_ n b u q1' q2).mov mv2 rfl
          · have hn2 : n = ad.length := by
              have := (List.getElem?_eq_some_iff.mp q1').1
              simp at this; omega
            subst hn2
            rw [List.getElem?_append_right (Nat.le_refl _)] at q1'
            rw [hla, List.getElem?_append_right (Nat.le_refl _)] at q2
            simp at q1' q2
            subst q1'; subst q2
            exact ⟨accV, hA, hAz, Reps.mov mv2 _ _ RA⟩
        · obtain ⟨h1, h2⟩ := S2.pv b (List.mem_cons_of_mem _ hb)
          refine ⟨h1, ?_⟩
          show b ∉ ad ++ [D]
          have h3 : b ∉ ad := h2
          have h4 : b ≠ D := fun z => by subst z; exact dnp hb
          simp [h3, h4]
      refine f' H2 ⟨ad ++ [D], M1.pv⟩ _ (g1.trans gm) S4 ?_
      unfold Rep
      refine ⟨D, rfl, ?_⟩
      show (ad ++ [D])[s2.length]? = some D
      rw [← hla, List.getElem?_append_right (Nat.le_refl _)]; simp
  · right
    obtain ⟨hi, go, yl⟩ := wk2.2 x nx
    -- behind the turn's things: the state goes on
    have onward : ∀ {H3 : Hp} {M3 : Mp} {s3 : Sto}, Grow H2 ⟨ad, D :: M1.pv⟩ H3 M3 → StOk K H3 M3 s3 → M3 = ⟨M3.ad, D :: M1.pv⟩ ∧ Mov H1 M1 H3 M3 ∧ Grow H1 M1 H3 ⟨M3.ad, M1.pv⟩ ∧
        EnOk K H3 M3 (Pm.wipe ρ own) (L2.wipe σ own) ∧ H3 D = some (.lst accV) ∧ Reps K H3 M3 acc accV := by
      intro H3 M3 s3 g S3
      have em : M3 = ⟨M3.ad, D :: M1.pv⟩ := by
        have q := g.pv
        cases M3
        simp at q ⊢
        exact q
      refine ⟨em, mv.trans g.mov, ?_, en.grow g, (g.keep D _ hA (S2.pv D (by simp)).2).1, Reps.grow g _ _ RA⟩
      rw [em] at g
      exact gr.trans g.repv
    refine ⟨go, fun H5 => ∃ m'', m'' < m' ∧ ∃ ad s2 acc accV, Mov H1 M1 H5 ⟨ad, D :: M1.pv⟩ ∧ Grow H1 M1 H5 ⟨ad, M1.pv⟩ ∧ StOk K H5 ⟨ad, D :: M1.pv⟩ s2 ∧ EnOk K H5 ⟨ad, D :: M1.pv⟩ (Pm.wipe ρ own) (L2.wipe σ own) ∧
      H5 D = some (.lst accV) ∧ accV.length ≤ i + 1 ∧ accV.length ≤ sizeLine ∧ Reps K H5 ⟨ad, D :: M1.pv⟩ acc accV ∧ P (i + 1) m'' s2 fun r s3 => Fin (acc ++ r) s3, fun H5 z => z, fun v H'' y => ?_⟩
    obtain ⟨g0, S0, Rx⟩ := yl v H'' y
    have bd := Post.bind.mp bd
    refine ⟨x, Pm.wipe ρ own, ⟨ad, D :: M1.pv⟩, s2, en.grow g0, S0, Rx, bd.mono (fun ρ3 s3 b3 H3 M3 σ3 g3 S3 e3 hl out => ?_) fun _ _ _ z => z⟩
    have g3 := g0.trans g3
    obtain ⟨em3, mv3, gr3, en3, hA3, RA3⟩ := onward g3 S3
    refine ⟨?_, ?_⟩
    · rw [wipe_get (σ := L2.wipe σ own) hl fun j hj => out j (by simpa using hj), wipe_wipe]
    · refine ⟨ρ3, M3, s3, e3, S3, (Post.bind.mp b3).mono (fun o s4 b4 => ?_) fun _ _ _ z => z⟩
      cases eb : o.elim (some true) (truth s4) with
      | none => rw [eb] at b4; exact b4.elim
      | some b =>
        rw [eb] at b4
        refine ⟨b, eb, fun H4 M4 g4 S4 => ?_⟩
        obtain ⟨em4, mv4, gr4, en4, hA4, RA4⟩ := onward (g3.trans g4) S4
        cases b with
        | false =>
          show ∃ m'', m'' < m' ∧ _
          obtain ⟨m'', hm, pp⟩ : ∃ m'_1, m'_1 < m' ∧ P (i + 1) m'_1 s4 fun r s2 => Fin (acc ++ ((none : Option EV).toList ++ r)) s2 := b4
          rw [em4] at mv4 S4 en4 RA4
          exact ⟨m'', hm, M4.ad, s4, acc, accV, mv4, gr4, S4, en4, hA4, Nat.le_succ_of_le hAl, hAz, RA4, by simpa using pp⟩
        | true =>
          refine ⟨ρ3, M4, s4, e3.grow g4, S4, (Post.bind.mp b4).mono (fun y s5 b5 H5 M5 r5 g5 S5 R5 => ?_) fun _ _ _ z => z⟩
          obtain ⟨em5, mv5, gr5, en5, hA5, RA5⟩ := onward ((g3.trans g4).trans g5) S5
          refine ⟨accV, hA5, Nat.lt_of_le_of_lt hAl hi, ?_⟩
          obtain ⟨m'', hm, pp⟩ : ∃ m'_1, m'_1 < m' ∧ P (i + 1) m'_1 s5 fun r s2 => Fin (acc ++ ((some y : Option EV).toList ++ r)) s2 := b5
          have inpv : D ∈ M5.pv := by rw [em5]; exact List.mem_cons_self
          have mu : Mov H5 M5 (upd H5 D (.lst (accV ++ [r5]))) M5 := Mov.pupd inpv
          have S6 : StOk K (upd H5 D (.lst (accV ++ [r5]))) M5 s5 := S5.pupd inpv
          have R6 : Reps K (upd H5 D (.lst (accV ++ [r5]))) M5 (acc ++ [y]) (accV ++ [r5]) := Reps.mov mu _ _ (RA5.append (Reps.single R5))
          have en6 := en5.mov mu
          have mv6 := mv5.trans mu
          have gr6 : Grow H1 M1 (upd H5 D (.lst (accV ++ [r5]))) ⟨M5.ad, M1.pv⟩ := by
            refine ⟨gr5.pre, rfl, fun b u eb nb => ?_⟩
            obtain ⟨q1, q2⟩ := gr5.keep b u eb nb
            exact ⟨by rw [upd_ne (ne_of_none eb hD)]; exact q1, q2⟩
          rw [em5] at mv6 S6 en6 R6
          refine ⟨m'', hm, M5.ad, s5, acc ++ [y], accV ++ [r5], mv6, gr6, S6, en6, upd_same, ?_, ?_, R6, ?_⟩
          · rw [List.length_append]; exact Nat.succ_le_succ hAl
          · rw [List.length_append]; exact Nat.lt_of_le_of_lt hAl hi
          · simpa [List.append_assoc] using pp
/-- a comprehension -/
theorem tLc_ok {C : Ct} {t : Tg} {sr : Src} {cn : Op} {el : Ex} {own : List Nat} (m : Bool) (σ : St) (H : Hp) (Q : VK)
    (h : tR K xs W (den C (.comp m t sr cn el own)) σ H Q) :
    tLc (tSrc K xs W (denS C sr)) (tTg K (fun j => own.contains j) (asgT C t)) (tRo K (denO C cn)) (tRn K (den C el)) own σ H Q := by
  obtain ⟨ρ, M, s, e, S, p⟩ := h
  have p : Post (wsh K xs H M (WE W σ)) ((denS C sr ρ s).bind fun its s1 =>
      (match its with
        | .st xs => cst (cbody C t cn el (Pm.wipe ρ own)) xs s1
        | .ob n => cdy n (cbody C t cn el (Pm.wipe ρ own)) C.fu 0 s1).nox.bind fun vs s5 => if m then .ok (EV.obj s5.length) (s5 ++ [Ob.lst vs]) else .ok (EV.lst vs) s5) (KV K H M Q) := p
  refine ⟨ρ, M, s, e, S, (Post.bind.mp p).mono (fun its s1 p1 H1 M1 J g1 S1 wk => tLc_core m σ H Q e p1 g1 S1 wk) fun _ _ _ z => z⟩
end
end Pm

end
section
set_option maxHeartbeats 2000000
namespace Pm
open PySem L2

theorem denA_len {C : Ct} : ∀ {es : As} {ρ : En} {s : Sto} {vs : List EV} {s' : Sto}, denA C es ρ s = .ok vs s' → vs.length = es.len
  | .nil, ρ, s, vs, s', h => by
    have h' : R.ok [] s = R.ok vs s' := h
    cases h'; rfl
  | .cons e r, ρ, s, vs, s', h => by
    have h' : ((den C e ρ s).bind fun v s1 => (denA C r ρ s1).bind fun vs s2 => .ok (v :: vs) s2) = .ok vs s' := h
    cases e1 : den C e ρ s with
    | ok v s1 =>
      rw [e1] at h'
      cases e2 : denA C r ρ s1 with
      | ok ws s2 =>
        have h2 : ((denA C r ρ s1).bind fun vs s2 => R.ok (v :: vs) s2) = .ok vs s' := h'
        rw [e2] at h2
        have h3 : R.ok (v :: ws) s2 = R.ok vs s' := h2
        cases h3
        show ws.length + 1 = r.len + 1
        rw [denA_len e2]
      | exc _ _ _ =>
        have h2 : ((denA C r ρ s1).bind fun vs s2 => R.ok (v :: vs) s2) = .ok vs s' := h'
        rw [e2] at h2; cases h2
      | stuck =>
        have h2 : ((denA C r ρ s1).bind fun vs s2 => R.ok (v :: vs) s2) = .ok vs s' := h'
        rw [e2] at h2; cases h2
    | exc _ _ _ => rw [e1] at h'; cases h'
    | stuck => rw [e1] at h'; cases h'

/-- an expression of the program and the machine's -/
structure Snd (X : Cx) (C : Ct) (xs : Nat → Option (Value × Str)) (W : WX) (il : Ex) (e : Expr) : Prop where
  pe : PE X e (tR X.kw xs W (den C il))
  pt : PT X e (tRt X.kw xs W (den C il))
  pw : (∃ op vs p, e = .BoolOp op vs p) → PW X e (tRt X.kw xs W (den C il))
theorem Snd.plain {X : Cx} {C : Ct} {xs : Nat → Option (Value × Str)} {W : WX} {il : Ex} {e : Expr} (h : PE X e (tR X.kw xs W (den C il))) (hp : plainTest e = true) : Snd X C xs W il e :=
  ⟨h, (pt_truth h (test_ok hp X.env)).imp fun σ H Q q => tR_test σ H Q q, fun ⟨op, vs, p, z⟩ => by subst z; cases hp⟩
theorem Snd.op {X : Cx} {C : Ct} {xs : Nat → Option (Value × Str)} {W : WX} {il : Ex} {e : Expr} (h : Snd X C xs W il e) : True := trivial

theorem bop_ok {X : Cx} {o : Bop} {op : Operator} (h : bopIs o op = true) : OpR X (binaryOp op) (r2 X.kw (binf o)) := by
  cases o <;> cases op <;> first | exact absurd h (by decide) | skip
  · exact r2_add
  · exact r2_sub
  · exact r2_mul
  · exact r2_fdiv
  · exact r2_mod
  · exact r2_pow
theorem cop_ok {X : Cx} {o : Cop} {op : CmpOp} (hu5 : X.A.units + 65 < cLine) (h : copIs o op = true) : OpR X (compareOp op) (r2 X.kw (cmpf o)) := by
  have hu : X.A.units + 64 < cLine := by omega
  cases o <;> cases op <;> first | exact absurd h (by decide) | skip
  · exact r2_eq hu
  · exact r2_ne hu
  · exact r2_lt hu
  · exact r2_le hu
  · exact r2_gt hu
  · exact r2_ge hu
  · exact r2_inn hu5
  · exact r2_nin hu5
  · exact r2_is
  · exact r2_isn
  · exact r2_eqn hu
theorem ordf_bl {f : EV → EV → Bool} {a b v : EV} {s s' : Sto} (h : ordf f a b s = .ok v s') : ∃ c, v = .bl c ∧ s' = s := by
  unfold ordf at h
  split at h
  · cases h; exact ⟨_, rfl, rfl⟩
  · cases h
theorem memf_bl {n : Bool} {a b v : EV} {s s' : Sto} (h : memf n a b s = .ok v s') : ∃ c, v = .bl c ∧ s' = s := by
  unfold memf at h
  split at h
  · split at h
    · cases h; exact ⟨_, rfl, rfl⟩
    · cases h
  · split at h
    · cases h; exact ⟨_, rfl, rfl⟩
    · cases h
  · split at h
    · cases h; exact ⟨_, rfl, rfl⟩
    · cases h
  · cases h
theorem cmpf_bl {o : Cop} {a b v : EV} {s s' : Sto} (h : cmpf o a b s = .ok v s') : ∃ c, v = .bl c ∧ s' = s := by
  cases o with
  | inn =>
    have h : (match odct s b with
      | some (f, kvs) => if isKey f a then .ok (.bl (dget kvs a).isSome) s else .stuck
      | none => memf false a b s) = R.ok v s' := h
    split at h
    · split at h
      · cases h; exact ⟨_, rfl, rfl⟩
      · cases h
    · exact memf_bl h
  | nin =>
    have h : (match odct s b with
      | some (f, kvs) => if isKey f a then .ok (.bl (!(dget kvs a).isSome)) s else .stuck
      | none => memf true a b s) = R.ok v s' := h
    split at h
    · split at h
      · cases h; exact ⟨_, rfl, rfl⟩
      · cases h
    · exact memf_bl h
  | _ =>
    unfold cmpf at h
    simp only at h
    first
      | (split at h <;> first | (cases h; exact ⟨_, rfl, rfl⟩) | exact ordf_bl h | cases h)
theorem cst_ok {X : Cx} {v : EV} {k : Const} {j : Nat} {pos : Pos} {xs : Nat → Option (Value × Str)} {W : WX} {C : Ct} (h : cstIs v k = true) : PE X (.Constant k j pos) (tR X.kw xs W (den C (.cst v))) := by
  have go : ∀ {r : V}, (∀ H M, Rep X.kw H M v r) → PE X (.Constant k j pos) (tC r) → PE X (.Constant k j pos) (tR X.kw xs W (den C (.cst v))) := fun {r} R h => h.imp fun σ H Q ⟨ρ, M, s, e, S, p⟩ => by
    have p' : KV X.kw H M Q v s := p
    exact p'.same S (R H M)
  cases v with
  | non => cases k <;> first | exact go (r := .non) (fun _ _ => rfl) pe_non | cases h
  | bl b =>
    cases k with
    | bool c =>
      have e : b = c := by simpa [cstIs] using h
      subst e
      exact go (r := .bl b) (fun _ _ => rfl) pe_bl
    | _ => cases h
  | int i =>
    cases k with
    | int c =>
      have e : i = c := by simpa [cstIs] using h
      subst e
      exact go (r := .int i) (fun _ _ => rfl) pe_int
    | _ => cases h
  | str x =>
    cases k with
    | str c =>
      have e : x = c ∧ sOk x = true := by simpa [cstIs] using h
      obtain ⟨e, ok⟩ := e
      subst e
      have ok' : x.length ≤ 1000 ∧ x.cps.all (· < 0x110000) = true := by
        unfold sOk at ok
        rw [Bool.and_eq_true, decide_eq_true_eq] at ok
        exact ok
      exact go (r := .str x) (fun _ _ => ⟨rfl, Nat.le_trans ok'.1 (by rw [sizeLine_eq]; decide), ok'.2⟩) pe_str
    | _ => cases h
  | tup _ => cases k <;> cases h
  | lst _ => cases k <;> cases h
  | obj _ => cases k <;> cases h
  | scr _ => cases k <;> cases h
theorem name_ok {c : Cc} {X : Cx} {C : Ct} {xs : Nat → Option (Value × Str)} {W : WX} (O : Ok c X C xs W) {x : String} {f : Expr} (h : nameIs c.sc x f = true) : ∃ p, f = .Name (x : Str) p ∧ Gl X (x : Str) := by
  unfold nameIs at h
  split at h
  · rename_i y p
    rw [Bool.and_eq_true, decide_eq_true_eq] at h
    obtain ⟨e, g⟩ := h
    subst e
    exact ⟨p, rfl, glob_ok O g⟩
  · cases h
/-- a call of a built-in function -/
theorem blt_ok {c : Cc} {X : Cx} {C : Ct} {xs : Nat → Option (Value × Str)} {W : WX} (O : Ok c X C xs W) {x id : String} {f : Expr} {es : As} {args : List Expr} {pos : Pos} {g : List EV → Sto → R EV}
    (hf : nameIs c.sc x f = true) (hx : x ∈ blts) (hb : bootBuiltins (x : Str) = some (.builtin id)) (hn : (x : Str) ≠ "__name__") (hd : ((x : Str) == ("__debug__" : Str)) = false) (hg : CallR X (.builtin id) (rP X.kw g))
    (ha : PA X args (tRs X.kw xs W (denA C es))) (hs : noStars args = true) (hl : args ≠ []) : PE X (.Call f args [] pos) (tR X.kw xs W fun ρ s => (denA C es ρ s).bind fun vs s1 => g vs s1) := by
  obtain ⟨p, rfl, gl⟩ := name_ok O hf
  cases args with
  | nil => exact absurd rfl hl
  | cons a r =>
    unfold noStars at hs
    rw [Bool.and_eq_true] at hs
    exact (pe_callB hg gl (O.blt x hx) hb ha hn hd (star_ok hs.1) (stars_ok hs.2)).imp fun σ H Q q => tR_args σ H Q q
theorem typ_ok {c : Cc} {X : Cx} {C : Ct} {xs : Nat → Option (Value × Str)} {W : WX} (O : Ok c X C xs W) {x T : String} {f : Expr} {es : As} {args : List Expr} {pos : Pos} {g : List EV → Sto → R EV}
    (hf : nameIs c.sc x f = true) (hx : x ∈ blts) (hb : bootBuiltins (x : Str) = some (.type T)) (hn : (x : Str) ≠ "__name__") (hd : ((x : Str) == ("__debug__" : Str)) = false) (hg : CallR X (.type T) (rP X.kw g))
    (ha : PA X args (tRs X.kw xs W (denA C es))) (hs : noStars args = true) (hl : args ≠ []) : PE X (.Call f args [] pos) (tR X.kw xs W fun ρ s => (denA C es ρ s).bind fun vs s1 => g vs s1) := by
  obtain ⟨p, rfl, gl⟩ := name_ok O hf
  cases args with
  | nil => exact absurd rfl hl
  | cons a r =>
    unfold noStars at hs
    rw [Bool.and_eq_true] at hs
    exact (pe_callTy hg gl (O.blt x hx) hb ha hn hd (star_ok hs.1) (stars_ok hs.2)).imp fun σ H Q q => tR_args σ H Q q
theorem isi_ok {c : Cc} {X : Cx} {C : Ct} {xs : Nat → Option (Value × Str)} {W : WX} (O : Ok c X C xs W) {T : String} {cc : Nat → Bool} {f y : Expr} {a : Expr} {e1 : Ex} {pos : Pos}
    (hf : nameIs c.sc "isinstance" f = true) (hy : nameIs c.sc T y = true) (hT : T ∈ blts) (hb : bootBuiltins (T : Str) = some (.type T)) (hn : (T : Str) ≠ "__name__") (hd : ((T : Str) == ("__debug__" : Str)) = false)
    (hk : ∀ t, t < 6 → kitB (tyName t) T = some (cc t)) (ha : PE X a (tR X.kw xs W (den C e1))) (hs : notStar a = true) :
    PE X (.Call f [a, y] [] pos) (tR X.kw xs W fun ρ s => (denA C (.cons e1 .nil) ρ s).bind fun vs s1 => isf cc vs s1) := by
  obtain ⟨p, rfl, gl⟩ := name_ok O hf
  obtain ⟨p2, rfl, gl2⟩ := name_ok O hy
  have ha2 : PA X [a, .Name (T : Str) p2] (tCons (tR X.kw xs W (den C e1)) (tCons (tC (.ty T)) tNil)) := pa_cons ha (pa_cons (pe_bltn gl2 (O.blt T hT) hb rfl hn hd) pa_nil) (star_ok hs)
  refine (pe_callB (rp_is T cc hk) gl (O.blt "isinstance" (by decide)) (by decide +kernel) ha2 (by decide) (by decide) (star_ok hs) rfl).imp fun σ H Q q => ?_
  obtain ⟨ρ, M, s, e, S, p⟩ := q
  have p' : Post (wsh X.kw xs H M (WE W σ)) (((den C e1 ρ s).bind fun v s1 => (R.ok [] s1).bind fun vs s2 => .ok (v :: vs) s2).bind fun vs s1 => isf cc vs s1) (KV X.kw H M Q) := p
  refine ⟨ρ, M, s, e, S, (Post.bind.mp (Post.bind.mp p')).mono (fun v s1 p1 H1 M1 r g1 S1 R1 => ?_) fun _ _ _ z => z⟩
  have p2 : Post (wsh X.kw xs H M (WE W σ)) (isf cc [v] s1) (KV X.kw H M Q) := p1
  exact ⟨r, rfl, _, [v], M1, s1, S1, Reps.single R1, p2.mono (fun _ _ z => z.grow g1) fun _ _ _ z => z⟩
/-- sorted(set(xs)) -/
theorem ss_ok {c : Cc} {X : Cx} {C : Ct} {xs : Nat → Option (Value × Str)} {W : WX} (O : Ok c X C xs W) {f g : Expr} {es : As} {args : List Expr} {p1 pos : Pos}
    (hf : nameIs c.sc "sorted" f = true) (hg : nameIs c.sc "set" g = true) (ha : PA X args (tRs X.kw xs W (denA C es))) (hs : noStars args = true) (hl : args ≠ []) :
    PE X (.Call f [.Call g args [] p1] [] pos) (tR X.kw xs W fun ρ s => (denA C es ρ s).bind fun vs s1 => srtsetf vs s1) := by
  obtain ⟨q, rfl, gl⟩ := name_ok O hf
  obtain ⟨q2, rfl, gl2⟩ := name_ok O hg
  cases args with
  | nil => exact absurd rfl hl
  | cons a r =>
    unfold noStars at hs
    rw [Bool.and_eq_true] at hs
    have hr := O.room
    have inner : PE X (.Call (.Name "set" q2) (a :: r) [] p1) (tCB (rSetOfT X.K X.prog X.w) (tRs X.kw xs W (denA C es))) := pe_callTy (cr_setOfT O.calm (by omega)) gl2 (O.blt "set" (by decide)) (by decide +kernel) ha (by decide) (by decide) (star_ok hs.1) (stars_ok hs.2)
    refine (pe_callB (rp_sortedS O.calm O.room) gl (O.blt "sorted" (by decide)) (by decide +kernel) (pa_cons inner pa_nil rfl) (by decide) (by decide) rfl rfl).imp fun σ H Q h => ?_
    obtain ⟨ρ, M, s, e, S, p⟩ := h
    refine ⟨ρ, M, s, e, S, (Post.bind.mp p).mono (fun vs s1 pp H1 M1 x g1 S1 R1 => ?_) fun _ _ _ z => z⟩
    have pp : Post (wsh X.kw xs H M (WE W σ)) (srtsetf vs s1) (KV X.kw H M Q) := pp
    unfold srtsetf at pp
    split at pp
    · rename_i v
      obtain ⟨y, rfl, R⟩ := R1.inv1
      split at pp
      · rename_i ys e1
        split at pp
        · rename_i ns e2
          split at pp
          · rename_i hh
            rw [Bool.and_eq_true, decide_eq_true_eq] at hh
            obtain ⟨l, ws, rfl, h1, h2, h3⟩ := look_lst S1 R e1
            rw [tupsOf_iff e2] at h3
            obtain ⟨ks, k1, k2, k3⟩ := reps_tups h3
            have p' : KV X.kw H M Q (.lst (vsort ((once ns).map tupE))) s1 := pp
            refine ⟨l, ks, rfl, .inl (k1 ▸ h1), fun p hp => rep_sqT (k3 p hp), ?_, fun b L hn m1 m2 => ?_⟩
            · rw [← List.length_map (f := (·.2)), k2]; exact hh.1
            · refine ⟨b, L, ns, M1, s1, rfl, upd_same, S1.laid hn, fun p hp => Rep.grow (Grow.laid S1 hn) _ _ (k3 p (m1 p hp)), fun x => ⟨fun hx => ?_, fun hx => ?_⟩, hh.2, (p'.grow g1).grow (Grow.laid S1 hn)⟩
              · obtain ⟨p, hp, rfl⟩ := List.mem_map.mp hx
                rw [← k2]
                exact List.mem_map_of_mem (m1 p hp)
              · rw [← k2] at hx
                obtain ⟨p, hp, rfl⟩ := List.mem_map.mp hx
                exact m2 p hp
          · exact pp.elim
        · exact pp.elim
      · exact pp.elim
    · exact pp.elim
end Pm

end
section
set_option maxHeartbeats 4000000
namespace Pm
open PySem L2
section
variable {c : Cc} {X : Cx} {C : Ct} {xs : Nat → Option (Value × Str)} {W : WX}

theorem call_ok (O : Ok c X C xs W) {f n : Nat} {x : Str} {es : As} {args : List Expr} {p pos : Pos} (hf : c.fns[f]? = some (x, n)) (hn : es.len = n) (hg : Gl X x) (hp : plainName x = true)
    (ha : PA X args (tRs X.kw xs W (denA C es))) (hs : noStars args = true) (hl : args.length = es.len) : PE X (.Call (.Name x p) args [] pos) (tR X.kw xs W (den C (.call f es))) := by
  obtain ⟨fa, fd, ps, k, hm, hk, hb, hps, hr, F⟩ := O.fns f x n hf
  obtain ⟨hdb, _⟩ := plain_ok hp
  cases args with
  | nil =>
    have en : es = .nil := by cases es with
      | nil => rfl
      | cons _ _ => simp [As.len] at hl
    subst en
    refine ⟨fun pins s σ H Q I h => ?_⟩
    refine wpAny_Call_Name_kw (ld_glob I hg hm ?_ hdb)
    obtain ⟨ρ, M, st, e, S, p⟩ := h
    have p' : Post (wsh X.kw xs H M (WE W σ)) (C.F f [] st) (KV X.kw H M Q) := p
    exact PySem.W.callWith_K0 I.kIn hk (run_fnG (us := []) (vs := []) (E := WE W) F O.gd hr hb (passAt O.tk σ) I .nil ⟨[], M, st, by rw [← hn]; rfl, S, by rw [Reps.nil_iff], p'⟩)
  | cons a r =>
    unfold noStars at hs
    rw [Bool.and_eq_true] at hs
    refine (pe_callG (E := WE W) F O.gd hr hg hm hk hb (fun σ => passAt O.tk σ) ha hdb (star_ok hs.1) (stars_ok hs.2)).imp fun σ H Q q => ?_
    obtain ⟨ρ, M, s, e, S, p⟩ := q
    have p' : Post (wsh X.kw xs H M (WE W σ)) ((denA C es ρ s).bind fun vs s1 => C.F f vs s1) (KV X.kw H M Q) := p
    refine ⟨ρ, M, s, e, S, ?_⟩
    have p2 := Post.bind.mp p'
    cases ev : denA C es ρ s with
    | ok vs s1 =>
      rw [ev] at p2
      intro H1 M1 rs g1 S1 R1
      have p3 : Post (wsh X.kw xs H M (WE W σ)) (C.F f vs s1) (KV X.kw H M Q) := p2
      exact ⟨vs, M1, s1, by rw [R1.length, denA_len ev, hn], S1, R1, p3.mono (fun _ _ z => z.grow g1) fun _ _ _ z => z.grow g1⟩
    | exc cc fs s' => rw [ev] at p2; exact p2
    | stuck => rw [ev] at p2; exact p2

/-- a slice's bound -/
def tPt (K : Fw) (xs : Nat → Option (Value × Str)) (W : WX) (f : En → Sto → R (Option EV)) : TO := fun σ H Q =>
  ∃ ρ M s, EnOk K H M ρ σ ∧ StOk K H M s ∧ Post (wsh K xs H M (WE W σ)) (f ρ s) fun o s' => ∃ i, part o = some i ∧ ∀ H' M', Grow H M H' M' → StOk K H' M' s' → Q i H'
theorem slc_ok {a : Ex} {x : Expr} {l h : Option Expr} {el eh : Op} {pos p2 : Pos} (ha : PE X x (tR X.kw xs W (den C a))) (hl : PO X l (tPt X.kw xs W (denO C el))) (hh : PO X h (tPt X.kw xs W (denO C eh))) :
    PE X (.Subscript x (.Slice l h none p2) pos) (tR X.kw xs W (den C (.slc a el eh))) := by
  refine (pe_slice rs_ok ha hl hh).imp fun σ H Q q => ?_
  obtain ⟨ρ, M, s, e, S, p⟩ := q
  have p : Post (wsh X.kw xs H M (WE W σ)) ((den C a ρ s).bind fun x s1 => (denO C el ρ s1).bind fun l s2 => match part l with
    | none => .stuck
    | some l' => (denO C eh ρ s2).bind fun h s3 => match part h with
      | none => .stuck
      | some h' => slcf x l' h' s3) (KV X.kw H M Q) := p
  refine ⟨ρ, M, s, e, S, (Post.bind.mp p).mono (fun vx s1 p1 H1 M1 r1 g1 S1 R1 => ?_) fun _ _ _ z => z⟩
  refine ⟨ρ, M1, s1, e.grow g1, S1, (Post.bind.mp p1).mono (fun o s2 p2 => ?_) fun _ _ _ z => z.grow g1⟩
  cases eo : part o with
  | none => rw [eo] at p2; exact p2.elim
  | some i =>
    rw [eo] at p2
    refine ⟨i, rfl, fun H2 M2 g2 S2 => ?_⟩
    refine ⟨ρ, M2, s2, (e.grow g1).grow g2, S2, (Post.bind.mp p2).mono (fun u s3 p3 => ?_) fun _ _ _ z => z.grow (g1.trans g2)⟩
    cases eu : part u with
    | none => rw [eu] at p3; exact p3.elim
    | some j =>
      rw [eu] at p3
      refine ⟨j, rfl, fun H3 M3 g3 S3 => ?_⟩
      exact ⟨_, vx, M3, s3, S3, Rep.grow g3 _ _ (Rep.grow g2 _ _ R1), p3.mono (fun _ _ z => z.grow ((g1.trans g2).trans g3)) fun _ _ _ z => z⟩
theorem po_no : PO X none (tPt X.kw xs W (denO C .no)) := ⟨fun pins s σ H Q I ⟨ρ, M, st, e, S, p⟩ => po_none.run pins s σ H Q I (by
  obtain ⟨i, e1, q⟩ : ∃ i, part none = some i ∧ ∀ H' M', Grow H M H' M' → StOk X.kw H' M' st → Q i H' := p
  cases e1
  exact q H M Grow.refl S)⟩
theorem po_yes {a : Ex} {x : Expr} (ha : PE X x (tR X.kw xs W (den C a))) : PO X (some x) (tPt X.kw xs W (denO C (.yes a))) := ⟨fun pins s σ H Q I ⟨ρ, M, st, e, S, p⟩ => (po_some ha).run pins s σ H Q I (by
  have p : Post (wsh X.kw xs H M (WE W σ)) ((den C a ρ st).bind fun v s1 => .ok (some v) s1) fun o s' => ∃ i, part o = some i ∧ ∀ H' M', Grow H M H' M' → StOk X.kw H' M' s' → Q i H' := p
  refine ⟨ρ, M, st, e, S, (Post.bind.mp p).mono (fun v s1 p1 H1 M1 r g1 S1 R1 => ?_) fun _ _ _ z => z⟩
  obtain ⟨i, e1, q⟩ : ∃ i, part (some v) = some i ∧ ∀ H' M', Grow H M H' M' → StOk X.kw H' M' s1 → Q i H' := p1
  cases v <;> first | (cases e1; done) | skip
  cases e1
  exact ⟨_, R1, q H1 M1 g1 S1⟩)⟩
/-- a method of a built-in, the receiver's type by what is known of it -/
theorem pe_bmD {T id : String} {name : Str} {o e : Expr} {es : List Expr} {to : TE} {t : TA} {apos cpos : Pos} {r : V → List V → Hp → VK → Prop} {D : V → Hp → Prop} (pa : PlainAttrs T) (slot : Slot T name id) (hty : typeOf (.builtin id) = pure (.type "method_descriptor")) (hm : MtR X id r)
    (hD : ∀ (pins : List (Addr × Obj)) (s : Shared) (σ : L2.St) (H : Hp) (x : V) (v : Value), Inv X pins σ H s → RelV x v → D x H → s.TypeIs v T ∧ ∀ a, v = .ref a → ∃ ob, s.heap.get? a = some ob ∧ ob.dict = none) (ho : PE X o to) (ha : PA X (e :: es) t)
    (hb : attributeBase o name X.env (eval o X.env) = eval o X.env)
    (hf : ((backTo cpos (starEach (e :: es) X.env)).all (fun x => !x.1) && (backToKw cpos (keywordEach [] X.env)).all (fun x => x.1.isSome) && decide ((e :: es).length + ([] : List Keyword).length + (if ([] : List Keyword).isEmpty then 0 else 1) < 30)) = true)
    (hl : (apos.endLine == cpos.line) = true) (hs : starEach (e :: es) X.env = (false, eval e X.env) :: starEach es X.env) (hp : (backTo cpos (starEach es X.env)).any (·.1) = false) :
    PE X (.Call (.Attribute o name apos) (e :: es) [] cpos) (fun σ H Q => to σ H fun x H1 => D x H1 ∧ t σ H1 fun vs H2 => r x vs H2 Q) := ⟨fun pins s σ H Q I h => wpAny_Call_method_late hb hf hl rfl (thn (ho.run pins s σ H _ I h) fun v s1 ⟨x, H1, I1, r1, d, q1⟩ => by
  obtain ⟨k1, k2⟩ := hD pins s1 σ H1 x v I1 r1 d
  have hA := ha.run cpos pins s1 σ H1 _ I1 q1
  refine ⟨T, id, pa, slot, hty, k1, k2, ?_⟩
  rw [hs] at hA ⊢
  have nk : (false || (backTo cpos (starEach es X.env)).any (·.1)) = false := by rw [hp]; rfl
  exact Calls.callWith_builtin nk (Calls.evalArgs_plain (thn hA fun us s2 ⟨vs, H2, I2, r2, q2⟩ => hm pins s2 σ H2 x vs v us Q I2 r1 r2 q2)))⟩
theorem meth_ok (O : Ok c X C xs W) {p : Prim} {eo : Ex} {es : As} {o : Expr} {n : Str} {ap cp : Pos} {args : List Expr} {T m id : String} (hk : primK p = .met T m id) (hn : n = (m : Str)) (hline : (ap.endLine == cp.line) = true) (hc : notCall o = true)
    (ho : PE X o (tR X.kw xs W (den C eo))) (ha : PA X args (tRs X.kw xs W (denA C es))) (hs : noStars args = true) (hl : args ≠ []) (hl2 : args.length < 20) (hl3 : T ≠ "") :
    PE X (.Call (.Attribute o n ap) args [] cp) (tR X.kw xs W (den C (.meth p eo es))) := by
  cases args with
  | nil => exact absurd rfl hl
  | cons a r =>
    have hs' := hs
    unfold noStars at hs
    rw [Bool.and_eq_true] at hs
    have hbase : ∀ name, attributeBase o name X.env (eval o X.env) = eval o X.env := by
      intro name
      cases o <;> first | rfl | cases hc
    have hfew : ((backTo cp (starEach (a :: r) X.env)).all (fun x => !x.1) && (backToKw cp (keywordEach [] X.env)).all (fun x => x.1.isSome)
      && decide ((a :: r).length + ([] : List Keyword).length + (if ([] : List Keyword).isEmpty then 0 else 1) < 30)) = true := by
      rw [stars_all hs']
      show (true && true && decide ((a :: r).length + 0 + 0 < 30)) = true
      rw [decide_eq_true (by omega)]; rfl
    subst hn
    cases p <;> first | (cases hk; done) | skip
    case append =>
      cases hk
      refine (pe_bm (T := "list") PySem.F.plainAttrs_list PySem.F.slot_list_append PySem.F.type_list_append (rm_append) ho ha (hbase _) hfew hline (star_ok hs.1) (stars_ok hs.2)).imp fun σ H Q q => ?_
      obtain ⟨ρ, M, s, e, S, p⟩ := q
      have p : Post (wsh X.kw xs H M (WE W σ)) ((den C eo ρ s).bind fun x s1 => if mok s1 x .append = true then (denA C es ρ s1).bind fun vs s2 => appendf (x :: vs) s2 else .stuck) (KV X.kw H M Q) := p
      refine ⟨ρ, M, s, e, S, (Post.bind.mp p).mono (fun x s1 p1 H1 M1 r1 g1 S1 R1 => ?_) fun _ _ _ z => z⟩
      split at p1
      · rename_i ht
        refine ⟨?_, ρ, M1, s1, e.grow g1, S1, (Post.bind.mp p1).mono (fun vs s2 p2 H2 M2 rs g2 S2 R2 => ?_) fun _ _ _ z => z.grow g1⟩
        · have lk : ∃ ys, look s1 x = .lst ys := by
            have ht : (match look s1 x with
              | .lst _ => true
              | _ => false) = true := ht
            cases e2 : look s1 x with
            | lst ys => exact ⟨ys, rfl⟩
            | _ => rw [e2] at ht; cases ht
          obtain ⟨ys, lk⟩ := lk
          obtain ⟨b, vs, rfl, h1, _⟩ := look_lst S1 R1 lk
          exact .inl ⟨rfl, vs, .inl h1⟩
        · exact ⟨_, x :: vs, M2, s2, S2, Reps.cons_iff.mpr ⟨r1, rs, rfl, Rep.grow g2 _ _ R1, R2⟩, p2.mono (fun _ _ z => z.grow (g1.trans g2)) fun _ _ _ z => z⟩
      · exact p1.elim
    case join =>
      cases hk
      refine (pe_bm (T := "str") PySem.F.plainAttrs_str PySem.F.slot_str_join PySem.F.type_str_join (rm_join) ho ha (hbase _) hfew hline (star_ok hs.1) (stars_ok hs.2)).imp fun σ H Q q => ?_
      obtain ⟨ρ, M, s, e, S, p⟩ := q
      have p : Post (wsh X.kw xs H M (WE W σ)) ((den C eo ρ s).bind fun x s1 => if mok s1 x .join = true then (denA C es ρ s1).bind fun vs s2 => joinf (x :: vs) s2 else .stuck) (KV X.kw H M Q) := p
      refine ⟨ρ, M, s, e, S, (Post.bind.mp p).mono (fun x s1 p1 H1 M1 r1 g1 S1 R1 => ?_) fun _ _ _ z => z⟩
      split at p1
      · rename_i ht
        refine ⟨?_, ρ, M1, s1, e.grow g1, S1, (Post.bind.mp p1).mono (fun vs s2 p2 H2 M2 rs g2 S2 R2 => ?_) fun _ _ _ z => z.grow g1⟩
        · cases x with
          | str z =>
            obtain ⟨e1, _⟩ : r1 = .str z ∧ SOk z := R1
            rw [e1]
            rfl
          | _ => cases ht
        · exact ⟨_, x :: vs, M2, s2, S2, Reps.cons_iff.mpr ⟨r1, rs, rfl, Rep.grow g2 _ _ R1, R2⟩, p2.mono (fun _ _ z => z.grow (g1.trans g2)) fun _ _ _ z => z⟩
      · exact p1.elim
    case get2 =>
      cases hk
      have hu : X.A.units + 64 < cLine := by have := O.room; omega
      refine (pe_bmD (T := "dict") (D := fun x H => ∃ M a f kvs, x = .ref a ∧ DctAt X.kw H M a f kvs) PySem.F.plainAttrs_dict PySem.F.slot_dict_get PySem.F.type_dict_get (rm_get2 hu) (fun pins s σ H x v I rx hd => ?_) ho ha (hbase _) hfew hline (star_ok hs.1) (stars_ok hs.2)).imp fun σ H Q q => ?_
      · obtain ⟨M, b, f, kvs, rfl, d⟩ := hd
        cases (show v = Value.ref b from rx)
        exact dct_type I d
      · obtain ⟨ρ, M, s, e, S, p⟩ := q
        have p : Post (wsh X.kw xs H M (WE W σ)) ((den C eo ρ s).bind fun x s1 => if mok s1 x .get2 = true then (denA C es ρ s1).bind fun vs s2 => get2f (x :: vs) s2 else .stuck) (KV X.kw H M Q) := p
        refine ⟨ρ, M, s, e, S, (Post.bind.mp p).mono (fun x s1 p1 H1 M1 r1 g1 S1 R1 => ?_) fun _ _ _ z => z⟩
        split at p1
        · rename_i ht
          have ht : (odct s1 x).isSome = true := ht
          cases eo : odct s1 x with
          | none => rw [eo] at ht; cases ht
          | some fk =>
            obtain ⟨f, kvs⟩ := fk
            obtain ⟨n, b, rfl, rfl, ea, es', d⟩ := odct_ok S1 R1 eo
            exact ⟨⟨M1, b, f, kvs, rfl, d⟩, ρ, M1, s1, e.grow g1, S1, (Post.bind.mp p1).mono (fun vs s2 p2 H2 M2 rs g2 S2 R2 => ⟨_, .obj n :: vs, M2, s2, S2, Reps.cons_iff.mpr ⟨.ref b, rs, rfl, Rep.grow g2 _ _ R1, R2⟩, p2.mono (fun _ _ z => z.grow (g1.trans g2)) fun _ _ _ z => z⟩) fun _ _ _ z => z.grow g1⟩
        · exact p1.elim

/-- o.pop() -/
theorem meth0_ok (O : Ok c X C xs W) {p : Prim} {eo : Ex} {es : As} {o : Expr} {n : Str} {ap cp : Pos} {T m id : String} (hk : primK p = .met0 T m id) (hn : n = (m : Str)) (hline : (ap.endLine == cp.line) = true) (hc : notCall o = true)
    (ho : PE X o (tR X.kw xs W (den C eo))) (hl : es.len = 0) : PE X (.Call (.Attribute o n ap) [] [] cp) (tR X.kw xs W (den C (.meth p eo es))) := by
  have hes : es = .nil := by
    cases es with
    | nil => rfl
    | cons _ _ => simp [As.len] at hl
  subst hes
  have hbase : ∀ name, attributeBase o name X.env (eval o X.env) = eval o X.env := by
    intro name
    cases o <;> first | rfl | cases hc
  subst hn
  cases p <;> first | (cases hk; done) | skip
  case pop =>
    cases hk
    refine (pe_bm0 (T := "list") PySem.F.plainAttrs_list PySem.F.slot_list_pop PySem.F.type_list_pop (rm_pop) ho (hbase _) hline).imp fun σ H Q q => ?_
    obtain ⟨ρ, M, s, e, S, p⟩ := q
    have p : Post (wsh X.kw xs H M (WE W σ)) ((den C eo ρ s).bind fun x s1 => if mok s1 x .pop = true then (R.ok [] s1).bind fun vs s2 => popf (x :: vs) s2 else .stuck) (KV X.kw H M Q) := p
    refine ⟨ρ, M, s, e, S, (Post.bind.mp p).mono (fun x s1 p1 H1 M1 r1 g1 S1 R1 => ?_) fun _ _ _ z => z⟩
    split at p1
    · rename_i ht
      have lk : ∃ ys, look s1 x = .lst ys := by
        have ht : (match look s1 x with
          | .lst _ => true
          | _ => false) = true := ht
        cases e2 : look s1 x with
        | lst ys => exact ⟨ys, rfl⟩
        | _ => rw [e2] at ht; cases ht
      obtain ⟨ys, lk⟩ := lk
      obtain ⟨b, vs, rfl, h1, _⟩ := look_lst S1 R1 lk
      have p2 : Post (wsh X.kw xs H M (WE W σ)) (popf [x] s1) (KV X.kw H M Q) := p1
      exact ⟨.inl ⟨rfl, vs, .inl h1⟩, _, [x], M1, s1, S1, Reps.single R1, p2.mono (fun _ _ z => z.grow g1) fun _ _ _ z => z⟩
    · exact p1.elim
/-! ### all expressions -/
theorem prim_blts : ∀ x ∈ blts, ((x : Str) ≠ "__name__") ∧ ((x : Str) == ("__debug__" : Str)) = false := by decide +kernel
theorem seq_ok (O : Ok c X C xs W) {e : Ex} {x tg : Expr} (h : PE X x (tR X.kw xs W (den C e))) : PI X tg x (tSrc X.kw xs W (denS C (.ex e))) := by
  refine (pi_seq h).imp fun σ H Q q => ?_
  obtain ⟨ρ, M, s, en, S, p⟩ := q
  have p : Post (wsh X.kw xs H M (WE W σ)) ((den C e ρ s).bind fun v s1 => walked v s1) fun its s' => ∀ H' M' J, Grow H M H' M' → StOk X.kw H' M' s' → Wks X.kw H' M' J its → Q J H' := p
  refine ⟨ρ, M, s, en, S, (Post.bind.mp p).mono (fun v s1 p1 H1 M1 r g1 S1 R1 => ?_) fun _ _ _ z => z⟩
  cases v with
  | tup ys =>
    have p2 : ∀ H' M' J, Grow H M H' M' → StOk X.kw H' M' s1 → Wks X.kw H' M' J (.st ys) → Q J H' := p1
    rw [Rep.tup_iff] at R1
    obtain ⟨a, vs, rfl, t, R⟩ := R1
    exact .inr ⟨a, rfl, .inr ⟨⟨vs, t.sq⟩, p2 H1 M1 _ g1 S1 (wks_tup t R)⟩⟩
  | lst ys =>
    have p2 : ∀ H' M' J, Grow H M H' M' → StOk X.kw H' M' s1 → Wks X.kw H' M' J (.st ys) → Q J H' := p1
    rw [Rep.lst_iff] at R1
    obtain ⟨a, vs, rfl, t, R⟩ := R1
    exact .inr ⟨a, rfl, .inl ⟨⟨vs, t.sq⟩, p2 H1 M1 _ g1 S1 (wks_list t R)⟩⟩
  | obj n =>
    obtain ⟨a, rfl, ea⟩ : ∃ a, r = .ref a ∧ M1.ad[n]? = some a := R1
    cases eo : s1[n]? with
    | none => simp [walked, eo] at p1; exact p1.elim
    | some ob =>
      cases ob with
      | dct _ _ => simp [walked, eo] at p1; exact p1.elim
      | lst ys =>
        simp [walked, eo] at p1
        have p2 : ∀ H' M' J, Grow H M H' M' → StOk X.kw H' M' s1 → Wks X.kw H' M' J (.ob n) → Q J H' := p1
        obtain ⟨vs, h1, _⟩ := S1.at_ n a _ ea eo
        exact .inr ⟨a, rfl, .inl ⟨⟨vs, .inl (.inl h1)⟩, p2 H1 M1 _ g1 S1 (wks_obj ea)⟩⟩
  | non => exact p1.elim
  | bl _ => exact p1.elim
  | int _ => exact p1.elim
  | str z =>
    have p2 : ∀ H' M' J, Grow H M H' M' → StOk X.kw H' M' s1 → Wks X.kw H' M' J (.st (signs z)) → Q J H' := p1
    obtain ⟨e1, ok⟩ : r = .str z ∧ SOk z := R1
    exact .inl ⟨z, e1, p2 H1 M1 _ g1 S1 (wks_str ok)⟩
  | scr _ => exact p1.elim
theorem rng1_ok (O : Ok c X C xs W) {a : Ex} {f y tg : Expr} {pos : Pos} (hf : nameIs c.sc "range" f = true) (hs : notStar y = true) (h : PE X y (tR X.kw xs W (den C a))) : PI X tg (.Call f [y] [] pos) (tSrc X.kw xs W (denS C (.rng1 a))) := by
  obtain ⟨p, rfl, gl⟩ := name_ok O hf
  refine (pi_range1 gl (O.blt "range" (by decide)) (pa_cons h pa_nil (star_ok hs)) (star_ok hs)).imp fun σ H Q q => ?_
  obtain ⟨ρ, M, s, en, S, p⟩ := q
  have p : Post (wsh X.kw xs H M (WE W σ)) ((den C a ρ s).bind fun v s1 => match v with
    | .int i => rngf 0 i s1
    | _ => .stuck) fun its s' => ∀ H' M' J, Grow H M H' M' → StOk X.kw H' M' s' → Wks X.kw H' M' J its → Q J H' := p
  refine ⟨ρ, M, s, en, S, (Post.bind.mp p).mono (fun v s1 p1 H1 M1 r g1 S1 R1 => ?_) fun _ _ _ z => z⟩
  cases v <;> first | exact p1.elim | skip
  rename_i j
  have e : r = .int j := R1
  subst e
  have p2 : Post (wsh X.kw xs H M (WE W σ)) (if -(2 ^ 62) ≤ (0 : Int) ∧ (0 : Int) < 2 ^ 62 ∧ -(2 ^ 62) ≤ j ∧ j < 2 ^ 62 ∧ (j - 0).toNat < big then .ok (.st (rngs 0 (j - 0).toNat)) s1 else .stuck) fun its s' => ∀ H' M' J, Grow H M H' M' → StOk X.kw H' M' s' → Wks X.kw H' M' J its → Q J H' := p1
  split at p2
  · rename_i hb
    refine ⟨j, rfl, hb.2.2.1, hb.2.2.2.1, ?_⟩
    have e0 : (j - 0).toNat = j.toNat := by omega
    rw [e0] at p2
    exact p2 H1 M1 _ g1 S1 (wks_rng (by rw [← e0]; exact hb.2.2.2.2))
  · exact p2.elim
theorem rng2_ok (O : Ok c X C xs W) {a b : Ex} {f y z tg : Expr} {pos : Pos} (hf : nameIs c.sc "range" f = true) (hs : notStar y = true) (hs2 : notStar z = true) (h : PE X y (tR X.kw xs W (den C a))) (h2 : PE X z (tR X.kw xs W (den C b))) :
    PI X tg (.Call f [y, z] [] pos) (tSrc X.kw xs W (denS C (.rng2 a b))) := by
  obtain ⟨p, rfl, gl⟩ := name_ok O hf
  have s2 : starEach [z] X.env = [(false, eval z X.env)] := star_ok hs2
  have s1 : starEach [y, z] X.env = [(false, eval y X.env), (false, eval z X.env)] := by rw [star_ok hs, s2]
  refine (pi_range2 gl (O.blt "range" (by decide)) (pa_cons h (pa_cons h2 pa_nil s2) (star_ok hs)) s1 s2).imp fun σ H Q q => ?_
  obtain ⟨ρ, M, s, en, S, p⟩ := q
  have p : Post (wsh X.kw xs H M (WE W σ)) ((den C a ρ s).bind fun v s1 => (den C b ρ s1).bind fun u s2 => match v, u with
    | .int i, .int j => rngf i j s2
    | _, _ => .stuck) fun its s' => ∀ H' M' J, Grow H M H' M' → StOk X.kw H' M' s' → Wks X.kw H' M' J its → Q J H' := p
  refine ⟨ρ, M, s, en, S, (Post.bind.mp p).mono (fun v s1 p1 H1 M1 r g1 S1 R1 => ?_) fun _ _ _ z => z⟩
  refine ⟨ρ, M1, s1, en.grow g1, S1, (Post.bind.mp p1).mono (fun u s2 p2 H2 M2 r2 g2 S2 R2 => ?_) fun _ _ _ z => z.grow g1⟩
  cases v <;> first | exact p2.elim | skip
  cases u <;> first | exact p2.elim | skip
  rename_i i j
  have e : r = .int i := R1
  have e2 : r2 = .int j := R2
  subst e; subst e2
  have p3 : Post (wsh X.kw xs H M (WE W σ)) (if -(2 ^ 62) ≤ i ∧ i < 2 ^ 62 ∧ -(2 ^ 62) ≤ j ∧ j < 2 ^ 62 ∧ (j - i).toNat < big then .ok (.st (rngs i (j - i).toNat)) s2 else .stuck) fun its s' => ∀ H' M' J, Grow H M H' M' → StOk X.kw H' M' s' → Wks X.kw H' M' J its → Q J H' := p2
  split at p3
  · rename_i hb
    exact ⟨i, j, rfl, ⟨hb.1, hb.2.1, hb.2.2.1, hb.2.2.2.1⟩, p3 H2 M2 _ (g1.trans g2) S2 (wks_rng hb.2.2.2.2)⟩
  · exact p3.elim
end
end Pm

end
section
namespace Pm
open PySem L2
section
/-! a walk over a dict, in a store of its own -/
variable {K : Fw} {H H1 : Hp} {M M1 : Mp}
mutual
theorem Rep.dat (g : ∀ b u, ((∃ xs, u = HO.tup xs) ∨ ∃ xs, u = HO.lst xs) → Rd H b u → M.no b → Rd H1 b u ∧ M1.no b) : ∀ (x : EV) (v : V), noObj x = true → Rep K H M x v → Rep K H1 M1 x v
  | .non, _, _, h => h
  | .bl _, _, _, h => h
  | .int _, _, _, h => h
  | .str _, _, _, h => h
  | .tup xs, _, n, h => by
    have n : noObjs xs = true := n
    unfold Rep at h ⊢
    obtain ⟨a, vs, e, t, r⟩ := h
    exact ⟨a, vs, e, ⟨t.1, t.2.elim (fun z => .inl (g a _ (.inl ⟨_, rfl⟩) z.1 z.2)) .inr⟩, Reps.dat g xs vs n r⟩
  | .lst xs, _, n, h => by
    have n : noObjs xs = true := n
    unfold Rep at h ⊢
    obtain ⟨a, vs, e, t, r⟩ := h
    exact ⟨a, vs, e, ⟨t.1, g a _ (.inr ⟨_, rfl⟩) t.2.1 t.2.2⟩, Reps.dat g xs vs n r⟩
  | .obj _, _, n, _ => by cases n
  | .scr _, _, n, _ => by cases n
theorem Reps.dat (g : ∀ b u, ((∃ xs, u = HO.tup xs) ∨ ∃ xs, u = HO.lst xs) → Rd H b u → M.no b → Rd H1 b u ∧ M1.no b) : ∀ (xs : List EV) (vs : List V), noObjs xs = true → Reps K H M xs vs → Reps K H1 M1 xs vs
  | [], _, _, h => h
  | x :: xs, _, n, h => by
    have n : (noObj x && noObjs xs) = true := n
    rw [Bool.and_eq_true] at n
    unfold Reps at h ⊢
    obtain ⟨v, r, e, h1, h2⟩ := h
    exact ⟨v, r, e, Rep.dat g x v n.1 h1, Reps.dat g xs r n.2 h2⟩
end
mutual
theorem nk_noObj : ∀ (v : EV) (n : Nat), nkOk v n = true → noObj v = true
  | .non, _, _ => rfl
  | .bl _, _, _ => rfl
  | .int _, _, _ => rfl
  | .str _, _, _ => rfl
  | .tup xs, 0, h => by cases h
  | .tup xs, n + 1, h => nks_noObj xs n h
  | .lst _, _, h => by cases h
  | .obj _, _, h => by cases h
  | .scr _, _, h => by cases h
theorem nks_noObj : ∀ (xs : List EV) (n : Nat), nkOks xs n = true → noObjs xs = true
  | [], _, _ => rfl
  | x :: xs, n, h => by
    have h : (nkOk x n && nkOks xs n) = true := h
    rw [Bool.and_eq_true] at h
    show (noObj x && noObjs xs) = true
    rw [nk_noObj x n h.1, nks_noObj xs n h.2]; rfl
end
theorem dns_getN : ∀ {kvs : List (EV × EV)} {xs : NX} {i : Nat} {p : EV × EV}, DNs K H M kvs xs → kvs[i]? = some p → ∃ q, xs[i]? = some q ∧ Rep K H M p.1 q.2.1 ∧ isKey true p.1 = true
  | [], _, _, _, _, e => by simp at e
  | p0 :: r, xs, i, p, D, e => by
    obtain ⟨k, v, r', rfl, h1, h2, h3, h4⟩ := D
    cases i with
    | zero =>
      simp at e
      subst e
      exact ⟨(nkey p0.1, k, v), by simp, h2, h1⟩
    | succ i =>
      simp at e
      obtain ⟨q, e1, e2⟩ := dns_getN h4 e
      exact ⟨q, by simpa using e1, e2⟩
theorem dns_lenN : ∀ {kvs : List (EV × EV)} {xs : NX}, DNs K H M kvs xs → xs.length = kvs.length
  | [], _, D => by
    have D : _ = [] := D
    rw [D]; rfl
  | p0 :: r, xs, D => by
    obtain ⟨k, v, r', rfl, h1, h2, h3, h4⟩ := D
    rw [List.length_cons, List.length_cons, dns_lenN h4]
theorem wks_keysN {w : World} {d : Addr} {o : Obj} {kvs : List (EV × EV)} {xs : NX} (h : H d = some (.frz o (NDO w d xs))) (hn : M.no d) (dl : xs.length = kvs.length) (D : ∀ (i : Nat) (p : EV × EV), kvs[i]? = some p → ∃ q : NestedKey × V × V, xs[i]? = some q ∧ Rep K H M p.1 q.2.1) (hz : kvs.length ≤ sizeLine) : Wks K H M (ItN w d o xs) (.st (kvs.map (·.1))) := by
  intro i H' M' s g S
  have h' := (g.keep d _ h hn).1
  refine ⟨fun e => ⟨h', ?_⟩, fun x e => ?_⟩
  · have e' : (kvs.map (·.1))[i]? = none := Option.some.inj e
    have := List.getElem?_eq_none_iff.mp e'
    simp at this
    omega
  · have e' : (kvs.map (·.1))[i]? = some x := Option.some.inj e
    rw [List.getElem?_map] at e'
    obtain ⟨p, e1, rfl⟩ := Option.map_eq_some_iff.mp e'
    have hi := (List.getElem?_eq_some_iff.mp e1).1
    obtain ⟨q, e2, e3⟩ := D i p e1
    have e3 := Rep.mov g _ _ e3
    refine ⟨by omega, ⟨h', by omega⟩, fun v H'' y => ?_⟩
    obtain ⟨rfl, q', e4, rfl⟩ := y
    rw [e2] at e4
    cases e4
    exact ⟨Grow.refl, S, e3⟩
end
end Pm

end
section
set_option maxHeartbeats 4000000
/-! a < b < c; enumerate and zip; what is never reached. -/
namespace Pm
open PySem L2
section
variable {c : Cc} {X : Cx} {C : Ct} {xs : Nat → Option (Value × Str)} {W : WX}
theorem tR_chn {o p : Cop} {fa fb fc : En → Sto → R EV} (σ : L2.St) (H : Hp) (Q : VK)
    (h : tR X.kw xs W (fun ρ s => (fa ρ s).bind fun x s1 => (fb ρ s1).bind fun y s2 => (cmpf o x y s2).bind fun v s3 => match v with
      | .bl true => (fc ρ s3).bind fun z s4 => cmpf p y z s4
      | .bl false => .ok (.bl false) s3
      | _ => .stuck) σ H Q) : tChain (r2 X.kw (cmpf o)) (r2 X.kw (cmpf p)) (tR X.kw xs W fa) (tR X.kw xs W fb) (tR X.kw xs W fc) σ H Q := by
  obtain ⟨ρ, M, s, e, S, p⟩ := h
  refine ⟨ρ, M, s, e, S, (Post.bind.mp p).mono (fun vx s1 p1 H1 M1 x g1 S1 R1 => ?_) fun _ _ _ z => z⟩
  refine ⟨ρ, M1, s1, e.grow g1, S1, (Post.bind.mp p1).mono (fun vy s2 p2 H2 M2 y g2 S2 R2 => ?_) fun _ _ _ z => z.grow g1⟩
  refine ⟨_, vx, vy, M2, s2, S2, Rep.grow g2 _ _ R1, R2, (Post.bind.mp p2).mono (fun v s3 p3 H3 M3 r3 g3 S3 R3 => ?_) fun _ _ _ z => z⟩
  cases v <;> first | exact p3.elim | skip
  rename_i k
  have er : r3 = .bl k := R3
  refine ⟨k, er, ?_⟩
  have g13 := (g1.trans g2).trans g3
  cases k with
  | true =>
    rw [if_pos rfl]
    refine ⟨ρ, M3, s3, e.grow g13, S3, (Post.bind.mp p3).mono (fun vz s4 p4 H4 M4 z g4 S4 R4 => ?_) fun _ _ _ z => z.grow g13⟩
    exact ⟨_, vy, vz, M4, s4, S4, Rep.grow (g3.trans g4) _ _ R2, R4, p4.mono (fun _ _ z => z.grow (g13.trans g4)) fun _ _ _ z => z⟩
  | false =>
    rw [if_neg (by decide)]
    have p' : KV X.kw H M Q (.bl false) s3 := p3
    exact p' H3 M3 _ g13 S3 rfl
theorem chn_bl {o p : Cop} {a b z : Ex} {ρ : En} {s s' : Sto} {v : EV} (h : den C (.chn o p a b z) ρ s = .ok v s') : ∃ k, v = .bl k := by
  have h : ((den C a ρ s).bind fun x s1 => (den C b ρ s1).bind fun y s2 => (cmpf o x y s2).bind fun v s3 => match v with
    | .bl true => (den C z ρ s3).bind fun z s4 => cmpf p y z s4
    | .bl false => .ok (.bl false) s3
    | _ => .stuck) = .ok v s' := h
  cases e1 : den C a ρ s with
  | ok x s1 =>
    rw [e1] at h
    have h : ((den C b ρ s1).bind fun y s2 => (cmpf o x y s2).bind fun v s3 => match v with
      | .bl true => (den C z ρ s3).bind fun z s4 => cmpf p y z s4
      | .bl false => .ok (.bl false) s3
      | _ => .stuck) = .ok v s' := h
    cases e2 : den C b ρ s1 with
    | ok y s2 =>
      rw [e2] at h
      have h : ((cmpf o x y s2).bind fun v s3 => match v with
        | .bl true => (den C z ρ s3).bind fun z s4 => cmpf p y z s4
        | .bl false => .ok (.bl false) s3
        | _ => .stuck) = .ok v s' := h
      cases e3 : cmpf o x y s2 with
      | ok w s3 =>
        rw [e3] at h
        obtain ⟨k, rfl, _⟩ := cmpf_bl e3
        cases k with
        | true =>
          have h : ((den C z ρ s3).bind fun z s4 => cmpf p y z s4) = .ok v s' := h
          cases e4 : den C z ρ s3 with
          | ok u s4 =>
            rw [e4] at h
            have h : cmpf p y u s4 = .ok v s' := h
            obtain ⟨k, e, _⟩ := cmpf_bl h
            exact ⟨k, e⟩
          | exc _ _ _ => rw [e4] at h; cases h
          | stuck => rw [e4] at h; cases h
        | false => cases h; exact ⟨false, rfl⟩
      | exc _ _ _ => rw [e3] at h; cases h
      | stuck => rw [e3] at h; cases h
    | exc _ _ _ => rw [e2] at h; cases h
    | stuck => rw [e2] at h; cases h
  | exc _ _ _ => rw [e1] at h; cases h
  | stuck => rw [e1] at h; cases h
theorem pe_bad {e : Expr} {t : TE} (h : ∀ σ H Q, t σ H Q → False) : PE X e t := ⟨fun pins s σ H Q I q => (h σ H Q q).elim⟩
theorem bad_ok {e : Expr} : Snd X C xs W .bad e := by
  have h0 : ∀ σ H Q, tR X.kw xs W (den C .bad) σ H Q → False := fun σ H Q ⟨ρ, M, s, en, S, p⟩ => p
  have h1 : ∀ σ H Q, tRt X.kw xs W (den C .bad) σ H Q → False := fun σ H Q ⟨ρ, M, s, en, S, p⟩ => p
  exact ⟨⟨fun pins s σ H Q I q => (h0 σ H Q q).elim⟩, ⟨fun pins s σ H Q I q => (h1 σ H Q q).elim⟩, fun _ => ⟨fun wh pins s σ H Q I q => (h1 σ H Q q).elim⟩⟩
theorem isTup_ok {e : Expr} (h : isTupE e = true) : ∃ es k p, e = .Tuple es k p := by
  cases e <;> first | exact ⟨_, _, _, rfl⟩ | cases h
theorem enm_ok (O : Ok c X C xs W) {a : Ex} {f y tg : Expr} {pos : Pos} (ht : isTupE tg = true) (hf : nameIs c.sc "enumerate" f = true) (hs : notStar y = true) (h : PE X y (tR X.kw xs W (den C a))) :
    PI X tg (.Call f [y] [] pos) (tSrc X.kw xs W (denS C (.enm a))) := by
  obtain ⟨p, rfl, gl⟩ := name_ok O hf
  obtain ⟨es, k, tp, rfl⟩ := isTup_ok ht
  refine (pi_enum gl (O.blt "enumerate" (by decide)) (pa_cons h pa_nil (star_ok hs)) (star_ok hs)).imp fun σ H Q q => ?_
  obtain ⟨ρ, M, s, en, S, p⟩ := q
  have p : Post (wsh X.kw xs H M (WE W σ)) ((den C a ρ s).bind fun v s1 => enumf v s1) fun its s' => ∀ H' M' J, Grow H M H' M' → StOk X.kw H' M' s' → Wks X.kw H' M' J its → Q J H' := p
  refine ⟨ρ, M, s, en, S, (Post.bind.mp p).mono (fun v s1 p1 H1 M1 r g1 S1 R1 => ?_) fun _ _ _ z => z⟩
  cases v <;> first | exact p1.elim | skip
  rename_i ys
  have p2 : ∀ H' M' J, Grow H M H' M' → StOk X.kw H' M' s1 → Wks X.kw H' M' J (.st (enums 0 ys)) → Q J H' := p1
  rw [Rep.lst_iff] at R1
  obtain ⟨b, vs, rfl, t, R⟩ := R1
  exact ⟨b, vs, rfl, t.sq, p2 H1 M1 _ g1 S1 (wks_enum t R)⟩
theorem zip_ok (O : Ok c X C xs W) {a b : Ex} {f y z tg : Expr} {pos : Pos} (ht : isTupE tg = true) (hf : nameIs c.sc "zip" f = true) (hs : notStar y = true) (hs2 : notStar z = true) (h : PE X y (tR X.kw xs W (den C a))) (h2 : PE X z (tR X.kw xs W (den C b))) :
    PI X tg (.Call f [y, z] [] pos) (tSrc X.kw xs W (denS C (.zip a b))) := by
  obtain ⟨p, rfl, gl⟩ := name_ok O hf
  obtain ⟨es, k, tp, rfl⟩ := isTup_ok ht
  have s2 : starEach [z] X.env = [(false, eval z X.env)] := star_ok hs2
  have s1 : starEach [y, z] X.env = (false, eval y X.env) :: starEach [z] X.env := star_ok hs
  refine (RZ.pi_zipA gl (O.blt "zip" (by decide)) (pa_cons h (pa_cons h2 pa_nil s2) s1) s1 (by rw [s2]; rfl)).imp fun σ H Q q => ?_
  obtain ⟨ρ, M, s, en, S, p⟩ := q
  have p : Post (wsh X.kw xs H M (WE W σ)) ((den C a ρ s).bind fun v s1 => (den C b ρ s1).bind fun u s2 => zipf v u s2) fun its s' => ∀ H' M' J, Grow H M H' M' → StOk X.kw H' M' s' → Wks X.kw H' M' J its → Q J H' := p
  refine ⟨ρ, M, s, en, S, (Post.bind.mp p).mono (fun v s1 p1 H1 M1 r g1 S1 R1 => ?_) fun _ _ _ z => z⟩
  refine ⟨ρ, M1, s1, en.grow g1, S1, (Post.bind.mp p1).mono (fun u s2 p2 H2 M2 r2 g2 S2 R2 => ?_) fun _ _ _ z => z.grow g1⟩
  have R1' := Rep.grow g2 _ _ R1
  cases v <;> first | exact p2.elim | skip
  · cases u <;> first | exact p2.elim | skip
    rename_i ys zs
    have p3 : ∀ H' M' J, Grow H M H' M' → StOk X.kw H' M' s2 → Wks X.kw H' M' J (.st (zips ys zs)) → Q J H' := p2
    rw [Rep.tup_iff] at R1' R2
    obtain ⟨b1, vs, rfl, t, R⟩ := R1'
    obtain ⟨b2, ws, rfl, t', R'⟩ := R2
    exact ⟨b1, b2, vs, ws, rfl, .inr ⟨t.sq, t'.sq, p3 H2 M2 _ (g1.trans g2) S2 (wks_zipT t R t' R')⟩⟩
  · cases u <;> first | exact p2.elim | skip
    rename_i ys zs
    have p3 : ∀ H' M' J, Grow H M H' M' → StOk X.kw H' M' s2 → Wks X.kw H' M' J (.st (zips ys zs)) → Q J H' := p2
    rw [Rep.lst_iff] at R1' R2
    obtain ⟨b1, vs, rfl, t, R⟩ := R1'
    obtain ⟨b2, ws, rfl, t', R'⟩ := R2
    exact ⟨b1, b2, vs, ws, rfl, .inl ⟨t.sq, t'.sq, p3 H2 M2 _ (g1.trans g2) S2 (wks_zip t R t' R')⟩⟩
end
end Pm

end
section
set_option maxHeartbeats 4000000
namespace Pm
open PySem L2
section
variable {c : Cc} {X : Cx} {C : Ct} {xs : Nat → Option (Value × Str)} {W : WX}
mutual
theorem tin_all : ∀ t : Tg, tin t (fun _ => true) = true
  | .var _ => rfl
  | .tup ts => tins_all ts
  | .sub _ _ => rfl
theorem tins_all : ∀ t : Tgs, tins t (fun _ => true) = true
  | .nil => rfl
  | .cons t r => by
    show (tin t (fun _ => true) && tins r (fun _ => true)) = true
    rw [tin_all t, tins_all r]; rfl
end
def blkCc (c : Cc) (scope : Scope) : Cc := ⟨c.N, relS scope c.sc, c.fns, c.cns, fun x => scope.names.lookup x == some .cell⟩
theorem Ok.blk (O : Ok c X C xs W) (scope : Scope) (s : Shared) (H : Hp) (D : Addr) (cl : List (Str × Addr)) (fp : List Addr) :
    Ok (blkCc c scope) (X.blk s H scope (compEnvC scope cl D X.env) fp) C xs (fun _ _ _ _ => False) := by
  refine ⟨O.N, ?_, O.nd, O.calm, O.room, O.gd, O.fns, O.cns, O.blt, takes0, fun x h => h⟩
  show relabel scope X.env = relS scope c.sc
  rw [← O.sc]
  rfl
theorem var_tg (O : Ok c X C xs W) {i : Nat} {x : Str} {p : Pos} {own : Nat → Bool} (h1 : isAt c.N i x = true) (h2 : loc c.sc x = true) (h3 : (c.all x || isLocal c.sc x) = true) (ho : own i = true) : PG X (.Name x p) (tTg X.kw own (asgT C (.var i))) := by
  have hf : X.fn x = true ∨ X.env.scope.names.lookup x = some .local := by
    rw [Bool.or_eq_true] at h3
    rcases h3 with h | h
    · exact .inl (O.fn x h)
    · exact .inr (isLocal_ok O h)
  refine (pg_name O.nd (by rw [O.N]; exact isAt_ok h1) (loc_ok O h2) hf).imp fun r σ H Q q => ?_
  obtain ⟨v, ρ, M, s, e, S, R, p⟩ := q
  have p : Post nope (if i < ρ.length then .ok (ρ.set i (some v)) s else .stuck) fun ρ' s' => ∀ H' M' σ', Grow H M H' M' → StOk X.kw H' M' s' → EnOk X.kw H' M' ρ' σ' →
    σ'.length = σ.length → (∀ j, own j = false → σ'[j]? = σ[j]?) → Q σ' H' := p
  split at p
  · refine p H M _ Grow.refl S (e.set R) (by rw [List.length_set]) fun j hj => ?_
    have ne : i ≠ j := fun z => by subst z; rw [ho] at hj; cases hj
    rw [List.getElem?_set_ne ne]
  · exact p.elim
theorem sub_tg (O : Ok c X C xs W) {o i : Ex} {y z : Expr} {p : Pos} {own : Nat → Bool} (hy : PE X y (tR X.kw xs W (den C o))) (hz : PE X z (tR X.kw xs W (den C i))) (hi : plainIx z = true) : PG X (.Subscript y z p) (tTg X.kw own (asgT C (.sub o i))) := by
  have ha : ∀ v, assign (.Subscript y z p) X.env v = (do
      let ov ← holding [v] (eval y X.env)
      let iv ← holding [v, ov] (eval z X.env)
      standAt p
      holding [v, ov, iv] (setItem ov iv v)
      release [v, ov, iv] []) := by
    intro v
    cases z with
    | Slice l u st p' =>
      cases st with
      | none => cases hi
      | some _ => rfl
    | _ => rfl
  refine (pg_sub hy hz (set_ok (by have := O.room; omega)) ha).imp fun r σ H Q q => ?_
  obtain ⟨v, ρ, M, s, e, S, R, p⟩ := q
  have p : Post nope ((den C o ρ s).bind fun x s1 => (den C i ρ s1).bind fun y s2 => (setix x y v s2).bind fun _ s3 => .ok ρ s3) fun ρ' s' => ∀ H' M' σ', Grow H M H' M' → StOk X.kw H' M' s' → EnOk X.kw H' M' ρ' σ' →
    σ'.length = σ.length → (∀ j, own j = false → σ'[j]? = σ[j]?) → Q σ' H' := p
  refine ⟨ρ, M, s, e, S, (Post.bind.mp p).mono (fun x s1 p1 H1 M1 r1 g1 S1 R1 => ?_) fun _ _ _ z => z.elim⟩
  refine ⟨ρ, M1, s1, e.grow g1, S1, (Post.bind.mp p1).mono (fun y s2 p2 H2 M2 r2 g2 S2 R2 => ?_) fun _ _ _ z => z.elim⟩
  refine ⟨_, x, y, v, M2, s2, S2, Rep.grow g2 _ _ R1, R2, Rep.grow (g1.trans g2) _ _ R, (Post.bind.mp p2).mono (fun _ s3 p3 H3 M3 g3 S3 => ?_) fun _ _ _ z => z⟩
  have p4 : ∀ H' M' σ', Grow H M H' M' → StOk X.kw H' M' s3 → EnOk X.kw H' M' ρ σ' → σ'.length = σ.length → (∀ j, own j = false → σ'[j]? = σ[j]?) → Q σ' H' := p3
  exact p4 H3 M3 σ ((g1.trans g2).trans g3) S3 (((e.grow g1).grow g2).grow g3) rfl fun _ _ => rfl
/-- (a, b, ..) = a list or a tuple of that length -/
theorem pg_seq {es : List Expr} {k n : Nat} {t : TGs} {pos : Pos} (hc : X.calm = true) (h : PGs X es t) (hn : (assignEach es X.env).length = n) (hst : (assignEach es X.env).findIdx? (·.1) = none) :
    PG X (.Tuple es k pos) (fun v σ H Q => ∃ a vs, v = V.ref a ∧ (SqL X.K H a vs ∨ SqT X.K H a vs) ∧ vs.length = n ∧ t vs σ H Q) := by
  refine ⟨fun pins s σ H v u Q I r ⟨a, vs, e, hq, hl, hw⟩ => ?_⟩
  subst e
  rcases hq with hq | hq
  · cases (show u = Value.ref a from r)
    obtain ⟨its, rv, pl, hz⟩ := I.list hq
    have el : (assignEach es X.env).length = its.toArray.size := by rw [hn, ← hl, rv.length]; simp
    rw [PyProof.Rows.assign_Tuple]
    refine wpAny_bind (wpAny_standAt ?_)
    unfold unpack
    rw [el, hst]
    refine wpAny_bind (wpAny_holding (PySem.W.kun_itemsOf (I.ok.hd hc) pl.isList fun h' hx => ?_))
    have I1 : Inv X pins σ H { s with heap := h' } := I.kept (t' := s.toks) fun b o e => hx b o (Nat.ne_of_lt (Heap.lt_size e)) e
    exact h.run pins _ σ H vs _ Q I1 (by simpa using rv) hw
  · exact (pg_tup hc h hn hst).run pins s σ H (.ref a) u Q I r ⟨a, vs, rfl, hq, hl, hw⟩
theorem tup_tg (O : Ok c X C xs W) {ts : Tgs} {es : List Expr} {k : Nat} {p : Pos} {own : Nat → Bool} (h : PGs X es (tTgs X.kw own (asgTs C ts))) (hs : noStars es = true) (hl : ∀ vs ρ s ρ' s', asgTs C ts vs ρ s = .ok ρ' s' → vs.length = es.length) :
    PG X (.Tuple es k p) (tTg X.kw own (asgT C (.tup ts))) := by
  have e1 : ∀ {l : List Expr}, noStars l = true → (assignEach l X.env).length = l.length ∧ (assignEach l X.env).findIdx? (·.1) = none := by
    intro l
    induction l with
    | nil => intro _; exact ⟨rfl, rfl⟩
    | cons a r ih =>
      intro h
      unfold noStars at h
      rw [Bool.and_eq_true] at h
      obtain ⟨i1, i2⟩ := ih h.2
      rw [assignEach_ok h.1]
      refine ⟨by rw [List.length_cons, List.length_cons, i1], ?_⟩
      rw [List.findIdx?_cons]
      show Option.map _ _ = none
      rw [i2]; rfl
  obtain ⟨n1, n2⟩ := e1 hs
  refine (pg_seq O.calm h n1 n2).imp fun r σ H Q q => ?_
  obtain ⟨v, ρ, M, s, e, S, R, p⟩ := q
  have p : Post nope (match look s v with
    | .tup vs => asgTs C ts vs ρ s
    | .lst vs => asgTs C ts vs ρ s
    | _ => .stuck) fun ρ' s' => ∀ H' M' σ', Grow H M H' M' → StOk X.kw H' M' s' → EnOk X.kw H' M' ρ' σ' → σ'.length = σ.length → (∀ j, own j = false → σ'[j]? = σ[j]?) → Q σ' H' := p
  have go : ∀ {vs : List EV} {ws : List V}, Reps X.kw H M vs ws → (Post nope (asgTs C ts vs ρ s) fun ρ' s' => ∀ H' M' σ', Grow H M H' M' → StOk X.kw H' M' s' → EnOk X.kw H' M' ρ' σ' → σ'.length = σ.length → (∀ j, own j = false → σ'[j]? = σ[j]?) → Q σ' H') → ws.length = es.length := by
    intro vs ws q p
    rw [q.length]
    cases er : asgTs C ts vs ρ s with
    | ok ρ' s' => exact hl vs ρ s ρ' s' er
    | exc _ _ _ => rw [er] at p; exact p.elim
    | stuck => rw [er] at p; exact p.elim
  cases ev : look s v with
  | tup vs =>
    rw [ev] at p
    obtain ⟨a, ws, rfl, t, _, q⟩ := look_seq S R (.inl ev)
    exact ⟨a, ws, rfl, t, go q p, vs, ρ, M, s, e, S, q, p⟩
  | lst vs =>
    rw [ev] at p
    obtain ⟨a, ws, rfl, t, _, q⟩ := look_seq S R (.inr ev)
    exact ⟨a, ws, rfl, t, go q p, vs, ρ, M, s, e, S, q, p⟩
  | _ => rw [ev] at p; exact (show False from p).elim
theorem nil_tgs {own : Nat → Bool} : PGs X [] (tTgs X.kw own (asgTs C .nil)) := by
  refine pgs_nil.imp fun rs σ H Q q => ?_
  obtain ⟨vs, ρ, M, s, e, S, R, p⟩ := q
  cases vs with
  | nil =>
    rw [Reps.nil_iff] at R
    have p : ∀ H' M' σ', Grow H M H' M' → StOk X.kw H' M' s → EnOk X.kw H' M' ρ σ' → σ'.length = σ.length → (∀ j, own j = false → σ'[j]? = σ[j]?) → Q σ' H' := p
    exact ⟨R, p H M σ Grow.refl S e rfl fun _ _ => rfl⟩
  | cons _ _ => exact (show False from p).elim
theorem cons_tgs {t : Tg} {r : Tgs} {y : Expr} {ys : List Expr} {own : Nat → Bool} (hy : notStar y = true) (h1 : PG X y (tTg X.kw own (asgT C t))) (h2 : PGs X ys (tTgs X.kw own (asgTs C r))) : PGs X (y :: ys) (tTgs X.kw own (asgTs C (.cons t r))) := by
  refine (pgs_cons h1 h2 (by rw [assignEach_ok hy]; rfl)).imp fun rs σ H Q q => ?_
  obtain ⟨vs, ρ, M, s, e, S, R, p⟩ := q
  cases vs with
  | nil => exact (show False from p).elim
  | cons v vr =>
    have p : Post nope ((asgT C t v ρ s).bind fun ρ1 s1 => asgTs C r vr ρ1 s1) fun ρ' s' => ∀ H' M' σ', Grow H M H' M' → StOk X.kw H' M' s' → EnOk X.kw H' M' ρ' σ' →
      σ'.length = σ.length → (∀ j, own j = false → σ'[j]? = σ[j]?) → Q σ' H' := p
    rw [Reps.cons_iff] at R
    obtain ⟨w, ws, rfl, R1, R2⟩ := R
    refine ⟨w, ws, rfl, v, ρ, M, s, e, S, R1, (Post.bind.mp p).mono (fun ρ1 s1 p1 H1 M1 σ1 g1 S1 e1 hl1 out1 => ?_) fun _ _ _ z => z⟩
    refine ⟨vr, ρ1, M1, s1, e1, S1, Reps.grow g1 _ _ R2, p1.mono (fun ρ2 s2 p2 H2 M2 σ2 g2 S2 e2 hl2 out2 => ?_) fun _ _ _ z => z⟩
    exact p2 H2 M2 σ2 (g1.trans g2) S2 e2 (hl2.trans hl1) fun j hj => (out2 j hj).trans (out1 j hj)
theorem asgTs_len : ∀ {ts : Tgs} {es : List Expr}, chkTs c ts es = true → ∀ vs ρ s ρ' s', asgTs C ts vs ρ s = .ok ρ' s' → vs.length = es.length
  | .nil, [], _, [], _, _, _, _, _ => rfl
  | .nil, [], _, _ :: _, _, _, _, _, h => by cases h
  | .nil, _ :: _, h, _, _, _, _, _, _ => by simp [chkTs] at h
  | .cons t r, [], h, _, _, _, _, _, _ => by simp [chkTs] at h
  | .cons t r, y :: ys, _, [], _, _, _, _, h => by cases h
  | .cons t r, y :: ys, hc, v :: vs, ρ, s, ρ', s', h => by
    have hc' : (notStar y && chkT c t y && chkTs c r ys) = true := by simpa [chkTs] using hc
    rw [Bool.and_eq_true] at hc'
    have h' : ((asgT C t v ρ s).bind fun ρ1 s1 => asgTs C r vs ρ1 s1) = .ok ρ' s' := h
    cases e1 : asgT C t v ρ s with
    | ok ρ1 s1 =>
      rw [e1] at h'
      have := asgTs_len hc'.2 vs ρ1 s1 ρ' s' h'
      show vs.length + 1 = ys.length + 1
      rw [this]
    | exc _ _ _ => rw [e1] at h'; cases h'
    | stuck => rw [e1] at h'; cases h'
theorem chkTs_stars : ∀ {ts : Tgs} {es : List Expr}, chkTs c ts es = true → noStars es = true
  | .nil, [], _ => rfl
  | .nil, _ :: _, h => by simp [chkTs] at h
  | .cons t r, [], h => by simp [chkTs] at h
  | .cons t r, y :: ys, hc => by
    have hc' : (notStar y && chkT c t y && chkTs c r ys) = true := by simpa [chkTs] using hc
    rw [Bool.and_eq_true, Bool.and_eq_true] at hc'
    unfold noStars
    rw [hc'.1.1, chkTs_stars hc'.2]; rfl

/-- a comprehension -/
theorem comp_ok (O : Ok c X C xs W) {m : Bool} {t : Tg} {sr : Src} {cn : Op} {el : Ex} {own : List Nat} {elt tg iter : Expr} {ifs : List Expr} {scope : Scope} {pos : Pos}
    (hset : notSet iter = true) (hb : blkC c.N c.sc scope (ownOf c.N own) = true) (hown : own.all (fun i => decide (i < c.N.length)) = true)
    (hs : PI X tg iter (tSrc X.kw xs W (denS C sr)))
    (ht : ∀ (X' : Cx) (W' : WX), Ok (blkCc c scope) X' C xs W' → PG X' tg (tTg X'.kw (fun j => own.contains j) (asgT C t)))
    (hc : ∀ (X' : Cx) (W' : WX), Ok (blkCc c scope) X' C xs W' → PTs X' ifs (tRo X'.kw (denO C cn)))
    (he : ∀ (X' : Cx) (W' : WX), Ok (blkCc c scope) X' C xs W' → PE X' elt (tR X'.kw xs W' (den C el))) :
    PE X (.ListComp elt [⟨tg, iter, ifs, 0⟩] scope pos) (tR X.kw xs W (den C (.comp m t sr cn el own))) := by
  have eo : (ownOf c.N own).map (·.2) = own := by
    unfold ownOf
    rw [List.map_map]
    show own.map (fun i => i) = own
    exact List.map_id' own
  have bk : BlkOk X.N X.env.scope scope (ownOf c.N own) := by rw [O.N, O.sc]; exact blkOk_by hb
  refine (pe_lc (own := ownOf c.N own) (g := tTg X.kw (fun j => own.contains j) (asgT C t)) (tt := tRo X.kw (denO C cn)) (te := tRn X.kw (den C el)) O.calm O.nd hs bk (fun s H D cl fp => ht _ _ (O.blk scope s H D cl fp)) (fun s H D cl fp => hc _ _ (O.blk scope s H D cl fp))
    (fun s H D cl fp => (he _ _ (O.blk scope s H D cl fp)).imp (t' := tRn X.kw (den C el)) fun σ H Q q => tRn_of σ H Q q) (fold_ok hset)).imp fun σ H Q q => ?_
  rw [eo]
  exact tLc_ok m σ H Q q
/-- NOT BUILT: a comprehension over a dict -/
theorem compK_ok (O : Ok c X C xs W) {t : Tg} {v : Nat} {cn : Op} {el : Ex} {own : List Nat} {elt tg : Expr} {x : Str} {px : Pos} {ifs : List Expr} {scope : Scope} {pos : Pos}
    (h1 : isAt c.N v x = true) (h2 : vis c.sc x = true) (h3 : plainName x = true) (hset : notSet (.Name x px) = true) (hb : blkC c.N c.sc scope (ownOf c.N own) = true) (hown : own.all (fun i => decide (i < c.N.length)) = true)
    (ht : ∀ (X' : Cx) (W' : WX), Ok (blkCc c scope) X' C xs W' → PG X' tg (tTg X'.kw (fun j => own.contains j) (asgT C t)))
    (hc : ∀ (X' : Cx) (W' : WX), Ok (blkCc c scope) X' C xs W' → PTs X' ifs (tRo X'.kw (denO C cn)))
    (he : ∀ (X' : Cx) (W' : WX), Ok (blkCc c scope) X' C xs W' → PE X' elt (tR X'.kw xs W' (den C el))) :
    PE X (.ListComp elt [⟨tg, .Name x px, ifs, 0⟩] scope pos) (tR X.kw xs W (den C (.compK t v cn el own))) := by
  have eo : (ownOf c.N own).map (·.2) = own := by
    unfold ownOf
    rw [List.map_map]
    show own.map (fun i => i) = own
    exact List.map_id' own
  have bk : BlkOk X.N X.env.scope scope (ownOf c.N own) := by rw [O.N, O.sc]; exact blkOk_by hb
  obtain ⟨d1, d2⟩ := plain_ok h3
  have hv : PE X (.Name x px) (tVar v) := pe_var (by rw [O.N]; exact isAt_ok h1) (vis_ok O h2) d1 d2
  have base := pe_lc (own := ownOf c.N own) (pos := pos) (g := tTg X.kw (fun j => own.contains j) (asgT C t)) (tt := tRo X.kw (denO C cn)) (te := tRn X.kw (den C el)) O.calm O.nd (pi_keysN hv) bk (fun s H D cl fp => ht _ _ (O.blk scope s H D cl fp)) (fun s H D cl fp => hc _ _ (O.blk scope s H D cl fp))
    (fun s H D cl fp => (he _ _ (O.blk scope s H D cl fp)).imp (t' := tRn X.kw (den C el)) fun σ H Q q => tRn_of σ H Q q) (fold_ok hset)
  rw [eo] at base
  refine (pe_lock base).imp fun σ H Q q => ?_
  obtain ⟨ρ, M, s, e, S, p⟩ := q
  have p : Post (wsh X.kw xs H M (WE W σ)) (match ρ[v]? with
    | some (some (.obj n)) => match s[n]? with
      | some (.dct true kvs) => match cst (cbody C t cn el (Pm.wipe (dat ρ) own)) (kvs.map (·.1)) [] with
        | .ok vs s5 => if s5.isEmpty && noObjs vs then .ok (.lst vs) s else .stuck
        | _ => .stuck
      | _ => .stuck
    | _ => .stuck) (KV X.kw H M Q) := p
  split at p
  · rename_i n hρ
    split at p
    · rename_i kvs hs
      obtain ⟨r, hσ, hr⟩ := e.at_ v _ hρ
      obtain ⟨a, rfl, ha⟩ : ∃ a, r = .ref a ∧ M.ad[n]? = some a := hr
      obtain ⟨xs', hH, hsys, hz, dns⟩ : DctAt X.kw H M a true kvs := S.at_ n a _ ha hs
      refine ⟨a, NDO X.w a xs', hH, trivial, fun od => ?_⟩
      refine ⟨.ref a, hσ, a, od, xs', rfl, hsys, upd_same, ?_⟩
      have ham : a ∈ M.ad := List.mem_of_getElem? ha
      have apv : a ∉ M.pv := fun z => (S.pv a z).2 ham
      obtain ⟨H1, eH1⟩ : ∃ H1, H1 = upd H a (.frz od (NDO X.w a xs')) := ⟨_, rfl⟩
      have H1a : H1 a = some (.frz od (NDO X.w a xs')) := by rw [eH1]; exact upd_same
      have H1o : ∀ b, b ≠ a → H1 b = H b := fun b hb => by rw [eH1]; exact upd_ne hb
      obtain ⟨M0, eM0⟩ : ∃ M0 : Mp, M0 = ⟨[], M.ad.filter (fun b => !decide (b = a)) ++ M.pv⟩ := ⟨_, rfl⟩
      have M0a : M0.ad = [] := by rw [eM0]
      have M0p : ∀ b, b ∈ M0.pv ↔ (b ∈ M.ad ∧ b ≠ a) ∨ b ∈ M.pv := fun b => by rw [eM0]; simp
      have S0 : StOk X.kw H1 M0 [] := by
        refine ⟨by rw [M0a]; exact .nil, by rw [M0a]; rfl, fun n a o h => by rw [M0a] at h; simp at h, fun b hb => ⟨?_, by rw [M0a]; simp⟩⟩
        rcases (M0p b).mp hb with ⟨h1, h2⟩ | h
        · rw [H1o b h2]
          obtain ⟨u, hu⟩ := S.here h1
          rw [hu]; simp
        · have hba : b ≠ a := fun z => apv (z ▸ h)
          rw [H1o b hba]; exact (S.pv b h).1
      have nota : ∀ {b u}, ((∃ xs, u = HO.tup xs) ∨ ∃ xs, u = HO.lst xs) → Rd H b u → b ≠ a := fun {b u} hu hb z => by
        subst z
        rcases hu with ⟨_, rfl⟩ | ⟨_, rfl⟩ <;> rcases hb with hb | ⟨_, hb⟩ <;> (rw [hH] at hb; cases hb)
      have g0 : ∀ b u, ((∃ xs, u = HO.tup xs) ∨ ∃ xs, u = HO.lst xs) → Rd H b u → M.no b → Rd H1 b u ∧ M0.no b := fun b u hu hb hn => by
        have hba := nota hu hb
        refine ⟨?_, by rw [M0a]; simp, fun z => ?_⟩
        · unfold Rd at hb ⊢
          rw [H1o b hba]; exact hb
        · rcases (M0p b).mp z with ⟨h1, _⟩ | h
          · exact hn.1 h1
          · exact hn.2 h
      have e0 : EnOk X.kw H1 M0 (dat ρ) σ := by
        refine ⟨by unfold dat; rw [List.length_map]; exact e.len, fun i x h => ?_⟩
        unfold dat at h
        rw [List.getElem?_map] at h
        obtain ⟨o, h1, h2⟩ := Option.map_eq_some_iff.mp h
        cases o with
        | none => cases h2
        | some y =>
          have h2 : (if noObj y then some y else none) = some x := h2
          split at h2
          · rename_i hn
            cases h2
            obtain ⟨w, h3, h4⟩ := e.at_ i _ h1
            exact ⟨w, h3, Rep.dat g0 _ _ hn h4⟩
          · cases h2
      have d0 : ∀ (i : Nat) (p : EV × EV), kvs[i]? = some p → ∃ q : NestedKey × V × V, xs'[i]? = some q ∧ Rep X.kw H1 M0 p.1 q.2.1 := fun i p h => by
        obtain ⟨q, h1, h2, h3⟩ := dns_getN dns h
        exact ⟨q, h1, Rep.dat g0 _ _ (nk_noObj _ 8 (key_nk h3)) h2⟩
      have wk : Wks X.kw H1 M0 (ItN X.w a od xs') (.st (kvs.map (·.1))) := wks_keysN H1a ⟨by rw [M0a]; simp, fun z => ((M0p a).mp z).elim (fun q => q.2 rfl) apv⟩ (dns_lenN dns) d0 hz
      rw [← eH1]
      have fin := tLc_core (K := X.kw) (xs := xs) (W := W) (C := C) (t := t) (cn := cn) (el := el) (own := own) false σ H1 (fun v H' => H' a = some (.frz od (NDO X.w a xs')) ∧ Q v (upd H' a (NDO X.w a xs'))) (its := .st (kvs.map (·.1))) (s1 := []) e0 (by
        split at p
        · rename_i vs s5 heq
          split at p
          · rename_i hh
            rw [Bool.and_eq_true] at hh
            have p : KV X.kw H M Q (.lst vs) s := p
            show Post _ ((cst (cbody C t cn el (Pm.wipe (dat ρ) own)) (kvs.map (·.1)) []).nox.bind _) _
            rw [heq]
            show KV X.kw H1 M0 _ (.lst vs) s5
            intro H' M' r g S' R
            have Ha := (g.keep a _ H1a (by rw [M0a]; simp)).1
            refine ⟨Ha, ?_⟩
            have keepAll : ∀ b u, H b = some u → upd H' a (NDO X.w a xs') b = some u := fun b u h => by
              by_cases hb : b = a
              · rw [hb] at h ⊢
                rw [upd_same, ← hH]; exact h
              · rw [upd_ne hb]
                exact (g.keep b u (by rw [H1o b hb]; exact h) (by rw [M0a]; simp)).1
            have gr : Grow H M (upd H' a (NDO X.w a xs')) M := ⟨⟨[], by simp⟩, rfl, fun b u h n => ⟨keepAll b u h, n⟩⟩
            have S3 : StOk X.kw (upd H' a (NDO X.w a xs')) M s := by
              refine ⟨S.nd, S.len, fun n b o h1 h2 => ?_, fun b hb => ⟨?_, (S.pv b hb).2⟩⟩
              · have q := S.at_ n b o h1 h2
                obtain ⟨u, hu⟩ := q.some
                exact q.mov gr.mov (by rw [keepAll b u hu, hu])
              · cases hu : H b with
                | none => exact absurd hu (S.pv b hb).1
                | some u => rw [keepAll b u hu]; simp
            refine p _ M r gr S3 (Rep.dat (fun b u hu hb hn => ?_) (.lst vs) r hh.2 R)
            have hba : b ≠ a := fun z => by
              subst z
              rcases hu with ⟨_, rfl⟩ | ⟨_, rfl⟩ <;> rcases hb with hb | ⟨_, hb⟩ <;> (rw [Ha] at hb; cases hb)
            have np : b ∉ M0.pv := by rw [← g.pv]; exact hn.2
            refine ⟨?_, fun z => np ((M0p b).mpr (.inl ⟨z, hba⟩)), fun z => np ((M0p b).mpr (.inr z))⟩
            unfold Rd at hb ⊢
            rw [upd_ne hba]; exact hb
          · exact p.elim
        · exact p.elim) Grow.refl S0 wk
      exact fin
    · exact p.elim
  · exact p.elim
end
end Pm

end
section
set_option maxHeartbeats 4000000
namespace Pm
open PySem L2
section
variable {c : Cc} {X : Cx} {C : Ct} {xs : Nat → Option (Value × Str)} {W : WX}
theorem pts_no : PTs X [] (tRo X.kw (denO C .no)) := ⟨fun pins s σ H Q I ⟨ρ, M, st, e, S, p⟩ => pts_nil.run pins s σ H Q I (by
  obtain ⟨b, e1, q⟩ : KTo X.kw H M Q none st := p
  cases e1
  exact q H M Grow.refl S)⟩
theorem pts_yes {a : Ex} {x : Expr} (h : PT X x (tRt X.kw xs W (den C a))) : PTs X [x] (tRo X.kw (denO C (.yes a))) := ⟨fun pins s σ H Q I ⟨ρ, M, st, e, S, p⟩ => (pts_one h).run pins s σ H Q I (by
  have p : Post nope ((den C a ρ st).bind fun v s1 => .ok (some v) s1) (KTo X.kw H M Q) := p
  refine ⟨ρ, M, st, e, S, (Post.bind.mp p).mono (fun v s1 p1 => ?_) fun _ _ _ z => z.elim⟩
  obtain ⟨b, e1, q⟩ : KTo X.kw H M Q (some v) s1 := p1
  exact ⟨b, e1, q⟩)⟩
end
/-! ### all of them -/
section
variable {C : Ct} {xs : Nat → Option (Value × Str)}
theorem dnw_ok {c : Cc} {X : Cx} {W : WX} (O : Ok c X C xs W) {n : Bool} {pos : Pos} : PE X (.Dict [] [] pos) (tR X.kw xs W (den C (.dnw n))) := by
  cases n with
  | false =>
    refine pe_dnewK.imp fun σ H Q ⟨ρ, M, s, e, S, p⟩ b hb => ?_
    have p : KV X.kw H M Q (.obj s.length) (s ++ [.dct false []]) := p
    refine p _ _ _ (Grow.more S hb) (S.newO hb ⟨[], upd_same, rfl⟩) ⟨b, rfl, ?_⟩
    show (M.ad ++ [b])[s.length]? = some b
    rw [← S.len]; simp
  | true =>
    refine ⟨fun pins s σ H Q I ⟨ρ, M, st, e, S, p⟩ => ?_⟩
    have p : KV X.kw H M Q (.obj st.length) (st ++ [.dct true []]) := p
    have hb := I.hok.fresh (Nat.le_refl s.heap.objs.size)
    have big := I.big
    have dd : (s.heap.push { cls := .type "dict", data := .dict #[] }).DictOfH (nestedKind X.prog X.w) s.heap.objs.size [] := Heap.DictOfH.new s.heap
    refine wpAny_Dict_empty ⟨.ref s.heap.objs.size, upd H s.heap.objs.size (NDO X.w s.heap.objs.size []), I.laid (t' := s.toks) (fun _ _ q => Heap.get?_push_of_some _ q) (Nat.le_refl _) (n_lay .nil dd), rfl, ?_⟩
    refine p _ _ _ (Grow.more S hb) (S.newO hb ⟨[], upd_same, beq_eq_false_iff_ne.mpr (Ne.symm (Nat.ne_of_lt big)), Nat.zero_le _, rfl⟩) ⟨_, rfl, ?_⟩
    show (M.ad ++ [s.heap.objs.size])[st.length]? = some _
    rw [← S.len]; simp
mutual
theorem snd_ex : ∀ (il : Ex) (c : Cc) (X : Cx) (W : WX) (e : Expr), Ok c X C xs W → chk c il e = true → Snd X C xs W il e
  | .var i, c, X, W, e, O, h => by
    unfold chk at h
    split at h
    · rename_i x p
      rw [Bool.and_eq_true, Bool.and_eq_true] at h
      obtain ⟨⟨h1, h2⟩, h3⟩ := h
      obtain ⟨d1, d2⟩ := plain_ok h3
      refine .plain ?_ rfl
      refine (pe_var (by rw [O.N]; exact isAt_ok h1) (vis_ok O h2) d1 d2).imp fun σ H Q q => ?_
      obtain ⟨ρ, M, s, e, S, p⟩ := q
      have p : Post (wsh X.kw xs H M (WE W σ)) (match ρ[i]? with
        | some (some v) => .ok v s
        | _ => .stuck) (KV X.kw H M Q) := p
      split at p
      · rename_i v ev
        obtain ⟨r, h1, h2⟩ := e.at_ i v ev
        exact ⟨r, h1, KV.same p S h2⟩
      · exact p.elim
    · cases h
  | .cst v, c, X, W, e, O, h => by
    unfold chk at h
    split at h
    · exact .plain (cst_ok h) rfl
    · cases h
  | .glo g, c, X, W, e, O, h => by
    unfold chk at h
    split at h
    · rename_i x p
      rw [Bool.and_eq_true, Bool.and_eq_true] at h
      obtain ⟨⟨h1, h2⟩, h3⟩ := h
      obtain ⟨d1, d2⟩ := plain_ok h3
      refine .plain ⟨fun pins s σ H Q I q => ?_⟩ rfl
      obtain ⟨ρ, M, st, e, S, p⟩ := q
      have p : Post (wsh X.kw xs H M (WE W σ)) (match C.G g with
        | some v => .ok v st
        | none => .stuck) (KV X.kw H M Q) := p
      split at p
      · rename_i v ev
        obtain ⟨u, r, m1, m2, m3⟩ := O.cns g x (isAt_ok h1) v ev
        exact (pe_glob (glob_ok O h2) m1 m2 d1).run pins s σ H Q I (KV.same p S (m3 H M))
      · exact p.elim
    · cases h
  | .tup es, c, X, W, e, O, h => by
    unfold chk at h
    split at h
    · rename_i xs' k p
      rw [Bool.and_eq_true, decide_eq_true_eq] at h
      exact .plain ((pe_tup (snd_as es c X W xs' O h.1)).imp fun σ H Q q => tR_tup es.len h.2 (fun _ _ _ _ z => denA_len z) σ H Q q) rfl
    · cases h
  | .lst m es, c, X, W, e, O, h => by
    unfold chk at h
    split at h
    · rename_i xs' p
      rw [Bool.and_eq_true, decide_eq_true_eq] at h
      exact .plain ((pe_lst (snd_as es c X W xs' O h.1)).imp fun σ H Q q => tR_lst m es.len h.2 (fun _ _ _ _ z => denA_len z) σ H Q q) rfl
    · cases h
  | .bin o a b, c, X, W, e, O, h => by
    unfold chk at h
    split at h
    · rename_i x op y p
      rw [Bool.and_eq_true, Bool.and_eq_true] at h
      exact .plain ((pe_op (bop_ok h.1) (snd_ex a c X W x O h.2.1).pe (snd_ex b c X W y O h.2.2).pe).imp fun σ H Q q => tR_op σ H Q q) rfl
    · cases h
  | .neg a, c, X, W, e, O, h => by
    unfold chk at h
    split at h
    · rename_i x p
      exact .plain ((pe_un r1_neg (snd_ex a c X W x O h).pe).imp fun σ H Q q => tR_un σ H Q q) rfl
    · cases h
  | .notE a, c, X, W, e, O, h => by
    unfold chk at h
    split at h
    · rename_i x p
      have A := snd_ex a c X W x O h
      exact ⟨(pe_notT A.pe).imp fun σ H Q q => tR_not σ H Q q, (pt_not A.pt).imp fun σ H Q q => tRt_not σ H Q q, fun ⟨_, _, _, z⟩ => by cases z⟩
    · cases h
  | .cmp o a b, c, X, W, e, O, h => by
    unfold chk at h
    split at h
    · rename_i x op y p
      rw [Bool.and_eq_true, Bool.and_eq_true, Bool.and_eq_true] at h
      have A := snd_ex a c X W x O h.2.1
      have B := snd_ex b c X W y O h.2.2
      have op_ := cop_ok (X := X) (o := o) (by have := O.room; omega) h.1.1
      have mk : ∀ {op}, behindInMarks op y = false := fun {op} => mark_ok h.1.2
      refine ⟨(pe_cmpR op_ A.pe B.pe mk).imp fun σ H Q q => tR_op σ H Q q, (pt_cmpR op_ A.pe B.pe mk).imp fun σ H Q q => ?_, fun ⟨_, _, _, z⟩ => by cases z⟩
      obtain ⟨ρ, M, s, e, S, p⟩ := q
      refine tR_op σ H _ ⟨ρ, M, s, e, S, ?_⟩
      have p : Post (wsh X.kw xs H M (WE W σ)) ((den C a ρ s).bind fun x s1 => (den C b ρ s1).bind fun y s2 => cmpf o x y s2) (KT X.kw H M Q) := p
      refine Post.bind.mpr ((Post.bind.mp p).mono (fun vx s1 p1 => Post.bind.mpr ((Post.bind.mp p1).mono (fun vy s2 p2 => ?_) fun _ _ _ z => z)) fun _ _ _ z => z)
      cases ec : cmpf o vx vy s2 with
      | ok v s3 =>
        rw [ec] at p2
        obtain ⟨k, rfl, _⟩ := cmpf_bl ec
        obtain ⟨b', e', q'⟩ : KT X.kw H M Q (.bl k) s3 := p2
        cases e'
        intro H3 M3 r g3 S3 R3
        exact ⟨k, R3, q' H3 M3 g3 S3⟩
      | exc _ _ _ => rw [ec] at p2; exact p2
      | stuck => rw [ec] at p2; exact p2
    · cases h
  | .andE a b, c, X, W, e, O, h => by
    unfold chk at h
    split at h
    · rename_i x y p
      rw [Bool.and_eq_true] at h
      have A := snd_ex a c X W x O h.1
      have B := snd_ex b c X W y O h.2
      have pw := (pw_and (pos := p) A.pt (pw_and1 B.pt)).imp fun σ H Q q => tRt_and (fb := den C b) σ H Q q
      exact ⟨(pe_andT A.pe (pe_one B.pe)).imp fun σ H Q q => tR_and σ H Q q, pw.pt, fun _ => pw⟩
    · rename_i x y z r p
      rw [Bool.and_eq_true] at h
      have A := snd_ex a c X W x O h.1
      have B := snd_ex b c X W _ O h.2
      have pw := (pw_and (pos := p) A.pt (B.pw ⟨_, _, _, rfl⟩)).imp fun σ H Q q => tRt_and (fb := den C b) σ H Q q
      exact ⟨(pe_andT A.pe B.pe).imp fun σ H Q q => tR_and σ H Q q, pw.pt, fun _ => pw⟩
    · cases h
  | .orE a b, c, X, W, e, O, h => by
    unfold chk at h
    split at h
    · rename_i x y p
      rw [Bool.and_eq_true] at h
      have A := snd_ex a c X W x O h.1
      have B := snd_ex b c X W y O h.2
      have pw := (pw_or (pos := p) A.pt (pw_or1 B.pt)).imp fun σ H Q q => tRt_or (fb := den C b) σ H Q q
      exact ⟨(pe_orT A.pe (pe_one B.pe)).imp fun σ H Q q => tR_or σ H Q q, pw.pt, fun _ => pw⟩
    · rename_i x y z r p
      rw [Bool.and_eq_true] at h
      have A := snd_ex a c X W x O h.1
      have B := snd_ex b c X W _ O h.2
      have pw := (pw_or (pos := p) A.pt (B.pw ⟨_, _, _, rfl⟩)).imp fun σ H Q q => tRt_or (fb := den C b) σ H Q q
      exact ⟨(pe_orT A.pe B.pe).imp fun σ H Q q => tR_or σ H Q q, pw.pt, fun _ => pw⟩
    · cases h
  | .ite t a b, c, X, W, e, O, h => by
    unfold chk at h
    split at h
    · rename_i z x y p
      rw [Bool.and_eq_true, Bool.and_eq_true] at h
      have T := snd_ex t c X W z O h.1
      have A := snd_ex a c X W x O h.2.1
      have B := snd_ex b c X W y O h.2.2
      exact ⟨(pe_ifExp T.pt A.pe B.pe).imp fun σ H Q q => tR_ite σ H Q q, (pt_ifExp T.pt A.pt B.pt).imp fun σ H Q q => tRt_ite σ H Q q, fun ⟨_, _, _, z⟩ => by cases z⟩
    · cases h
  | .call f es, c, X, W, e, O, h => by
    unfold chk at h
    split at h
    · rename_i x p xs' p2
      rw [Bool.and_eq_true, Bool.and_eq_true, Bool.and_eq_true] at h
      obtain ⟨⟨⟨h1, h2⟩, h3⟩, h4⟩ := h
      split at h1
      · rename_i y n hf
        rw [Bool.and_eq_true, decide_eq_true_eq, decide_eq_true_eq] at h1
        obtain ⟨e1, e2⟩ := h1
        subst e1
        obtain ⟨s1, s2⟩ := chkA_stars h4
        exact .plain (call_ok O hf e2 (glob_ok O h2) h3 (snd_as es c X W xs' O h4) s1 s2) rfl
      · cases h1
    · cases h
  | .prim p es, c, X, W, e, O, h => by
    unfold chk at h
    split at h
    · rename_i f xs' cp
      cases p
      case len =>
        have h : (nameIs c.sc "len" f && chkA c es xs' && decide (es.len ≠ 0)) = true := h
        rw [Bool.and_eq_true, Bool.and_eq_true, decide_eq_true_eq] at h
        obtain ⟨s1, s2⟩ := chkA_stars h.1.2
        exact .plain (blt_ok O h.1.1 (by decide) (by decide +kernel) (prim_blts _ (by decide)).1 (prim_blts _ (by decide)).2 rp_len (snd_as es c X W xs' O h.1.2) s1 (fun z => h.2 (by rw [← s2, z]; rfl))) rfl
      case tup =>
        have h : (nameIs c.sc "tuple" f && chkA c es xs' && decide (es.len ≠ 0)) = true := h
        rw [Bool.and_eq_true, Bool.and_eq_true, decide_eq_true_eq] at h
        obtain ⟨s1, s2⟩ := chkA_stars h.1.2
        exact .plain (typ_ok O h.1.1 (by decide) (by decide +kernel) (prim_blts _ (by decide)).1 (prim_blts _ (by decide)).2 (rp_tup O.calm) (snd_as es c X W xs' O h.1.2) s1 (fun z => h.2 (by rw [← s2, z]; rfl))) rfl
      case lst =>
        have h : (nameIs c.sc "list" f && chkA c es xs' && decide (es.len ≠ 0)) = true := h
        rw [Bool.and_eq_true, Bool.and_eq_true, decide_eq_true_eq] at h
        obtain ⟨s1, s2⟩ := chkA_stars h.1.2
        exact .plain (typ_ok O h.1.1 (by decide) (by decide +kernel) (prim_blts _ (by decide)).1 (prim_blts _ (by decide)).2 (rp_lst O.calm) (snd_as es c X W xs' O h.1.2) s1 (fun z => h.2 (by rw [← s2, z]; rfl))) rfl
      case int =>
        have h : (nameIs c.sc "int" f && chkA c es xs' && decide (es.len ≠ 0)) = true := h
        rw [Bool.and_eq_true, Bool.and_eq_true, decide_eq_true_eq] at h
        obtain ⟨s1, s2⟩ := chkA_stars h.1.2
        exact .plain (typ_ok O h.1.1 (by decide) (by decide +kernel) (prim_blts _ (by decide)).1 (prim_blts _ (by decide)).2 rp_int (snd_as es c X W xs' O h.1.2) s1 (fun z => h.2 (by rw [← s2, z]; rfl))) rfl
      case abs =>
        have h : (nameIs c.sc "abs" f && chkA c es xs' && decide (es.len ≠ 0)) = true := h
        rw [Bool.and_eq_true, Bool.and_eq_true, decide_eq_true_eq] at h
        obtain ⟨s1, s2⟩ := chkA_stars h.1.2
        exact .plain (blt_ok O h.1.1 (by decide) (by decide +kernel) (prim_blts _ (by decide)).1 (prim_blts _ (by decide)).2 rp_abs (snd_as es c X W xs' O h.1.2) s1 (fun z => h.2 (by rw [← s2, z]; rfl))) rfl
      case max2 =>
        have h : (nameIs c.sc "max" f && chkA c es xs' && decide (es.len ≠ 0)) = true := h
        rw [Bool.and_eq_true, Bool.and_eq_true, decide_eq_true_eq] at h
        obtain ⟨s1, s2⟩ := chkA_stars h.1.2
        exact .plain (blt_ok O h.1.1 (by decide) (by decide +kernel) (prim_blts _ (by decide)).1 (prim_blts _ (by decide)).2 (rp_max2 O.calm) (snd_as es c X W xs' O h.1.2) s1 (fun z => h.2 (by rw [← s2, z]; rfl))) rfl
      case min2 =>
        have h : (nameIs c.sc "min" f && chkA c es xs' && decide (es.len ≠ 0)) = true := h
        rw [Bool.and_eq_true, Bool.and_eq_true, decide_eq_true_eq] at h
        obtain ⟨s1, s2⟩ := chkA_stars h.1.2
        exact .plain (blt_ok O h.1.1 (by decide) (by decide +kernel) (prim_blts _ (by decide)).1 (prim_blts _ (by decide)).2 (rp_min2 O.calm) (snd_as es c X W xs' O h.1.2) s1 (fun z => h.2 (by rw [← s2, z]; rfl))) rfl
      case isTup =>
        rcases es with _ | ⟨e1, _ | _⟩
        · cases h
        · rcases xs' with _ | ⟨x, _ | ⟨y, _ | _⟩⟩
          · cases h
          · cases h
          · have h : (nameIs c.sc "isinstance" f && nameIs c.sc "tuple" y && notStar x && chk c e1 x) = true := h
            simp only [Bool.and_eq_true] at h
            obtain ⟨⟨⟨h1, h2⟩, h3⟩, h4⟩ := h
            exact .plain (isi_ok O h1 h2 (by decide) (by decide +kernel) (prim_blts _ (by decide)).1 (prim_blts _ (by decide)).2 kit_tuple (snd_ex e1 c X W x O h4).pe h3) rfl
          · cases h
        · cases h
      case isInt =>
        rcases es with _ | ⟨e1, _ | _⟩
        · cases h
        · rcases xs' with _ | ⟨x, _ | ⟨y, _ | _⟩⟩
          · cases h
          · cases h
          · have h : (nameIs c.sc "isinstance" f && nameIs c.sc "int" y && notStar x && chk c e1 x) = true := h
            simp only [Bool.and_eq_true] at h
            obtain ⟨⟨⟨h1, h2⟩, h3⟩, h4⟩ := h
            exact .plain (isi_ok O h1 h2 (by decide) (by decide +kernel) (prim_blts _ (by decide)).1 (prim_blts _ (by decide)).2 kit_int (snd_ex e1 c X W x O h4).pe h3) rfl
          · cases h
        · cases h
      case isStr =>
        rcases es with _ | ⟨e1, _ | _⟩
        · cases h
        · rcases xs' with _ | ⟨x, _ | ⟨y, _ | _⟩⟩
          · cases h
          · cases h
          · have h : (nameIs c.sc "isinstance" f && nameIs c.sc "str" y && notStar x && chk c e1 x) = true := h
            simp only [Bool.and_eq_true] at h
            obtain ⟨⟨⟨h1, h2⟩, h3⟩, h4⟩ := h
            exact .plain (isi_ok O h1 h2 (by decide) (by decide +kernel) (prim_blts _ (by decide)).1 (prim_blts _ (by decide)).2 kit_str (snd_ex e1 c X W x O h4).pe h3) rfl
          · cases h
        · cases h
      case isBool =>
        rcases es with _ | ⟨e1, _ | _⟩
        · cases h
        · rcases xs' with _ | ⟨x, _ | ⟨y, _ | _⟩⟩
          · cases h
          · cases h
          · have h : (nameIs c.sc "isinstance" f && nameIs c.sc "bool" y && notStar x && chk c e1 x) = true := h
            simp only [Bool.and_eq_true] at h
            obtain ⟨⟨⟨h1, h2⟩, h3⟩, h4⟩ := h
            exact .plain (isi_ok O h1 h2 (by decide) (by decide +kernel) (prim_blts _ (by decide)).1 (prim_blts _ (by decide)).2 kit_bool (snd_ex e1 c X W x O h4).pe h3) rfl
          · cases h
        · cases h
      case append => cases h
      case get2 => cases h
      case join => cases h
      case pop => cases h
      case all =>
        have h : (nameIs c.sc "all" f && chkA c es xs' && decide (es.len ≠ 0)) = true := h
        rw [Bool.and_eq_true, Bool.and_eq_true, decide_eq_true_eq] at h
        obtain ⟨s1, s2⟩ := chkA_stars h.1.2
        exact .plain (blt_ok O h.1.1 (by decide) (by decide +kernel) (prim_blts _ (by decide)).1 (prim_blts _ (by decide)).2 (rp_all O.calm) (snd_as es c X W xs' O h.1.2) s1 (fun z => h.2 (by rw [← s2, z]; rfl))) rfl
      case strI =>
        have h : (nameIs c.sc "str" f && chkA c es xs' && decide (es.len ≠ 0)) = true := h
        rw [Bool.and_eq_true, Bool.and_eq_true, decide_eq_true_eq] at h
        obtain ⟨s1, s2⟩ := chkA_stars h.1.2
        exact .plain (typ_ok O h.1.1 (by decide) (by decide +kernel) (prim_blts _ (by decide)).1 (prim_blts _ (by decide)).2 rp_strI (snd_as es c X W xs' O h.1.2) s1 (fun z => h.2 (by rw [← s2, z]; rfl))) rfl
      case dict n =>
        cases n with
        | true =>
          have h : (nameIs c.sc "dict" f && chkA c es xs' && decide (es.len ≠ 0)) = true := h
          rw [Bool.and_eq_true, Bool.and_eq_true, decide_eq_true_eq] at h
          obtain ⟨s1, s2⟩ := chkA_stars h.1.2
          exact .plain (typ_ok O h.1.1 (by decide) (by decide +kernel) (prim_blts _ (by decide)).1 (prim_blts _ (by decide)).2 (rp_dictN O.calm (by have := O.room; omega)) (snd_as es c X W xs' O h.1.2) s1 (fun z => h.2 (by rw [← s2, z]; rfl))) rfl
        | false =>
          have h : (nameIs c.sc "dict" f && chkA c es xs' && decide (es.len ≠ 0)) = true := h
          rw [Bool.and_eq_true, Bool.and_eq_true, decide_eq_true_eq] at h
          obtain ⟨s1, s2⟩ := chkA_stars h.1.2
          exact .plain (typ_ok O h.1.1 (by decide) (by decide +kernel) (prim_blts _ (by decide)).1 (prim_blts _ (by decide)).2 (rp_dictK O.calm) (snd_as es c X W xs' O h.1.2) s1 (fun z => h.2 (by rw [← s2, z]; rfl))) rfl
      case sorted =>
        have h : (nameIs c.sc "sorted" f && chkA c es xs' && decide (es.len ≠ 0)) = true := h
        rw [Bool.and_eq_true, Bool.and_eq_true, decide_eq_true_eq] at h
        obtain ⟨s1, s2⟩ := chkA_stars h.1.2
        exact .plain (blt_ok O h.1.1 (by decide) (by decide +kernel) (prim_blts _ (by decide)).1 (prim_blts _ (by decide)).2 (rp_sorted O.calm O.room) (snd_as es c X W xs' O h.1.2) s1 (fun z => h.2 (by rw [← s2, z]; rfl))) rfl
      case min1 =>
        have h : (nameIs c.sc "min" f && chkA c es xs' && decide (es.len ≠ 0)) = true := h
        rw [Bool.and_eq_true, Bool.and_eq_true, decide_eq_true_eq] at h
        obtain ⟨s1, s2⟩ := chkA_stars h.1.2
        exact .plain (blt_ok O h.1.1 (by decide) (by decide +kernel) (prim_blts _ (by decide)).1 (prim_blts _ (by decide)).2 (rp_min1 O.calm O.room) (snd_as es c X W xs' O h.1.2) s1 (fun z => h.2 (by rw [← s2, z]; rfl))) rfl
      case max1 =>
        have h : (nameIs c.sc "max" f && chkA c es xs' && decide (es.len ≠ 0)) = true := h
        rw [Bool.and_eq_true, Bool.and_eq_true, decide_eq_true_eq] at h
        obtain ⟨s1, s2⟩ := chkA_stars h.1.2
        exact .plain (blt_ok O h.1.1 (by decide) (by decide +kernel) (prim_blts _ (by decide)).1 (prim_blts _ (by decide)).2 (rp_max1 O.calm O.room) (snd_as es c X W xs' O h.1.2) s1 (fun z => h.2 (by rw [← s2, z]; rfl))) rfl
      case repr =>
        have h : (nameIs c.sc "repr" f && chkA c es xs' && decide (es.len ≠ 0)) = true := h
        rw [Bool.and_eq_true, Bool.and_eq_true, decide_eq_true_eq] at h
        obtain ⟨s1, s2⟩ := chkA_stars h.1.2
        exact .plain (blt_ok O h.1.1 (by decide) (by decide +kernel) (prim_blts _ (by decide)).1 (prim_blts _ (by decide)).2 (rp_repr O.gd O.room) (snd_as es c X W xs' O h.1.2) s1 (fun z => h.2 (by rw [← s2, z]; rfl))) rfl
      case srtset =>
        dsimp only [primK] at h
        split at h
        · rename_i g ys p1
          simp only [Bool.and_eq_true, decide_eq_true_eq] at h
          obtain ⟨⟨⟨h1, h2⟩, h3⟩, h4⟩ := h
          obtain ⟨s1, s2⟩ := chkA_stars h3
          exact .plain (ss_ok O h1 h2 (snd_as es c X W ys O h3) s1 (fun z => by
            rw [z] at s2
            have : es.len = 0 := s2.symm
            omega)) rfl
        · cases h
    · cases h
  | .meth p eo es, c, X, W, e, O, h => by
    unfold chk at h
    split at h
    · rename_i o n ap xs' cp
      split at h
      · rename_i T m id hk
        simp only [Bool.and_eq_true, decide_eq_true_eq] at h
        obtain ⟨h0, ⟨⟨⟨⟨⟨h1, h2⟩, h3⟩, h4⟩, h5⟩, h6⟩, h7⟩ := h
        obtain ⟨s1, s2⟩ := chkA_stars h5
        exact .plain (meth_ok O hk h1 h2 h3 (snd_ex eo c X W o O h4).pe (snd_as es c X W xs' O h5) s1 (fun z => h7 (by rw [← s2, z]; rfl)) (by rw [s2]; exact h6) h0) rfl
      · rename_i T m id hk
        simp only [Bool.and_eq_true, decide_eq_true_eq] at h
        obtain ⟨⟨⟨⟨⟨h1, h2⟩, h3⟩, h4⟩, h5⟩, h6⟩ := h
        have hx : xs' = [] := by
          cases xs' with
          | nil => rfl
          | cons _ _ => cases h5
        subst hx
        exact .plain (meth0_ok O hk h1 h2 h3 (snd_ex eo c X W o O h4).pe h6) rfl
      · cases h
    · cases h
  | .idx a b, c, X, W, e, O, h => by
    unfold chk at h
    split at h
    · rename_i x y p
      rw [Bool.and_eq_true, Bool.and_eq_true] at h
      exact .plain ((pe_ix (r2_idx (by have := O.room; omega)) (snd_ex a c X W x O h.1.1).pe (snd_ex b c X W y O h.1.2).pe (ix_ok h.2)).imp fun σ H Q q => tR_op σ H Q q) rfl
    · cases h
  | .slc a lo hi, c, X, W, e, O, h => by
    unfold chk at h
    split at h
    · rename_i x l u p2 p
      rw [Bool.and_eq_true, Bool.and_eq_true] at h
      exact .plain (slc_ok (snd_ex a c X W x O h.1.1).pe (snd_op lo c X W l O h.1.2).1 (snd_op hi c X W u O h.2).1) rfl
    · cases h
  | .dnw n, c, X, W, e, O, h => by
    unfold chk at h
    split at h
    · exact .plain (dnw_ok O) rfl
    · cases h
  | .comp m t s cn el own, c, X, W, e, O, h => by
    unfold chk at h
    split at h
    · rename_i elt tg iter ifs scope p
      simp only [Bool.and_eq_true] at h
      obtain ⟨⟨⟨⟨⟨⟨⟨⟨h1, h0⟩, h2⟩, h3⟩, h4⟩, h5⟩, h6⟩, h7⟩, h8⟩ := h
      refine .plain (comp_ok O h1 h2 h3 (snd_src s c X W iter tg O h5 h0) (fun X' W' O' => snd_tg t _ X' W' tg _ O' h6 h4) (fun X' W' O' => ?_) (fun X' W' O' => (snd_ex el _ X' W' elt O' h8).pe)) rfl
      split at h7
      · exact (snd_op cn _ X' W' none O' h7).2.1 rfl
      · rename_i z
        exact (snd_op cn _ X' W' (some z) O' h7).2.2 z rfl
      · cases h7
    · cases h
  | .compK t v cn el own, c, X, W, e, O, h => by
    unfold chk at h
    split at h
    · rename_i elt tg iter ifs scope p
      simp only [Bool.and_eq_true] at h
      obtain ⟨⟨⟨⟨⟨⟨⟨h1, h2⟩, h3⟩, h4⟩, h5⟩, h6⟩, h7⟩, h8⟩ := h
      cases iter with
      | Name x px =>
        have h1 : (isAt c.N v x && vis c.sc x && plainName x) = true := h1
        rw [Bool.and_eq_true, Bool.and_eq_true] at h1
        refine .plain (compK_ok O h1.1.1 h1.1.2 h1.2 h2 h3 h4 (fun X' W' O' => snd_tg t _ X' W' tg _ O' h6 h5) (fun X' W' O' => ?_) (fun X' W' O' => (snd_ex el _ X' W' elt O' h8).pe)) rfl
        split at h7
        · exact (snd_op cn _ X' W' none O' h7).2.1 rfl
        · rename_i z
          exact (snd_op cn _ X' W' (some z) O' h7).2.2 z rfl
        · cases h7
      | _ => cases h1
    · cases h
  | .chn o p a b z, c, X, W, e, O, h => by
    unfold chk at h
    split at h
    · rename_i x op op' y w pos
      simp only [Bool.and_eq_true] at h
      obtain ⟨⟨⟨h1, h2⟩, h3⟩, ⟨h4, h5⟩, h6⟩ := h
      have hm : lastMarks [op, op'] [y, w] = false := by
        cases q : lastMarks [op, op'] [y, w] with
        | false => rfl
        | true => rw [q] at h3; cases h3
      have hr : X.A.units + 65 < cLine := by have := O.room; omega
      have A := snd_ex a c X W x O h4
      have B := snd_ex b c X W y O h5
      have Z := snd_ex z c X W w O h6
      have o1 := cop_ok (X := X) (o := o) hr h1
      have o2 := cop_ok (X := X) (o := p) hr h2
      refine ⟨(pe_chain o1 o2 A.pe B.pe Z.pe hm).imp fun σ H Q q => tR_chn σ H Q q, (pt_chain o1 o2 A.pe B.pe Z.pe hm).imp fun σ H Q q => ?_, fun ⟨_, _, _, q⟩ => by cases q⟩
      obtain ⟨ρ, M, s, e, S, q⟩ := q
      refine tR_chn σ H _ ⟨ρ, M, s, e, S, ?_⟩
      have q : Post (wsh X.kw xs H M (WE W σ)) (den C (.chn o p a b z) ρ s) (KT X.kw H M Q) := q
      show Post (wsh X.kw xs H M (WE W σ)) (den C (.chn o p a b z) ρ s) _
      cases ec : den C (.chn o p a b z) ρ s with
      | ok v s3 =>
        rw [ec] at q
        obtain ⟨k, rfl⟩ := chn_bl ec
        obtain ⟨b', e', q'⟩ : KT X.kw H M Q (.bl k) s3 := q
        cases e'
        intro H3 M3 r g3 S3 R3
        exact ⟨k, R3, q' H3 M3 g3 S3⟩
      | exc _ _ _ => rw [ec] at q; exact q
      | stuck => rw [ec] at q; exact q
    · cases h
  | .bad, c, X, W, e, O, h => bad_ok
theorem snd_as : ∀ (il : As) (c : Cc) (X : Cx) (W : WX) (es : List Expr), Ok c X C xs W → chkA c il es = true → PA X es (tRs X.kw xs W (denA C il))
  | .nil, c, X, W, es, O, h => by
    cases es with
    | nil => exact pa_nil.imp fun σ H Q q => tR_nil σ H Q q
    | cons _ _ => simp [chkA] at h
  | .cons e r, c, X, W, es, O, h => by
    cases es with
    | nil => simp [chkA] at h
    | cons x ys =>
      have h : (notStar x && chk c e x && chkA c r ys) = true := by simpa [chkA] using h
      rw [Bool.and_eq_true, Bool.and_eq_true] at h
      exact (pa_cons (snd_ex e c X W x O h.1.2).pe (snd_as r c X W ys O h.2) (star_ok h.1.1)).imp fun σ H Q q => tR_cons σ H Q q
theorem snd_op : ∀ (il : Op) (c : Cc) (X : Cx) (W : WX) (o : Option Expr), Ok c X C xs W → chkO c il o = true →
    PO X o (tPt X.kw xs W (denO C il)) ∧ (o = none → PTs X [] (tRo X.kw (denO C il))) ∧ ∀ x, o = some x → PTs X [x] (tRo X.kw (denO C il))
  | .no, c, X, W, o, O, h => by
    cases o with
    | none => exact ⟨po_no, fun _ => pts_no, fun _ z => (by cases z)⟩
    | some _ => simp [chkO] at h
  | .yes a, c, X, W, o, O, h => by
    cases o with
    | none => simp [chkO] at h
    | some x =>
      have h : chk c a x = true := by simpa [chkO] using h
      have A := snd_ex a c X W x O h
      exact ⟨po_yes A.pe, fun z => (by cases z), fun _ z => (by cases z; exact pts_yes A.pt)⟩
theorem snd_src : ∀ (il : Src) (c : Cc) (X : Cx) (W : WX) (e tg : Expr), Ok c X C xs W → chkS c il e = true → tgOk il tg = true → PI X tg e (tSrc X.kw xs W (denS C il))
  | .ex a, c, X, W, e, tg, O, h, _ => seq_ok O (snd_ex a c X W e O h).pe
  | .rng1 a, c, X, W, e, tg, O, h, _ => by
    unfold chkS at h
    split at h
    · rename_i f y p
      rw [Bool.and_eq_true, Bool.and_eq_true] at h
      exact rng1_ok O h.1.1 h.1.2 (snd_ex a c X W y O h.2).pe
    · cases h
  | .rng2 a b, c, X, W, e, tg, O, h, _ => by
    unfold chkS at h
    split at h
    · rename_i f y z p
      simp only [Bool.and_eq_true] at h
      obtain ⟨⟨⟨⟨h1, h2⟩, h3⟩, h4⟩, h5⟩ := h
      exact rng2_ok O h1 h2 h3 (snd_ex a c X W y O h4).pe (snd_ex b c X W z O h5).pe
    · cases h
  | .enm a, c, X, W, e, tg, O, h, ht => by
    unfold chkS at h
    split at h
    · rename_i f y p
      rw [Bool.and_eq_true, Bool.and_eq_true] at h
      exact enm_ok O ht h.1.1 h.1.2 (snd_ex a c X W y O h.2).pe
    · cases h
  | .zip a b, c, X, W, e, tg, O, h, ht => by
    unfold chkS at h
    split at h
    · rename_i f y z p
      simp only [Bool.and_eq_true] at h
      obtain ⟨⟨⟨⟨h1, h2⟩, h3⟩, h4⟩, h5⟩ := h
      exact zip_ok O ht h1 h2 h3 (snd_ex a c X W y O h4).pe (snd_ex b c X W z O h5).pe
    · cases h
theorem snd_tg : ∀ (il : Tg) (c : Cc) (X : Cx) (W : WX) (e : Expr) (own : Nat → Bool), Ok c X C xs W → chkT c il e = true → tin il own = true → PG X e (tTg X.kw own (asgT C il))
  | .var i, c, X, W, e, own, O, h, ho => by
    unfold chkT at h
    split at h
    · rename_i y p
      rw [Bool.and_eq_true, Bool.and_eq_true] at h
      exact var_tg O h.1.1 h.1.2 h.2 ho
    · cases h
  | .tup ts, c, X, W, e, own, O, h, ho => by
    unfold chkT at h
    split at h
    · exact tup_tg O (snd_tgs ts c X W _ own O h ho) (chkTs_stars h) (asgTs_len h)
    · cases h
  | .sub o i, c, X, W, e, own, O, h, ho => by
    unfold chkT at h
    split at h
    · rename_i y z p
      simp only [Bool.and_eq_true] at h
      obtain ⟨⟨⟨h1, h2⟩, h3⟩, h4⟩ := h
      exact sub_tg O (snd_ex o c X W y O h1).pe (snd_ex i c X W z O h2).pe h3
    · cases h
theorem snd_tgs : ∀ (il : Tgs) (c : Cc) (X : Cx) (W : WX) (es : List Expr) (own : Nat → Bool), Ok c X C xs W → chkTs c il es = true → tins il own = true → PGs X es (tTgs X.kw own (asgTs C il))
  | .nil, c, X, W, es, own, O, h, ho => by
    cases es with
    | nil => exact nil_tgs
    | cons _ _ => simp [chkTs] at h
  | .cons t r, c, X, W, es, own, O, h, ho => by
    cases es with
    | nil => simp [chkTs] at h
    | cons y ys =>
      have h : (notStar y && chkT c t y && chkTs c r ys) = true := by simpa [chkTs] using h
      rw [Bool.and_eq_true, Bool.and_eq_true] at h
      have ho : (tin t own && tins r own) = true := ho
      rw [Bool.and_eq_true] at ho
      exact cons_tgs h.1.1 (snd_tg t c X W y own O h.1.2 ho.1) (snd_tgs r c X W ys own O h.2 ho.2)
end
end
end Pm

end
section
set_option maxHeartbeats 4000000
namespace Pm
open PySem PySem.Spec PyProof.Rows L2

/-! ### stores of several names at once -/
def isStar : Expr → Bool
  | .Starred .. => true
  | _ => false
def swLine (ts : List Expr) : Nat := (ts.head?.map (·.pos.line)).getD 0
def swName (sc : Scope) (line : Nat) : Expr → Option Str
  | .Name id pos => if sc.names.lookup id == some .local && pos.line == line then some id else none
  | _ => none
/-- what the stores are: unclear, plain ones, or of these names from the right -/
def swC (sc : Scope) (ts vs : List Expr) : Option (Option (List Str)) :=
  if (!(ts.length == 2 || ts.length == 3) || vs.length != ts.length) = true then some none
  else if vs.any isStar = true then some none
  else if ((ts.filterMap (swName sc (swLine ts))).length != ts.length || (ts.filterMap (swName sc (swLine ts))).eraseDups.length != (ts.filterMap (swName sc (swLine ts))).length) = true then some none
  else if vs.all (foldedForSure 8) = true then some none
  else if vs.all (constantsAlone 8) = true then none
  else some (some (ts.filterMap (swName sc (swLine ts))))
theorem sw_eq {env : Env} {sc : Scope} {ts vs : List Expr} {k k2 : Nat} {p p2 : Pos} {r : Option (List Str)} (hk : env.scope.kind = .function) (hsc : env.scope = sc) (h : swC sc ts vs = some r) :
    swappedStores [.Tuple ts k p] (.Tuple vs k2 p2) env = pure r := by
  have hb : env.blockKind = .function := by unfold Env.blockKind; rw [hk]; rfl
  have hn : (fun x : Expr => match x with
      | .Name id pos => if (env.kindOf id == some .local && pos.line == swLine ts) = true then some id else none
      | _ => none) = swName sc (swLine ts) := by
    funext x
    subst hsc
    cases x <;> rfl
  have hstar : (vs.any fun | .Starred .. => true | _ => false) = vs.any isStar := by
    congr 1
  have e : swappedStores [.Tuple ts k p] (.Tuple vs k2 p2) env =
    (if (!(ts.length == 2 || ts.length == 3) || vs.length != ts.length || env.blockKind != .function) = true then pure none
    else if (vs.any fun | .Starred .. => true | _ => false) = true then pure none
    else if ((ts.filterMap fun x : Expr => match x with
      | .Name id pos => if (env.kindOf id == some .local && pos.line == swLine ts) = true then some id else none
      | _ => none).length != ts.length || (ts.filterMap fun x : Expr => match x with
      | .Name id pos => if (env.kindOf id == some .local && pos.line == swLine ts) = true then some id else none
      | _ => none).eraseDups.length != (ts.filterMap fun x : Expr => match x with
      | .Name id pos => if (env.kindOf id == some .local && pos.line == swLine ts) = true then some id else none
      | _ => none).length) = true then pure none
    else if vs.all (foldedForSure 8) = true then pure none
    else if vs.all (constantsAlone 8) = true then unsupported "assign.tuple-of-constant-expressions:order-of-the-stores"
    else pure (some (ts.filterMap fun x : Expr => match x with
      | .Name id pos => if (env.kindOf id == some .local && pos.line == swLine ts) = true then some id else none
      | _ => none))) := by
    unfold swappedStores
    rfl
  rw [e, hb, hn, hstar]
  have hz : (!(ts.length == 2 || ts.length == 3) || vs.length != ts.length || (ScopeKind.function != ScopeKind.function)) = (!(ts.length == 2 || ts.length == 3) || vs.length != ts.length) := by
    rw [show (ScopeKind.function != ScopeKind.function) = false from rfl, Bool.or_false]
  rw [hz]
  unfold swC at h
  split at h
  · rename_i h1; rw [if_pos h1]; cases h; rfl
  · rename_i h1; rw [if_neg h1]
    split at h
    · rename_i h2; rw [if_pos h2]; cases h; rfl
    · rename_i h2; rw [if_neg h2]
      split at h
      · rename_i h3; rw [if_pos h3]; cases h; rfl
      · rename_i h3; rw [if_neg h3]
        split at h
        · rename_i h4; rw [if_pos h4]; cases h; rfl
        · rename_i h4; rw [if_neg h4]
          split at h
          · cases h
          · rename_i h5; rw [if_neg h5]; cases h; rfl

theorem ps_par3 {X : Cx} {pos : Pos} {i j l : Nat} {x y z : Str} {a b c : Expr} {ta : TA} {px py pz pt : Pos} {kt k2 pt2} (hc : X.calm = true) (hN : X.N.Nodup) (hi : X.N[i]? = some x) (hj : X.N[j]? = some y) (hl : X.N[l]? = some z)
    (hij : i ≠ j) (hil : i ≠ l) (hjl : j ≠ l)
    (hx : X.env.scope.names.lookup x = some .local) (hy : X.env.scope.names.lookup y = some .local) (hz : X.env.scope.names.lookup z = some .local) (ha : PA X [a, b, c] ta)
    (hw : swappedStores [.Tuple [.Name x px, .Name y py, .Name z pz] kt pt] (.Tuple [a, b, c] k2 pt2) X.env = pure (some [x, y, z]))
    (hs : swapsWithSole [.Tuple [.Name x px, .Name y py, .Name z pz] kt pt] (.Tuple [a, b, c] k2 pt2) pos.line X.env = pure false := by rfl) :
    PS X (.Assign [.Tuple [.Name x px, .Name y py, .Name z pz] kt pt] (.Tuple [a, b, c] k2 pt2) pos) (fun D σ H => ta σ H fun vs H1 => ∃ u v w, vs = [u, v, w] ∧ D.nx (((σ.set i (some u)).set j (some v)).set l (some w)) H1) := by
  refine ⟨fun pins s σ H D I h => ?_⟩
  rw [PySem.exec_Assign_arm]
  refine wpAny_bind (wpAny_standAt ?_)
  rw [hs]
  refine wpAny_bind (wpAny_pure ?_)
  rw [if_neg (by decide)]
  refine wpAny_bind (Tuple_ (thn (ha.run _ pins s σ H _ I h) fun us s1 ⟨vs, H1, I1, r1, q1⟩ => ?_))
  obtain ⟨u, v, w, e1, q1⟩ := q1
  subst e1
  obtain ⟨u1, u2, u3, rfl, ru, rv, rw'⟩ : ∃ u1 u2 u3, us = [u1, u2, u3] ∧ RelV u u1 ∧ RelV v u2 ∧ RelV w u3 := by
    cases r1 with
    | cons p q =>
      cases q with
      | cons p' q' =>
        cases q' with
        | cons p'' q'' =>
          cases q''
          exact ⟨_, _, _, rfl, p, p', p''⟩
  refine wpAny_newObj_type ?_ (by show 3 ≤ sizeLine; decide)
  have I2 : Inv X pins σ H1 { s1 with heap := s1.heap.push { cls := .type "tuple", data := .seq [u1, u2, u3].toArray } } := I1.kept (t' := s1.toks) fun b o e => Heap.get?_push_of_some _ e
  rw [hw]
  refine wpAny_bind (wpAny_pure ?_)
  show wpAny (model X.prog X.w) X.A (do rule "assign.swapped-stores"; let items ← unpackItems (.ref s1.heap.objs.size) 3 none; assignInOrder [fun v => bindName X.env z v, fun v => bindName X.env y v, fun v => bindName X.env x v] items.reverse; pure Flow.next) _ _ _
  refine wpAny_bind (wpAny_rule (wpAny_bind (unpackItems_tuple (items := #[u1, u2, u3]) (I.ok.hd hc) (IsTup.new s1.heap _) fun h' hx' => ?_)))
  have I3 := I2.kept (h' := h') (t' := s1.toks) fun b o e => hx' b o (Nat.ne_of_lt (Heap.lt_size e)) e
  show wpAny _ _ (assignInOrder [fun v => bindName X.env z v, fun v => bindName X.env y v, fun v => bindName X.env x v] [u3, u2, u1] >>= fun _ => pure Flow.next) _ _ _
  refine wpAny_bind (assignInOrder_cons (wpAny_bindName (store_ok I3 hN hl (.inl hz) rw' (fun s2 I4 => ?_) (.inr hz))))
  refine assignInOrder_cons (wpAny_bindName (store_ok I4 hN hj (.inl hy) rv (fun s3 I5 => ?_) (.inr hy)))
  refine assignInOrder_cons (wpAny_bindName (store_ok I5 hN hi (.inl hx) ru (fun s4 I6 => assignInOrder_nil (wpAny_pure ?_)) (.inr hx)))
  rw [List.set_comm _ _ (Ne.symm hjl), List.set_comm _ _ (Ne.symm hil), List.set_comm _ _ (Ne.symm hij)] at I6
  exact ⟨_, H1, I6, q1⟩

/-! ### the check of statements -/
def notComp : Expr → Bool
  | .ListComp _ _ _ _ => false
  | .SetComp _ _ _ _ => false
  | .DictComp _ _ _ _ _ => false
  | _ => true
def notTup : Expr → Bool
  | .Tuple _ _ _ => false
  | .List _ _ => false
  | _ => true
def asNames : List Expr → Option (List Str)
  | [] => some []
  | .Name x _ :: r => (asNames r).map (x :: ·)
  | _ => none
def tgVars : Tgs → Option (List Nat)
  | .nil => some []
  | .cons (.var i) r => (tgVars r).map (i :: ·)
  | _ => none
/-- a, b = x, y from the right -/
def chkPar (c : Cc) (ts : Tgs) (e : Ex) (xs vs : List Expr) (names : List Str) : Bool := match e with
  | .tup es => match tgVars ts, asNames xs with
    | some is, some ns => decide (ns = names) && chkA c es vs && decide (is.Nodup) && decide (is.length = ns.length) && decide (es.len = ns.length) && decide (vs.length = ns.length) && (is.zip ns).all (fun p => isAt c.N p.1 p.2 && isLocal c.sc p.2) && (decide (ns.length = 2) || decide (ns.length = 3))
    | _, _ => false
  | _ => false
def notK : Ex → Bool
  | .compK _ _ _ _ _ => false
  | _ => true
def chkAs (c : Cc) (t : Tg) (e : Ex) (tg v : Expr) : Bool := match t with
  | .var _ => chkT c t tg && (chk c e v && notK e)
  | .sub _ _ => chkT c t tg && chk c e v
  | .tup ts => match tg with
    | .Tuple xs _ _ => match v with
      | .Tuple vs _ _ => match swC c.sc xs vs with
        | some none => chkT c t tg && chk c e v
        | some (some names) => chkPar c ts e xs vs names
        | none => false
      | _ => chkT c t tg && chk c e v
    | _ => false
mutual
def chkSt (c : Cc) : Sm → Stmt → Bool
  | .skip, st => match st with
    | .Pass _ => true
    | .Expr (.Constant (.str _) _ _) _ => true
    | _ => false
  | .asg t e, st => match st with
    | .Assign [tg] v _ => chkAs c t e tg v
    | _ => false
  | .exp e, st => match st with
    | .Expr v _ => chk c e v && notComp v
    | _ => false
  | .ife t a b, st => match st with
    | .If x y z _ => chk c t x && chkB c a y && chkB c b z
    | _ => false
  | .for_ t s b, st => match st with
    | .For tg it body [] _ => chkT c t tg && chkS c s it && (notSet it && tgOk s tg) && chkB c b body
    | _ => false
  | .whl t b, st => match st with
    | .While x body [] _ => chk c t x && chkB c b body
    | _ => false
  | .ret e, st => match st with
    | .Return (some v) _ => chk c e v
    | _ => false
  | .retN, st => match st with
    | .Return none _ => true
    | _ => false
  | .brk, st => match st with
    | .Break _ => true
    | _ => false
  | .cnt, st => match st with
    | .Continue _ => true
    | _ => false
  | .seq _ _, _ => false
  | .aug _ _ _, _ => false
  | .bad, _ => true
def chkB (c : Cc) : Sm → List Stmt → Bool
  | .seq a b, sts => match sts with
    | st :: r => chkSt c a st && chkB c b r
    | [] => false
  | .skip, sts => sts.isEmpty
  | .bad, _ => true
  | _, _ => false
end

/-! ### readings of statements -/
def PostS (K : Fw) (xs : Nat → Option (Value × Str)) (W : WX) (H : Hp) (M : Mp) (D : Ends) : RS → Prop
  | none => False
  | some (.nx ρ, s) => ∀ H' M' σ, Grow H M H' M' → StOk K H' M' s → EnOk K H' M' ρ σ → D.nx σ H'
  | some (.ct ρ, s) => ∀ H' M' σ, Grow H M H' M' → StOk K H' M' s → EnOk K H' M' ρ σ → D.ct σ H'
  | some (.bk ρ, s) => ∀ H' M' σ, Grow H M H' M' → StOk K H' M' s → EnOk K H' M' ρ σ → D.bk σ H'
  | some (.rt v, s) => ∀ H' M' r, Grow H M H' M' → StOk K H' M' s → Rep K H' M' v r → D.rt r H'
  | some (.rs c fs ρ, s) => ∀ H' M' σ cls d, Grow H M H' M' → StOk K H' M' s → EnOk K H' M' ρ σ → ExAt K xs H' M' c fs cls d → W cls d σ H'
def tS (K : Fw) (xs : Nat → Option (Value × Str)) (W : WX) (f : En → Sto → RS) : TS := fun D σ H =>
  ∃ ρ M s, EnOk K H M ρ σ ∧ StOk K H M s ∧ PostS K xs W H M D (f ρ s)
section
variable {K : Fw} {xs : Nat → Option (Value × Str)} {W : WX} {H H' : Hp} {M M' : Mp} {D : Ends}
theorem PostS.grow (g : Grow H M H' M') : ∀ {r : RS}, PostS K xs W H M D r → PostS K xs W H' M' D r
  | none, h => h
  | some (.nx _, _), h => fun H2 M2 σ g2 => h H2 M2 σ (g.trans g2)
  | some (.ct _, _), h => fun H2 M2 σ g2 => h H2 M2 σ (g.trans g2)
  | some (.bk _, _), h => fun H2 M2 σ g2 => h H2 M2 σ (g.trans g2)
  | some (.rt _, _), h => fun H2 M2 r g2 => h H2 M2 r (g.trans g2)
  | some (.rs _ _ _, _), h => fun H2 M2 σ cls d g2 => h H2 M2 σ cls d (g.trans g2)
theorem PostS.at {α : Type} {ρ : En} {σ : L2.St} {k : α → Sto → RS} (e : EnOk K H M ρ σ) {r : R α} (h : PostS K xs W H M D (r.at ρ k)) : Post (wsh K xs H M (WE W σ)) r fun a s => PostS K xs W H M D (k a s) := by
  cases r with
  | ok a s => exact h
  | exc c fs s =>
    have h' : ∀ H' M' σ cls d, Grow H M H' M' → StOk K H' M' s → EnOk K H' M' ρ σ → ExAt K xs H' M' c fs cls d → W cls d σ H' := h
    intro H' M' cls d g S x
    exact h' H' M' σ cls d g S (e.grow g) x
  | stuck => exact h
theorem PostS.atn {α : Type} {ρ : En} {k : α → Sto → RS} {r : R α} (h : PostS K xs W H M D (r.nox.at ρ k)) : Post nope r fun a s => PostS K xs W H M D (k a s) := by
  cases r with
  | ok a s => exact h
  | exc c fs s => exact h
  | stuck => exact h
end
theorem _root_.L2.PSs.imp {X : Cx} {e : List Stmt} {t t' : TS} (h : PSs X e t) (w : ∀ D σ H, t' D σ H → t D σ H) : PSs X e t' := ⟨fun pins s σ H Q I q => h.run pins s σ H Q I (w Q σ H q)⟩

/-! ### statements, one at a time -/
section
variable {c : Cc} {X : Cx} {C : Ct} {xs : Nat → Option (Value × Str)} {W : WX}
theorem skip_ok {st : Stmt} (h : chkSt c .skip st = true) : PS X st (tS X.kw xs W (exec C .skip)) := by
  have go : PS X st tNext := by
    unfold chkSt at h
    split at h
    · exact ps_pass
    · exact ps_doc
    · cases h
  refine go.imp fun D σ H q => ?_
  obtain ⟨ρ, M, s, e, S, p⟩ := q
  have p : ∀ H' M' σ, Grow H M H' M' → StOk X.kw H' M' s → EnOk X.kw H' M' ρ σ → D.nx σ H' := p
  exact p H M σ Grow.refl S e
theorem seq_st {a b : Sm} {st : Stmt} {r : List Stmt} (ha : PS X st (tS X.kw xs W (exec C a))) (hb : PSs X r (tS X.kw xs W (exec C b))) : PSs X (st :: r) (tS X.kw xs W (exec C (.seq a b))) := by
  refine (pss_cons ha hb).imp fun D σ H q => ?_
  obtain ⟨ρ, M, s, e, S, p⟩ := q
  have p : PostS X.kw xs W H M D (match exec C a ρ s with
    | some (.nx ρ', s') => exec C b ρ' s'
    | r => r) := p
  refine ⟨ρ, M, s, e, S, ?_⟩
  split at p
  · rename_i ρ' s' e1
    rw [e1]
    intro H' M' σ' g S' e'
    exact ⟨ρ', M', s', e', S', p.grow g⟩
  · rename_i e1
    cases e2 : exec C a ρ s with
    | none => rw [e2] at p; exact p
    | some fs =>
      obtain ⟨f, s'⟩ := fs
      rw [e2] at p
      cases f with
      | nx ρ' => exact absurd e2 (e1 ρ' s')
      | rt v => exact p
      | bk _ => exact p
      | ct _ => exact p
      | rs _ _ _ => exact p
theorem nil_st : PSs X [] (tS X.kw xs W (exec C .skip)) := by
  refine pss_nil.imp fun D σ H q => ?_
  obtain ⟨ρ, M, s, e, S, p⟩ := q
  have p : ∀ H' M' σ, Grow H M H' M' → StOk X.kw H' M' s → EnOk X.kw H' M' ρ σ → D.nx σ H' := p
  exact p H M σ Grow.refl S e
theorem ife_st {t : Ex} {a b : Sm} {x : Expr} {y z : List Stmt} {pos : Pos} (ht : PT X x (tRt X.kw xs W (den C t))) (ha : PSs X y (tS X.kw xs W (exec C a))) (hb : PSs X z (tS X.kw xs W (exec C b))) :
    PS X (.If x y z pos) (tS X.kw xs W (exec C (.ife t a b))) := by
  refine (ps_if ht ha hb).imp fun D σ H q => ?_
  obtain ⟨ρ, M, s, e, S, p⟩ := q
  have p : PostS X.kw xs W H M D ((den C t ρ s).at ρ fun v s1 => match truth s1 v with
    | some true => exec C a ρ s1
    | some false => exec C b ρ s1
    | none => none) := p
  refine ⟨ρ, M, s, e, S, (p.at e).mono (fun v s1 p1 => ?_) fun _ _ _ z => z⟩
  cases hb : truth s1 v with
  | none => rw [hb] at p1; exact p1.elim
  | some b' =>
    rw [hb] at p1
    refine ⟨b', hb, fun H1 M1 g1 S1 => ?_⟩
    cases b' with
    | true => exact ⟨ρ, M1, s1, e.grow g1, S1, p1.grow g1⟩
    | false => exact ⟨ρ, M1, s1, e.grow g1, S1, p1.grow g1⟩
theorem exp_st {a : Ex} {x : Expr} {pos : Pos} (ha : PE X x (tR X.kw xs W (den C a))) (hn : notComp x = true) : PS X (.Expr x pos) (tS X.kw xs W (exec C (.exp a))) := by
  refine (ps_expr ha (by cases x <;> first | rfl | cases hn)).imp fun D σ H q => ?_
  obtain ⟨ρ, M, s, e, S, p⟩ := q
  have p : PostS X.kw xs W H M D ((den C a ρ s).at ρ fun _ s1 => some (.nx ρ, s1)) := p
  refine ⟨ρ, M, s, e, S, (p.at e).mono (fun v s1 p1 H1 M1 r g1 S1 R1 => ?_) fun _ _ _ z => z⟩
  have p2 : ∀ H' M' σ, Grow H M H' M' → StOk X.kw H' M' s1 → EnOk X.kw H' M' ρ σ → D.nx σ H' := p1
  exact p2 H1 M1 σ g1 S1 (e.grow g1)
theorem ret_st {a : Ex} {x : Expr} {pos : Pos} (ha : PE X x (tR X.kw xs W (den C a))) : PS X (.Return (some x) pos) (tS X.kw xs W (exec C (.ret a))) := by
  refine (ps_ret ha).imp fun D σ H q => ?_
  obtain ⟨ρ, M, s, e, S, p⟩ := q
  have p : PostS X.kw xs W H M D ((den C a ρ s).at ρ fun v s1 => some (.rt v, s1)) := p
  refine ⟨ρ, M, s, e, S, (p.at e).mono (fun v s1 p1 H1 M1 r g1 S1 R1 => ?_) fun _ _ _ z => z⟩
  have p2 : ∀ H' M' r, Grow H M H' M' → StOk X.kw H' M' s1 → Rep X.kw H' M' v r → D.rt r H' := p1
  exact p2 H1 M1 r g1 S1 R1
theorem retN_st {pos : Pos} : PS X (.Return none pos) (tS X.kw xs W (exec C .retN)) := by
  refine ps_retN.imp fun D σ H q => ?_
  obtain ⟨ρ, M, s, e, S, p⟩ := q
  have p : ∀ H' M' r, Grow H M H' M' → StOk X.kw H' M' s → Rep X.kw H' M' .non r → D.rt r H' := p
  exact p H M .non Grow.refl S rfl
theorem brk_st {pos : Pos} : PS X (.Break pos) (tS X.kw xs W (exec C .brk)) := by
  refine ps_break.imp fun D σ H q => ?_
  obtain ⟨ρ, M, s, e, S, p⟩ := q
  have p : ∀ H' M' σ, Grow H M H' M' → StOk X.kw H' M' s → EnOk X.kw H' M' ρ σ → D.bk σ H' := p
  exact p H M σ Grow.refl S e
theorem cnt_st {pos : Pos} : PS X (.Continue pos) (tS X.kw xs W (exec C .cnt)) := by
  refine ps_continue.imp fun D σ H q => ?_
  obtain ⟨ρ, M, s, e, S, p⟩ := q
  have p : ∀ H' M' σ, Grow H M H' M' → StOk X.kw H' M' s → EnOk X.kw H' M' ρ σ → D.ct σ H' := p
  exact p H M σ Grow.refl S e
/-- a store to a target, behind a value -/
theorem asg_t {t : Tg} {a : Ex} {D : Ends} {σ : L2.St} {H : Hp} (h : tS X.kw xs W (exec C (.asg t a)) D σ H) : tAsg (tR X.kw xs W (den C a)) (tTg X.kw (fun _ => true) (asgT C t)) D σ H := by
  obtain ⟨ρ, M, s, e, S, p⟩ := h
  have p : PostS X.kw xs W H M D ((den C a ρ s).at ρ fun v s1 => (asgT C t v ρ s1).nox.at ρ fun ρ' s2 => some (.nx ρ', s2)) := p
  refine ⟨ρ, M, s, e, S, (p.at e).mono (fun v s1 p1 H1 M1 r g1 S1 R1 => ?_) fun _ _ _ z => z⟩
  refine ⟨v, ρ, M1, s1, e.grow g1, S1, R1, p1.atn.mono (fun ρ' s2 p2 H2 M2 σ2 g2 S2 e2 _ _ => ?_) fun _ _ _ z => z⟩
  have p3 : ∀ H' M' σ, Grow H M H' M' → StOk X.kw H' M' s2 → EnOk X.kw H' M' ρ' σ → D.nx σ H' := p2
  exact p3 H2 M2 σ2 (g1.trans g2) S2 e2
end
end Pm

end
section
set_option maxHeartbeats 4000000
namespace Pm
open PySem PySem.Spec PyProof.Rows L2

/-! ### loops -/
/-- what is left of a loop's turns -/
structure RemS (its : Its) (body : EV → En → Sto → RS) (P : Nat → Nat → En → Sto → (RS → Prop) → Prop) : Prop where
  turn : ∀ i m ρ s Z, P i m ρ s Z → (its.nxt i s = some none ∧ Z (some (.nx ρ, s))) ∨ ∃ x, its.nxt i s = some (some x) ∧
    match body x ρ s with
    | some (.nx ρ', s') => ∃ m', m' < m ∧ P (i + 1) m' ρ' s' Z
    | some (.ct ρ', s') => ∃ m', m' < m ∧ P (i + 1) m' ρ' s' Z
    | some (.bk ρ', s') => Z (some (.nx ρ', s'))
    | r => Z r
theorem rems_st (xs : List EV) (body : EV → En → Sto → RS) : RemS (.st xs) body fun i m ρ s Z => m = xs.length - i ∧ i ≤ xs.length ∧ Z (fst_ body (xs.drop i) ρ s) := by
  refine ⟨fun i m ρ s Z ⟨hm, hi, p⟩ => ?_⟩
  by_cases h : i < xs.length
  · right
    have e : xs.drop i = xs[i] :: xs.drop (i + 1) := List.drop_eq_getElem_cons h
    refine ⟨xs[i], by show some (xs[i]?) = _; rw [List.getElem?_eq_getElem h], ?_⟩
    rw [e] at p
    have e2 : fst_ body (xs[i] :: xs.drop (i + 1)) ρ s = (match body xs[i] ρ s with
      | some (.nx ρ', s') => fst_ body (xs.drop (i + 1)) ρ' s'
      | some (.ct ρ', s') => fst_ body (xs.drop (i + 1)) ρ' s'
      | some (.bk ρ', s') => some (.nx ρ', s')
      | r => r) := rfl
    rw [e2] at p
    cases er : body xs[i] ρ s with
    | none => rw [er] at p; exact p
    | some fs =>
      obtain ⟨f, s'⟩ := fs
      rw [er] at p
      cases f with
      | nx ρ' => exact ⟨xs.length - (i + 1), by omega, rfl, h, p⟩
      | ct ρ' => exact ⟨xs.length - (i + 1), by omega, rfl, h, p⟩
      | bk ρ' => exact p
      | rt v => exact p
      | rs _ _ _ => exact p
  · left
    have e : xs.drop i = [] := List.drop_eq_nil_iff.mpr (by omega)
    rw [e] at p
    exact ⟨by show some (xs[i]?) = _; rw [List.getElem?_eq_none (by omega)], p⟩
theorem rems_ob (n : Nat) (body : EV → En → Sto → RS) : RemS (.ob n) body fun i m ρ s Z => Z none = False ∧ Z (fdy n body m i ρ s) := by
  refine ⟨fun i m ρ s Z ⟨zn, p⟩ => ?_⟩
  cases m with
  | zero =>
    have p' : Z none := p
    rw [zn] at p'; exact p'.elim
  | succ m =>
    have nx : ∀ ys, s[n]? = some (.lst ys) → (Its.ob n).nxt i s = some (ys[i]?) := fun ys e => by
      show (match s[n]? with
        | some (.lst xs) => some (xs[i]?)
        | _ => none) = _
      rw [e]
    have p' : Z (match s[n]? with
      | some (.lst xs) => match xs[i]? with
        | none => some (.nx ρ, s)
        | some x => match body x ρ s with
          | some (.nx ρ', s') => fdy n body m (i + 1) ρ' s'
          | some (.ct ρ', s') => fdy n body m (i + 1) ρ' s'
          | some (.bk ρ', s') => some (.nx ρ', s')
          | r => r
      | _ => none) := p
    split at p'
    · rename_i ys e
      split at p'
      · rename_i e2
        left
        exact ⟨by rw [nx ys e, e2], p'⟩
      · rename_i x e2
        right
        refine ⟨x, by rw [nx ys e, e2], ?_⟩
        cases er : body x ρ s with
        | none => rw [er] at p'; exact p'
        | some fs =>
          obtain ⟨f, s'⟩ := fs
          rw [er] at p'
          cases f with
          | nx ρ' => exact ⟨m, Nat.lt_succ_self m, zn, p'⟩
          | ct ρ' => exact ⟨m, Nat.lt_succ_self m, zn, p'⟩
          | bk ρ' => exact p'
          | rt v => exact p'
          | rs _ _ _ => exact p'
    · rw [zn] at p'; exact p'.elim
section
variable {c : Cc} {X : Cx} {C : Ct} {xs : Nat → Option (Value × Str)} {W : WX}
/-- what a turn is to reach -/
def Nxt (K : Fw) (H1 : Hp) (M1 : Mp) (P : Nat → Nat → En → Sto → (RS → Prop) → Prop) (Z : RS → Prop) (i m : Nat) : L2.St → Hp → Prop := fun σ' H' =>
  ∃ m', m' < m ∧ ∃ ρ2 M2 s2, Grow H1 M1 H' M2 ∧ EnOk K H' M2 ρ2 σ' ∧ StOk K H' M2 s2 ∧ P (i + 1) m' ρ2 s2 Z
def fbody (C : Ct) (t : Tg) (b : Sm) (x : EV) (ρ1 : En) (s2 : Sto) : RS := (asgT C t x ρ1 s2).nox.at ρ1 fun ρ2 s3 => exec C b ρ2 s3
theorem for_st (hp : PassesOwn (model X.prog X.w) X.A X.env X.xe) (hc : X.calm = true) {t : Tg} {sr : Src} {b : Sm} {tg it : Expr} {body : List Stmt} {pos : Pos} (hn : notSet it = true)
    (hi : PI X tg it (tSrc X.kw xs W (denS C sr))) (hg : PG X tg (tTg X.kw (fun _ => true) (asgT C t))) (hb : PSs X body (tS X.kw xs W (exec C b))) : PS X (.For tg it body [] pos) (tS X.kw xs W (exec C (.for_ t sr b))) := by
  refine (ps_for hp hc hi hg hb (fold_ok hn)).imp fun D σ H q => ?_
  obtain ⟨ρ, M, s, e, S, p⟩ := q
  have p : PostS X.kw xs W H M D ((denS C sr ρ s).at ρ fun its s1 => match its with
    | .st ys => fst_ (fbody C t b) ys ρ s1
    | .ob n => fdy n (fbody C t b) C.fu 0 ρ s1) := p
  refine ⟨ρ, M, s, e, S, (p.at e).mono (fun its s1 p1 H1 M1 J g1 S1 wk => ?_) fun _ _ _ z => z⟩
  obtain ⟨P, rm, m0, P0⟩ : ∃ P, RemS its (fbody C t b) P ∧ ∃ m0, P 0 m0 ρ s1 (PostS X.kw xs W H M D) := by
    cases its with
    | st ys => exact ⟨_, rems_st ys _, ys.length, by simp, Nat.zero_le _, p1⟩
    | ob n => exact ⟨_, rems_ob n _, C.fu, rfl, p1⟩
  refine ⟨fun i m σ H2 => ∃ ρ2 M2 s2, Grow H1 M1 H2 M2 ∧ EnOk X.kw H2 M2 ρ2 σ ∧ StOk X.kw H2 M2 s2 ∧ P i m ρ2 s2 (PostS X.kw xs W H M D), ⟨m0, ρ, M1, s1, Grow.refl, e.grow g1, S1, P0⟩, ?_⟩
  rintro i m σ2 H2 ⟨ρ2, M2, s2, g2, e2, S2, PP⟩
  have wk2 := wk i H2 M2 s2 g2.mov S2
  rcases rm.turn i m ρ2 s2 _ PP with ⟨nx, fin⟩ | ⟨x, nx, bd⟩
  · left
    have f : ∀ H' M' σ, Grow H M H' M' → StOk X.kw H' M' s2 → EnOk X.kw H' M' ρ2 σ → D.nx σ H' := fin
    exact ⟨wk2.1 nx, f H2 M2 σ2 (g1.trans g2) S2 e2⟩
  · right
    obtain ⟨_, go, yl⟩ := wk2.2 x nx
    refine ⟨go, Nxt X.kw H1 M1 P (PostS X.kw xs W H M D) i m, fun σ' H' z => z, fun v H'' y => ?_⟩
    obtain ⟨g0, S0, Rx⟩ := yl v H'' y
    -- the turn's end, as the body is to reach it
    have key : PostS X.kw xs W H2 M2 { D with nx := Nxt X.kw H1 M1 P (PostS X.kw xs W H M D) i m, ct := Nxt X.kw H1 M1 P (PostS X.kw xs W H M D) i m, bk := D.nx } (fbody C t b x ρ2 s2) := by
      cases er : fbody C t b x ρ2 s2 with
      | none => rw [er] at bd; exact bd
      | some fs =>
        obtain ⟨f, s'⟩ := fs
        rw [er] at bd
        cases f with
        | nx ρ' =>
          obtain ⟨m', hm, pp⟩ : ∃ m', m' < m ∧ P (i + 1) m' ρ' s' (PostS X.kw xs W H M D) := bd
          exact fun H' M' σ' g' S' e' => ⟨m', hm, ρ', M', s', g2.trans g', e', S', pp⟩
        | ct ρ' =>
          obtain ⟨m', hm, pp⟩ : ∃ m', m' < m ∧ P (i + 1) m' ρ' s' (PostS X.kw xs W H M D) := bd
          exact fun H' M' σ' g' S' e' => ⟨m', hm, ρ', M', s', g2.trans g', e', S', pp⟩
        | bk ρ' =>
          have b' : ∀ H' M' σ, Grow H M H' M' → StOk X.kw H' M' s' → EnOk X.kw H' M' ρ' σ → D.nx σ H' := bd
          exact fun H' M' σ' g' S' e' => b' H' M' σ' ((g1.trans g2).trans g') S' e'
        | rt v =>
          have b' : ∀ H' M' r, Grow H M H' M' → StOk X.kw H' M' s' → Rep X.kw H' M' v r → D.rt r H' := bd
          exact fun H' M' r g' S' R' => b' H' M' r ((g1.trans g2).trans g') S' R'
        | rs cc fs ρ' =>
          have b' : ∀ H' M' σ cls d, Grow H M H' M' → StOk X.kw H' M' s' → EnOk X.kw H' M' ρ' σ → ExAt X.kw xs H' M' cc fs cls d → W cls d σ H' := bd
          exact fun H' M' σ' cls d g' S' e' x' => b' H' M' σ' cls d ((g1.trans g2).trans g') S' e' x'
    refine ⟨x, ρ2, M2, s2, e2.grow g0, S0, Rx, (PostS.atn (key.grow g0)).mono (fun ρ3 s3 p3 H3 M3 σ3 g3 S3 e3 _ _ => ?_) fun _ _ _ z => z⟩
    exact ⟨ρ3, M3, s3, e3, S3, p3.grow g3⟩
theorem whl_st (hp : PassesOwn (model X.prog X.w) X.A X.env X.xe) {t : Ex} {b : Sm} {x : Expr} {body : List Stmt} {pos : Pos} (ht : PT X x (tRt X.kw xs W (den C t))) (hb : PSs X body (tS X.kw xs W (exec C b))) :
    PS X (.While x body [] pos) (tS X.kw xs W (exec C (.whl t b))) := by
  refine (ps_while hp ht hb).imp fun D σ H q => ?_
  obtain ⟨ρ, M, s, e, S, p⟩ := q
  have p : PostS X.kw xs W H M D (wlp (den C t) (exec C b) C.fu ρ s) := p
  refine ⟨fun m σ H2 => ∃ ρ2 M2 s2, EnOk X.kw H2 M2 ρ2 σ ∧ StOk X.kw H2 M2 s2 ∧ PostS X.kw xs W H2 M2 D (wlp (den C t) (exec C b) m ρ2 s2), ⟨C.fu, ρ, M, s, e, S, p⟩, ?_⟩
  rintro m σ2 H2 ⟨ρ2, M2, s2, e2, S2, p2⟩
  cases m with
  | zero => exact (show False from p2).elim
  | succ m =>
    have p2 : PostS X.kw xs W H2 M2 D ((den C t ρ2 s2).at ρ2 fun v s1 => match truth s1 v with
      | none => none
      | some false => some (.nx ρ2, s1)
      | some true => match exec C b ρ2 s1 with
        | some (.nx ρ', s') => wlp (den C t) (exec C b) m ρ' s'
        | some (.ct ρ', s') => wlp (den C t) (exec C b) m ρ' s'
        | some (.bk ρ', s') => some (.nx ρ', s')
        | r => r) := p2
    refine ⟨ρ2, M2, s2, e2, S2, (p2.at e2).mono (fun v s1 p3 => ?_) fun _ _ _ z => z⟩
    cases hb : truth s1 v with
    | none => rw [hb] at p3; exact p3.elim
    | some b' =>
      rw [hb] at p3
      refine ⟨b', hb, fun H3 M3 g3 S3 => ?_⟩
      cases b' with
      | false =>
        have p4 : ∀ H' M' σ, Grow H2 M2 H' M' → StOk X.kw H' M' s1 → EnOk X.kw H' M' ρ2 σ → D.nx σ H' := p3
        exact p4 H3 M3 σ2 g3 S3 (e2.grow g3)
      | true =>
        have p3 : PostS X.kw xs W H2 M2 D (match exec C b ρ2 s1 with
          | some (.nx ρ', s') => wlp (den C t) (exec C b) m ρ' s'
          | some (.ct ρ', s') => wlp (den C t) (exec C b) m ρ' s'
          | some (.bk ρ', s') => some (.nx ρ', s')
          | r => r) := p3
        refine ⟨fun σ' H' => ∃ m', m' < m + 1 ∧ ∃ ρ2 M2 s2, EnOk X.kw H' M2 ρ2 σ' ∧ StOk X.kw H' M2 s2 ∧ PostS X.kw xs W H' M2 D (wlp (den C t) (exec C b) m' ρ2 s2), fun σ' H' z => z, ?_⟩
        refine ⟨ρ2, M3, s1, e2.grow g3, S3, ?_⟩
        have p4 := p3.grow g3
        cases er : exec C b ρ2 s1 with
        | none => rw [er] at p4; exact p4
        | some fs =>
          obtain ⟨f, s'⟩ := fs
          rw [er] at p4
          cases f with
          | nx ρ' => exact fun H' M' σ' g' S' e' => ⟨m, Nat.lt_succ_self m, ρ', M', s', e', S', PostS.grow g' p4⟩
          | ct ρ' => exact fun H' M' σ' g' S' e' => ⟨m, Nat.lt_succ_self m, ρ', M', s', e', S', PostS.grow g' p4⟩
          | bk ρ' => exact p4
          | rt v => exact p4
          | rs cc fs ρ' => exact p4
end
end Pm

end
section
set_option maxHeartbeats 4000000
namespace Pm
open PySem PySem.Spec PyProof.Rows L2
section
variable {c : Cc} {X : Cx} {C : Ct} {xs : Nat → Option (Value × Str)} {W : WX}
/-- the function's kind is known wherever the code runs -/
theorem ps_kind {st : Stmt} {t : TS} (h : X.env.scope.kind = .function → PS X st t) : PS X st t := ⟨fun pins s σ H D I q => (h I.ok.kind).run pins s σ H D I q⟩
theorem asg_var {i : Nat} {a : Ex} {D : Ends} {σ : L2.St} {H : Hp} (h : tS X.kw xs W (exec C (.asg (.var i) a)) D σ H) : tR X.kw xs W (den C a) σ H fun x H1 => gName i x σ H1 D.nx := by
  obtain ⟨ρ, M, s, e, S, p⟩ := h
  have p : PostS X.kw xs W H M D ((den C a ρ s).at ρ fun v s1 => (asgT C (.var i) v ρ s1).nox.at ρ fun ρ' s2 => some (.nx ρ', s2)) := p
  refine ⟨ρ, M, s, e, S, (p.at e).mono (fun v s1 p1 H1 M1 r g1 S1 R1 => ?_) fun _ _ _ z => z⟩
  have p2 : Post nope (if i < ρ.length then .ok (ρ.set i (some v)) s1 else .stuck) fun ρ' s2 => PostS X.kw xs W H M D (some (.nx ρ', s2)) := p1.atn
  split at p2
  · have p3 : ∀ H' M' σ, Grow H M H' M' → StOk X.kw H' M' s1 → EnOk X.kw H' M' (ρ.set i (some v)) σ → D.nx σ H' := p2
    exact p3 H1 M1 _ g1 S1 ((e.grow g1).set R1)
  · exact p2.elim
/-- name = [.. for ..] -/
theorem comp_set (O : Ok c X C xs W) {i : Nat} {y : Str} {py spos : Pos} {m : Bool} {t : Tg} {sr : Src} {cn : Op} {el : Ex} {own : List Nat} {elt tg iter : Expr} {ifs : List Expr} {scope : Scope} {pos : Pos}
    (hy : isAt c.N i y = true) (hyl : isLocal c.sc y = true) (hsw : swapsWith (.ListComp elt [⟨tg, iter, ifs, 0⟩] scope pos) (some (.Name y py)) spos.line X.env = pure true)
    (hset : notSet iter = true) (hb : blkC c.N c.sc scope (ownOf c.N own) = true)
    (hs : PI X tg iter (tSrc X.kw xs W (denS C sr)))
    (ht : ∀ (X' : Cx) (W' : WX), Ok (blkCc c scope) X' C xs W' → PG X' tg (tTg X'.kw (fun j => own.contains j) (asgT C t)))
    (hc : ∀ (X' : Cx) (W' : WX), Ok (blkCc c scope) X' C xs W' → PTs X' ifs (tRo X'.kw (denO C cn)))
    (he : ∀ (X' : Cx) (W' : WX), Ok (blkCc c scope) X' C xs W' → PE X' elt (tR X'.kw xs W' (den C el))) :
    PS X (.Assign [.Name y py] (.ListComp elt [⟨tg, iter, ifs, 0⟩] scope pos) spos) (tS X.kw xs W (exec C (.asg (.var i) (.comp m t sr cn el own)))) := by
  have eo : (ownOf c.N own).map (·.2) = own := by
    unfold ownOf
    rw [List.map_map]
    show own.map (fun i => i) = own
    exact List.map_id' own
  have bk : BlkOk X.N X.env.scope scope (ownOf c.N own) := by rw [O.N, O.sc]; exact blkOk_by hb
  refine (ps_setLc (own := ownOf c.N own) (g := tTg X.kw (fun j => own.contains j) (asgT C t)) (tt := tRo X.kw (denO C cn)) (te := tRn X.kw (den C el)) O.calm O.nd (by rw [O.N]; exact isAt_ok hy) (isLocal_ok O hyl) hsw hs bk
    (fun s H D cl fp => ht _ _ (O.blk scope s H D cl fp)) (fun s H D cl fp => hc _ _ (O.blk scope s H D cl fp))
    (fun s H D cl fp => (he _ _ (O.blk scope s H D cl fp)).imp (t' := tRn X.kw (den C el)) fun σ H Q q => tRn_of σ H Q q) (fold_ok hset)).imp fun D σ H q => ?_
  rw [eo]
  exact tLc_ok m σ H _ (asg_var q)
theorem sw_comp {elt : Expr} {gs : List Comprehension} {scope : Scope} {pos py : Pos} {y : Str} {l : Nat} {env : Env} (hk : env.scope.kind = .function) :
    swapsWith (.ListComp elt gs scope pos) (some (.Name y py)) l env = pure (env.kindOf y == some .local && py.line == pos.line && !(scope.names.any fun (n, k) => n == y && (k == .local || k == .cell))) := by
  have hb : env.blockKind = .function := by unfold Env.blockKind; rw [hk]; rfl
  have e : swapsWith (.ListComp elt gs scope pos) (some (.Name y py)) l env = pure (env.blockKind == .function && env.kindOf y == some .local && py.line == pos.line && !(scope.names.any fun (n, k) => n == y && (k == .local || k == .cell))) := rfl
  rw [e, hb]
  rfl
theorem tgVars_eq : ∀ {ts : Tgs} {is : List Nat}, tgVars ts = some is → ts = is.foldr (fun i r => Tgs.cons (.var i) r) .nil
  | .nil, is, h => by cases h; rfl
  | .cons t r, is, h => by
    cases t with
    | var i =>
      have h : (tgVars r).map (i :: ·) = some is := h
      cases e : tgVars r with
      | none => rw [e] at h; cases h
      | some js =>
        rw [e] at h; cases h
        rw [tgVars_eq e]; rfl
    | tup _ => cases h
    | sub _ _ => cases h
theorem asNames_eq : ∀ {xs : List Expr} {ns : List Str}, asNames xs = some ns → ∃ ps : List Pos, ps.length = ns.length ∧ xs = (ns.zip ps).map fun q => Expr.Name q.1 q.2
  | [], ns, h => by cases h; exact ⟨[], rfl, rfl⟩
  | x :: r, ns, h => by
    cases x with
    | Name y p =>
      have h : (asNames r).map (y :: ·) = some ns := h
      cases e : asNames r with
      | none => rw [e] at h; cases h
      | some js =>
        rw [e] at h; cases h
        obtain ⟨ps, l, e2⟩ := asNames_eq e
        exact ⟨p :: ps, by simp [l], by rw [e2]; rfl⟩
    | _ => cases h
theorem len2 {α : Type} : ∀ {l : List α}, l.length = 2 → ∃ a b, l = [a, b]
  | [a, b], _ => ⟨a, b, rfl⟩
theorem len3 {α : Type} : ∀ {l : List α}, l.length = 3 → ∃ a b c, l = [a, b, c]
  | [a, b, c], _ => ⟨a, b, c, rfl⟩
theorem par_ok (O : Ok c X C xs W) {ts : Tgs} {e : Ex} {ls vs : List Expr} {names : List Str} {k k2 : Nat} {p p2 pos : Pos} (hsw : swC c.sc ls vs = some (some names)) (h : chkPar c ts e ls vs names = true) :
    PS X (.Assign [.Tuple ls k p] (.Tuple vs k2 p2) pos) (tS X.kw xs W (exec C (.asg (.tup ts) e))) := by
  refine ps_kind fun hk => ?_
  have hw := sw_eq (k := k) (k2 := k2) (p := p) (p2 := p2) hk O.sc hsw
  unfold chkPar at h
  cases e with
  | tup es =>
    simp only at h
    split at h
    · rename_i is ns e1 e2
      simp only [Bool.and_eq_true, decide_eq_true_eq] at h
      obtain ⟨⟨⟨⟨⟨⟨⟨h1, h2⟩, h3⟩, h4⟩, h5⟩, h6⟩, h7⟩, h8⟩ := h
      subst h1
      have ha := snd_as es c X W vs O h2
      rw [tgVars_eq e1]
      obtain ⟨ps, lp, el⟩ := asNames_eq e2
      subst el
      have conv : ∀ {D : Ends} {σ : L2.St} {H : Hp}, tS X.kw xs W (exec C (.asg (.tup (is.foldr (fun i r => Tgs.cons (.var i) r) .nil)) (.tup es))) D σ H →
          tRs X.kw xs W (denA C es) σ H fun rs H1 => rs.length = is.length ∧ D.nx ((is.zip rs).foldl (fun τ q => τ.set q.1 (some q.2)) σ) H1 := by
        rintro D σ H ⟨ρ, M, s, en, S, q⟩
        have q : PostS X.kw xs W H M D (((denA C es ρ s).bind fun vs s1 => .ok (.tup vs) s1).at ρ fun v s1 => (asgT C (.tup (is.foldr (fun i r => Tgs.cons (.var i) r) .nil)) v ρ s1).nox.at ρ fun ρ' s2 => some (.nx ρ', s2)) := q
        refine ⟨ρ, M, s, en, S, (Post.bind.mp (q.at en)).mono (fun us s1 p1 H1 M1 rs g1 S1 R1 => ?_) fun _ _ _ z => z⟩
        have p2 : Post nope (asgTs C (is.foldr (fun i r => Tgs.cons (.var i) r) .nil) us ρ s1) fun ρ' s2 => PostS X.kw xs W H M D (some (.nx ρ', s2)) := PostS.atn p1
        have fin : ∀ ρ' s2, PostS X.kw xs W H M D (some (.nx ρ', s2)) → ∀ H' M' σ, Grow H M H' M' → StOk X.kw H' M' s2 → EnOk X.kw H' M' ρ' σ → D.nx σ H' := fun _ _ z => z
        have go : ∀ (is : List Nat) (us : List EV) (rs : List V) (ρ : En) (σ : L2.St), EnOk X.kw H1 M1 ρ σ → Reps X.kw H1 M1 us rs → Post nope (asgTs C (is.foldr (fun i r => Tgs.cons (.var i) r) .nil) us ρ s1) (fun ρ' s2 => PostS X.kw xs W H M D (some (.nx ρ', s2))) →
            rs.length = is.length ∧ D.nx ((is.zip rs).foldl (fun τ q => τ.set q.1 (some q.2)) σ) H1 := by
          intro is
          induction is with
          | nil =>
            intro us rs ρ σ en R z
            cases us with
            | nil => rw [Reps.nil_iff] at R; subst R; exact ⟨rfl, fin _ _ z H1 M1 σ g1 S1 en⟩
            | cons _ _ => exact (show False from z).elim
          | cons i is ih =>
            intro us rs ρ σ en R z
            cases us with
            | nil => exact (show False from z).elim
            | cons u us =>
              rw [Reps.cons_iff] at R
              obtain ⟨r, rr, rfl, R1, R2⟩ := R
              have z : Post nope ((if i < ρ.length then R.ok (ρ.set i (some u)) s1 else .stuck).bind fun ρ1 s1 => asgTs C (is.foldr (fun i r => Tgs.cons (.var i) r) .nil) us ρ1 s1) (fun ρ' s2 => PostS X.kw xs W H M D (some (.nx ρ', s2))) := z
              split at z
              · obtain ⟨l, q⟩ := ih us rr _ _ (en.set R1) R2 z
                exact ⟨by simp [l], q⟩
              · exact z.elim
        exact go is us rs ρ σ (en.grow g1) R1 p2
      have at_ : ∀ i x, (i, x) ∈ is.zip ns → X.N[i]? = some x ∧ X.env.scope.names.lookup x = some .local := fun i x hm => by
        have q := List.all_eq_true.mp h7 (i, x) hm
        rw [Bool.and_eq_true] at q
        exact ⟨by rw [O.N]; exact isAt_ok q.1, isLocal_ok O q.2⟩
      rw [Bool.or_eq_true, decide_eq_true_eq, decide_eq_true_eq] at h8
      rcases h8 with h8 | h8
      · have a1 := h4.trans h8
        have a2 := h6.trans h8
        have a3 := lp.trans h8
        obtain ⟨x, y, rfl⟩ := len2 h8
        obtain ⟨i, j, rfl⟩ := len2 a1
        obtain ⟨v1, v2, rfl⟩ := len2 a2
        obtain ⟨px, py, rfl⟩ := len2 a3
        obtain ⟨i1, i2⟩ := at_ i x (by simp)
        obtain ⟨j1, j2⟩ := at_ j y (by simp)
        have nij : i ≠ j := by simpa using h3
        refine (ps_par O.calm O.nd i1 j1 nij i2 j2 ha hw).imp fun D σ H q => ?_
        obtain ⟨ρ, M, s, en, S, q⟩ := conv q
        refine ⟨ρ, M, s, en, S, q.mono (fun us s1 z H1 M1 rs g S1 R => ?_) fun _ _ _ z => z⟩
        obtain ⟨l, q⟩ := z H1 M1 rs g S1 R
        obtain ⟨a, b, rfl⟩ := len2 l
        exact ⟨a, b, rfl, q⟩
      · have a1 := h4.trans h8
        have a2 := h6.trans h8
        have a3 := lp.trans h8
        obtain ⟨x, y, z, rfl⟩ := len3 h8
        obtain ⟨i, j, l, rfl⟩ := len3 a1
        obtain ⟨v1, v2, v3, rfl⟩ := len3 a2
        obtain ⟨px, py, pz, rfl⟩ := len3 a3
        obtain ⟨i1, i2⟩ := at_ i x (by simp)
        obtain ⟨j1, j2⟩ := at_ j y (by simp)
        obtain ⟨l1, l2⟩ := at_ l z (by simp)
        have nd : i ≠ j ∧ i ≠ l ∧ j ≠ l := by
          simp at h3
          exact ⟨h3.1.1, h3.1.2, h3.2⟩
        refine (ps_par3 O.calm O.nd i1 j1 l1 nd.1 nd.2.1 nd.2.2 i2 j2 l2 ha hw).imp fun D σ H q => ?_
        obtain ⟨ρ, M, s, en, S, q⟩ := conv q
        refine ⟨ρ, M, s, en, S, q.mono (fun us s1 z H1 M1 rs g S1 R => ?_) fun _ _ _ z => z⟩
        obtain ⟨l, q⟩ := z H1 M1 rs g S1 R
        obtain ⟨a, b, d, rfl⟩ := len3 l
        exact ⟨a, b, d, rfl, q⟩
    · cases h
  | _ => cases h
theorem bad_st {st : Stmt} {il : Sm} (h : ∀ ρ s, exec C il ρ s = none) : PS X st (tS X.kw xs W (exec C il)) := ⟨fun pins s σ H D I ⟨ρ, M, t, e, S, p⟩ => by
  rw [h ρ t] at p
  exact (show False from p).elim⟩
theorem bad_sts {sts : List Stmt} : PSs X sts (tS X.kw xs W (exec C .bad)) := ⟨fun pins s σ H D I ⟨ρ, M, t, e, S, p⟩ => (show False from p).elim⟩
theorem asg_bad {t : Tg} (ρ : En) (s : Sto) : exec C (.asg t .bad) ρ s = none := rfl
theorem asg_ok (O : Ok c X C xs W) {t : Tg} {e : Ex} {tg v : Expr} {pos : Pos} (h : chkAs c t e tg v = true) : PS X (.Assign [tg] v pos) (tS X.kw xs W (exec C (.asg t e))) := by
  have plain : chkT c t tg = true → chk c e v = true → (∀ y p, tg ≠ .Name y p) → swappedStores [tg] v X.env = pure none → notStar tg = true → PS X (.Assign [tg] v pos) (tS X.kw xs W (exec C (.asg t e))) := fun h1 h2 h3 h4 h5 =>
    (ps_asg (snd_ex e c X W v O h2).pe (snd_tg t c X W tg _ O h1 (tin_all t)) (by cases tg <;> first | exact absurd rfl (h3 _ _) | (cases v <;> rfl)) h4 (by rw [assignEach_ok h5]; rfl)).imp fun D σ H q => asg_t q
  unfold chkAs at h
  cases t with
  | var i =>
    simp only [Bool.and_eq_true] at h
    obtain ⟨h1, h2, hK⟩ := h
    cases tg with
    | Name x px =>
      have ht : (isAt c.N i x && loc c.sc x && (c.all x || isLocal c.sc x)) = true := by simpa [chkT] using h1
      rw [Bool.and_eq_true, Bool.and_eq_true] at ht
      obtain ⟨⟨t1, t2⟩, t3⟩ := ht
      have hf : X.fn x = true ∨ X.env.scope.names.lookup x = some .local := by
        rw [Bool.or_eq_true] at t3
        rcases t3 with h | h
        · exact .inl (O.fn x h)
        · exact .inr (isLocal_ok O h)
      have byset : swapsWith v (some (.Name x px)) pos.line X.env = pure false → PS X (.Assign [.Name x px] v pos) (tS X.kw xs W (exec C (.asg (.var i) e))) := fun hs =>
        (ps_set O.nd (by rw [O.N]; exact isAt_ok t1) (loc_ok O t2) (snd_ex e c X W v O h2).pe hs hf).imp fun D σ H q => asg_var q
      cases v with
      | ListComp elt gs scope p =>
        refine ps_kind fun hk => ?_
        cases hb : (X.env.kindOf x == some .local && px.line == p.line && !(scope.names.any fun (n, k) => n == x && (k == .local || k == .cell))) with
        | false => exact byset (by rw [sw_comp hk, hb])
        | true =>
          -- the machine's expression is a comprehension too
          cases e with
          | comp m t s cn el own =>
            unfold chk at h2
            split at h2
            · rename_i elt' tg' iter ifs scope' p' he
              injection he with q1 q2 q3 q4
              subst q1; subst q2; subst q3; subst q4
              simp only [Bool.and_eq_true] at h2
              obtain ⟨⟨⟨⟨⟨⟨⟨⟨h1', h0'⟩, h2'⟩, h3'⟩, h4'⟩, h5'⟩, h6'⟩, h7'⟩, h8'⟩ := h2
              have loc : isLocal c.sc x = true := by
                rw [Bool.and_eq_true, Bool.and_eq_true] at hb
                have q : X.env.scope.names.lookup x = some .local := eq_of_beq hb.1.1
                unfold isLocal
                rw [← O.sc, q]
              refine comp_set O t1 loc (by rw [sw_comp hk, hb]) h1' h2' (snd_src s c X W iter _ O h5' h0') (fun X' W' O' => snd_tg t _ X' W' _ _ O' h6' h4') (fun X' W' O' => ?_) (fun X' W' O' => (snd_ex el _ X' W' _ O' h8').pe)
              split at h7'
              · exact (snd_op cn _ X' W' none O' h7').2.1 rfl
              · rename_i z
                exact (snd_op cn _ X' W' (some z) O' h7').2.2 z rfl
              · cases h7'
            · cases h2
          | compK _ _ _ _ _ => cases hK
          | bad => exact bad_st asg_bad
          | _ => simp [chk] at h2
      | SetComp _ _ _ _ => cases e <;> first | exact bad_st asg_bad | (simp [chk] at h2; done)
      | DictComp _ _ _ _ _ => cases e <;> first | exact bad_st asg_bad | (simp [chk] at h2; done)
      | _ => exact byset rfl
    | _ => simp [chkT] at h1
  | sub o i =>
    simp only [Bool.and_eq_true] at h
    obtain ⟨h1, h2⟩ := h
    cases tg with
    | Subscript y z p => exact plain h1 h2 (fun _ _ e => nomatch e) (by cases v <;> rfl) rfl
    | _ => simp [chkT] at h1
  | tup ts =>
    cases tg with
    | Tuple ls k p =>
      cases v with
      | Tuple vs k2 p2 =>
        simp only at h
        split at h
        · rename_i hsw
          rw [Bool.and_eq_true] at h
          exact ps_kind fun hk => plain h.1 h.2 (fun _ _ e => nomatch e) (sw_eq hk O.sc hsw) rfl
        · rename_i names hsw
          exact par_ok O hsw h
        · cases h
      | _ =>
        simp only [Bool.and_eq_true] at h
        exact plain h.1 h.2 (fun _ _ e => nomatch e) rfl rfl
    | _ => cases h
end
end Pm

end
section
set_option maxHeartbeats 4000000
namespace Pm
open PySem PySem.Spec PyProof.Rows L2
section
variable {C : Ct} {xs : Nat → Option (Value × Str)}
mutual
theorem snd_st : ∀ (il : Sm) (c : Cc) (X : Cx) (W : WX) (st : Stmt), Ok c X C xs W → PassesOwn (model X.prog X.w) X.A X.env X.xe → chkSt c il st = true → PS X st (tS X.kw xs W (exec C il))
  | .skip, c, X, W, st, O, hp, h => skip_ok h
  | .seq a b, c, X, W, st, O, hp, h => by simp [chkSt] at h
  | .aug _ _ _, c, X, W, st, O, hp, h => by simp [chkSt] at h
  | .asg t e, c, X, W, st, O, hp, h => by
    unfold chkSt at h
    split at h
    · exact asg_ok O h
    · cases h
  | .exp e, c, X, W, st, O, hp, h => by
    unfold chkSt at h
    split at h
    · rename_i v p
      rw [Bool.and_eq_true] at h
      exact exp_st (snd_ex e c X W v O h.1).pe h.2
    · cases h
  | .ife t a b, c, X, W, st, O, hp, h => by
    unfold chkSt at h
    split at h
    · rename_i x y z p
      rw [Bool.and_eq_true, Bool.and_eq_true] at h
      exact ife_st (snd_ex t c X W x O h.1.1).pt (snd_b a c X W y O hp h.1.2) (snd_b b c X W z O hp h.2)
    · cases h
  | .for_ t s b, c, X, W, st, O, hp, h => by
    unfold chkSt at h
    split at h
    · rename_i tg it body p
      simp only [Bool.and_eq_true] at h
      obtain ⟨⟨⟨h1, h2⟩, h3⟩, h4⟩ := h
      exact for_st hp O.calm h3.1 (snd_src s c X W it tg O h2 h3.2) (snd_tg t c X W tg _ O h1 (tin_all t)) (snd_b b c X W body O hp h4)
    · cases h
  | .whl t b, c, X, W, st, O, hp, h => by
    unfold chkSt at h
    split at h
    · rename_i x body p
      rw [Bool.and_eq_true] at h
      exact whl_st hp (snd_ex t c X W x O h.1).pt (snd_b b c X W body O hp h.2)
    · cases h
  | .ret e, c, X, W, st, O, hp, h => by
    unfold chkSt at h
    split at h
    · rename_i v p
      exact ret_st (snd_ex e c X W v O h).pe
    · cases h
  | .retN, c, X, W, st, O, hp, h => by
    unfold chkSt at h
    split at h
    · exact retN_st
    · cases h
  | .brk, c, X, W, st, O, hp, h => by
    unfold chkSt at h
    split at h
    · exact brk_st
    · cases h
  | .cnt, c, X, W, st, O, hp, h => by
    unfold chkSt at h
    split at h
    · exact cnt_st
    · cases h
  | .bad, c, X, W, st, O, hp, h => bad_st fun _ _ => rfl
theorem snd_b : ∀ (il : Sm) (c : Cc) (X : Cx) (W : WX) (sts : List Stmt), Ok c X C xs W → PassesOwn (model X.prog X.w) X.A X.env X.xe → chkB c il sts = true → PSs X sts (tS X.kw xs W (exec C il))
  | .skip, c, X, W, sts, O, hp, h => by
    cases sts with
    | nil => exact nil_st
    | cons _ _ => simp [chkB] at h
  | .seq a b, c, X, W, sts, O, hp, h => by
    cases sts with
    | nil => simp [chkB] at h
    | cons st r =>
      have h : (chkSt c a st && chkB c b r) = true := by simpa [chkB] using h
      rw [Bool.and_eq_true] at h
      exact seq_st (snd_st a c X W st O hp h.1) (snd_b b c X W r O hp h.2)
  | .aug _ _ _, c, X, W, st, O, hp, h => by simp [chkB] at h
  | .asg _ _, c, X, W, st, O, hp, h => by simp [chkB] at h
  | .exp _, c, X, W, st, O, hp, h => by simp [chkB] at h
  | .ife _ _ _, c, X, W, st, O, hp, h => by simp [chkB] at h
  | .for_ _ _ _, c, X, W, st, O, hp, h => by simp [chkB] at h
  | .whl _ _, c, X, W, st, O, hp, h => by simp [chkB] at h
  | .ret _, c, X, W, st, O, hp, h => by simp [chkB] at h
  | .retN, c, X, W, st, O, hp, h => by simp [chkB] at h
  | .brk, c, X, W, st, O, hp, h => by simp [chkB] at h
  | .cnt, c, X, W, st, O, hp, h => by simp [chkB] at h
  | .bad, c, X, W, st, O, hp, h => bad_sts
end
end

/-! ### the defs -/
/-- a def of the program: its name, parameters, names, where it stands, the machine's body -/
structure Fd where
  name : Str
  ps : List Str
  N : List Str
  st : Stmt
  body : Sm
def Fd.df (d : Fd) : Df := ⟨d.ps.length, d.N.length, d.body⟩
def fnsOf (T : List Fd) : List (Str × Nat) := T.map fun d => (d.name, d.ps.length)
def Fd.ok (T : List Fd) (cns : List Str) (d : Fd) : Bool := C8.scC d.N d.ps (defScope d.st) && chkB ⟨d.N, defScope d.st, fnsOf T, cns, fun _ => true⟩ d.body (defBody d.st)
/-- what the top has written -/
structure Facts (T : List Fd) (cns : List Str) (G : Nat → Option EV) (K : PySem.W.Frag) (mg : Str → Option Value) : Prop where
  fn : ∀ (i : Nat) (d : Fd), T[i]? = some d → ∃ f fd, mg d.name = some (.ref f) ∧ FunD K d.name d.name (defArgs d.st) (defBody d.st) (defScope d.st) [] [] f fd ∧ Binds K fd d.ps []
  cn : ∀ g x, cns[g]? = some x → ∀ v, G g = some v → ∃ u r, mg x = some u ∧ RelV r u ∧ ∀ w H M, Rep ⟨K, w⟩ H M v r
  blt : ∀ x ∈ blts, mg (x : Str) = none
section
variable {P : Program} {w : World} {K : PySem.W.Frag} {mg : Str → Option Value} {base : Heap} {T : List Fd} {cns : List Str} {G : Nat → Option EV} {fu : Nat} {xs : Nat → Option (Value × Str)}
theorem KV.end {K : Fw} {H : Hp} {M : Mp} {Q : VK} {s : Sto} (h : KV K H M Q .non s) : ∀ H' M' (σ : L2.St), Grow H M H' M' → StOk K H' M' s → EnOk K H' M' [] σ → Q .non H' := fun H' M' _ g S _ => h H' M' .non g S rfl
theorem fns_ok (hc : T.all (fun d => d.ok T cns) = true) (F : Facts T cns G K mg) : ∀ (k i : Nat) (d : Fd) (f : Addr) (fd : FuncData), T[i]? = some d → mg d.name = some (.ref f) →
    FunD K d.name d.name (defArgs d.st) (defBody d.st) (defScope d.st) [] [] f fd → FnG P w K mg base (L2.CX P w) k f fd d.ps (spF ⟨K, w⟩ xs ⟨mean (T.map Fd.df) G fu k, G, fu⟩ d.ps.length i)
  | 0, i, d, f, fd, hd, hm, hf => by
    refine ⟨fun vs H Q E h => ?_, fun A outer s H args us vs Q E _ _ _ _ _ h => ?_⟩
    · obtain ⟨_, _, _, hl, _⟩ := h
      exact hl
    · obtain ⟨as, M, st, _, _, _, p⟩ := h
      exact (show False from p).elim
  | k + 1, i, d, f, fd, hd, hm, hf => by
    have hok : d.ok T cns = true := List.all_eq_true.mp hc d (List.mem_of_getElem? hd)
    unfold Fd.ok at hok
    rw [Bool.and_eq_true] at hok
    have S := C8.fnScope_by hok.1
    refine fnG_of hf S (fun vs H Q E h => ?_) fun cdv A outer s H vs Q E gd hr h => ?_
    · obtain ⟨_, _, _, hl, _⟩ := h
      exact hl
    · obtain ⟨as, M, st, hl, So, R, p⟩ := h
      have hl2 := R.length
      -- what stands around
      let X := cxOf (L2.CX P w) P w K mg base d.N d.name (defScope d.st) f cdv A outer s H E
      have O : Ok ⟨d.N, defScope d.st, fnsOf T, cns, fun _ => true⟩ X ⟨mean (T.map Fd.df) G fu k, G, fu⟩ xs (fun cls dd _ H => E cls dd H) := by
        refine ⟨rfl, rfl, S.nd, rfl, ?_, gd, fun j x n hj => ?_, fun g x hx v hv => let ⟨u, r, a1, a2, a3⟩ := F.cn g x hx v hv; ⟨u, r, a1, a2, a3 w⟩, F.blt, takes_of rfl rfl rfl rfl, fun _ _ => rfl⟩
        · have := hr.un
          show (A.deeper (envOfC d.name (defScope d.st) s.heap.objs.size f cdv)).units + 65 < cLine
          omega
        · have hj : (T.map fun d => (d.name, d.ps.length))[j]? = some (x, n) := hj
          rw [List.getElem?_map] at hj
          cases e : T[j]? with
          | none => rw [e] at hj; cases hj
          | some d2 =>
            rw [e] at hj
            cases hj
            obtain ⟨f2, fd2, m2, F2, b2⟩ := F.fn j d2 e
            exact ⟨f2, fd2, d2.ps, k, m2, F2.kp, b2, rfl, hr, fns_ok hc F k j d2 f2 fd2 e m2 F2⟩
      have B : PSs X (defBody d.st) (tS ⟨K, w⟩ xs (fun cls dd _ H => E cls dd H) (exec ⟨mean (T.map Fd.df) G fu k, G, fu⟩ d.body)) := snd_b d.body _ X _ _ O (passes_of rfl) hok.2
      refine ⟨_, B, as.map some ++ List.replicate (d.N.length - d.ps.length) none, M, st, EnOk.start R d.N (by rw [hl]), So, ?_⟩
      have ed : (T.map Fd.df)[i]? = some d.df := by rw [List.getElem?_map, hd]; rfl
      have p : Post (wsh ⟨K, w⟩ xs H M E) (match (T.map Fd.df)[i]? with
        | some d => if as.length = d.np then endf (exec ⟨mean (T.map Fd.df) G fu k, G, fu⟩ d.body (as.map some ++ List.replicate (d.nn - d.np) none) st) else .stuck
        | none => .stuck) (KV ⟨K, w⟩ H M Q) := p
      rw [ed] at p
      have p : Post (wsh ⟨K, w⟩ xs H M E) (if as.length = d.ps.length then endf (exec ⟨mean (T.map Fd.df) G fu k, G, fu⟩ d.body (as.map some ++ List.replicate (d.N.length - d.ps.length) none) st) else .stuck) (KV ⟨K, w⟩ H M Q) := p
      rw [if_pos (by rw [← hl2]; exact hl)] at p
      cases er : exec ⟨mean (T.map Fd.df) G fu k, G, fu⟩ d.body (as.map some ++ List.replicate (d.N.length - d.ps.length) none) st with
      | none => rw [er] at p; exact p
      | some fs =>
        obtain ⟨fl, s'⟩ := fs
        rw [er] at p
        cases fl with
        | nx ρ' =>
          have p' : KV ⟨K, w⟩ H M Q .non s' := p
          exact fun H' M' σ' g S' _ => p' H' M' .non g S' rfl
        | rt v =>
          have p' : KV ⟨K, w⟩ H M Q v s' := p
          exact fun H' M' r g S' R' => p' H' M' r g S' R'
        | bk _ => exact (show False from p).elim
        | ct _ => exact (show False from p).elim
        | rs cc fs ρ' =>
          have p' : wsh ⟨K, w⟩ xs H M E cc fs s' := p
          exact fun H' M' σ' cls dd g S' _ x => p' H' M' cls dd g S' x
end
end Pm

end
section
set_option maxHeartbeats 4000000
/-! The head's facts, a law's end. -/
namespace Pm
open PySem PySem.Spec PyProof.Rows L2
/-! ### constants of the top -/
mutual
def valB (K : PySem.W.Frag) : EV → Value → Bool
  | .non, u => (match u with
    | .none => true
    | _ => false)
  | .bl b, u => (match u with
    | .bool c => b == c
    | _ => false)
  | .int i, u => (match u with
    | .int j _ => decide (i = j)
    | _ => false)
  | .str x, u => (match u with
    | .str y _ => decide (x = y) && sOk x
    | _ => false)
  | .tup xs, u => (match u with
    | .ref a => (match K.lookup a with
      | some ⟨.type c, _, .seq its _, _⟩ => decide (c = "tuple") && (decide (its.size ≤ sizeLine) && valsB K xs its.toList)
      | _ => false)
    | _ => false)
  | _, _ => false
def valsB (K : PySem.W.Frag) : List EV → List Value → Bool
  | [], us => us.isEmpty
  | x :: xs, us => (match us with
    | u :: r => valB K x u && valsB K xs r
    | [] => false)
end
theorem sOk_ok {x : Str} (h : sOk x = true) : SOk x := by
  unfold sOk at h
  rw [Bool.and_eq_true] at h
  exact ⟨Nat.le_trans (of_decide_eq_true h.1) (by decide), h.2⟩
mutual
theorem valB_ok {K : PySem.W.Frag} : ∀ (v : EV) (u : Value), valB K v u = true → ∃ r, RelV r u ∧ ∀ w H M, Rep ⟨K, w⟩ H M v r
  | .non, u, h => by
    cases u <;> first | exact ⟨.non, rfl, fun _ _ _ => rfl⟩ | cases h
  | .bl b, u, h => by
    cases u with
    | bool c => exact ⟨.bl b, by rw [show b = c from eq_of_beq h]; rfl, fun _ _ _ => rfl⟩
    | _ => cases h
  | .int i, u, h => by
    cases u with
    | int j t => exact ⟨.int i, ⟨t, by rw [show i = j from of_decide_eq_true h]⟩, fun _ _ _ => rfl⟩
    | _ => cases h
  | .str x, u, h => by
    cases u with
    | str y t =>
      obtain ⟨h1, h2⟩ := Bool.and_eq_true_iff.mp (show (decide (x = y) && sOk x) = true from h)
      exact ⟨.str x, ⟨t, by rw [show x = y from of_decide_eq_true h1]⟩, fun _ _ _ => ⟨rfl, sOk_ok h2⟩⟩
    | _ => cases h
  | .tup xs, u, h => by
    cases u with
    | ref a =>
      have h : (match K.lookup a with
        | some ⟨.type c, _, .seq its _, _⟩ => decide (c = "tuple") && (decide (its.size ≤ sizeLine) && valsB K xs its.toList)
        | _ => false) = true := h
      cases q : K.lookup a with
      | none => rw [q] at h; cases h
      | some o =>
        obtain ⟨oc, od, dt, osl⟩ := o
        rw [q] at h
        cases oc with
        | type c =>
          cases dt with
          | seq its n =>
            obtain ⟨h1, h2⟩ := Bool.and_eq_true_iff.mp (show (decide (c = "tuple") && (decide (its.size ≤ sizeLine) && valsB K xs its.toList)) = true from h)
            obtain ⟨h3, h4⟩ := Bool.and_eq_true_iff.mp h2
            obtain ⟨vs, r1, r2⟩ := valsB_ok xs its.toList h4
            have hs := of_decide_eq_true h3
            refine ⟨.ref a, rfl, fun w H M => ?_⟩
            unfold Rep
            refine ⟨a, vs, rfl, ⟨?_, .inr ⟨_, its, n, q, congrArg Value.type (of_decide_eq_true h1), rfl, hs, r1⟩⟩, r2 w H M⟩
            rw [r1.length]
            simpa using hs
          | _ => cases h
        | _ => cases dt <;> cases h
    | _ => cases h
  | .lst _, _, h => by cases h
  | .obj _, _, h => by cases h
  | .scr _, _, h => by cases h
theorem valsB_ok {K : PySem.W.Frag} : ∀ (vs : List EV) (us : List Value), valsB K vs us = true → ∃ rs, Vals rs us ∧ ∀ w H M, Reps ⟨K, w⟩ H M vs rs
  | [], us, h => by
    cases us with
    | nil => exact ⟨[], .nil, fun _ _ _ => by unfold Reps; rfl⟩
    | cons _ _ => cases h
  | v :: vs, us, h => by
    cases us with
    | nil => cases h
    | cons u us =>
      obtain ⟨h1, h2⟩ := Bool.and_eq_true_iff.mp (show (valB K v u && valsB K vs us) = true from h)
      obtain ⟨r, a1, a2⟩ := valB_ok v u h1
      obtain ⟨rs, b1, b2⟩ := valsB_ok vs us h2
      exact ⟨r :: rs, .cons a1 b1, fun w H M => by unfold Reps; exact ⟨r, rs, rfl, a2 w H M, b2 w H M⟩⟩
end
def cnB (K : PySem.W.Frag) (c : Str × EV) : Bool := match PySem.W.nsIn K mainGlobals c.1 with
  | some (some u) => valB K c.2 u
  | _ => false

/-! ### the table of a program -/
structure Tb where
  T : List Fd
  cs : List (Str × EV)
def Tb.fa (t : Tb) : List He.Fa := (t.T.map fun d => He.Fa.glo d.name) ++ blts.map fun x : String => He.Fa.free (x : Str)
def Fd.dd (d : Fd) : He.DefD := ⟨(d.name, none), d.name, d.name, defArgs d.st, defBody d.st, defScope d.st, [], []⟩
def Tb.fn (t : Tb) : List He.DefD := t.T.map Fd.dd
def Tb.G (t : Tb) (g : Nat) : Option EV := t.cs[g]?.map (·.2)
def Tb.cns (t : Tb) : List Str := t.cs.map (·.1)
def obsK (t : Tb) (K : PySem.W.Frag) : He.AlD := (((t.fa.all fun f => f.ok K) && t.fn.all fun d => d.ok K) && t.cs.all fun c => cnB K c, t.fn.map fun d => He.fnW K d.at_)
def Says (t : Tb) (K : PySem.W.Frag) : Prop := obsK t K = He.valD t.fn
def obsG (n : Nat) (t : Tb) (g : Addr → Option Obj) : He.AlD := obsK t (He.frG g (He.asD g n))
def hook (n : Nat) (t : Tb) : PySem.W.Hook where
  α := He.AlD
  obs := fun s => obsG n t s.heap.get?
  val := fun _ => He.valD t.fn
  says := fun _ h => ∃ K : PySem.W.Frag, K.In h ∧ Says t K
  of := fun _ _ e => ⟨_, He.frG_in, e⟩
  keeps := fun _ _ _ ⟨K, hK, c⟩ k => ⟨K, PySem.W.Frag.In.keeps hK k, c⟩
theorem obsG_eq {n : Nat} {t : Tb} {g : Addr → Option Obj} {s : Shared} (h : ∀ a, g a = s.heap.get? a) : obsG n t g = (hook n t).obs s := by
  have e : g = s.heap.get? := funext h
  rw [e] <;> rfl
/-- the arguments of a def are its names -/
def Bd (d : Fd) : Prop := ∀ (kV doc pm : Value) (an : Option Addr) (cdv ct : Value) (us : List Value), us.length = d.ps.length → bindArgs (PySem.W.fnOf d.name d.name (defArgs d.st) (defBody d.st) (defScope d.st) .none kV doc pm an cdv ct) ⟨us, []⟩ = pure (d.ps.zip us)
section
variable {t : Tb} {K : PySem.W.Frag}
theorem Says.fact (c : Says t K) {f : He.Fa} (h : f ∈ t.fa) : f.ok K = true := by
  have c1 : (((t.fa.all fun f => f.ok K) && t.fn.all fun d => d.ok K) && t.cs.all fun c => cnB K c) = true := congrArg (fun z : He.AlD => z.1) c
  exact List.all_eq_true.mp (He.ba (He.ba c1).1).1 f h
theorem Says.cn (c : Says t K) {x : Str × EV} (h : x ∈ t.cs) : cnB K x = true := by
  have c1 : (((t.fa.all fun f => f.ok K) && t.fn.all fun d => d.ok K) && t.cs.all fun c => cnB K c) = true := congrArg (fun z : He.AlD => z.1) c
  exact List.all_eq_true.mp (He.ba c1).2 x h
theorem Says.def_ (c : Says t K) (i : Nat) {d : Fd} (h : t.T[i]? = some d) : ∃ fd, FunD K d.name d.name (defArgs d.st) (defBody d.st) (defScope d.st) [] [] (He.ga K d.name) fd := by
  have c1 : (((t.fa.all fun f => f.ok K) && t.fn.all fun d => d.ok K) && t.cs.all fun c => cnB K c) = true := congrArg (fun z : He.AlD => z.1) c
  have c2 := (He.ba (He.ba c1).1).2
  have e : t.fn.map (fun d => He.fnW K d.at_) = t.fn.map He.DefD.val := congrArg (fun z : He.AlD => z.2) c
  have hf : t.fn[i]? = some d.dd := by
    unfold Tb.fn
    rw [List.getElem?_map, h]
    rfl
  have e2 : (t.fn.map fun d => He.fnW K d.at_)[i]? = (t.fn.map He.DefD.val)[i]? := by rw [e]
  rw [List.getElem?_map, List.getElem?_map, hf] at e2
  exact He.DefD.funD (d := d.dd) (Option.some.inj e2) (List.all_eq_true.mp c2 d.dd (List.mem_of_getElem? hf))
theorem Says.facts {h : Heap} {mg : Str → Option Value} (X : K.In h) (G : h.Ns mainGlobals mg) (hb : ∀ d ∈ t.T, Bd d) (c : Says t K) : Facts t.T t.cns t.G K mg := by
  refine ⟨fun i d hd => ?_, fun g x hx v hv => ?_, fun x hx => ?_⟩
  · obtain ⟨fd, F⟩ := c.def_ i hd
    have hm := List.mem_of_getElem? hd
    refine ⟨_, fd, He.glo_ok X G (c.fact (List.mem_append.mpr (.inl (List.mem_map.mpr ⟨d, hm, rfl⟩)))), F, F.bindsN (hb d hm)⟩
  · unfold Tb.cns at hx
    unfold Tb.G at hv
    rw [List.getElem?_map] at hx
    cases e : t.cs[g]? with
    | none => rw [e] at hx; cases hx
    | some p =>
      rw [e] at hx hv
      cases hx
      cases hv
      have q := c.cn (List.mem_of_getElem? e)
      unfold cnB at q
      cases e2 : PySem.W.nsIn K mainGlobals p.1 with
      | none => rw [e2] at q; cases q
      | some o =>
        rw [e2] at q
        cases o with
        | none => cases q
        | some u =>
          obtain ⟨r, r1, r2⟩ := valB_ok _ _ q
          exact ⟨u, r, PySem.W.mg_of X G e2, r1, r2⟩
  · exact He.free_ok X G (c.fact (List.mem_append.mpr (.inr (List.mem_map.mpr ⟨x, hx, rfl⟩))))
end
/-- the script's numbers -/
theorem scr_reps {K : Fw} {H : Hp} {M : Mp} : ∀ ns : List Int, Reps K H M (ns.map .int) (ns.map V.int)
  | [] => by unfold Reps; rfl
  | n :: ns => by
    show Reps K H M (.int n :: ns.map .int) _
    unfold Reps
    exact ⟨.int n, ns.map V.int, rfl, rfl, scr_reps ns⟩
/-- the law's run -/
def runs (t : Tb) (fu k i : Nat) : Prop := ∀ ns : List Int, ns.length ≤ 63 → ∃ s, mean (t.T.map Fd.df) t.G fu k i [.scr (ns.map .int)] [] = .ok (.bl true) s
theorem fnG_cx {P : Program} {w : World} {K : PySem.W.Frag} {mg : Str → Option Value} {base : Heap} {C C' : CXT} {k : Nat} {f : Addr} {fd : FuncData} {ps : List Str} {sp : Sp} (F : FnG P w K mg base C k f fd ps sp) (h : ∀ o H s E e s', C o H s E e s' → C' o H s E e s') :
    FnG P w K mg base C' k f fd ps sp := ⟨F.len, fun A outer s H args us vs Q E gd hr he hb hv hs => codeAny_mono (F.go A outer s H args us vs Q E gd hr he hb hv hs) fun r s' q => by
  cases r with
  | error e => exact h _ _ _ _ _ _ q
  | ok fl => cases fl <;> exact q⟩
theorem law_end {l : PySem.W.OpenLaw} {q : Program} {loose : List Str} {XP : (Str → Option Value) → Heap → Prop} {d : DefRec} {t : Tb} {n fu k i : Nat} {d0 : Fd}
    (hn : l.most = some 63) (hdf : d.params.defaults = []) (hr : Room k callerA) (hi : t.T[i]? = some d0) (hd : d.name = d0.name) (hps : d0.ps = [("script" : Str)]) (hb : ∀ d ∈ t.T, Bd d)
    (hc : t.T.all (fun d => d.ok t.T t.cns) = true) (run : runs t fu k i) : PySem.W.WalkO q loose XP (hook n t).says l.row.toRowW d [] (fun f vs => PySem.call f vs) := by
  refine walk_ofG (n := 63) (k := k) (x := ("script" : Str)) (C := fun outer H s E u s' => ∃ w : World, L2.CX l.prog w outer H s E u s') hn (by decide) hdf hr ?_ ?_
  · intro w mg fa h Y G hmg
    obtain ⟨K, KX, c⟩ := Y
    have F : Facts t.T t.cns t.G K mg := c.facts KX G hb
    obtain ⟨f, fd, m, FD, bd⟩ := F.fn i d0 hi
    rw [hd, m] at hmg
    cases hmg
    refine ⟨K, fd, spF ⟨K, w⟩ (fun _ => none) ⟨mean (t.T.map Fd.df) t.G fu k, t.G, fu⟩ 1 i, KX, fun s v => ?_, fun H a ns hl _ hS => ?_, fun base B1 B2 => ?_⟩
    · have b := FunD.bindsA (ps := d0.ps) FD (hb d0 (List.mem_of_getElem? hi)) s [v] (by rw [hps]; rfl)
      rw [hps] at b
      exact b
    · refine ⟨[.scr (ns.map .int)], ⟨[], []⟩, [], rfl, ⟨.nil, rfl, fun n a o e => (nomatch e), fun a ha => (nomatch ha)⟩, ?_, ?_⟩
      · unfold Reps
        refine ⟨.ref a, [], rfl, ?_, by unfold Reps; rfl⟩
        unfold Rep
        refine ⟨a, ns.map V.int, rfl, ?_, scr_reps ns⟩
        rcases hS with hS | hS
        · exact .inl ⟨hS, fun z => (nomatch z), fun z => (nomatch z)⟩
        · exact .inr hS
      · obtain ⟨s, hs⟩ := run ns hl
        show Post _ (mean (t.T.map Fd.df) t.G fu k i [.scr (ns.map .int)] []) _
        rw [hs]
        intro H' M' r _ _ R
        exact R
    · have F2 : Facts t.T t.cns t.G K mg := c.facts B1 B2 hb
      have := fns_ok (P := l.prog) (w := w) (base := base) (fu := fu) (xs := fun _ => none) hc F2 k i d0 _ fd hi m FD
      rw [hps] at this
      exact fnG_cx this fun _ _ _ _ _ _ z => ⟨w, z⟩
  · rintro H s e s' ⟨w, z⟩
    obtain ⟨_, _, _, _, _, _, _, _, _, _, _, _, z⟩ := z
    exact z
end Pm

end
section
/-! What the machine computes, by weakest preconditions. -/
namespace Pw
open PySem Pm
section
variable {α β : Type}
/-- a wall: simp does not go into what stands ahead of it -/
structure Wall {α : Type} (P : α) : Type where
inductive Wp (r : R α) (Q : α → Sto → Prop) (w : Wall Q := ⟨⟩) : Prop where
  | mk (a : α) (s : Sto) (e : r = .ok a s) (h : Q a s)
def noRs : Fl → Prop
  | .rs _ _ _ => False
  | _ => True
inductive WpS (r : RS) (Q : Fl → Sto → Prop) (w : Wall Q := ⟨⟩) : Prop where
  | mk (f : Fl) (s : Sto) (e : r = some (f, s)) (n : noRs f) (h : Q f s)
@[simp] theorem wp_ok {a : α} {s : Sto} {P : α → Sto → Prop} : Wp (.ok a s) P ↔ P a s := ⟨fun ⟨_, _, e, h⟩ => by cases e; exact h, fun h => ⟨_, _, rfl, h⟩⟩
@[simp] theorem wp_stuck {P : α → Sto → Prop} : Wp (.stuck : R α) P ↔ False := ⟨fun ⟨_, _, e, _⟩ => (nomatch e), fun h => h.elim⟩
theorem wp_exc {c : Nat} {fs : List EV} {s : Sto} {P : α → Sto → Prop} : Wp (.exc c fs s : R α) P ↔ False := ⟨fun ⟨_, _, e, _⟩ => (nomatch e), fun h => h.elim⟩
theorem wps_some {f : Fl} {s : Sto} {Q : Fl → Sto → Prop} : WpS (some (f, s)) Q ↔ noRs f ∧ Q f s := ⟨fun ⟨_, _, e, n, h⟩ => by cases e; exact ⟨n, h⟩, fun h => ⟨_, _, rfl, h.1, h.2⟩⟩
theorem wps_none {Q : Fl → Sto → Prop} : WpS none Q ↔ False := ⟨fun ⟨_, _, e, _, _⟩ => (nomatch e), fun h => h.elim⟩
variable {r : R α} {k : α → Sto → R β} {Q : β → Sto → Prop} {P : α → Sto → Prop} {a : α} {s : Sto} {ρ : En}
/-- there is such a value, and it does -/
def Opt (o : Option α) (Q : α → Prop) (_ : Wall Q := ⟨⟩) : Prop := match o with
  | some v => Q v
  | none => False
@[simp] theorem opt_some {v : α} {Q : α → Prop} : Opt (some v) Q ↔ Q v := by first | exact Iff.rfl | exact wp_ok | exact wp_stuck | exact wp_exc | exact wp_ok.symm | exact wp_stuck.trans wp_stuck.symm | exact wp_exc.trans wp_exc.symm | exact wp_ok.trans wp_ok.symm | exact wp_stuck.trans wp_exc.symm | exact wps_none.trans wp_stuck.symm | exact wps_none.trans wps_none.symm | exact wps_some.trans wps_some.symm | exact wps_none
@[simp] theorem opt_none {Q : α → Prop} : Opt none Q ↔ False := by first | exact Iff.rfl | exact wp_ok | exact wp_stuck | exact wp_exc | exact wp_ok.symm | exact wp_stuck.trans wp_stuck.symm | exact wp_exc.trans wp_exc.symm | exact wp_ok.trans wp_ok.symm | exact wp_stuck.trans wp_exc.symm | exact wps_none.trans wp_stuck.symm | exact wps_none.trans wps_none.symm | exact wps_some.trans wps_some.symm | exact wps_none
theorem opt_eq {o : Option α} {v : α} {Q : α → Prop} (h : o = some v) : Opt o Q ↔ Q v := by rw [h]; (first | exact Iff.rfl | exact wp_ok | exact wp_stuck | exact wp_exc | exact wp_ok.symm | exact wp_stuck.trans wp_stuck.symm | exact wp_exc.trans wp_exc.symm | exact wp_ok.trans wp_ok.symm | exact wp_stuck.trans wp_exc.symm | exact wps_none.trans wp_stuck.symm | exact wps_none.trans wps_none.symm | exact wps_some.trans wps_some.symm | exact wps_none)
theorem opt_ex {o : Option α} {Q : α → Prop} : Opt o Q ↔ ∃ v, o = some v ∧ Q v := by
  cases o with
  | none => exact ⟨fun h => h.elim, fun ⟨_, e, _⟩ => nomatch e⟩
  | some v => exact ⟨fun h => ⟨v, rfl, h⟩, fun ⟨_, e, h⟩ => by cases e; exact h⟩
/-- by a bit -/
def Br (b : Bool) (x y : Prop) (_ : Wall x := ⟨⟩) (_ : Wall y := ⟨⟩) : Prop := match b with
  | true => x
  | false => y
@[simp] theorem br_t {x y : Prop} : Br true x y ↔ x := by first | exact Iff.rfl | exact wp_ok | exact wp_stuck | exact wp_exc | exact wp_ok.symm | exact wp_stuck.trans wp_stuck.symm | exact wp_exc.trans wp_exc.symm | exact wp_ok.trans wp_ok.symm | exact wp_stuck.trans wp_exc.symm | exact wps_none.trans wp_stuck.symm | exact wps_none.trans wps_none.symm | exact wps_some.trans wps_some.symm | exact wps_none
@[simp] theorem br_f {x y : Prop} : Br false x y ↔ y := by first | exact Iff.rfl | exact wp_ok | exact wp_stuck | exact wp_exc | exact wp_ok.symm | exact wp_stuck.trans wp_stuck.symm | exact wp_exc.trans wp_exc.symm | exact wp_ok.trans wp_ok.symm | exact wp_stuck.trans wp_exc.symm | exact wps_none.trans wp_stuck.symm | exact wps_none.trans wps_none.symm | exact wps_some.trans wps_some.symm | exact wps_none
theorem br_by {b : Bool} {x y : Prop} (h1 : b = true → x) (h2 : b = false → y) : Br b x y := by
  cases b
  · exact h2 rfl
  · exact h1 rfl
theorem br_if {p : Prop} [Decidable p] {x y : Prop} (h1 : p → x) (h2 : ¬p → y) : Br (decide p) x y := by
  by_cases h : p
  · simp [h, h1 h]
  · simp [h, h2 h]
def evar : En → Nat → Option EV
  | [], _ => none
  | o :: _, 0 => o
  | _ :: r, n + 1 => evar r n
@[simp] theorem evar_0 {o : Option EV} {r : En} : evar (o :: r) 0 = o := rfl
@[simp] theorem evar_s {o : Option EV} {r : En} {n : Nat} : evar (o :: r) (n + 1) = evar r n := rfl
theorem evar_eq : ∀ (r : En) (n : Nat), evar r n = (r[n]?).join
  | [], n => rfl
  | o :: r, 0 => rfl
  | o :: r, n + 1 => by
    show evar r n = _
    rw [evar_eq r n]; rfl
def asInt : EV → Option Int
  | .int i => some i
  | _ => none
@[simp] theorem asInt_int {i : Int} : asInt (.int i) = some i := rfl
def asTup : EV → Option (List EV)
  | .tup i => some i
  | _ => none
@[simp] theorem asTup_tup {i : List EV} : asTup (.tup i) = some i := rfl
def asSeq (s : Sto) (v : EV) : Option (List EV) := match look s v with
  | .tup vs => some vs
  | .lst vs => some vs
  | _ => none
@[simp] theorem asSeq_tup {s : Sto} {i : List EV} : asSeq s (.tup i) = some i := rfl
@[simp] theorem asSeq_lst {s : Sto} {i : List EV} : asSeq s (.lst i) = some i := rfl
def asSt : Its → Option (List EV)
  | .st i => some i
  | _ => none
@[simp] theorem asSt_st {i : List EV} : asSt (.st i) = some i := rfl
theorem Wp.mono {P' : α → Sto → Prop} (h : Wp r P) (m : ∀ a s, P a s → P' a s) : Wp r P' := by
  obtain ⟨a, s, e, h⟩ := h
  exact ⟨a, s, e, m _ _ h⟩
theorem WpS.mono {r : RS} {P P' : Fl → Sto → Prop} (h : WpS r P) (m : ∀ f s, P f s → P' f s) : WpS r P' := by
  obtain ⟨f, s, e, n, h⟩ := h
  exact ⟨f, s, e, n, m _ _ h⟩
theorem Wp.iff : Wp r P ↔ ∃ a s, r = .ok a s ∧ P a s := ⟨fun ⟨a, s, e, h⟩ => ⟨a, s, e, h⟩, fun ⟨a, s, e, h⟩ => ⟨a, s, e, h⟩⟩
theorem Wp.congr {P' : α → Sto → Prop} (m : ∀ a s, P a s ↔ P' a s) : Wp r P ↔ Wp r P' := ⟨fun h => h.mono fun a s => (m a s).mp, fun h => h.mono fun a s => (m a s).mpr⟩
@[simp] theorem wp_bind : Wp (r.bind k) Q ↔ Wp r fun a s => Wp (k a s) Q := by
  cases r with
  | ok a s => exact (wp_ok (P := fun a s => Wp (k a s) Q)).symm
  | exc _ _ _ => exact wp_exc.trans wp_exc.symm
  | stuck => exact wp_stuck.trans wp_stuck.symm
@[simp] theorem wp_nox : Wp r.nox P ↔ Wp r P := by cases r <;> (first | exact Iff.rfl | exact wp_ok | exact wp_stuck | exact wp_exc | exact wp_ok.symm | exact wp_stuck.trans wp_stuck.symm | exact wp_exc.trans wp_exc.symm | exact wp_ok.trans wp_ok.symm | exact wp_stuck.trans wp_exc.symm | exact wps_none.trans wp_stuck.symm | exact wps_none.trans wps_none.symm | exact wps_some.trans wps_some.symm | exact wps_none)
theorem wp_if {c : Prop} [Decidable c] {x y : R α} : Wp (if c then x else y) P ↔ (c → Wp x P) ∧ (¬c → Wp y P) := by
  by_cases h : c <;> simp [h]
@[simp] theorem wps_at {k : α → Sto → RS} {Q : Fl → Sto → Prop} : WpS (r.at ρ k) Q ↔ Wp r fun a s => WpS (k a s) Q := by
  cases r with
  | ok a s => exact (wp_ok (P := fun a s => WpS (k a s) Q)).symm
  | exc _ _ _ => exact ⟨fun h => (wps_some.mp h).1.elim, fun h => (wp_exc.mp h).elim⟩
  | stuck => (first | exact Iff.rfl | exact wp_ok | exact wp_stuck | exact wp_exc | exact wp_ok.symm | exact wp_stuck.trans wp_stuck.symm | exact wp_exc.trans wp_exc.symm | exact wp_ok.trans wp_ok.symm | exact wp_stuck.trans wp_exc.symm | exact wps_none.trans wp_stuck.symm | exact wps_none.trans wps_none.symm | exact wps_some.trans wps_some.symm | exact wps_none)
end
section
variable {C : Ct} {ρ : En} {s : Sto} {Q : EV → Sto → Prop}
@[simp] theorem wp_var {i : Nat} : Wp (den C (.var i) ρ s) Q ↔ Opt (evar ρ i) fun v => Q v s := by
  show Wp (match ρ[i]? with
    | some (some v) => .ok v s
    | _ => .stuck) Q ↔ _
  rw [evar_eq]
  rcases ρ[i]? with _ | _ | v <;> (first | exact Iff.rfl | exact wp_ok | exact wp_stuck | exact wp_exc | exact wp_ok.symm | exact wp_stuck.trans wp_stuck.symm | exact wp_exc.trans wp_exc.symm | exact wp_ok.trans wp_ok.symm | exact wp_stuck.trans wp_exc.symm | exact wps_none.trans wp_stuck.symm | exact wps_none.trans wps_none.symm | exact wps_some.trans wps_some.symm | exact wps_none)
@[simp] theorem wp_cst {v : EV} : Wp (den C (.cst v) ρ s) Q ↔ Q v s := by first | exact Iff.rfl | exact wp_ok | exact wp_stuck | exact wp_exc | exact wp_ok.symm | exact wp_stuck.trans wp_stuck.symm | exact wp_exc.trans wp_exc.symm | exact wp_ok.trans wp_ok.symm | exact wp_stuck.trans wp_exc.symm | exact wps_none.trans wp_stuck.symm | exact wps_none.trans wps_none.symm | exact wps_some.trans wps_some.symm | exact wps_none
@[simp] theorem wp_glo {g : Nat} : Wp (den C (.glo g) ρ s) Q ↔ Opt (C.G g) fun v => Q v s := by
  show Wp (match C.G g with
    | some v => .ok v s
    | none => .stuck) Q ↔ _
  cases C.G g <;> (first | exact Iff.rfl | exact wp_ok | exact wp_stuck | exact wp_exc | exact wp_ok.symm | exact wp_stuck.trans wp_stuck.symm | exact wp_exc.trans wp_exc.symm | exact wp_ok.trans wp_ok.symm | exact wp_stuck.trans wp_exc.symm | exact wps_none.trans wp_stuck.symm | exact wps_none.trans wps_none.symm | exact wps_some.trans wps_some.symm | exact wps_none)
@[simp] theorem wp_tup {es : As} : Wp (den C (.tup es) ρ s) Q ↔ Wp (denA C es ρ s) fun vs s1 => Q (.tup vs) s1 := wp_bind.trans (Wp.congr fun _ _ => wp_ok)
@[simp] theorem wp_lstF {es : As} : Wp (den C (.lst false es) ρ s) Q ↔ Wp (denA C es ρ s) fun vs s1 => Q (.lst vs) s1 := wp_bind.trans (Wp.congr fun _ _ => wp_ok)
@[simp] theorem wp_lstT {es : As} : Wp (den C (.lst true es) ρ s) Q ↔ Wp (denA C es ρ s) fun vs s1 => Q (.obj s1.length) (s1 ++ [.lst vs]) := wp_bind.trans (Wp.congr fun _ _ => wp_ok)
@[simp] theorem wp_bin {o : Bop} {a b : Ex} : Wp (den C (.bin o a b) ρ s) Q ↔ Wp (den C a ρ s) fun x s1 => Wp (den C b ρ s1) fun y s2 => Wp (binf o x y s2) Q := by
  show Wp (R.bind _ _) _ ↔ _
  rw [wp_bind]
  exact Wp.congr fun x s1 => wp_bind
@[simp] theorem wp_cmp {o : Cop} {a b : Ex} : Wp (den C (.cmp o a b) ρ s) Q ↔ Wp (den C a ρ s) fun x s1 => Wp (den C b ρ s1) fun y s2 => Wp (cmpf o x y s2) Q := by
  show Wp (R.bind _ _) _ ↔ _
  rw [wp_bind]
  exact Wp.congr fun x s1 => wp_bind
@[simp] theorem wp_idx {a b : Ex} : Wp (den C (.idx a b) ρ s) Q ↔ Wp (den C a ρ s) fun x s1 => Wp (den C b ρ s1) fun y s2 => Wp (idxf x y s2) Q := by
  show Wp (R.bind _ _) _ ↔ _
  rw [wp_bind]
  exact Wp.congr fun x s1 => wp_bind
theorem wp_tr {t : Option Bool} {x y : R EV} : Wp (match t with
    | some true => x
    | some false => y
    | none => .stuck) Q ↔ Opt t fun b => Br b (Wp x Q) (Wp y Q) := by
  rcases t with _ | _ | _ <;> (first | exact Iff.rfl | exact wp_ok | exact wp_stuck | exact wp_exc | exact wp_ok.symm | exact wp_stuck.trans wp_stuck.symm | exact wp_exc.trans wp_exc.symm | exact wp_ok.trans wp_ok.symm | exact wp_stuck.trans wp_exc.symm | exact wps_none.trans wp_stuck.symm | exact wps_none.trans wps_none.symm | exact wps_some.trans wps_some.symm | exact wps_none)
@[simp] theorem wp_notE {a : Ex} : Wp (den C (.notE a) ρ s) Q ↔ Wp (den C a ρ s) fun x s1 => Opt (truth s1 x) fun b => Q (.bl (!b)) s1 := by
  show Wp (R.bind _ _) _ ↔ _
  rw [wp_bind]
  refine Wp.congr fun x s1 => ?_
  cases truth s1 x <;> (first | exact Iff.rfl | exact wp_ok | exact wp_stuck | exact wp_exc | exact wp_ok.symm | exact wp_stuck.trans wp_stuck.symm | exact wp_exc.trans wp_exc.symm | exact wp_ok.trans wp_ok.symm | exact wp_stuck.trans wp_exc.symm | exact wps_none.trans wp_stuck.symm | exact wps_none.trans wps_none.symm | exact wps_some.trans wps_some.symm | exact wps_none)
@[simp] theorem wp_neg {a : Ex} : Wp (den C (.neg a) ρ s) Q ↔ Wp (den C a ρ s) fun x s1 => Opt (asInt x) fun i => Q (.int (-i)) s1 := by
  show Wp (R.bind _ _) _ ↔ _
  rw [wp_bind]
  refine Wp.congr fun x s1 => ?_
  cases x <;> (first | exact Iff.rfl | exact wp_ok | exact wp_stuck | exact wp_exc | exact wp_ok.symm | exact wp_stuck.trans wp_stuck.symm | exact wp_exc.trans wp_exc.symm | exact wp_ok.trans wp_ok.symm | exact wp_stuck.trans wp_exc.symm | exact wps_none.trans wp_stuck.symm | exact wps_none.trans wps_none.symm | exact wps_some.trans wps_some.symm | exact wps_none)
@[simp] theorem wp_andE {a b : Ex} : Wp (den C (.andE a b) ρ s) Q ↔ Wp (den C a ρ s) fun x s1 => Opt (truth s1 x) fun t => Br t (Wp (den C b ρ s1) Q) (Q x s1) := by
  show Wp (R.bind _ _) _ ↔ _
  rw [wp_bind]
  exact Wp.congr fun x s1 => by rcases truth s1 x with _ | _ | _ <;> (first | exact Iff.rfl | exact wp_ok | exact wp_stuck | exact wp_exc | exact wp_ok.symm | exact wp_stuck.trans wp_stuck.symm | exact wp_exc.trans wp_exc.symm | exact wp_ok.trans wp_ok.symm | exact wp_stuck.trans wp_exc.symm | exact wps_none.trans wp_stuck.symm | exact wps_none.trans wps_none.symm | exact wps_some.trans wps_some.symm | exact wps_none)
@[simp] theorem wp_orE {a b : Ex} : Wp (den C (.orE a b) ρ s) Q ↔ Wp (den C a ρ s) fun x s1 => Opt (truth s1 x) fun t => Br t (Q x s1) (Wp (den C b ρ s1) Q) := by
  show Wp (R.bind _ _) _ ↔ _
  rw [wp_bind]
  exact Wp.congr fun x s1 => by rcases truth s1 x with _ | _ | _ <;> (first | exact Iff.rfl | exact wp_ok | exact wp_stuck | exact wp_exc | exact wp_ok.symm | exact wp_stuck.trans wp_stuck.symm | exact wp_exc.trans wp_exc.symm | exact wp_ok.trans wp_ok.symm | exact wp_stuck.trans wp_exc.symm | exact wps_none.trans wp_stuck.symm | exact wps_none.trans wps_none.symm | exact wps_some.trans wps_some.symm | exact wps_none)
@[simp] theorem wp_ite {c a b : Ex} : Wp (den C (.ite c a b) ρ s) Q ↔ Wp (den C c ρ s) fun x s1 => Opt (truth s1 x) fun t => Br t (Wp (den C a ρ s1) Q) (Wp (den C b ρ s1) Q) := by
  show Wp (R.bind _ _) _ ↔ _
  rw [wp_bind]
  exact Wp.congr fun x s1 => by rcases truth s1 x with _ | _ | _ <;> (first | exact Iff.rfl | exact wp_ok | exact wp_stuck | exact wp_exc | exact wp_ok.symm | exact wp_stuck.trans wp_stuck.symm | exact wp_exc.trans wp_exc.symm | exact wp_ok.trans wp_ok.symm | exact wp_stuck.trans wp_exc.symm | exact wps_none.trans wp_stuck.symm | exact wps_none.trans wps_none.symm | exact wps_some.trans wps_some.symm | exact wps_none)
@[simp] theorem wp_call {f : Nat} {es : As} : Wp (den C (.call f es) ρ s) Q ↔ Wp (denA C es ρ s) fun vs s1 => Wp (C.F f vs s1) Q := wp_bind
@[simp] theorem wp_prim {p : Prim} {es : As} : Wp (den C (.prim p es) ρ s) Q ↔ Wp (denA C es ρ s) fun vs s1 => Wp (primf p vs s1) Q := wp_bind
@[simp] theorem wp_meth {p : Prim} {o : Ex} {es : As} : Wp (den C (.meth p o es) ρ s) Q ↔ Wp (den C o ρ s) fun x s1 => Br (mok s1 x p) (Wp (denA C es ρ s1) fun vs s2 => Wp (primf p (x :: vs) s2) Q) False := by
  show Wp (R.bind _ _) _ ↔ _
  rw [wp_bind]
  refine Wp.congr fun x s1 => ?_
  cases h : mok s1 x p with
  | true => rw [if_pos rfl]; exact wp_bind
  | false => rw [if_neg (by simp)]; (first | exact Iff.rfl | exact wp_ok | exact wp_stuck | exact wp_exc | exact wp_ok.symm | exact wp_stuck.trans wp_stuck.symm | exact wp_exc.trans wp_exc.symm | exact wp_ok.trans wp_ok.symm | exact wp_stuck.trans wp_exc.symm | exact wps_none.trans wp_stuck.symm | exact wps_none.trans wps_none.symm | exact wps_some.trans wps_some.symm | exact wps_none)
@[simp] theorem wp_dnw {n : Bool} : Wp (den C (.dnw n) ρ s) Q ↔ Q (.obj s.length) (s ++ [.dct n []]) := by first | exact Iff.rfl | exact wp_ok | exact wp_stuck | exact wp_exc | exact wp_ok.symm | exact wp_stuck.trans wp_stuck.symm | exact wp_exc.trans wp_exc.symm | exact wp_ok.trans wp_ok.symm | exact wp_stuck.trans wp_exc.symm | exact wps_none.trans wp_stuck.symm | exact wps_none.trans wps_none.symm | exact wps_some.trans wps_some.symm | exact wps_none
@[simp] theorem wp_slc {a : Ex} {lo hi : Op} : Wp (den C (.slc a lo hi) ρ s) Q ↔ Wp (den C a ρ s) fun x s1 => Wp (denO C lo ρ s1) fun l s2 => Opt (part l) fun l' => Wp (denO C hi ρ s2) fun h s3 => Opt (part h) fun h' => Wp (slcf x l' h' s3) Q := by
  show Wp (R.bind _ _) _ ↔ _
  rw [wp_bind]
  refine Wp.congr fun x s1 => ?_
  rw [wp_bind]
  refine Wp.congr fun l s2 => ?_
  cases part l with
  | none => (first | exact Iff.rfl | exact wp_ok | exact wp_stuck | exact wp_exc | exact wp_ok.symm | exact wp_stuck.trans wp_stuck.symm | exact wp_exc.trans wp_exc.symm | exact wp_ok.trans wp_ok.symm | exact wp_stuck.trans wp_exc.symm | exact wps_none.trans wp_stuck.symm | exact wps_none.trans wps_none.symm | exact wps_some.trans wps_some.symm | exact wps_none)
  | some l' =>
    have q : Wp ((denO C hi ρ s2).bind fun h s3 => match part h with
      | none => .stuck
      | some h' => slcf x l' h' s3) Q ↔ Wp (denO C hi ρ s2) fun h s3 => Opt (part h) fun h' => Wp (slcf x l' h' s3) Q := by
      rw [wp_bind]
      refine Wp.congr fun h s3 => ?_
      cases part h <;> (first | exact Iff.rfl | exact wp_ok | exact wp_stuck | exact wp_exc | exact wp_ok.symm | exact wp_stuck.trans wp_stuck.symm | exact wp_exc.trans wp_exc.symm | exact wp_ok.trans wp_ok.symm | exact wp_stuck.trans wp_exc.symm | exact wps_none.trans wp_stuck.symm | exact wps_none.trans wps_none.symm | exact wps_some.trans wps_some.symm | exact wps_none)
    exact q
@[simp] theorem wpA_nil {Q : List EV → Sto → Prop} : Wp (denA C .nil ρ s) Q ↔ Q [] s := by first | exact Iff.rfl | exact wp_ok | exact wp_stuck | exact wp_exc | exact wp_ok.symm | exact wp_stuck.trans wp_stuck.symm | exact wp_exc.trans wp_exc.symm | exact wp_ok.trans wp_ok.symm | exact wp_stuck.trans wp_exc.symm | exact wps_none.trans wp_stuck.symm | exact wps_none.trans wps_none.symm | exact wps_some.trans wps_some.symm | exact wps_none
@[simp] theorem wpA_cons {e : Ex} {r : As} {Q : List EV → Sto → Prop} : Wp (denA C (.cons e r) ρ s) Q ↔ Wp (den C e ρ s) fun v s1 => Wp (denA C r ρ s1) fun vs s2 => Q (v :: vs) s2 := by
  show Wp (R.bind _ _) _ ↔ _
  rw [wp_bind]
  refine Wp.congr fun x s1 => wp_bind.trans (Wp.congr fun y s2 => wp_ok)
@[simp] theorem wpO_no {Q : Option EV → Sto → Prop} : Wp (denO C .no ρ s) Q ↔ Q none s := by first | exact Iff.rfl | exact wp_ok | exact wp_stuck | exact wp_exc | exact wp_ok.symm | exact wp_stuck.trans wp_stuck.symm | exact wp_exc.trans wp_exc.symm | exact wp_ok.trans wp_ok.symm | exact wp_stuck.trans wp_exc.symm | exact wps_none.trans wp_stuck.symm | exact wps_none.trans wps_none.symm | exact wps_some.trans wps_some.symm | exact wps_none
@[simp] theorem wpO_yes {e : Ex} {Q : Option EV → Sto → Prop} : Wp (denO C (.yes e) ρ s) Q ↔ Wp (den C e ρ s) fun v s1 => Q (some v) s1 := wp_bind.trans (Wp.congr fun _ _ => wp_ok)
@[simp] theorem wpS_ex {e : Ex} {Q : Its → Sto → Prop} : Wp (denS C (.ex e) ρ s) Q ↔ Wp (den C e ρ s) fun v s1 => Wp (walked v s1) Q := wp_bind
@[simp] theorem wpS_rng1 {e : Ex} {Q : Its → Sto → Prop} : Wp (denS C (.rng1 e) ρ s) Q ↔ Wp (den C e ρ s) fun v s1 => Opt (asInt v) fun i => Wp (rngf 0 i s1) Q := by
  show Wp (R.bind _ _) _ ↔ _
  rw [wp_bind]
  refine Wp.congr fun x s1 => ?_
  cases x <;> (first | exact Iff.rfl | exact wp_ok | exact wp_stuck | exact wp_exc | exact wp_ok.symm | exact wp_stuck.trans wp_stuck.symm | exact wp_exc.trans wp_exc.symm | exact wp_ok.trans wp_ok.symm | exact wp_stuck.trans wp_exc.symm | exact wps_none.trans wp_stuck.symm | exact wps_none.trans wps_none.symm | exact wps_some.trans wps_some.symm | exact wps_none)
@[simp] theorem wpS_rng2 {a b : Ex} {Q : Its → Sto → Prop} : Wp (denS C (.rng2 a b) ρ s) Q ↔ Wp (den C a ρ s) fun v s1 => Wp (den C b ρ s1) fun u s2 => Opt (asInt v) fun i => Opt (asInt u) fun j => Wp (rngf i j s2) Q := by
  show Wp (R.bind _ _) _ ↔ _
  rw [wp_bind]
  refine Wp.congr fun x s1 => ?_
  rw [wp_bind]
  refine Wp.congr fun y s2 => ?_
  cases x <;> cases y <;> (first | exact Iff.rfl | exact wp_ok | exact wp_stuck | exact wp_exc | exact wp_ok.symm | exact wp_stuck.trans wp_stuck.symm | exact wp_exc.trans wp_exc.symm | exact wp_ok.trans wp_ok.symm | exact wp_stuck.trans wp_exc.symm | exact wps_none.trans wp_stuck.symm | exact wps_none.trans wps_none.symm | exact wps_some.trans wps_some.symm | exact wps_none)
variable {QE : En → Sto → Prop}
@[simp] theorem wpT_var {i : Nat} {v : EV} : Wp (asgT C (.var i) v ρ s) QE ↔ i < ρ.length ∧ QE (ρ.set i (some v)) s := by
  show Wp (if i < ρ.length then _ else _) _ ↔ _
  by_cases h : i < ρ.length
  · simp only [h, if_true, true_and]; (first | exact Iff.rfl | exact wp_ok | exact wp_stuck | exact wp_exc | exact wp_ok.symm | exact wp_stuck.trans wp_stuck.symm | exact wp_exc.trans wp_exc.symm | exact wp_ok.trans wp_ok.symm | exact wp_stuck.trans wp_exc.symm | exact wps_none.trans wp_stuck.symm | exact wps_none.trans wps_none.symm | exact wps_some.trans wps_some.symm | exact wps_none)
  · simp only [h, if_false, false_and]; (first | exact Iff.rfl | exact wp_ok | exact wp_stuck | exact wp_exc | exact wp_ok.symm | exact wp_stuck.trans wp_stuck.symm | exact wp_exc.trans wp_exc.symm | exact wp_ok.trans wp_ok.symm | exact wp_stuck.trans wp_exc.symm | exact wps_none.trans wp_stuck.symm | exact wps_none.trans wps_none.symm | exact wps_some.trans wps_some.symm | exact wps_none)
@[simp] theorem wpT_tup {ts : Tgs} {v : EV} : Wp (asgT C (.tup ts) v ρ s) QE ↔ Opt (asSeq s v) fun vs => Wp (asgTs C ts vs ρ s) QE := by
  have e : asgT C (.tup ts) v ρ s = match look s v with
    | .tup vs => asgTs C ts vs ρ s
    | .lst vs => asgTs C ts vs ρ s
    | _ => .stuck := rfl
  rw [e]
  unfold asSeq
  cases look s v <;> first | exact Iff.rfl | exact wp_stuck
@[simp] theorem wpT_sub {o i : Ex} {v : EV} : Wp (asgT C (.sub o i) v ρ s) QE ↔ Wp (den C o ρ s) fun x s1 => Wp (den C i ρ s1) fun y s2 => Wp (setix x y v s2) fun _ s3 => QE ρ s3 := by
  show Wp (R.bind _ _) _ ↔ _
  rw [wp_bind]
  refine Wp.congr fun x s1 => wp_bind.trans (Wp.congr fun y s2 => wp_bind.trans (Wp.congr fun z s3 => wp_ok))
@[simp] theorem wpTs_nil : Wp (asgTs C .nil [] ρ s) QE ↔ QE ρ s := by first | exact Iff.rfl | exact wp_ok | exact wp_stuck | exact wp_exc | exact wp_ok.symm | exact wp_stuck.trans wp_stuck.symm | exact wp_exc.trans wp_exc.symm | exact wp_ok.trans wp_ok.symm | exact wp_stuck.trans wp_exc.symm | exact wps_none.trans wp_stuck.symm | exact wps_none.trans wps_none.symm | exact wps_some.trans wps_some.symm | exact wps_none
@[simp] theorem wpTs_cons {t : Tg} {r : Tgs} {v : EV} {vs : List EV} : Wp (asgTs C (.cons t r) (v :: vs) ρ s) QE ↔ Wp (asgT C t v ρ s) fun ρ1 s1 => Wp (asgTs C r vs ρ1 s1) QE := wp_bind
variable {D : Fl → Sto → Prop}
@[simp] theorem wps_skip : WpS (exec C .skip ρ s) D ↔ D (.nx ρ) s := wps_some.trans ⟨fun h => h.2, fun h => ⟨trivial, h⟩⟩
/-- what is asked ahead of b -/
def Sq (C : Ct) (b : Sm) (D : Fl → Sto → Prop) : Fl → Sto → Prop
  | .nx ρ, s => WpS (exec C b ρ s) D
  | f, s => D f s
@[simp] theorem wps_seq {a b : Sm} : WpS (exec C (.seq a b) ρ s) D ↔ WpS (exec C a ρ s) (Sq C b D) := by
  show WpS (match exec C a ρ s with
    | some (.nx ρ', s') => exec C b ρ' s'
    | r => r) D ↔ _
  cases h : exec C a ρ s with
  | none => (first | exact Iff.rfl | exact wp_ok | exact wp_stuck | exact wp_exc | exact wp_ok.symm | exact wp_stuck.trans wp_stuck.symm | exact wp_exc.trans wp_exc.symm | exact wp_ok.trans wp_ok.symm | exact wp_stuck.trans wp_exc.symm | exact wps_none.trans wp_stuck.symm | exact wps_none.trans wps_none.symm | exact wps_some.trans wps_some.symm | exact wps_none)
  | some p =>
    obtain ⟨f, s'⟩ := p
    cases f with
    | nx ρ' => exact ⟨fun z => wps_some.mpr ⟨trivial, z⟩, fun z => (wps_some.mp z).2⟩
    | rt v =>
      show WpS (some (.rt v, s')) D ↔ _
      rw [wps_some, wps_some]; exact Iff.rfl
    | bk v =>
      show WpS (some (.bk v, s')) D ↔ _
      rw [wps_some, wps_some]; exact Iff.rfl
    | ct v =>
      show WpS (some (.ct v, s')) D ↔ _
      rw [wps_some, wps_some]; exact Iff.rfl
    | rs x y z =>
      show WpS (some (.rs x y z, s')) D ↔ _
      rw [wps_some, wps_some]; exact Iff.rfl
@[simp] theorem sq_nx {b : Sm} : Sq C b D (.nx ρ) s ↔ WpS (exec C b ρ s) D := by first | exact Iff.rfl | exact wp_ok | exact wp_stuck | exact wp_exc | exact wp_ok.symm | exact wp_stuck.trans wp_stuck.symm | exact wp_exc.trans wp_exc.symm | exact wp_ok.trans wp_ok.symm | exact wp_stuck.trans wp_exc.symm | exact wps_none.trans wp_stuck.symm | exact wps_none.trans wps_none.symm | exact wps_some.trans wps_some.symm | exact wps_none
@[simp] theorem sq_rt {b : Sm} {v : EV} : Sq C b D (.rt v) s ↔ D (.rt v) s := by first | exact Iff.rfl | exact wp_ok | exact wp_stuck | exact wp_exc | exact wp_ok.symm | exact wp_stuck.trans wp_stuck.symm | exact wp_exc.trans wp_exc.symm | exact wp_ok.trans wp_ok.symm | exact wp_stuck.trans wp_exc.symm | exact wps_none.trans wp_stuck.symm | exact wps_none.trans wps_none.symm | exact wps_some.trans wps_some.symm | exact wps_none
@[simp] theorem sq_ct {b : Sm} : Sq C b D (.ct ρ) s ↔ D (.ct ρ) s := by first | exact Iff.rfl | exact wp_ok | exact wp_stuck | exact wp_exc | exact wp_ok.symm | exact wp_stuck.trans wp_stuck.symm | exact wp_exc.trans wp_exc.symm | exact wp_ok.trans wp_ok.symm | exact wp_stuck.trans wp_exc.symm | exact wps_none.trans wp_stuck.symm | exact wps_none.trans wps_none.symm | exact wps_some.trans wps_some.symm | exact wps_none
@[simp] theorem sq_bk {b : Sm} : Sq C b D (.bk ρ) s ↔ D (.bk ρ) s := by first | exact Iff.rfl | exact wp_ok | exact wp_stuck | exact wp_exc | exact wp_ok.symm | exact wp_stuck.trans wp_stuck.symm | exact wp_exc.trans wp_exc.symm | exact wp_ok.trans wp_ok.symm | exact wp_stuck.trans wp_exc.symm | exact wps_none.trans wp_stuck.symm | exact wps_none.trans wps_none.symm | exact wps_some.trans wps_some.symm | exact wps_none
@[simp] theorem wps_asg {t : Tg} {e : Ex} : WpS (exec C (.asg t e) ρ s) D ↔ Wp (den C e ρ s) fun v s1 => Wp (asgT C t v ρ s1) fun ρ' s2 => D (.nx ρ') s2 := by
  show WpS (R.at _ _ _) _ ↔ _
  rw [wps_at]
  refine Wp.congr fun v s1 => ?_
  rw [wps_at, wp_nox]
  exact ⟨fun h => h.mono fun _ _ z => (wps_some.mp z).2, fun h => h.mono fun _ _ z => wps_some.mpr ⟨trivial, z⟩⟩
@[simp] theorem wps_exp {e : Ex} : WpS (exec C (.exp e) ρ s) D ↔ Wp (den C e ρ s) fun _ s1 => D (.nx ρ) s1 := by
  show WpS (R.at _ _ _) _ ↔ _
  rw [wps_at]
  exact ⟨fun h => h.mono fun _ _ z => (wps_some.mp z).2, fun h => h.mono fun _ _ z => wps_some.mpr ⟨trivial, z⟩⟩
@[simp] theorem wps_ret {e : Ex} : WpS (exec C (.ret e) ρ s) D ↔ Wp (den C e ρ s) fun v s1 => D (.rt v) s1 := by
  show WpS (R.at _ _ _) _ ↔ _
  rw [wps_at]
  exact ⟨fun h => h.mono fun _ _ z => (wps_some.mp z).2, fun h => h.mono fun _ _ z => wps_some.mpr ⟨trivial, z⟩⟩
@[simp] theorem wps_retN : WpS (exec C .retN ρ s) D ↔ D (.rt .non) s := wps_some.trans ⟨fun h => h.2, fun h => ⟨trivial, h⟩⟩
@[simp] theorem wps_brk : WpS (exec C .brk ρ s) D ↔ D (.bk ρ) s := wps_some.trans ⟨fun h => h.2, fun h => ⟨trivial, h⟩⟩
@[simp] theorem wps_cnt : WpS (exec C .cnt ρ s) D ↔ D (.ct ρ) s := wps_some.trans ⟨fun h => h.2, fun h => ⟨trivial, h⟩⟩
@[simp] theorem wps_ife {c : Ex} {a b : Sm} : WpS (exec C (.ife c a b) ρ s) D ↔ Wp (den C c ρ s) fun x s1 => Opt (truth s1 x) fun t => Br t (WpS (exec C a ρ s1) D) (WpS (exec C b ρ s1) D) := by
  show WpS (R.at _ _ _) _ ↔ _
  rw [wps_at]
  refine Wp.congr fun x s1 => ?_
  rcases truth s1 x with _ | _ | _ <;> (first | exact Iff.rfl | exact wp_ok | exact wp_stuck | exact wp_exc | exact wp_ok.symm | exact wp_stuck.trans wp_stuck.symm | exact wp_exc.trans wp_exc.symm | exact wp_ok.trans wp_ok.symm | exact wp_stuck.trans wp_exc.symm | exact wps_none.trans wp_stuck.symm | exact wps_none.trans wps_none.symm | exact wps_some.trans wps_some.symm | exact wps_none)
/-! ### walks -/
/-- behind a turn -/
def Lp (I : List EV → En → Sto → Prop) (xs : List EV) (D : Fl → Sto → Prop) : Fl → Sto → Prop
  | .nx ρ, s => I xs ρ s
  | .ct ρ, s => I xs ρ s
  | .bk ρ, s => D (.nx ρ) s
  | f, s => D f s
@[simp] theorem lp_nx {I : List EV → En → Sto → Prop} {xs : List EV} : Lp I xs D (.nx ρ) s ↔ I xs ρ s := by first | exact Iff.rfl | exact wp_ok | exact wp_stuck | exact wp_exc | exact wp_ok.symm | exact wp_stuck.trans wp_stuck.symm | exact wp_exc.trans wp_exc.symm | exact wp_ok.trans wp_ok.symm | exact wp_stuck.trans wp_exc.symm | exact wps_none.trans wp_stuck.symm | exact wps_none.trans wps_none.symm | exact wps_some.trans wps_some.symm | exact wps_none
@[simp] theorem lp_ct {I : List EV → En → Sto → Prop} {xs : List EV} : Lp I xs D (.ct ρ) s ↔ I xs ρ s := by first | exact Iff.rfl | exact wp_ok | exact wp_stuck | exact wp_exc | exact wp_ok.symm | exact wp_stuck.trans wp_stuck.symm | exact wp_exc.trans wp_exc.symm | exact wp_ok.trans wp_ok.symm | exact wp_stuck.trans wp_exc.symm | exact wps_none.trans wp_stuck.symm | exact wps_none.trans wps_none.symm | exact wps_some.trans wps_some.symm | exact wps_none
@[simp] theorem lp_bk {I : List EV → En → Sto → Prop} {xs : List EV} : Lp I xs D (.bk ρ) s ↔ D (.nx ρ) s := by first | exact Iff.rfl | exact wp_ok | exact wp_stuck | exact wp_exc | exact wp_ok.symm | exact wp_stuck.trans wp_stuck.symm | exact wp_exc.trans wp_exc.symm | exact wp_ok.trans wp_ok.symm | exact wp_stuck.trans wp_exc.symm | exact wps_none.trans wp_stuck.symm | exact wps_none.trans wps_none.symm | exact wps_some.trans wps_some.symm | exact wps_none
@[simp] theorem lp_rt {I : List EV → En → Sto → Prop} {xs : List EV} {v : EV} : Lp I xs D (.rt v) s ↔ D (.rt v) s := by first | exact Iff.rfl | exact wp_ok | exact wp_stuck | exact wp_exc | exact wp_ok.symm | exact wp_stuck.trans wp_stuck.symm | exact wp_exc.trans wp_exc.symm | exact wp_ok.trans wp_ok.symm | exact wp_stuck.trans wp_exc.symm | exact wps_none.trans wp_stuck.symm | exact wps_none.trans wps_none.symm | exact wps_some.trans wps_some.symm | exact wps_none
theorem fst_wp {body : EV → En → Sto → RS} {I : List EV → En → Sto → Prop} (hb : ∀ x xs ρ s, I (x :: xs) ρ s → WpS (body x ρ s) (Lp I xs D)) (he : ∀ ρ s, I [] ρ s → D (.nx ρ) s) : ∀ (xs : List EV) (ρ : En) (s : Sto), I xs ρ s → WpS (fst_ body xs ρ s) D
  | [], ρ, s, h => wps_some.mpr ⟨trivial, he ρ s h⟩
  | x :: xs, ρ, s, h => by
    have q := hb x xs ρ s h
    unfold fst_
    cases e : body x ρ s with
    | none => rw [e] at q; exact (wps_none.mp q).elim
    | some p =>
      obtain ⟨f, s'⟩ := p
      rw [e] at q
      have q := wps_some.mp q
      cases f with
      | nx ρ' => exact fst_wp hb he xs ρ' s' q.2
      | ct ρ' => exact fst_wp hb he xs ρ' s' q.2
      | bk ρ' => exact wps_some.mpr ⟨trivial, q.2⟩
      | rt v => exact wps_some.mpr ⟨trivial, q.2⟩
      | rs _ _ _ => exact q.1.elim
/-- a for over what does not change -/
theorem wps_for {t : Tg} {sr : Src} {b : Sm} (I : List EV → En → Sto → Prop)
    (hs : Wp (denS C sr ρ s) fun its s1 => Opt (asSt its) fun xs => I xs ρ s1)
    (hb : ∀ x xs ρ s, I (x :: xs) ρ s → Wp (asgT C t x ρ s) fun ρ2 s3 => WpS (exec C b ρ2 s3) (Lp I xs D))
    (he : ∀ ρ s, I [] ρ s → D (.nx ρ) s) : WpS (exec C (.for_ t sr b) ρ s) D := by
  show WpS (R.at _ _ _) _
  rw [wps_at]
  refine hs.mono fun its s1 h => ?_
  obtain ⟨xs, e, h⟩ := opt_ex.mp h
  cases its with
  | ob _ => cases e
  | st xs' =>
  cases e
  refine fst_wp (fun x xs ρ s hI => ?_) he xs ρ s1 h
  show WpS ((asgT C t x ρ s).nox.at ρ fun ρ2 s3 => exec C b ρ2 s3) _
  rw [wps_at, wp_nox]
  exact hb x xs ρ s hI
theorem cst_wp {body : EV → Sto → R (Option EV)} {I : List EV → List EV → Sto → Prop} (hb : ∀ x xs ys s, I (x :: xs) ys s → Wp (body x s) fun o s1 => I xs (ys ++ o.toList) s1) : ∀ (xs ys : List EV) (s : Sto), I xs ys s → Wp (cst body xs s) fun zs s1 => I [] (ys ++ zs) s1
  | [], ys, s, h => by
    refine wp_ok.mpr ?_
    show I [] (ys ++ []) s
    rw [List.append_nil]; exact h
  | x :: xs, ys, s, h => by
    unfold cst
    rw [wp_bind]
    refine (hb x xs ys s h).mono fun o s1 h1 => ?_
    rw [wp_bind]
    refine (cst_wp hb xs (ys ++ o.toList) s1 h1).mono fun zs s2 h2 => ?_
    refine wp_ok.mpr ?_
    show I [] (ys ++ (o.toList ++ zs)) s2
    rw [← List.append_assoc]; exact h2
/-- a turn of a comprehension -/
def cbd (C : Ct) (t : Tg) (c : Op) (e : Ex) (ρ : En) (x : EV) (s2 : Sto) : R (Option EV) := (asgT C t x ρ s2).bind fun ρ3 s3 => (denO C c ρ3 s3).bind fun o s4 =>
  match o.elim (some true) (truth s4) with
  | some true => (den C e ρ3 s4).bind fun y s5 => .ok (some y) s5
  | some false => .ok none s4
  | none => .stuck
@[simp] theorem wp_cbd {t : Tg} {c : Op} {e : Ex} {x : EV} {Q : Option EV → Sto → Prop} : Wp (cbd C t c e ρ x s) Q ↔ Wp (asgT C t x ρ s) fun ρ3 s3 => Wp (denO C c ρ3 s3) fun o s4 => Opt (o.elim (some true) (truth s4)) fun b => Br b (Wp (den C e ρ3 s4) fun y s5 => Q (some y) s5) (Q none s4) := by
  show Wp (R.bind _ _) _ ↔ _
  rw [wp_bind]
  refine Wp.congr fun x s1 => ?_
  rw [wp_bind]
  refine Wp.congr fun l s2 => ?_
  rcases l.elim (some true) (truth s2) with _ | _ | _
  · (first | exact Iff.rfl | exact wp_ok | exact wp_stuck | exact wp_exc | exact wp_ok.symm | exact wp_stuck.trans wp_stuck.symm | exact wp_exc.trans wp_exc.symm | exact wp_ok.trans wp_ok.symm | exact wp_stuck.trans wp_exc.symm | exact wps_none.trans wp_stuck.symm | exact wps_none.trans wps_none.symm | exact wps_some.trans wps_some.symm | exact wps_none)
  · (first | exact Iff.rfl | exact wp_ok | exact wp_stuck | exact wp_exc | exact wp_ok.symm | exact wp_stuck.trans wp_stuck.symm | exact wp_exc.trans wp_exc.symm | exact wp_ok.trans wp_ok.symm | exact wp_stuck.trans wp_exc.symm | exact wps_none.trans wp_stuck.symm | exact wps_none.trans wps_none.symm | exact wps_some.trans wps_some.symm | exact wps_none)
  · exact wp_bind.trans (Wp.congr fun _ _ => wp_ok)
/-- a frozen comprehension over what does not change -/
theorem wp_comp {t : Tg} {sr : Src} {c : Op} {e : Ex} {own : List Nat} (I : List EV → List EV → Sto → Prop)
    (hs : Wp (denS C sr ρ s) fun its s1 => Opt (asSt its) fun xs => I xs [] s1)
    (hb : ∀ x xs ys s, I (x :: xs) ys s → Wp (cbd C t c e (wipe ρ own) x s) fun o s1 => I xs (ys ++ o.toList) s1)
    (he : ∀ ys s, I [] ys s → Q (.lst ys) s) : Wp (den C (.comp false t sr c e own) ρ s) Q := by
  show Wp (R.bind _ _) _
  rw [wp_bind]
  refine hs.mono fun its s1 h => ?_
  obtain ⟨xs, e, h⟩ := opt_ex.mp h
  cases its with
  | ob _ => cases e
  | st xs' =>
  cases e
  show Wp (R.bind (R.nox (cst (cbd C t c _ (wipe ρ own)) xs s1)) _) Q
  rw [wp_bind, wp_nox]
  refine (cst_wp hb xs [] s1 h).mono fun zs s2 h2 => ?_
  exact wp_ok.mpr (he _ _ h2)
theorem wp_compM {t : Tg} {sr : Src} {c : Op} {e : Ex} {own : List Nat} (I : List EV → List EV → Sto → Prop)
    (hs : Wp (denS C sr ρ s) fun its s1 => Opt (asSt its) fun xs => I xs [] s1)
    (hb : ∀ x xs ys s, I (x :: xs) ys s → Wp (cbd C t c e (wipe ρ own) x s) fun o s1 => I xs (ys ++ o.toList) s1)
    (he : ∀ ys s, I [] ys s → Q (.obj s.length) (s ++ [.lst ys])) : Wp (den C (.comp true t sr c e own) ρ s) Q := by
  show Wp (R.bind _ _) _
  rw [wp_bind]
  refine hs.mono fun its s1 h => ?_
  obtain ⟨xs, e, h⟩ := opt_ex.mp h
  cases its with
  | ob _ => cases e
  | st xs' =>
  cases e
  show Wp (R.bind (R.nox (cst (cbd C t c _ (wipe ρ own)) xs s1)) _) Q
  rw [wp_bind, wp_nox]
  refine (cst_wp hb xs [] s1 h).mono fun zs s2 h2 => ?_
  exact wp_ok.mpr (he _ _ h2)
/-- a comprehension that touches nothing -/
theorem cst_eq {body : EV → Sto → R (Option EV)} {f : EV → Option EV} {s : Sto} : ∀ (xs : List EV), (∀ x ∈ xs, body x s = .ok (f x) s) → cst body xs s = .ok (xs.filterMap f) s
  | [], _ => rfl
  | x :: xs, h => by
    unfold cst
    rw [h x (List.mem_cons_self ..)]
    show R.bind (cst body xs s) _ = _
    rw [cst_eq xs fun y hy => h y (List.mem_cons_of_mem _ hy)]
    rw [List.filterMap_cons]
    cases f x <;> rfl
theorem comp_eq {t : Tg} {sr : Src} {c : Op} {e : Ex} {own : List Nat} {xs : List EV} {s1 : Sto} (f : EV → Option EV) (hs : denS C sr ρ s = .ok (.st xs) s1) (hb : ∀ x ∈ xs, cbd C t c e (wipe ρ own) x s1 = .ok (f x) s1) :
    den C (.comp false t sr c e own) ρ s = .ok (.lst (xs.filterMap f)) s1 := by
  show R.bind _ _ = _
  rw [hs]
  show R.bind (R.nox (cst (cbd C t c _ (wipe ρ own)) xs s1)) _ = _
  rw [cst_eq (f := f) xs hb]
  rfl
/-! ### defs -/
/-- behind a def's body -/
def Rt (Q : EV → Sto → Prop) : Fl → Sto → Prop
  | .nx _, s => Q .non s
  | .rt v, s => Q v s
  | _, _ => False
@[simp] theorem rt_nx : Rt Q (.nx ρ) s ↔ Q .non s := by first | exact Iff.rfl | exact wp_ok | exact wp_stuck | exact wp_exc | exact wp_ok.symm | exact wp_stuck.trans wp_stuck.symm | exact wp_exc.trans wp_exc.symm | exact wp_ok.trans wp_ok.symm | exact wp_stuck.trans wp_exc.symm | exact wps_none.trans wp_stuck.symm | exact wps_none.trans wps_none.symm | exact wps_some.trans wps_some.symm | exact wps_none
@[simp] theorem rt_rt {v : EV} : Rt Q (.rt v) s ↔ Q v s := by first | exact Iff.rfl | exact wp_ok | exact wp_stuck | exact wp_exc | exact wp_ok.symm | exact wp_stuck.trans wp_stuck.symm | exact wp_exc.trans wp_exc.symm | exact wp_ok.trans wp_ok.symm | exact wp_stuck.trans wp_exc.symm | exact wps_none.trans wp_stuck.symm | exact wps_none.trans wps_none.symm | exact wps_some.trans wps_some.symm | exact wps_none
theorem mean_wp {T : List Df} {G : Nat → Option EV} {fu k i : Nat} {d : Df} {vs : List EV} (hT : T[i]? = some d) (hl : vs.length = d.np) (h : WpS (exec ⟨mean T G fu k, G, fu⟩ d.body (vs.map some ++ List.replicate (d.nn - d.np) none) s) (Rt Q)) :
    Wp (mean T G fu (k + 1) i vs s) Q := by
  unfold mean
  rw [hT]
  simp only [hl, if_true]
  cases e : exec ⟨mean T G fu k, G, fu⟩ d.body (vs.map some ++ List.replicate (d.nn - d.np) none) s with
  | none => rw [e] at h; exact (wps_none.mp h).elim
  | some p =>
    obtain ⟨f, s'⟩ := p
    rw [e] at h
    have h := wps_some.mp h
    cases f with
    | nx _ => exact wp_ok.mpr h.2
    | rt _ => exact wp_ok.mpr h.2
    | rs _ _ _ => exact h.1.elim
    | bk _ => exact h.2.elim
    | ct _ => exact h.2.elim
end
end Pw

end
section
/-! The machine's values, the rolls. -/
namespace Pw
open PySem Pm
section
variable {s : Sto} {i j : Int} {x y : List EV} {a b : Bool} {u v : EV} {Q : EV → Sto → Prop} {l h : Option Int} {X Y : Str}
@[simp] theorem wp_ifs {α : Type} {c : Prop} [Decidable c] {x : R α} {P : α → Sto → Prop} : Wp (if c then x else .stuck) P ↔ c ∧ Wp x P := by
  by_cases h : c
  · simp [h]
  · simp [h]
theorem wp_ifo {α : Type} {c : Prop} [Decidable c] {a : α} {s : Sto} {P : α → Sto → Prop} : Wp (if c then .ok a s else .stuck) P ↔ c ∧ P a s := wp_ifs.trans (and_congr_right fun _ => wp_ok)
@[simp] theorem look_non : look s .non = .non := rfl
@[simp] theorem look_bl : look s (.bl a) = .bl a := rfl
@[simp] theorem look_int : look s (.int i) = .int i := rfl
@[simp] theorem look_str : look s (.str X) = .str X := rfl
@[simp] theorem look_tup : look s (.tup x) = .tup x := rfl
@[simp] theorem look_lst : look s (.lst x) = .lst x := rfl
@[simp] theorem truth_bl : truth s (.bl a) = some a := rfl
@[simp] theorem truth_int : truth s (.int i) = some (i != 0) := rfl
@[simp] theorem truth_tup : truth s (.tup x) = some (!x.isEmpty) := rfl
@[simp] theorem truth_lst : truth s (.lst x) = some (!x.isEmpty) := rfl
@[simp] theorem truth_str : truth s (.str X) = some (X.length != 0) := rfl
@[simp] theorem truth_non : truth s .non = some false := rfl
@[simp] theorem b_add : binf .add (.int i) (.int j) s = .ok (.int (i + j)) s := rfl
@[simp] theorem b_sub : binf .sub (.int i) (.int j) s = .ok (.int (i - j)) s := rfl
@[simp] theorem b_addT : binf .add (.tup x) (.tup y) s = if x.length + y.length ≤ big then .ok (.tup (x ++ y)) s else .stuck := rfl
@[simp] theorem b_addL : binf .add (.lst x) (.lst y) s = if x.length + y.length ≤ big then .ok (.lst (x ++ y)) s else .stuck := rfl
@[simp] theorem b_mul : binf .mul (.int i) (.int j) s = if (decide (-(2 ^ 64) < i) && decide (i < 2 ^ 64)) || (decide (-(2 ^ 64) < j) && decide (j < 2 ^ 64)) then .ok (.int (i * j)) s else .stuck := rfl
@[simp] theorem b_fdiv : binf .fdiv (.int i) (.int j) s = if 0 < j ∧ j < 1073741824 then .ok (.int (i / j)) s else .stuck := rfl
@[simp] theorem b_mod : binf .mod (.int i) (.int j) s = if 0 < j then .ok (.int (i % j)) s else .stuck := rfl
@[simp] theorem b_pow : binf .pow (.int i) (.int j) s = if 0 ≤ j ∧ j ≤ 1000000 ∧ i.natAbs < 2 ^ 64 then .ok (.int (i ^ j.toNat)) s else .stuck := rfl
@[simp] theorem c_lt : cmpf .lt (.int i) (.int j) s = .ok (.bl (decide (i < j))) s := rfl
@[simp] theorem c_le : cmpf .le (.int i) (.int j) s = .ok (.bl (decide (i ≤ j))) s := rfl
@[simp] theorem c_gt : cmpf .gt (.int i) (.int j) s = .ok (.bl (decide (j < i))) s := rfl
@[simp] theorem c_ge : cmpf .ge (.int i) (.int j) s = .ok (.bl (decide (j ≤ i))) s := rfl
@[simp] theorem c_is : cmpf .is u .non s = .ok (.bl (isNone u)) s := rfl
@[simp] theorem c_isn : cmpf .isn u .non s = .ok (.bl (!isNone u)) s := rfl
@[simp] theorem c_eqn : cmpf .eqn (.lst x) (.lst []) s = .ok (.bl x.isEmpty) s := rfl
@[simp] theorem wc_eq : Wp (cmpf .eq u v s) Q ↔ (okd (look s u) 60 && okd (look s v) 60) = true ∧ Q (.bl (veq (look s u) (look s v))) s := wp_ifo
@[simp] theorem wc_ne : Wp (cmpf .ne u v s) Q ↔ (okd (look s u) 60 && okd (look s v) 60) = true ∧ Q (.bl (!veq (look s u) (look s v))) s := wp_ifo
/-- the item there -/
def at_ (xs : List EV) (i : Int) : Option EV := (ixn xs.length i).bind fun j => xs[j]?
theorem wp_ix {xs : List EV} : Wp (match (ixn xs.length i).bind fun j => xs[j]? with
    | some v => .ok v s
    | none => .stuck) Q ↔ Opt (at_ xs i) fun v => Q v s := by
  unfold at_
  cases h : (ixn xs.length i).bind fun j => xs[j]? <;> (first | exact Iff.rfl | exact wp_ok | exact wp_stuck | exact wp_exc | exact wps_none)
@[simp] theorem wi_tup {xs : List EV} : Wp (idxf (.tup xs) (.int i) s) Q ↔ Opt (at_ xs i) fun v => Q v s := wp_ix
@[simp] theorem wi_lst {xs : List EV} : Wp (idxf (.lst xs) (.int i) s) Q ↔ Opt (at_ xs i) fun v => Q v s := wp_ix
/-- the list object there -/
def olst : Sto → Nat → Option (List EV)
  | [], _ => none
  | .lst xs :: _, 0 => some xs
  | .dct _ _ :: _, 0 => none
  | _ :: r, n + 1 => olst r n
@[simp] theorem olst_0 {xs : List EV} {r : Sto} : olst (.lst xs :: r) 0 = some xs := rfl
@[simp] theorem olst_s {o : Ob} {r : Sto} {n : Nat} : olst (o :: r) (n + 1) = olst r n := by cases o <;> rfl
theorem olst_iff : ∀ {s : Sto} {n : Nat} {xs : List EV}, olst s n = some xs ↔ s[n]? = some (.lst xs)
  | [], n, xs => ⟨fun h => (nomatch h), fun h => by simp at h⟩
  | .lst xs :: r, 0, ys => by simp
  | .dct f xs :: r, 0, ys => by simp [olst]
  | o :: r, n + 1, ys => by rw [olst_s]; simpa using olst_iff (s := r) (n := n)
theorem look_o {n : Nat} {xs : List EV} (h : s[n]? = some (.lst xs)) : look s (.obj n) = .lst xs := by simp [look, h]
theorem look_n {n : Nat} (h : olst s n = none) : look s (.obj n) = .obj n := by
  cases e : s[n]? with
  | none => simp [look, e]
  | some o => cases o with
    | lst xs => rw [olst_iff.mpr e] at h; cases h
    | dct _ _ => simp [look, e]
@[simp] theorem look_obj {n : Nat} : look s (.obj n) = match olst s n with
    | some xs => .lst xs
    | none => .obj n := by
  cases h : olst s n with
  | none => exact look_n h
  | some xs => exact look_o (olst_iff.mp h)
/-- the object there -/
def oat : Sto → Nat → Option Ob
  | [], _ => none
  | o :: _, 0 => some o
  | _ :: r, n + 1 => oat r n
@[simp] theorem oat_0 {o : Ob} {r : Sto} : oat (o :: r) 0 = some o := rfl
@[simp] theorem oat_s {o : Ob} {r : Sto} {n : Nat} : oat (o :: r) (n + 1) = oat r n := rfl
theorem oat_eq : ∀ (s : Sto) (n : Nat), s[n]? = oat s n
  | [], n => rfl
  | o :: r, 0 => rfl
  | o :: r, n + 1 => by simpa using oat_eq r n
@[simp] theorem oat_app {o : Ob} : oat (s ++ [o]) s.length = some o := by rw [← oat_eq]; simp
theorem olst_oat {n : Nat} {xs : List EV} (h : olst s n = some xs) : oat s n = some (.lst xs) := by rw [← oat_eq]; exact olst_iff.mp h
def obIdx (k : EV) : Ob → Option EV
  | .lst xs => (asInt k).bind (at_ xs)
  | .dct f kvs => if isKey f k then dget kvs k else none
@[simp] theorem obIdx_lst {xs : List EV} : obIdx (.int i) (.lst xs) = at_ xs i := rfl
@[simp] theorem obIdx_dct {f : Bool} {kvs : List (EV × EV)} {k : EV} : obIdx k (.dct f kvs) = if isKey f k then dget kvs k else none := rfl
def obSet (k v : EV) : Ob → Option Ob
  | .lst xs => ((asInt k).bind (ixn xs.length)).map fun j => .lst (xs.set j v)
  | .dct f kvs => if isKey f k && decide (kvs.length < big) then some (.dct f (dput kvs k v)) else none
@[simp] theorem obSet_lst {xs : List EV} : obSet (.int i) v (.lst xs) = (ixn xs.length i).map fun j => .lst (xs.set j v) := rfl
@[simp] theorem obSet_dct {f : Bool} {kvs : List (EV × EV)} {k : EV} : obSet k v (.dct f kvs) = if isKey f k && decide (kvs.length < big) then some (.dct f (dput kvs k v)) else none := rfl
def obDct : Ob → Option (Bool × List (EV × EV))
  | .dct f kvs => some (f, kvs)
  | _ => none
@[simp] theorem obDct_d {f : Bool} {kvs : List (EV × EV)} : obDct (.dct f kvs) = some (f, kvs) := rfl
@[simp] theorem odct_obj {n : Nat} : odct s (.obj n) = (oat s n).bind obDct := by
  show (match s[n]? with
    | some (.dct f kvs) => some (f, kvs)
    | _ => none) = _
  rw [oat_eq]
  rcases oat s n with _ | _ | _ <;> rfl
@[simp] theorem wi_obj {n : Nat} {k : EV} : Wp (idxf (.obj n) k s) Q ↔ Opt ((oat s n).bind (obIdx k)) fun v => Q v s := by
  cases h : oat s n with
  | none =>
    have e : idxf (.obj n) k s = .stuck := by
      unfold idxf
      rw [odct_obj, h]
      show idxL _ _ _ = _
      unfold idxL
      rw [look_n (by
        cases e : olst s n with
        | none => rfl
        | some xs => rw [olst_oat e] at h; cases h)]
    rw [e]; (first | exact Iff.rfl | exact wp_ok | exact wp_stuck | exact wp_exc | exact wps_none)
  | some o =>
    cases o with
    | lst xs =>
      have e : idxf (.obj n) k s = idxL (.lst xs) k s := by
        unfold idxf
        rw [odct_obj, h]
        show idxL _ _ _ = _
        unfold idxL
        rw [look_o (by rw [oat_eq, h]), look_lst]
      rw [e]
      cases k with
      | int i => exact wi_lst
      | _ => (first | exact Iff.rfl | exact wp_ok | exact wp_stuck | exact wp_exc | exact wps_none)
    | dct f kvs =>
      have e : idxf (.obj n) k s = if isKey f k then (match dget kvs k with
        | some v => .ok v s
        | none => .stuck) else .stuck := by
        unfold idxf
        rw [odct_obj, h]; rfl
      rw [e]
      show _ ↔ Opt (if isKey f k then dget kvs k else none) _
      cases isKey f k with
      | false => (first | exact Iff.rfl | exact wp_ok | exact wp_stuck | exact wp_exc | exact wps_none)
      | true =>
        rw [if_pos rfl, if_pos rfl]
        cases dget kvs k <;> (first | exact Iff.rfl | exact wp_ok | exact wp_stuck | exact wp_exc | exact wps_none)
theorem at_nat {xs : List EV} {n : Nat} (h : n < xs.length) : at_ xs n = xs[n]? := by
  unfold at_ ixn
  have h1 : (0 : Int) ≤ (n : Int) := Int.natCast_nonneg n
  have h2 : (n : Int) < (xs.length : Int) := Int.ofNat_lt.mpr h
  simp [h1, h2]
@[simp] theorem s_tup {xs : List EV} : slcf (.tup xs) l h s = .ok (.tup (cut xs l h)) s := rfl
@[simp] theorem s_lst {xs : List EV} : slcf (.lst xs) l h s = .ok (.lst (cut xs l h)) s := rfl
@[simp] theorem s_obj {n : Nat} : Wp (slcf (.obj n) l h s) Q ↔ Opt (olst s n) fun xs => Q (.lst (cut xs l h)) s := by
  cases e : olst s n with
  | none => unfold slcf; rw [look_n e]; exact wp_stuck
  | some xs => unfold slcf; rw [look_o (olst_iff.mp e)]; exact wp_ok
@[simp] theorem part_none : part none = some none := rfl
@[simp] theorem part_int : part (some (.int i)) = some (some i) := rfl
@[simp] theorem ws_obj {n : Nat} {k : EV} {Q : Unit → Sto → Prop} : Wp (setix (.obj n) k v s) Q ↔ Opt ((oat s n).bind (obSet k v)) fun o => Q () (s.set n o) := by
  have hl : ∀ h : (oat s n).bind obDct = none, setix (.obj n) k v s = setL (.obj n) k v s := fun h => by
    unfold setix
    rw [odct_obj, h]
  cases h : oat s n with
  | none =>
    rw [hl (by rw [h]; rfl)]
    unfold setL
    cases k with
    | int i => simp only [oat_eq, h]; (first | exact Iff.rfl | exact wp_ok | exact wp_stuck | exact wp_exc | exact wps_none)
    | _ => (first | exact Iff.rfl | exact wp_ok | exact wp_stuck | exact wp_exc | exact wps_none)
  | some o =>
    cases o with
    | lst xs =>
      rw [hl (by rw [h]; rfl)]
      unfold setL
      cases k with
      | int i =>
        simp only [oat_eq, h]
        show _ ↔ Opt ((ixn xs.length i).map _) _
        cases ixn xs.length i <;> (first | exact Iff.rfl | exact wp_ok | exact wp_stuck | exact wp_exc | exact wps_none)
      | _ => (first | exact Iff.rfl | exact wp_ok | exact wp_stuck | exact wp_exc | exact wps_none)
    | dct f kvs =>
      have e : setix (.obj n) k v s = if isKey f k && decide (kvs.length < big) then .ok () (s.set n (.dct f (dput kvs k v))) else .stuck := by
        unfold setix
        rw [odct_obj, h]; rfl
      rw [e]
      show _ ↔ Opt (if (isKey f k && decide (kvs.length < big)) = true then some (Ob.dct f (dput kvs k v)) else none) _
      cases isKey f k && decide (kvs.length < big) <;> (first | exact Iff.rfl | exact wp_ok | exact wp_stuck | exact wp_exc | exact wps_none)
/-- whether it lies in the object -/
def obIn (s : Sto) (u : EV) : Ob → Option Bool
  | .dct f kvs => if isKey f u then some (dget kvs u).isSome else none
  | .lst ys => if okd (look s u) 60 && okds ys 59 then some (ys.any fun y => veq y (look s u)) else none
@[simp] theorem obIn_dct {f : Bool} {kvs : List (EV × EV)} : obIn s u (.dct f kvs) = if isKey f u then some (dget kvs u).isSome else none := rfl
@[simp] theorem obIn_lst {ys : List EV} : obIn s u (.lst ys) = if okd (look s u) 60 && okds ys 59 then some (ys.any fun y => veq y (look s u)) else none := rfl
theorem opt_if {c : Bool} {b : Bool} {P : Bool → Prop} : Opt (if c then some b else none) P ↔ c = true ∧ P b := by
  cases c
  · simp
  · simp
theorem memf_l {n : Bool} {ys : List EV} {v : EV} (h : look s v = .lst ys) : memf n u v s = if okd (look s u) 60 && okds ys 59 then .ok (.bl (xor n (ys.any fun y => veq y (look s u)))) s else .stuck := by
  unfold memf; rw [h]
theorem memf_t {n : Bool} {ys : List EV} {v : EV} (h : look s v = .tup ys) : memf n u v s = if okd (look s u) 60 && okds ys 59 then R.ok (EV.bl (xor n (ys.any fun y => veq y (look s u)))) s else .stuck := by
  unfold memf; rw [h]
theorem inn_obj {n : Nat} : cmpf .inn u (.obj n) s = match (oat s n).bind (obIn s u) with
    | some b => .ok (.bl b) s
    | none => .stuck := by
  show (match odct s (.obj n) with
    | some (f, kvs) => if isKey f u then R.ok (EV.bl (dget kvs u).isSome) s else .stuck
    | none => memf false u (.obj n) s) = _
  rw [odct_obj]
  cases h : oat s n with
  | none =>
    show memf false u (.obj n) s = .stuck
    unfold memf
    rw [look_n (by
      cases e : olst s n with
      | none => rfl
      | some xs => rw [olst_oat e] at h; cases h)]
  | some o =>
    cases o with
    | lst xs =>
      show memf false u (.obj n) s = _
      rw [memf_l (look_o (by rw [oat_eq, h]))]
      show _ = match (if okd (look s u) 60 && okds xs 59 then some (xs.any fun y => veq y (look s u)) else none) with
        | some b => R.ok (EV.bl b) s
        | none => .stuck
      cases okd (look s u) 60 && okds xs 59 <;> simp
    | dct f kvs =>
      show (if isKey f u then R.ok (EV.bl (dget kvs u).isSome) s else .stuck) = match (if isKey f u then some (dget kvs u).isSome else none) with
        | some b => R.ok (EV.bl b) s
        | none => .stuck
      cases isKey f u <;> rfl
theorem nin_obj {n : Nat} : cmpf .nin u (.obj n) s = match (oat s n).bind (obIn s u) with
    | some b => .ok (.bl (!b)) s
    | none => .stuck := by
  show (match odct s (.obj n) with
    | some (f, kvs) => if isKey f u then R.ok (EV.bl (!(dget kvs u).isSome)) s else .stuck
    | none => memf true u (.obj n) s) = _
  rw [odct_obj]
  cases h : oat s n with
  | none =>
    show memf true u (.obj n) s = .stuck
    unfold memf
    rw [look_n (by
      cases e : olst s n with
      | none => rfl
      | some xs => rw [olst_oat e] at h; cases h)]
  | some o =>
    cases o with
    | lst xs =>
      show memf true u (.obj n) s = _
      rw [memf_l (look_o (by rw [oat_eq, h]))]
      show _ = match (if okd (look s u) 60 && okds xs 59 then some (xs.any fun y => veq y (look s u)) else none) with
        | some b => R.ok (EV.bl (!b)) s
        | none => .stuck
      cases okd (look s u) 60 && okds xs 59 <;> simp
    | dct f kvs =>
      show (if isKey f u then R.ok (EV.bl (!(dget kvs u).isSome)) s else .stuck) = match (if isKey f u then some (dget kvs u).isSome else none) with
        | some b => R.ok (EV.bl (!b)) s
        | none => .stuck
      cases isKey f u <;> rfl
@[simp] theorem wc_inn {n : Nat} : Wp (cmpf .inn u (.obj n) s) Q ↔ Opt ((oat s n).bind (obIn s u)) fun b => Q (.bl b) s := by
  rw [inn_obj]
  cases (oat s n).bind (obIn s u) with
  | none => exact wp_stuck
  | some b => exact wp_ok
@[simp] theorem wc_nin {n : Nat} : Wp (cmpf .nin u (.obj n) s) Q ↔ Opt ((oat s n).bind (obIn s u)) fun b => Q (.bl (!b)) s := by
  rw [nin_obj]
  cases (oat s n).bind (obIn s u) with
  | none => exact wp_stuck
  | some b => exact wp_ok
@[simp] theorem wc_innT {ys : List EV} : Wp (cmpf .inn u (.tup ys) s) Q ↔ (okd (look s u) 60 && okds ys 59) = true ∧ Q (.bl (ys.any fun y => veq y (look s u))) s := by
  show Wp (memf false u (.tup ys) s) Q ↔ _
  rw [memf_t rfl, Bool.false_xor]; exact wp_ifo
@[simp] theorem wc_ninT {ys : List EV} : Wp (cmpf .nin u (.tup ys) s) Q ↔ (okd (look s u) 60 && okds ys 59) = true ∧ Q (.bl (!ys.any fun y => veq y (look s u))) s := by
  show Wp (memf true u (.tup ys) s) Q ↔ _
  rw [memf_t rfl, Bool.true_xor]; exact wp_ifo
@[simp] theorem wc_innL {ys : List EV} : Wp (cmpf .inn u (.lst ys) s) Q ↔ (okd (look s u) 60 && okds ys 59) = true ∧ Q (.bl (ys.any fun y => veq y (look s u))) s := by
  show Wp (memf false u (.lst ys) s) Q ↔ _
  rw [memf_l rfl, Bool.false_xor]; exact wp_ifo
@[simp] theorem wc_ninL {ys : List EV} : Wp (cmpf .nin u (.lst ys) s) Q ↔ (okd (look s u) 60 && okds ys 59) = true ∧ Q (.bl (!ys.any fun y => veq y (look s u))) s := by
  show Wp (memf true u (.lst ys) s) Q ↔ _
  rw [memf_l rfl, Bool.true_xor]; exact wp_ifo
@[simp] theorem wc_ltT : Wp (cmpf .lt (.tup x) (.tup y) s) Q ↔ ordOk (.tup x) (.tup y) = true ∧ Q (.bl (vlt (.tup x) (.tup y))) s := wp_ifo
@[simp] theorem wc_gtT : Wp (cmpf .gt (.tup x) (.tup y) s) Q ↔ ordOk (.tup x) (.tup y) = true ∧ Q (.bl (vlt (.tup y) (.tup x))) s := wp_ifo
@[simp] theorem p_dict {n : Bool} : Wp (primf (.dict n) [.lst x] s) Q ↔ Opt (pairs n x) fun kvs => Q (.obj s.length) (s ++ [Ob.dct n (dmake kvs)]) := by
  show Wp (match pairs n x with
    | some kvs => .ok (.obj s.length) (s ++ [Ob.dct n (dmake kvs)])
    | none => .stuck) Q ↔ _
  cases pairs n x <;> (first | exact Iff.rfl | exact wp_ok | exact wp_stuck | exact wp_exc | exact wps_none)
@[simp] theorem p_sorted : Wp (primf .sorted [.lst x] s) Q ↔ srtOk x = true ∧ Q (.lst (vsort x)) s := wp_ifo
@[simp] theorem p_get2 {n : Nat} : Wp (primf .get2 [.obj n, u, v] s) Q ↔ Opt ((oat s n).bind obDct) fun p => isKey p.1 u = true ∧ Q ((dget p.2 u).getD v) s := by
  show Wp (match odct s (.obj n) with
    | some (f, kvs) => if isKey f u then .ok ((dget kvs u).getD v) s else .stuck
    | none => .stuck) Q ↔ _
  rw [odct_obj]
  rcases (oat s n).bind obDct with _ | ⟨f, kvs⟩
  · (first | exact Iff.rfl | exact wp_ok | exact wp_stuck | exact wp_exc | exact wps_none)
  · exact wp_ifo
@[simp] theorem mok_get2 {n : Nat} : mok s (.obj n) .get2 = ((oat s n).bind obDct).isSome := by
  show (odct s (.obj n)).isSome = _
  rw [odct_obj]
@[simp] theorem mok_append {n : Nat} : mok s (.obj n) .append = (olst s n).isSome := by
  show (match look s (.obj n) with
    | .lst _ => true
    | _ => false) = _
  cases h : olst s n with
  | none => rw [look_n h]; rfl
  | some xs => rw [look_o (olst_iff.mp h)]; rfl
@[simp] theorem p_len_tup : primf .len [.tup x] s = .ok (.int x.length) s := rfl
@[simp] theorem p_len_lst : primf .len [.lst x] s = .ok (.int x.length) s := rfl
@[simp] theorem p_tup_tup : primf .tup [.tup x] s = .ok (.tup x) s := rfl
@[simp] theorem p_tup_lst : primf .tup [.lst x] s = .ok (.tup x) s := rfl
@[simp] theorem p_lst_tup : primf .lst [.tup x] s = .ok (.lst x) s := rfl
@[simp] theorem p_lst_lst : primf .lst [.lst x] s = .ok (.lst x) s := rfl
@[simp] theorem p_lst_scr : primf .lst [.scr x] s = .ok (.lst x) s := rfl
@[simp] theorem p_int : primf .int [.int i] s = .ok (.int i) s := rfl
@[simp] theorem p_abs : primf .abs [.int i] s = .ok (.int (if i < 0 then -i else i)) s := rfl
@[simp] theorem p_max : primf .max2 [.int i, .int j] s = .ok (.int (if j > i then j else i)) s := rfl
@[simp] theorem p_min : primf .min2 [.int i, .int j] s = .ok (.int (if j < i then j else i)) s := rfl
@[simp] theorem p_isTup : primf .isTup [.tup x] s = .ok (.bl true) s := rfl
@[simp] theorem p_isBool : primf .isBool [.bl a] s = .ok (.bl true) s := rfl
@[simp] theorem p_tup_obj {n : Nat} : Wp (primf .tup [.obj n] s) Q ↔ Opt (olst s n) fun xs => Q (.tup xs) s := by
  show Wp (tupf [.obj n] s) Q ↔ _
  cases h : olst s n with
  | none => simp [tupf, look_n h]
  | some xs => simp [tupf, look_o (olst_iff.mp h)]
/-- an object's items, a dict's keys -/
def obEls : Ob → List EV
  | .lst xs => xs
  | .dct _ kvs => kvs.map (·.1)
@[simp] theorem obEls_lst {xs : List EV} : obEls (.lst xs) = xs := rfl
@[simp] theorem obEls_dct {f : Bool} {kvs : List (EV × EV)} : obEls (.dct f kvs) = kvs.map (·.1) := rfl
theorem oat_cases {n : Nat} : (oat s n = none ∧ odct s (.obj n) = none ∧ look s (.obj n) = .obj n) ∨ (∃ xs, oat s n = some (.lst xs) ∧ odct s (.obj n) = none ∧ look s (.obj n) = .lst xs) ∨ ∃ f kvs, oat s n = some (.dct f kvs) ∧ odct s (.obj n) = some (f, kvs) := by
  rw [odct_obj]
  cases h : oat s n with
  | none => exact .inl ⟨rfl, rfl, look_n (by
      cases e : olst s n with
      | none => rfl
      | some xs => rw [olst_oat e] at h; cases h)⟩
  | some o =>
    cases o with
    | lst xs => exact .inr (.inl ⟨xs, rfl, rfl, look_o (by rw [oat_eq, h])⟩)
    | dct f kvs => exact .inr (.inr ⟨f, kvs, rfl, rfl⟩)
@[simp] theorem p_len_obj {n : Nat} : Wp (primf .len [.obj n] s) Q ↔ Opt (oat s n) fun o => Q (.int (obEls o).length) s := by
  show Wp (lenf [.obj n] s) Q ↔ _
  unfold lenf
  rcases oat_cases (s := s) (n := n) with ⟨h1, h2, h3⟩ | ⟨xs, h1, h2, h3⟩ | ⟨f, kvs, h1, h2⟩
  · simp only [h1, h2, h3]; exact wp_stuck
  · simp only [h1, h2, h3]; exact wp_ok
  · simp only [h1, h2]; simp
@[simp] theorem p_lst_obj {n : Nat} : Wp (primf .lst [.obj n] s) Q ↔ Opt (oat s n) fun o => Q (.lst (obEls o)) s := by
  show Wp (lstf [.obj n] s) Q ↔ _
  unfold lstf
  rcases oat_cases (s := s) (n := n) with ⟨h1, h2, h3⟩ | ⟨xs, h1, h2, h3⟩ | ⟨f, kvs, h1, h2⟩
  · simp only [h1, h2, h3]; exact wp_stuck
  · simp only [h1, h2, h3]; exact wp_ok
  · simp only [h1, h2]; simp
@[simp] theorem p_sorted_obj {n : Nat} : Wp (primf .sorted [.obj n] s) Q ↔ Opt (oat s n) fun o => srtOk (obEls o) = true ∧ Q (.lst (vsort (obEls o))) s := by
  show Wp (sortf [.obj n] s) Q ↔ _
  unfold sortf
  rcases oat_cases (s := s) (n := n) with ⟨h1, h2, h3⟩ | ⟨xs, h1, h2, h3⟩ | ⟨f, kvs, h1, h2⟩
  · simp only [h1, h2, h3]; exact wp_stuck
  · simp only [h1, h2, h3]; exact wp_ifo
  · simp only [h1, h2]; exact wp_ifo
@[simp] theorem p_repr : Wp (primf .repr [v] s) Q ↔ (okd (look s v) 60 && (pd (look s v)).showable && decide (rlen (look s v) ≤ big)) = true ∧ Q (.str (shw (look s v))) s := wp_ifo
@[simp] theorem p_min1 : Wp (primf .min1 [.lst (v :: x)] s) Q ↔ alkOk (v :: x) = true ∧ Q (vmin v x) s := wp_ifo
@[simp] theorem p_max1 : Wp (primf .max1 [.lst (v :: x)] s) Q ↔ alkOk (v :: x) = true ∧ Q (vmax v x) s := wp_ifo
@[simp] theorem p_min1_obj {n : Nat} : Wp (primf .min1 [.obj n] s) Q ↔ Opt (olst s n) fun xs => alkOk xs = true ∧ Opt xs.head? fun y => Q (vmin y xs.tail) s := by
  show Wp (min1f [.obj n] s) Q ↔ _
  unfold min1f
  cases h : olst s n with
  | none => simp only [look_n h]; exact wp_stuck
  | some xs =>
    simp only [look_o (olst_iff.mp h)]
    cases xs with
    | nil => simp
    | cons y ys => exact wp_ifo.trans (by simp)
@[simp] theorem p_append {n : Nat} : Wp (primf .append [.obj n, v] s) Q ↔ Opt (olst s n) fun xs => xs.length < big ∧ Q .non (s.set n (.lst (xs ++ [v]))) := by
  show Wp (appendf [.obj n, v] s) Q ↔ _
  cases h : olst s n with
  | none =>
    cases h2 : s[n]? with
    | none => simp [appendf, h2]
    | some o =>
      cases o with
      | dct _ _ => simp [appendf, h2]
      | lst xs => rw [olst_iff.mpr h2] at h; cases h
  | some xs =>
    have e : appendf [.obj n, v] s = if xs.length < big then .ok .non (s.set n (.lst (xs ++ [v]))) else .stuck := by simp [appendf, olst_iff.mp h]
    rw [e]; exact wp_ifo
@[simp] theorem t_obj {n : Nat} : tyn s (.obj n) = (olst s n).map fun _ => 5 := by
  cases h : olst s n with
  | some xs => simp [tyn, olst_iff.mp h]
  | none =>
    cases h2 : s[n]? with
    | none => simp [tyn, h2]
    | some o => cases o with
      | lst xs => rw [olst_iff.mpr h2] at h; cases h
      | dct _ _ => simp [tyn, h2]
@[simp] theorem w_tup {Q : Its → Sto → Prop} : Wp (walked (.tup x) s) Q ↔ Q (.st x) s := by first | exact Iff.rfl | exact wp_ok | exact wp_stuck | exact wp_exc | exact wps_none
@[simp] theorem w_lst {Q : Its → Sto → Prop} : Wp (walked (.lst x) s) Q ↔ Q (.st x) s := by first | exact Iff.rfl | exact wp_ok | exact wp_stuck | exact wp_exc | exact wps_none
@[simp] theorem isNone_non : isNone .non = true := rfl
@[simp] theorem isNone_int : isNone (.int i) = false := rfl
@[simp] theorem isNone_tup : isNone (.tup x) = false := rfl
@[simp] theorem isNone_lst : isNone (.lst x) = false := rfl
@[simp] theorem isNone_str : isNone (.str X) = false := rfl
@[simp] theorem isNone_bl : isNone (.bl a) = false := rfl
@[simp] theorem isNone_obj {n : Nat} : isNone (.obj n) = false := rfl
end
/-! ### the rolls -/
def b_roll : Sm :=
  (.seq (.ife (.cmp .gt (.idx (.var 0) (.cst (.int 0))) (.cst (.int 0)))
  (.seq (.asg (.var 3) (.bin .mod (.prim .int (.cons (.idx (.var 0) (.cst (.int 0))) .nil)) (.var 1))) (.seq (.asg (.sub (.var 0) (.cst (.int 0))) (.bin .fdiv (.idx (.var 0) (.cst (.int 0))) (.var 1))) (.seq (.ret (.var 3)) .skip)))
  .skip) (.seq (.asg (.sub (.var 0) (.cst (.int 1))) (.bin .mod (.prim .int (.cons (.bin .add (.bin .mul (.idx (.var 0) (.cst (.int 1))) (.cst (.int 31051))) (.cst (.int 7993))) .nil)) (.cst (.int 2147483543)))) (.seq (.asg (.var 2) (.bin .mod (.prim .int (.cons (.bin .mul (.idx (.var 0) (.cst (.int 1))) (.bin .add (.idx (.var 0) (.cst (.int 1))) (.cst (.int 229)))) .nil)) (.cst (.int 2147483587)))) (.seq (.ret (.bin .mod (.prim .int (.cons (.bin .fdiv (.var 2) (.cst (.int 821))) .nil)) (.var 1))) .skip))))
def d_roll : Df := ⟨2, 4, b_roll⟩
def b_some (j : Nat) : Sm := (.seq (.ret (.idx (.var 1) (.call j (.cons (.var 0) (.cons (.prim .len (.cons (.var 1) .nil)) .nil))))) .skip)
def d_some (j : Nat) : Df := ⟨2, 2, b_some j⟩
/-- the rolls' object -/
def Cup (s : Sto) (n : Nat) : Prop := ∃ a b : Int, olst s n = some [.int a, .int b]
theorem ix0 {a b : EV} : at_ [a, b] 0 = some a := rfl
theorem ix1 {a b : EV} : at_ [a, b] 1 = some b := rfl
theorem roll_wp {T : List Df} {G : Nat → Option EV} {fu k i n : Nat} {m : Int} {s : Sto} {Q : EV → Sto → Prop} (hT : T[i]? = some d_roll) (hc : Cup s n) (h0 : 0 < m) (h1 : m < 1073741824)
    (h : ∀ r a b : Int, 0 ≤ r → r < m → Q (.int r) (s.set n (.lst [.int a, .int b]))) : Wp (mean T G fu (k + 1) i [.obj n, .int m] s) Q := by
  obtain ⟨a, b, hs⟩ := hc
  have hn : n < s.length := (List.getElem?_eq_some_iff.mp (olst_iff.mp hs)).1
  refine mean_wp hT rfl ?_
  show WpS (exec _ b_roll [some (.obj n), some (.int m), none, none] s) _
  have e0 : ixn 2 0 = some 0 := rfl
  have e1 : ixn 2 1 = some 1 := rfl
  have e2 : ∀ xs : List EV, olst (s.set n (.lst xs)) n = some xs := fun x => olst_iff.mpr (List.getElem?_set_self hn)
  simp [b_roll, olst_oat hs, ix0]
  refine br_if (fun ha => ?_) fun ha => ?_
  · simp [olst_oat hs, ix0, ix1, h0, h1, e0, e1, e2, fun xs => olst_oat (e2 xs)]
    exact h _ _ _ (Int.emod_nonneg _ (by omega)) (Int.emod_lt_of_pos _ h0)
  · simp [olst_oat hs, ix0, ix1, h0, h1, e0, e1, e2, fun xs => olst_oat (e2 xs)]
    refine ⟨.inl ?_, h _ _ _ (Int.emod_nonneg _ (by omega)) (Int.emod_lt_of_pos _ h0)⟩
    have := Int.emod_nonneg (b * 31051 + 7993) (b := 2147483543) (by omega)
    have := Int.emod_lt_of_pos (b * 31051 + 7993) (b := 2147483543) (by omega)
    omega
theorem some_wp {T : List Df} {G : Nat → Option EV} {fu k i j n : Nat} {xs : List EV} {s : Sto} {Q : EV → Sto → Prop} (hT : T[i]? = some (d_some j)) (hT2 : T[j]? = some d_roll) (hc : Cup s n) (h0 : xs ≠ []) (h1 : xs.length < 1073741824)
    (h : ∀ x, x ∈ xs → ∀ a b : Int, Q x (s.set n (.lst [.int a, .int b]))) : Wp (mean T G fu (k + 2) i [.obj n, .lst xs] s) Q := by
  refine mean_wp hT rfl ?_
  show WpS (exec _ (b_some j) [some (.obj n), some (.lst xs)] s) _
  have hl : 0 < xs.length := List.length_pos_iff.mpr h0
  simp [b_some]
  refine roll_wp hT2 hc (by omega) (by omega) fun r a b h2 h3 => ?_
  simp
  obtain ⟨q, rfl⟩ := Int.eq_ofNat_of_zero_le h2
  have hq : q < xs.length := by omega
  have e : at_ xs (q : Int) = some xs[q] := by rw [at_nat hq, List.getElem?_eq_getElem hq]
  rw [e]
  exact h _ (List.getElem_mem hq) a b
theorem some_int {T : List Df} {G : Nat → Option EV} {fu k i j n : Nat} {xs : List EV} {s : Sto} {Q : EV → Sto → Prop} (p : Int → Prop) (hT : T[i]? = some (d_some j)) (hT2 : T[j]? = some d_roll) (hc : Cup s n) (h0 : xs ≠ []) (h1 : xs.length < 1073741824)
    (hp : ∀ x ∈ xs, ∃ i, x = .int i ∧ p i) (h : ∀ i : Int, p i → ∀ a b : Int, Q (.int i) (s.set n (.lst [.int a, .int b]))) : Wp (mean T G fu (k + 2) i [.obj n, .lst xs] s) Q :=
  some_wp hT hT2 hc h0 h1 fun x hx a b => by
    obtain ⟨i, rfl, hi⟩ := hp x hx
    exact h i hi a b
theorem some_tup {T : List Df} {G : Nat → Option EV} {fu k i j n : Nat} {xs : List EV} {s : Sto} {Q : EV → Sto → Prop} (p : List EV → Prop) (hT : T[i]? = some (d_some j)) (hT2 : T[j]? = some d_roll) (hc : Cup s n) (h0 : xs ≠ []) (h1 : xs.length < 1073741824)
    (hp : ∀ x ∈ xs, ∃ i, x = .tup i ∧ p i) (h : ∀ i : List EV, p i → ∀ a b : Int, Q (.tup i) (s.set n (.lst [.int a, .int b]))) : Wp (mean T G fu (k + 2) i [.obj n, .lst xs] s) Q :=
  some_wp hT hT2 hc h0 h1 fun x hx a b => by
    obtain ⟨i, rfl, hi⟩ := hp x hx
    exact h i hi a b
def b_cup : Sm :=
  (.seq (.asg (.var 1) (.prim .abs (.cons (.idx (.bin .add (.prim .lst (.cons (.var 0) .nil)) (.lst false (.cons (.cst (.int 0)) .nil))) (.cst (.int 0))) .nil))) (.seq (.ret (.lst true (.cons (.ite (.cmp .ge (.var 1) (.bin .pow (.cst (.int 10)) (.cst (.int 18)))) (.bin .fdiv (.var 1) (.cst (.int 67))) (.cst (.int 0))) (.cons (.bin .add (.bin .mod (.prim .int (.cons (.bin .add (.bin .mul (.var 1) (.cst (.int 277))) (.cst (.int 2609))) .nil)) (.cst (.int 2077503167))) (.cst (.int 163))) .nil)))) .skip))
def d_cup : Df := ⟨1, 2, b_cup⟩
theorem cup_wp {T : List Df} {G : Nat → Option EV} {fu k i : Nat} {ns : List Int} {s : Sto} {Q : EV → Sto → Prop} (hT : T[i]? = some d_cup) (hn : ns.length ≤ 63)
    (h : ∀ a b : Int, Q (.obj s.length) (s ++ [.lst [.int a, .int b]])) : Wp (mean T G fu (k + 1) i [.scr (ns.map .int)] s) Q := by
  refine mean_wp hT rfl ?_
  show WpS (exec _ b_cup [some (.scr (ns.map .int)), none] s) _
  have e0 : ∃ c : Int, at_ (ns.map EV.int ++ [.int 0]) 0 = some (.int c) := by
    cases ns with
    | nil => exact ⟨0, rfl⟩
    | cons n ns => exact ⟨n, (at_nat (n := 0) (by simp)).trans rfl⟩
  obtain ⟨c, e0⟩ := e0
  have e1 : ns.length + 1 ≤ big := by unfold big; omega
  simp [b_cup, e0, e1]
  exact br_if (fun _ => by simp; exact h _ _) fun _ => by simp; exact h _ _
/-! ### data -/
mutual
theorem okd_mono : ∀ (v : EV) (n m : Nat), okd v n = true → n ≤ m → okd v m = true
  | .non, _, _, _, _ => by unfold okd; rfl
  | .bl _, _, _, _, _ => by unfold okd; rfl
  | .int _, _, _, _, _ => by unfold okd; rfl
  | .str _, _, _, _, _ => by unfold okd; rfl
  | .tup xs, n, m, h, hm => by
    cases n with
    | zero => unfold okd at h; cases h
    | succ n => cases m with
      | zero => omega
      | succ m => unfold okd at h ⊢; exact okds_mono xs n m h (by omega)
  | .lst xs, n, m, h, hm => by
    cases n with
    | zero => unfold okd at h; cases h
    | succ n => cases m with
      | zero => omega
      | succ m => unfold okd at h ⊢; exact okds_mono xs n m h (by omega)
  | .obj _, _, _, h, _ => by unfold okd at h; cases h
  | .scr _, _, _, h, _ => by unfold okd at h; cases h
theorem okds_mono : ∀ (v : List EV) (n m : Nat), okds v n = true → n ≤ m → okds v m = true
  | [], _, _, _, _ => by unfold okds; rfl
  | x :: xs, n, m, h, hm => by
    unfold okds at h ⊢
    rw [Bool.and_eq_true] at h ⊢
    exact ⟨okd_mono x n m h.1 hm, okds_mono xs n m h.2 hm⟩
end
mutual
theorem veq_refl : ∀ (v : EV) (n : Nat), okd v n = true → veq v v = true
  | .non, _, _ => by unfold veq; rfl
  | .bl _, _, _ => by unfold veq; simp
  | .int _, _, _ => by unfold veq; simp
  | .str _, _, _ => by unfold veq; simp
  | .tup xs, n, h => by
    cases n with
    | zero => unfold okd at h; cases h
    | succ n => unfold okd at h; unfold veq; exact veqs_refl xs n h
  | .lst xs, n, h => by
    cases n with
    | zero => unfold okd at h; cases h
    | succ n => unfold okd at h; unfold veq; exact veqs_refl xs n h
  | .obj _, _, h => by unfold okd at h; cases h
  | .scr _, _, h => by unfold okd at h; cases h
theorem veqs_refl : ∀ (v : List EV) (n : Nat), okds v n = true → veqs v v = true
  | [], _, _ => by unfold veqs; rfl
  | x :: xs, n, h => by
    unfold okds at h
    rw [Bool.and_eq_true] at h
    unfold veqs
    rw [veq_refl x n h.1, veqs_refl xs n h.2]
    rfl
end
section
variable {n : Nat} {i j : Int} {a b : Bool} {X Y : Str} {x y : List EV} {u v : EV}
@[simp] theorem okd_non : okd .non n = true := by unfold okd; rfl
@[simp] theorem okd_bl : okd (.bl a) n = true := by unfold okd; rfl
@[simp] theorem okd_int : okd (.int i) n = true := by unfold okd; rfl
@[simp] theorem okd_str : okd (.str X) n = true := by unfold okd; rfl
@[simp] theorem okd_tupS : okd (.tup x) (n + 1) = okds x n := by
  have e : okd (.tup x) (n + 1) = okds x n := by unfold okd; rfl
  exact e
@[simp] theorem okd_lstS : okd (.lst x) (n + 1) = okds x n := by
  have e : okd (.lst x) (n + 1) = okds x n := by unfold okd; rfl
  exact e
@[simp] theorem okds_nil : okds [] n = true := by unfold okds; rfl
@[simp] theorem okds_cons : okds (u :: x) n = (okd u n && okds x n) := by
  have e : okds (u :: x) n = (okd u n && okds x n) := by rw [okds]
  exact e
@[simp] theorem veq_int : veq (.int i) (.int j) = (i == j) := by rw [veq]
@[simp] theorem veq_str : veq (.str X) (.str Y) = (X == Y) := by rw [veq]
@[simp] theorem veq_bl : veq (.bl a) (.bl b) = (a == b) := by rw [veq]
@[simp] theorem veq_non : veq .non .non = true := by rw [veq]
@[simp] theorem veq_tup : veq (.tup x) (.tup y) = veqs x y := by rw [veq]
@[simp] theorem veq_lst : veq (.lst x) (.lst y) = veqs x y := by rw [veq]
@[simp] theorem veqs_cons : veqs (u :: x) (v :: y) = (veq u v && veqs x y) := by rw [veqs]
@[simp] theorem veqs_nn : veqs [] [] = true := by rw [veqs]
@[simp] theorem veqs_nc : veqs [] (v :: y) = false := by rw [veqs] <;> simp
@[simp] theorem veqs_cn : veqs (u :: x) [] = false := by rw [veqs] <;> simp
end
theorem okds_iff {xs : List EV} {n : Nat} : okds xs n = true ↔ ∀ x ∈ xs, okd x n = true := by
  induction xs with
  | nil => unfold okds; simp
  | cons x xs ih => unfold okds; simp [ih]
theorem okd_tup {xs : List EV} {n : Nat} : okd (.tup xs) (n + 1) = true ↔ ∀ x ∈ xs, okd x n = true := by
  rw [← okds_iff]; unfold okd; (first | exact Iff.rfl | exact wp_ok | exact wp_stuck | exact wp_exc | exact wps_none)
theorem okd_lst {xs : List EV} {n : Nat} : okd (.lst xs) (n + 1) = true ↔ ∀ x ∈ xs, okd x n = true := by
  rw [← okds_iff]; unfold okd; (first | exact Iff.rfl | exact wp_ok | exact wp_stuck | exact wp_exc | exact wps_none)
theorem Wp.eq {α : Type} {r : R α} {v : α} {s : Sto} (h : Wp r fun a s' => a = v ∧ s' = s) : r = .ok v s := by
  obtain ⟨a, s', e, rfl, rfl⟩ := Wp.iff.mp h
  exact e
@[simp] theorem at1_0 {x0 : EV} : at_ [x0] 0 = some x0 := rfl
@[simp] theorem at2_0 {x0 x1 : EV} : at_ [x0, x1] 0 = some x0 := rfl
@[simp] theorem at2_1 {x0 x1 : EV} : at_ [x0, x1] 1 = some x1 := rfl
@[simp] theorem at3_0 {x0 x1 x2 : EV} : at_ [x0, x1, x2] 0 = some x0 := rfl
@[simp] theorem at3_1 {x0 x1 x2 : EV} : at_ [x0, x1, x2] 1 = some x1 := rfl
@[simp] theorem at3_2 {x0 x1 x2 : EV} : at_ [x0, x1, x2] 2 = some x2 := rfl
@[simp] theorem at4_0 {x0 x1 x2 x3 : EV} : at_ [x0, x1, x2, x3] 0 = some x0 := rfl
@[simp] theorem at4_1 {x0 x1 x2 x3 : EV} : at_ [x0, x1, x2, x3] 1 = some x1 := rfl
@[simp] theorem at4_2 {x0 x1 x2 x3 : EV} : at_ [x0, x1, x2, x3] 2 = some x2 := rfl
@[simp] theorem at4_3 {x0 x1 x2 x3 : EV} : at_ [x0, x1, x2, x3] 3 = some x3 := rfl
@[simp] theorem at5_0 {x0 x1 x2 x3 x4 : EV} : at_ [x0, x1, x2, x3, x4] 0 = some x0 := rfl
@[simp] theorem at5_1 {x0 x1 x2 x3 x4 : EV} : at_ [x0, x1, x2, x3, x4] 1 = some x1 := rfl
@[simp] theorem at5_2 {x0 x1 x2 x3 x4 : EV} : at_ [x0, x1, x2, x3, x4] 2 = some x2 := rfl
@[simp] theorem at5_3 {x0 x1 x2 x3 x4 : EV} : at_ [x0, x1, x2, x3, x4] 3 = some x3 := rfl
@[simp] theorem at5_4 {x0 x1 x2 x3 x4 : EV} : at_ [x0, x1, x2, x3, x4] 4 = some x4 := rfl
@[simp] theorem at6_0 {x0 x1 x2 x3 x4 x5 : EV} : at_ [x0, x1, x2, x3, x4, x5] 0 = some x0 := rfl
@[simp] theorem at6_1 {x0 x1 x2 x3 x4 x5 : EV} : at_ [x0, x1, x2, x3, x4, x5] 1 = some x1 := rfl
@[simp] theorem at6_2 {x0 x1 x2 x3 x4 x5 : EV} : at_ [x0, x1, x2, x3, x4, x5] 2 = some x2 := rfl
@[simp] theorem at6_3 {x0 x1 x2 x3 x4 x5 : EV} : at_ [x0, x1, x2, x3, x4, x5] 3 = some x3 := rfl
@[simp] theorem at6_4 {x0 x1 x2 x3 x4 x5 : EV} : at_ [x0, x1, x2, x3, x4, x5] 4 = some x4 := rfl
@[simp] theorem at6_5 {x0 x1 x2 x3 x4 x5 : EV} : at_ [x0, x1, x2, x3, x4, x5] 5 = some x5 := rfl
@[simp] theorem at7_0 {x0 x1 x2 x3 x4 x5 x6 : EV} : at_ [x0, x1, x2, x3, x4, x5, x6] 0 = some x0 := rfl
@[simp] theorem at7_1 {x0 x1 x2 x3 x4 x5 x6 : EV} : at_ [x0, x1, x2, x3, x4, x5, x6] 1 = some x1 := rfl
@[simp] theorem at7_2 {x0 x1 x2 x3 x4 x5 x6 : EV} : at_ [x0, x1, x2, x3, x4, x5, x6] 2 = some x2 := rfl
@[simp] theorem at7_3 {x0 x1 x2 x3 x4 x5 x6 : EV} : at_ [x0, x1, x2, x3, x4, x5, x6] 3 = some x3 := rfl
@[simp] theorem at7_4 {x0 x1 x2 x3 x4 x5 x6 : EV} : at_ [x0, x1, x2, x3, x4, x5, x6] 4 = some x4 := rfl
@[simp] theorem at7_5 {x0 x1 x2 x3 x4 x5 x6 : EV} : at_ [x0, x1, x2, x3, x4, x5, x6] 5 = some x5 := rfl
@[simp] theorem at7_6 {x0 x1 x2 x3 x4 x5 x6 : EV} : at_ [x0, x1, x2, x3, x4, x5, x6] 6 = some x6 := rfl
@[simp] theorem at8_0 {x0 x1 x2 x3 x4 x5 x6 x7 : EV} : at_ [x0, x1, x2, x3, x4, x5, x6, x7] 0 = some x0 := rfl
@[simp] theorem at8_1 {x0 x1 x2 x3 x4 x5 x6 x7 : EV} : at_ [x0, x1, x2, x3, x4, x5, x6, x7] 1 = some x1 := rfl
@[simp] theorem at8_2 {x0 x1 x2 x3 x4 x5 x6 x7 : EV} : at_ [x0, x1, x2, x3, x4, x5, x6, x7] 2 = some x2 := rfl
@[simp] theorem at8_3 {x0 x1 x2 x3 x4 x5 x6 x7 : EV} : at_ [x0, x1, x2, x3, x4, x5, x6, x7] 3 = some x3 := rfl
@[simp] theorem at8_4 {x0 x1 x2 x3 x4 x5 x6 x7 : EV} : at_ [x0, x1, x2, x3, x4, x5, x6, x7] 4 = some x4 := rfl
@[simp] theorem at8_5 {x0 x1 x2 x3 x4 x5 x6 x7 : EV} : at_ [x0, x1, x2, x3, x4, x5, x6, x7] 5 = some x5 := rfl
@[simp] theorem at8_6 {x0 x1 x2 x3 x4 x5 x6 x7 : EV} : at_ [x0, x1, x2, x3, x4, x5, x6, x7] 6 = some x6 := rfl
@[simp] theorem at8_7 {x0 x1 x2 x3 x4 x5 x6 x7 : EV} : at_ [x0, x1, x2, x3, x4, x5, x6, x7] 7 = some x7 := rfl
@[simp] theorem cuth2_1 {x0 x1 : EV} : cut [x0, x1] none (some 1) = [x0] := rfl
@[simp] theorem cutl2_1 {x0 x1 : EV} : cut [x0, x1] (some 1) none = [x1] := rfl
@[simp] theorem cuth3_1 {x0 x1 x2 : EV} : cut [x0, x1, x2] none (some 1) = [x0] := rfl
@[simp] theorem cutl3_1 {x0 x1 x2 : EV} : cut [x0, x1, x2] (some 1) none = [x1, x2] := rfl
@[simp] theorem cuth3_2 {x0 x1 x2 : EV} : cut [x0, x1, x2] none (some 2) = [x0, x1] := rfl
@[simp] theorem cutl3_2 {x0 x1 x2 : EV} : cut [x0, x1, x2] (some 2) none = [x2] := rfl
@[simp] theorem cuth4_1 {x0 x1 x2 x3 : EV} : cut [x0, x1, x2, x3] none (some 1) = [x0] := rfl
@[simp] theorem cutl4_1 {x0 x1 x2 x3 : EV} : cut [x0, x1, x2, x3] (some 1) none = [x1, x2, x3] := rfl
@[simp] theorem cuth4_2 {x0 x1 x2 x3 : EV} : cut [x0, x1, x2, x3] none (some 2) = [x0, x1] := rfl
@[simp] theorem cutl4_2 {x0 x1 x2 x3 : EV} : cut [x0, x1, x2, x3] (some 2) none = [x2, x3] := rfl
@[simp] theorem cuth4_3 {x0 x1 x2 x3 : EV} : cut [x0, x1, x2, x3] none (some 3) = [x0, x1, x2] := rfl
@[simp] theorem cutl4_3 {x0 x1 x2 x3 : EV} : cut [x0, x1, x2, x3] (some 3) none = [x3] := rfl
@[simp] theorem cuth5_1 {x0 x1 x2 x3 x4 : EV} : cut [x0, x1, x2, x3, x4] none (some 1) = [x0] := rfl
@[simp] theorem cutl5_1 {x0 x1 x2 x3 x4 : EV} : cut [x0, x1, x2, x3, x4] (some 1) none = [x1, x2, x3, x4] := rfl
@[simp] theorem cuth5_2 {x0 x1 x2 x3 x4 : EV} : cut [x0, x1, x2, x3, x4] none (some 2) = [x0, x1] := rfl
@[simp] theorem cutl5_2 {x0 x1 x2 x3 x4 : EV} : cut [x0, x1, x2, x3, x4] (some 2) none = [x2, x3, x4] := rfl
@[simp] theorem cuth5_3 {x0 x1 x2 x3 x4 : EV} : cut [x0, x1, x2, x3, x4] none (some 3) = [x0, x1, x2] := rfl
@[simp] theorem cutl5_3 {x0 x1 x2 x3 x4 : EV} : cut [x0, x1, x2, x3, x4] (some 3) none = [x3, x4] := rfl
@[simp] theorem cuth5_4 {x0 x1 x2 x3 x4 : EV} : cut [x0, x1, x2, x3, x4] none (some 4) = [x0, x1, x2, x3] := rfl
@[simp] theorem cutl5_4 {x0 x1 x2 x3 x4 : EV} : cut [x0, x1, x2, x3, x4] (some 4) none = [x4] := rfl
@[simp] theorem cuth6_1 {x0 x1 x2 x3 x4 x5 : EV} : cut [x0, x1, x2, x3, x4, x5] none (some 1) = [x0] := rfl
@[simp] theorem cutl6_1 {x0 x1 x2 x3 x4 x5 : EV} : cut [x0, x1, x2, x3, x4, x5] (some 1) none = [x1, x2, x3, x4, x5] := rfl
@[simp] theorem cuth6_2 {x0 x1 x2 x3 x4 x5 : EV} : cut [x0, x1, x2, x3, x4, x5] none (some 2) = [x0, x1] := rfl
@[simp] theorem cutl6_2 {x0 x1 x2 x3 x4 x5 : EV} : cut [x0, x1, x2, x3, x4, x5] (some 2) none = [x2, x3, x4, x5] := rfl
@[simp] theorem cuth6_3 {x0 x1 x2 x3 x4 x5 : EV} : cut [x0, x1, x2, x3, x4, x5] none (some 3) = [x0, x1, x2] := rfl
@[simp] theorem cutl6_3 {x0 x1 x2 x3 x4 x5 : EV} : cut [x0, x1, x2, x3, x4, x5] (some 3) none = [x3, x4, x5] := rfl
@[simp] theorem cuth6_4 {x0 x1 x2 x3 x4 x5 : EV} : cut [x0, x1, x2, x3, x4, x5] none (some 4) = [x0, x1, x2, x3] := rfl
@[simp] theorem cutl6_4 {x0 x1 x2 x3 x4 x5 : EV} : cut [x0, x1, x2, x3, x4, x5] (some 4) none = [x4, x5] := rfl
@[simp] theorem cuth6_5 {x0 x1 x2 x3 x4 x5 : EV} : cut [x0, x1, x2, x3, x4, x5] none (some 5) = [x0, x1, x2, x3, x4] := rfl
@[simp] theorem cutl6_5 {x0 x1 x2 x3 x4 x5 : EV} : cut [x0, x1, x2, x3, x4, x5] (some 5) none = [x5] := rfl
/-! ### walks over written lists -/
section
variable {C : Ct} {ρ : En} {s : Sto} {Q : EV → Sto → Prop}
@[simp] theorem cst_nil {body : EV → Sto → R (Option EV)} {P : List EV → Sto → Prop} : Wp (cst body [] s) P ↔ P [] s := by first | exact Iff.rfl | exact wp_ok | exact wp_stuck | exact wp_exc | exact wps_none
@[simp] theorem cst_cons {body : EV → Sto → R (Option EV)} {x : EV} {xs : List EV} {P : List EV → Sto → Prop} : Wp (cst body (x :: xs) s) P ↔ Wp (body x s) fun o s1 => Wp (cst body xs s1) fun r s2 => P (o.toList ++ r) s2 := by
  show Wp (R.bind _ _) _ ↔ _
  rw [wp_bind]
  exact Wp.congr fun a s1 => wp_bind.trans (Wp.congr fun _ _ => wp_ok)
theorem wp_compS {t : Tg} {sr : Src} {c : Op} {e : Ex} {own : List Nat} (h : Wp (denS C sr ρ s) fun its s1 => Opt (asSt its) fun xs => Wp (cst (cbd C t c e (wipe ρ own)) xs s1) fun zs s2 => Q (.lst zs) s2) : Wp (den C (.comp false t sr c e own) ρ s) Q := by
  show Wp (R.bind _ _) _
  rw [wp_bind]
  refine h.mono fun its s1 h => ?_
  obtain ⟨xs, e, h⟩ := opt_ex.mp h
  cases its with
  | ob _ => cases e
  | st xs' =>
  cases e
  show Wp (R.bind (R.nox (cst (cbd C t c _ (wipe ρ own)) xs s1)) _) Q
  rw [wp_bind, wp_nox]
  exact (show Wp _ _ from h).mono fun _ _ z => wp_ok.mpr z
variable {D : Fl → Sto → Prop}
/-- a for's turn -/
def fbd (C : Ct) (t : Tg) (b : Sm) (x : EV) (ρ : En) (s : Sto) : RS := (asgT C t x ρ s).nox.at ρ fun ρ2 s3 => exec C b ρ2 s3
@[simp] theorem wps_fbd {t : Tg} {b : Sm} {x : EV} : WpS (fbd C t b x ρ s) D ↔ Wp (asgT C t x ρ s) fun ρ2 s3 => WpS (exec C b ρ2 s3) D := by
  unfold fbd
  rw [wps_at, wp_nox]
/-- behind a turn of a written walk -/
def Ln (body : EV → En → Sto → RS) (xs : List EV) (D : Fl → Sto → Prop) : Fl → Sto → Prop
  | .nx ρ, s => WpS (fst_ body xs ρ s) D
  | .ct ρ, s => WpS (fst_ body xs ρ s) D
  | .bk ρ, s => D (.nx ρ) s
  | f, s => D f s
@[simp] theorem ln_nx {body : EV → En → Sto → RS} {xs : List EV} : Ln body xs D (.nx ρ) s ↔ WpS (fst_ body xs ρ s) D := by first | exact Iff.rfl | exact wp_ok | exact wp_stuck | exact wp_exc | exact wps_none
@[simp] theorem ln_ct {body : EV → En → Sto → RS} {xs : List EV} : Ln body xs D (.ct ρ) s ↔ WpS (fst_ body xs ρ s) D := by first | exact Iff.rfl | exact wp_ok | exact wp_stuck | exact wp_exc | exact wps_none
@[simp] theorem ln_bk {body : EV → En → Sto → RS} {xs : List EV} : Ln body xs D (.bk ρ) s ↔ D (.nx ρ) s := by first | exact Iff.rfl | exact wp_ok | exact wp_stuck | exact wp_exc | exact wps_none
@[simp] theorem ln_rt {body : EV → En → Sto → RS} {xs : List EV} {v : EV} : Ln body xs D (.rt v) s ↔ D (.rt v) s := by first | exact Iff.rfl | exact wp_ok | exact wp_stuck | exact wp_exc | exact wps_none
@[simp] theorem fst_nil {body : EV → En → Sto → RS} : WpS (fst_ body [] ρ s) D ↔ D (.nx ρ) s := wps_some.trans ⟨fun h => h.2, fun h => ⟨trivial, h⟩⟩
@[simp] theorem fst_cons {body : EV → En → Sto → RS} {x : EV} {xs : List EV} : WpS (fst_ body (x :: xs) ρ s) D ↔ WpS (body x ρ s) (Ln body xs D) := by
  unfold fst_
  cases h : body x ρ s with
  | none => exact wps_none.trans wps_none.symm
  | some p =>
    obtain ⟨f, s'⟩ := p
    cases f with
    | nx ρ' => exact ⟨fun z => wps_some.mpr ⟨trivial, z⟩, fun z => (wps_some.mp z).2⟩
    | ct ρ' => exact ⟨fun z => wps_some.mpr ⟨trivial, z⟩, fun z => (wps_some.mp z).2⟩
    | bk ρ' => exact ⟨fun z => wps_some.mpr ⟨trivial, (wps_some.mp z).2⟩, fun z => wps_some.mpr ⟨trivial, (wps_some.mp z).2⟩⟩
    | rt v => exact ⟨fun z => wps_some.mpr ⟨trivial, (wps_some.mp z).2⟩, fun z => wps_some.mpr ⟨trivial, (wps_some.mp z).2⟩⟩
    | rs _ _ _ => exact ⟨fun z => (wps_some.mp z).1.elim, fun z => (wps_some.mp z).1.elim⟩
theorem wps_forS {t : Tg} {sr : Src} {b : Sm} (h : Wp (denS C sr ρ s) fun its s1 => Opt (asSt its) fun xs => WpS (fst_ (fbd C t b) xs ρ s1) D) : WpS (exec C (.for_ t sr b) ρ s) D := by
  show WpS (R.at _ _ _) _
  rw [wps_at]
  refine h.mono fun its s1 h => ?_
  obtain ⟨xs, e, h⟩ := opt_ex.mp h
  cases its with
  | ob _ => cases e
  | st xs' => cases e; exact h
/-! ### ranges -/
@[simp] theorem w_rng {a b : Int} {P : Its → Sto → Prop} : Wp (rngf a b s) P ↔ (-(2 ^ 62) ≤ a ∧ a < 2 ^ 62 ∧ -(2 ^ 62) ≤ b ∧ b < 2 ^ 62 ∧ (b - a).toNat < big) ∧ P (.st (rngs a (b - a).toNat)) s := by unfold rngf; exact wp_ifo
theorem rngs_0 {a : Int} : rngs a 0 = [] := rfl
theorem rngs_s {a : Int} {n : Nat} : rngs a (n + 1) = .int a :: rngs (a + 1) n := by
  unfold rngs
  rw [List.range_succ_eq_map]
  simp only [List.map_cons, List.map_map]
  refine congr (congrArg _ (by simp)) ?_
  apply List.map_congr_left
  intro k _
  show EV.int (a + ((k + 1 : Nat) : Int)) = EV.int (a + 1 + (k : Int))
  congr 1
  omega
end
end Pw

end
section
/-! Texts: simp rules. -/
namespace Pw
open PySem Pm
theorem str_inj {a b : List Nat} : ((⟨a.toArray⟩ : Str) == ⟨b.toArray⟩) = decide (a = b) := by
  by_cases h : a = b
  · subst h; simp
  · have : (⟨a.toArray⟩ : Str) ≠ ⟨b.toArray⟩ := fun e => h (by
      have e := congrArg Str.cps e
      simpa using e)
    simp [h, this]
def asBl : EV → Option Bool
  | .bl b => some b
  | _ => none
@[simp] theorem asBl_bl {b : Bool} : asBl (.bl b) = some b := rfl
def asLst : EV → Option (List EV)
  | .lst b => some b
  | _ => none
@[simp] theorem asLst_l {b : List EV} : asLst (.lst b) = some b := rfl
section
variable {s : Sto} {i j : Int} {x y : List EV} {a b c : List Nat} {k : Nat} {u v : EV} {Q : EV → Sto → Prop} {l h : Option Int}
@[simp] theorem tx_inj : tx a = tx b ↔ a = b := ⟨fun e => by
  have e : EV.str ⟨a.toArray⟩ = EV.str ⟨b.toArray⟩ := e
  injection e with e
  have e := congrArg Str.cps e
  simpa using e, fun e => by rw [e]⟩
@[simp] theorem look_tx : look s (tx a) = tx a := rfl
@[simp] theorem truth_tx : truth s (tx a) = some (!a.isEmpty) := by
  show some ((⟨a.toArray⟩ : Str).length != 0) = _
  cases a <;> simp [Str.length]
@[simp] theorem isNone_tx : isNone (tx a) = false := rfl
@[simp] theorem okd_tx : okd (tx a) k = true := by unfold tx; exact okd_str
@[simp] theorem veq_tx : veq (tx a) (tx b) = decide (a = b) := by
  unfold tx
  rw [veq_str, str_inj]
@[simp] theorem veq_tx_non : veq (tx a) .non = false := by unfold tx; rfl
@[simp] theorem veq_non_tx : veq .non (tx a) = false := by unfold tx; rfl
@[simp] theorem veq_tx_int : veq (tx a) (.int i) = false := by unfold tx; rfl
@[simp] theorem veq_int_tx : veq (.int i) (tx a) = false := by unfold tx; rfl
@[simp] theorem veq_tx_tup : veq (tx a) (.tup x) = false := by unfold tx; rfl
@[simp] theorem veq_tup_tx : veq (.tup x) (tx a) = false := by unfold tx; rfl
@[simp] theorem veq_tup_int : veq (.tup x) (.int i) = false := by rfl
@[simp] theorem veq_int_tup : veq (.int i) (.tup x) = false := by rfl
@[simp] theorem veq_tup_non : veq (.tup x) .non = false := by rfl
@[simp] theorem veq_non_tup : veq .non (.tup x) = false := by rfl
@[simp] theorem veq_int_non : veq (.int i) .non = false := by rfl
@[simp] theorem veq_non_int : veq .non (.int i) = false := by rfl
@[simp] theorem b_addX : binf .add (tx a) (tx b) s = if a.length + b.length ≤ big then .ok (tx (a ++ b)) s else .stuck := by
  show (if (⟨a.toArray⟩ : Str).length + (⟨b.toArray⟩ : Str).length ≤ big then R.ok (EV.str ((⟨a.toArray⟩ : Str) ++ ⟨b.toArray⟩)) s else .stuck) = _
  have e : ((⟨a.toArray⟩ : Str) ++ ⟨b.toArray⟩) = ⟨(a ++ b).toArray⟩ := by
    show (⟨a.toArray ++ b.toArray⟩ : Str) = _
    rw [List.append_toArray]
  rw [e]
  rfl
@[simp] theorem b_mulX : binf .mul (tx a) (.int j) s = if j < 1000001 ∧ -1000001 < j ∧ a.length * j.toNat ≤ big then .ok (tx (List.replicate j.toNat a).flatten) s else .stuck := rfl
@[simp] theorem b_mulT : binf .mul (.tup x) (.int j) s = if 2 ≤ j ∧ j ≤ 100000 ∧ x.isEmpty = false ∧ x.length ≤ 100 then .ok (.tup (List.replicate j.toNat x).flatten) s else .stuck := rfl
@[simp] theorem b_mulL : binf .mul (.lst x) (.int j) s = if 0 ≤ j ∧ j ≤ 100000 ∧ x.length ≤ 100 then .ok (.lst (List.replicate j.toNat x).flatten) s else .stuck := rfl
@[simp] theorem s_tx : slcf (tx a) l h s = .ok (tx (cut a l h)) s := rfl
@[simp] theorem p_len_tx : primf .len [tx a] s = .ok (.int a.length) s := rfl
/-- a text's signs -/
def sgs (a : List Nat) : List EV := a.map fun c => tx [c]
theorem signs_tx : signs ⟨a.toArray⟩ = sgs a := rfl
@[simp] theorem p_tup_tx : primf .tup [tx a] s = .ok (.tup (sgs a)) s := rfl
@[simp] theorem p_lst_tx : primf .lst [tx a] s = .ok (.lst (sgs a)) s := rfl
@[simp] theorem w_tx {Q : Its → Sto → Prop} : Wp (walked (tx a) s) Q ↔ Q (.st (sgs a)) s := by
  show Wp (.ok (.st (signs ⟨a.toArray⟩)) s) Q ↔ _
  exact wp_ok
@[simp] theorem t_tx : tyn s (tx a) = some 3 := rfl
theorem inn_tx : cmpf .inn (tx [k]) (tx a) s = .ok (.bl (decide (k ∈ a))) s := by
  show memf false (tx [k]) (tx a) s = _
  unfold memf
  show (match sign? (tx [k]) with
    | some c => R.ok (EV.bl (xor false (decide (c ∈ (⟨a.toArray⟩ : Str).cps.toList)))) s
    | none => .stuck) = _
  show R.ok (EV.bl (xor false (decide (k ∈ a.toArray.toList)))) s = _
  rw [Bool.false_xor]
@[simp] theorem wc_innX : Wp (cmpf .inn (tx [k]) (tx a) s) Q ↔ Q (.bl (decide (k ∈ a))) s := by rw [inn_tx]; exact wp_ok
theorem any_sgs : ((sgs a).any fun y => veq y (tx [k])) = decide (k ∈ a) := by
  unfold sgs
  induction a with
  | nil => simp
  | cons c a ih =>
    rw [List.map_cons, List.any_cons, ih, veq_tx]
    by_cases h : c = k
    · subst h; simp
    · have h' : k ≠ c := fun e => h e.symm
      simp [h, h']
theorem any_sgs0 : ((sgs a).any fun y => veq y (tx [])) = false := by
  unfold sgs
  induction a with
  | nil => simp
  | cons c a ih => rw [List.map_cons, List.any_cons, ih, veq_tx]; simp
theorem okds_sgs {n : Nat} : okds (sgs a) n = true := okds_iff.mpr fun v hv => by
  obtain ⟨c, _, rfl⟩ := List.mem_map.mp hv
  exact okd_tx
/-- a number's text -/
def itx (i : Int) : List Nat := (Str.ofString (toString i)).cps.toList
@[simp] theorem p_strI : Wp (primf .strI [.int i] s) Q ↔ i.natAbs.log2 < 1920 ∧ Q (tx (itx i)) s := by
  have e : tx (itx i) = .str (toString i : String) := by
    unfold tx itx
    show EV.str ⟨(Str.ofString (toString i)).cps.toList.toArray⟩ = EV.str (Str.ofString (toString i))
    rw [Array.toArray_toList]
  rw [e]
  exact wp_ifo
@[simp] theorem p_int_tx : Wp (primf .int [tx a] s) Q ↔ Opt (PySem.intText? ⟨a.toArray⟩) fun n => a.length ≤ 640 ∧ Q (.int n) s := by
  show Wp (match PySem.intText? ⟨a.toArray⟩ with
    | some n => if (⟨a.toArray⟩ : Str).length ≤ 640 then R.ok (EV.int n) s else .stuck
    | none => .stuck) Q ↔ _
  cases PySem.intText? ⟨a.toArray⟩ with
  | none => exact wp_stuck
  | some n => exact wp_ifo
/-- texts, joined -/
def joinL (g : List Nat) : List (List Nat) → List Nat
  | [] => []
  | [y] => y
  | y :: r => y ++ g ++ joinL g r
theorem joinL_c {g y z : List Nat} {r : List (List Nat)} : joinL g (y :: z :: r) = y ++ g ++ joinL g (z :: r) := rfl
theorem join_tx (g : List Nat) : ∀ ys : List (List Nat), Str.join ⟨g.toArray⟩ (ys.map fun y => ⟨y.toArray⟩) = ⟨(joinL g ys).toArray⟩
  | [] => rfl
  | [y] => rfl
  | y :: z :: r => by
    have ih := join_tx g (z :: r)
    rw [List.map_cons] at ih
    rw [List.map_cons, List.map_cons]
    show (⟨y.toArray⟩ : Str) ++ ⟨g.toArray⟩ ++ Str.join ⟨g.toArray⟩ (⟨z.toArray⟩ :: r.map fun y => (⟨y.toArray⟩ : Str)) = _
    rw [ih]
    show (⟨y.toArray ++ g.toArray ++ (joinL g (z :: r)).toArray⟩ : Str) = _
    rw [List.append_toArray, List.append_toArray]
    rfl
theorem texts_tx : ∀ ys : List (List Nat), textsOf (ys.map tx) = some (ys.map fun y => (⟨y.toArray⟩ : Str))
  | [] => rfl
  | y :: r => by
    show (textsOf (r.map tx)).map _ = _
    rw [texts_tx r]; rfl
theorem p_join {g : List Nat} {ys : List (List Nat)} (h : (ys.map (·.length)).sum + ys.length * g.length ≤ big) : primf .join [tx g, .lst (ys.map tx)] s = .ok (tx (joinL g ys)) s := by
  show (match textsOf (ys.map tx) with
    | some zs => if ((zs : List Str).map (fun z : Str => z.length)).sum + zs.length * (⟨g.toArray⟩ : Str).length ≤ big then R.ok (EV.str (Str.join ⟨g.toArray⟩ zs)) s else .stuck
    | none => .stuck) = _
  rw [texts_tx]
  have e : ((ys.map fun y => (⟨y.toArray⟩ : Str)).map (fun z : Str => z.length)).sum + (ys.map fun y => (⟨y.toArray⟩ : Str)).length * (⟨g.toArray⟩ : Str).length ≤ big := by
    rw [List.map_map, List.length_map]
    exact h
  simp only [e, if_true]
  rw [join_tx]
  rfl
@[simp] theorem mok_join : mok s (tx a) .join = true := rfl
@[simp] theorem mok_pop {n : Nat} : mok s (.obj n) .pop = (olst s n).isSome := by
  show (match look s (.obj n) with
    | .lst _ => true
    | _ => false) = _
  cases h : olst s n with
  | none => rw [look_n h]; rfl
  | some xs => rw [look_o (olst_iff.mp h)]; rfl
@[simp] theorem p_pop {n : Nat} : Wp (primf .pop [.obj n] s) Q ↔ Opt (olst s n) fun xs => Opt xs.getLast? fun v => Q v (s.set n (.lst xs.dropLast)) := by
  show Wp (popf [.obj n] s) Q ↔ _
  cases h : olst s n with
  | none =>
    cases h2 : s[n]? with
    | none => simp [popf, h2]
    | some o =>
      cases o with
      | dct _ _ => simp [popf, h2]
      | lst xs => rw [olst_iff.mpr h2] at h; cases h
  | some xs =>
    cases hl : xs.getLast? with
    | none =>
      have e : popf [.obj n] s = .stuck := by simp only [popf, olst_iff.mp h, hl]
      rw [e, opt_some, hl]; exact wp_stuck
    | some v =>
      have e : popf [.obj n] s = .ok v (s.set n (.lst xs.dropLast)) := by simp only [popf, olst_iff.mp h, hl]
      rw [e, opt_some, hl]; exact wp_ok
theorem bits_map : ∀ bs : List Bool, bitsOf (bs.map EV.bl) = some bs
  | [] => rfl
  | b :: bs => by
    show (bitsOf (bs.map EV.bl)).map _ = _
    rw [bits_map bs]; rfl
theorem p_all {bs : List Bool} : primf .all [.lst (bs.map EV.bl)] s = .ok (.bl (bs.all id)) s := by
  show (match bitsOf (bs.map EV.bl) with
    | some bs => R.ok (EV.bl (bs.all id)) s
    | none => .stuck) = _
  rw [bits_map]
end
section
variable {C : Ct} {ρ : En} {s : Sto} {Q : EV → Sto → Prop}
@[simp] theorem wp_chn {o p : Cop} {a b c : Ex} : Wp (den C (.chn o p a b c) ρ s) Q ↔ Wp (den C a ρ s) fun x s1 => Wp (den C b ρ s1) fun y s2 => Wp (cmpf o x y s2) fun v s3 => Opt (asBl v) fun k => Br k (Wp (den C c ρ s3) fun z s4 => Wp (cmpf p y z s4) Q) (Q (.bl false) s3) := by
  show Wp (R.bind _ _) _ ↔ _
  rw [wp_bind]
  refine Wp.congr fun x s1 => wp_bind.trans (Wp.congr fun y s2 => wp_bind.trans (Wp.congr fun v s3 => ?_))
  cases v with
  | bl k =>
    cases k with
    | true => exact wp_bind
    | false => exact wp_ok
  | _ => exact wp_stuck
@[simp] theorem wp_bad : Wp (den C .bad ρ s) Q ↔ False := wp_stuck
@[simp] theorem wps_bad {D : Fl → Sto → Prop} : WpS (exec C .bad ρ s) D ↔ False := wps_none
@[simp] theorem wp_enm {e : Ex} {Q : Its → Sto → Prop} : Wp (denS C (.enm e) ρ s) Q ↔ Wp (den C e ρ s) fun v s1 => Opt (asLst v) fun xs => Q (.st (enums 0 xs)) s1 := by
  show Wp (R.bind _ _) _ ↔ _
  rw [wp_bind]
  refine Wp.congr fun v s1 => ?_
  cases v <;> first | exact wp_ok | exact wp_stuck
end
section
variable {C : Ct} {ρ : En} {s s1 : Sto}
theorem cst_map {β : Type} {body : EV → Sto → R (Option EV)} {g : β → EV} {f : β → EV} {s : Sto} : ∀ (ds : List β), (∀ d ∈ ds, body (g d) s = .ok (some (f d)) s) → cst body (ds.map g) s = .ok (ds.map f) s
  | [], _ => rfl
  | d :: ds, h => by
    rw [List.map_cons]
    unfold cst
    rw [h d (List.mem_cons_self ..)]
    show R.bind (cst body (ds.map g) s) _ = _
    rw [cst_map ds fun y hy => h y (List.mem_cons_of_mem _ hy)]
    rfl
theorem comp_map {β : Type} {t : Tg} {sr : Src} {e : Ex} {own : List Nat} {ds : List β} (g : β → EV) (f : β → EV) (hs : denS C sr ρ s = .ok (.st (ds.map g)) s1) (hb : ∀ d ∈ ds, cbd C t .no e (wipe ρ own) (g d) s1 = .ok (some (f d)) s1) :
    den C (.comp false t sr .no e own) ρ s = .ok (.lst (ds.map f)) s1 := by
  show R.bind _ _ = _
  rw [hs]
  show R.bind (R.nox (cst (cbd C t .no _ (wipe ρ own)) (ds.map g) s1)) _ = _
  rw [cst_map (f := f) ds hb]
  rfl
end
/-! ### a sign of a text -/
theorem cut_sign {l : List Nat} (a : Nat) : cut l (some (a : Int)) (some ((a : Int) + 1)) = (l.drop a).take 1 := by
  unfold cut six
  have h1 : ¬ (a : Int) < 0 := by omega
  have h2 : ¬ (a : Int) + 1 < 0 := by omega
  simp only [h1, h2, if_false]
  have e1 : (a : Int).toNat = a := by omega
  have e2 : ((a : Int) + 1).toNat = a + 1 := by omega
  rw [e1, e2]
  by_cases h : a < l.length
  · rw [Nat.min_eq_left (by omega), Nat.min_eq_left (by omega)]
    congr 1
    omega
  · rw [Nat.min_eq_right (by omega), Nat.min_eq_right (by omega)]
    rw [List.drop_eq_nil_of_le (Nat.le_refl _), List.drop_eq_nil_of_le (by omega)]
    simp
theorem cut_part {l : List Nat} {a b : Nat} (h : b ≤ l.length) (hab : a ≤ b) : cut l (some (a : Int)) (some (b : Int)) = (l.drop a).take (b - a) := by
  unfold cut six
  have h1 : ¬ (a : Int) < 0 := by omega
  have h2 : ¬ (b : Int) < 0 := by omega
  simp only [h1, h2, if_false]
  have e1 : (a : Int).toNat = a := by omega
  have e2 : (b : Int).toNat = b := by omega
  rw [e1, e2, Nat.min_eq_left (by omega), Nat.min_eq_left (by omega)]
theorem drop_s {l r : List Nat} {a c : Nat} (h : l.drop a = c :: r) : l.drop (a + 1) = r := by
  rw [← List.drop_drop, h]; rfl
theorem drop_app {l w r : List Nat} {a : Nat} (h : l.drop a = w ++ r) : l.drop (a + w.length) = r := by
  rw [← List.drop_drop, h]; simp
/-! ### loops that go on while -/
section
variable {C : Ct} {D : Fl → Sto → Prop}
/-- behind a turn of a while -/
def Wh (I : Nat → En → Sto → Prop) (D : Fl → Sto → Prop) (m : Nat) : Fl → Sto → Prop
  | .nx ρ, s => ∃ m', m' < m ∧ I m' ρ s
  | .ct ρ, s => ∃ m', m' < m ∧ I m' ρ s
  | .bk ρ, s => D (.nx ρ) s
  | f, s => D f s
@[simp] theorem wh_nx {I : Nat → En → Sto → Prop} {m : Nat} {ρ : En} {s : Sto} : Wh I D m (.nx ρ) s ↔ ∃ m', m' < m ∧ I m' ρ s := Iff.rfl
@[simp] theorem wh_ct {I : Nat → En → Sto → Prop} {m : Nat} {ρ : En} {s : Sto} : Wh I D m (.ct ρ) s ↔ ∃ m', m' < m ∧ I m' ρ s := Iff.rfl
@[simp] theorem wh_bk {I : Nat → En → Sto → Prop} {m : Nat} {ρ : En} {s : Sto} : Wh I D m (.bk ρ) s ↔ D (.nx ρ) s := Iff.rfl
@[simp] theorem wh_rt {I : Nat → En → Sto → Prop} {m : Nat} {v : EV} {s : Sto} : Wh I D m (.rt v) s ↔ D (.rt v) s := Iff.rfl
theorem wlp_wp {c : Ex} {b : Sm} (I : Nat → En → Sto → Prop)
    (h : ∀ m ρ s, I m ρ s → Wp (den C c ρ s) fun v s1 => Opt (truth s1 v) fun t => Br t (WpS (exec C b ρ s1) (Wh I D m)) (D (.nx ρ) s1)) : ∀ (n m : Nat) (ρ : En) (s : Sto), m < n → I m ρ s → WpS (wlp (den C c) (exec C b) n ρ s) D
  | 0, m, ρ, s, hm, _ => absurd hm (Nat.not_lt_zero m)
  | n + 1, m, ρ, s, hm, hI => by
    unfold wlp
    rw [wps_at]
    refine (h m ρ s hI).mono fun v s1 q => ?_
    cases ht : truth s1 v with
    | none => rw [ht] at q; exact q.elim
    | some t =>
      rw [ht, opt_some] at q
      cases t with
      | false => rw [br_f] at q; exact wps_some.mpr ⟨trivial, q⟩
      | true =>
        rw [br_t] at q
        show WpS (match exec C b ρ s1 with
          | some (.nx ρ', s') => wlp (den C c) (exec C b) n ρ' s'
          | some (.ct ρ', s') => wlp (den C c) (exec C b) n ρ' s'
          | some (.bk ρ', s') => some (.nx ρ', s')
          | r => r) D
        cases e : exec C b ρ s1 with
        | none => rw [e] at q; exact (wps_none.mp q).elim
        | some p =>
          obtain ⟨f, s'⟩ := p
          rw [e] at q
          have q := wps_some.mp q
          cases f with
          | nx ρ' =>
            obtain ⟨m', h1, h2⟩ := q.2
            exact wlp_wp I h n m' ρ' s' (by omega) h2
          | ct ρ' =>
            obtain ⟨m', h1, h2⟩ := q.2
            exact wlp_wp I h n m' ρ' s' (by omega) h2
          | bk ρ' => exact wps_some.mpr ⟨trivial, q.2⟩
          | rt v => exact wps_some.mpr ⟨trivial, q.2⟩
          | rs _ _ _ => exact q.1.elim
/-- a while: what falls with each turn is below the fuel -/
theorem wps_whl {c : Ex} {b : Sm} {ρ : En} {s : Sto} (I : Nat → En → Sto → Prop) (m : Nat) (hm : m < C.fu) (h0 : I m ρ s)
    (h : ∀ m ρ s, I m ρ s → Wp (den C c ρ s) fun v s1 => Opt (truth s1 v) fun t => Br t (WpS (exec C b ρ s1) (Wh I D m)) (D (.nx ρ) s1)) : WpS (exec C (.whl c b) ρ s) D :=
  wlp_wp I h C.fu m ρ s hm h0
end
end Pw

end
section
namespace K72
open PySem Pm
def b_is_whole : Sm :=
  (.seq (.ret (.andE (.prim .isInt (.cons (.var 0) .nil)) (.andE (.notE (.prim .isBool (.cons (.var 0) .nil))) (.chn .le .le (.var 1) (.var 0) (.var 2))))) .skip)
abbrev f_is_whole : Df := ⟨3, 3, b_is_whole⟩
def b_is_text : Sm :=
  (.seq (.ret (.andE (.prim .isStr (.cons (.var 0) .nil)) (.andE (.chn .le .le (.var 1) (.prim .len (.cons (.var 0) .nil)) (.var 2)) (.prim .all (.cons (.comp false (.var 3) (.ex (.var 0)) .no (.cmp .inn (.var 3) (.glo 4)) [3]) .nil))))) .skip)
abbrev f_is_text : Df := ⟨3, 4, b_is_text⟩
def b_is_plain : Sm :=
  (.seq (.ret (.orE (.cmp .is (.var 0) (.cst .non)) (.orE (.call 0 (.cons (.var 0) (.cons (.neg (.glo 0)) (.cons (.glo 0) .nil)))) (.call 1 (.cons (.var 0) (.cons (.cst (.int 0)) (.cons (.glo 1) .nil))))))) .skip)
abbrev f_is_plain : Df := ⟨1, 1, b_is_plain⟩
def b_fits_value : Sm :=
  (.seq (.ife (.notE (.prim .isTup (.cons (.var 0) .nil)))
  (.seq (.ret (.call 2 (.cons (.var 0) .nil))) .skip)
  .skip) (.seq (.ret (.andE (.cmp .gt (.var 1) (.cst (.int 0))) (.andE (.cmp .le (.prim .len (.cons (.var 0) .nil)) (.glo 2)) (.prim .all (.cons (.comp false (.var 2) (.ex (.var 0)) .no (.call 3 (.cons (.var 2) (.cons (.bin .sub (.var 1) (.cst (.int 1))) .nil))) [2]) .nil))))) .skip))
abbrev f_fits_value : Df := ⟨2, 3, b_fits_value⟩
def b_is_value : Sm :=
  (.seq (.ret (.call 3 (.cons (.var 0) (.cons (.glo 3) .nil)))) .skip)
abbrev f_is_value : Df := ⟨1, 1, b_is_value⟩
def b_written : Sm :=
  (.seq (.ife (.cmp .is (.var 0) (.cst .non))
  (.seq (.ret (.cst (tx [110, 111, 110, 101]))) .skip)
  .skip) (.seq (.ife (.prim .isStr (.cons (.var 0) .nil))
  (.seq (.ret (.bin .add (.bin .add (.cst (tx [34])) (.var 0)) (.cst (tx [34])))) .skip)
  .skip) (.seq (.ife (.prim .isTup (.cons (.var 0) .nil))
  (.seq (.ret (.bin .add (.bin .add (.cst (tx [60])) (.meth .join (.cst (tx [44, 32])) (.cons (.comp false (.var 1) (.ex (.var 0)) .no (.call 5 (.cons (.var 1) .nil)) [1]) .nil))) (.cst (tx [62])))) .skip)
  .skip) (.seq (.ret (.prim .strI (.cons (.var 0) .nil))) .skip))))
abbrev f_written : Df := ⟨1, 2, b_written⟩
def b_need_sign : Sm :=
  (.seq (.ife (.cmp .ne (.slc (.var 0) (.yes (.var 1)) (.yes (.bin .add (.var 1) (.cst (.int 1))))) (.var 2))
  (.seq .bad .skip)
  .skip) .skip)
abbrev f_need_sign : Df := ⟨3, 3, b_need_sign⟩
def b_none_at_1 : Sm :=
  (.seq (.exp (.call 6 (.cons (.var 0) (.cons (.var 1) (.cons (.var 2) .nil))))) (.seq (.asg (.var 1) (.bin .add (.var 1) (.cst (.int 1)))) .skip))
def b_none_at : Sm :=
  (.seq (.for_ (.var 2) (.ex (.cst (tx [110, 111, 110, 101])))
  b_none_at_1) (.seq (.ret (.tup (.cons (.cst .non) (.cons (.var 1) .nil)))) .skip))
abbrev f_none_at : Df := ⟨2, 3, b_none_at⟩
def b_word_at_1 : Sm :=
  (.seq (.asg (.var 2) (.bin .add (.var 2) (.cst (.int 1)))) .skip)
def b_word_at : Sm :=
  (.seq (.asg (.var 2) (.bin .add (.var 1) (.cst (.int 1)))) (.seq (.whl (.andE (.cmp .inn (.slc (.var 0) (.yes (.var 2)) (.yes (.bin .add (.var 2) (.cst (.int 1))))) (.prim .tup (.cons (.glo 6) .nil))) (.cmp .le (.bin .sub (.var 2) (.var 1)) (.glo 8)))
  b_word_at_1) (.seq (.exp (.call 6 (.cons (.var 0) (.cons (.var 2) (.cons (.cst (tx [34])) .nil))))) (.seq (.ret (.tup (.cons (.slc (.var 0) (.yes (.bin .add (.var 1) (.cst (.int 1)))) (.yes (.var 2))) (.cons (.bin .add (.var 2) (.cst (.int 1))) .nil)))) .skip))))
abbrev f_word_at : Df := ⟨2, 3, b_word_at⟩
def b_number_at_1 : Sm :=
  (.seq (.ife (.andE (.cmp .eq (.slc (.var 0) (.yes (.var 2)) (.yes (.bin .add (.var 2) (.cst (.int 1))))) (.cst (tx [48]))) (.orE (.cmp .gt (.var 3) (.var 2)) (.cmp .gt (.var 2) (.var 1))))
  (.seq .bad .skip)
  .skip) (.seq (.asg (.var 3) (.bin .add (.var 3) (.cst (.int 1)))) .skip))
def b_number_at : Sm :=
  (.seq (.asg (.var 2) (.ite (.cmp .eq (.slc (.var 0) (.yes (.var 1)) (.yes (.bin .add (.var 1) (.cst (.int 1))))) (.cst (tx [45]))) (.bin .add (.var 1) (.cst (.int 1))) (.var 1))) (.seq (.asg (.var 3) (.var 2)) (.seq (.whl (.andE (.cmp .inn (.slc (.var 0) (.yes (.var 3)) (.yes (.bin .add (.var 3) (.cst (.int 1))))) (.prim .tup (.cons (.glo 7) .nil))) (.cmp .le (.prim .int (.cons (.slc (.var 0) (.yes (.var 2)) (.yes (.bin .add (.var 3) (.cst (.int 1))))) .nil)) (.glo 5)))
  b_number_at_1) (.seq (.ife (.orE (.cmp .eq (.var 3) (.var 2)) (.cmp .inn (.slc (.var 0) (.yes (.var 3)) (.yes (.bin .add (.var 3) (.cst (.int 1))))) (.prim .tup (.cons (.glo 7) .nil))))
  (.seq .bad .skip)
  .skip) (.seq (.ret (.tup (.cons (.prim .int (.cons (.slc (.var 0) (.yes (.var 1)) (.yes (.var 3))) .nil)) (.cons (.var 3) .nil)))) .skip)))))
abbrev f_number_at : Df := ⟨2, 4, b_number_at⟩
def b_simple_at : Sm :=
  (.seq (.ife (.cmp .eq (.slc (.var 0) (.yes (.var 1)) (.yes (.bin .add (.var 1) (.cst (.int 1))))) (.cst (tx [110])))
  (.seq (.ret (.call 7 (.cons (.var 0) (.cons (.var 1) .nil)))) .skip)
  .skip) (.seq (.ret (.ite (.cmp .eq (.slc (.var 0) (.yes (.var 1)) (.yes (.bin .add (.var 1) (.cst (.int 1))))) (.cst (tx [34]))) (.call 8 (.cons (.var 0) (.cons (.var 1) .nil))) (.call 9 (.cons (.var 0) (.cons (.var 1) .nil))))) .skip))
abbrev f_simple_at : Df := ⟨2, 2, b_simple_at⟩
def b_closed_1 : Sm :=
  (.seq (.asg (.sub (.var 2) (.neg (.cst (.int 1)))) (.bin .add (.idx (.var 2) (.neg (.cst (.int 1)))) (.lst false (.cons (.var 3) .nil)))) (.seq (.ife (.andE (.cmp .eq (.slc (.var 0) (.yes (.var 1)) (.yes (.bin .add (.var 1) (.cst (.int 1))))) (.cst (tx [44]))) (.cmp .lt (.prim .len (.cons (.idx (.var 2) (.neg (.cst (.int 1)))) .nil)) (.glo 9)))
  (.seq (.exp (.call 6 (.cons (.var 0) (.cons (.bin .add (.var 1) (.cst (.int 1))) (.cons (.cst (tx [32])) .nil))))) (.seq (.ret (.tup (.cons (.cst .non) (.cons (.bin .add (.var 1) (.cst (.int 2))) .nil)))) .skip))
  .skip) (.seq (.exp (.call 6 (.cons (.var 0) (.cons (.var 1) (.cons (.cst (tx [62])) .nil))))) (.seq (.asg (.tup (.cons (.var 3) (.cons (.var 1) .nil))) (.tup (.cons (.prim .tup (.cons (.meth .pop (.var 2) .nil) .nil)) (.cons (.bin .add (.var 1) (.cst (.int 1))) .nil)))) .skip))))
def b_closed : Sm :=
  (.seq (.whl (.cmp .ne (.var 2) (.lst false .nil))
  b_closed_1) (.seq (.ret (.tup (.cons (.var 3) (.cons (.var 1) .nil)))) .skip))
abbrev f_closed : Df := ⟨4, 4, b_closed⟩
def b_read_from_1 : Sm :=
  (.seq (.ife (.andE (.cmp .eq (.slc (.var 0) (.yes (.var 1)) (.yes (.bin .add (.var 1) (.cst (.int 1))))) (.cst (tx [60]))) (.cmp .lt (.prim .len (.cons (.var 2) .nil)) (.glo 10)))
  (.seq (.asg (.var 1) (.bin .add (.var 1) (.cst (.int 1)))) (.seq (.ife (.cmp .ne (.slc (.var 0) (.yes (.var 1)) (.yes (.bin .add (.var 1) (.cst (.int 1))))) (.cst (tx [62])))
  (.seq (.exp (.meth .append (.var 2) (.cons (.lst false .nil) .nil))) (.seq .cnt .skip))
  .skip) (.seq (.asg (.tup (.cons (.var 3) (.cons (.var 1) .nil))) (.tup (.cons (.tup .nil) (.cons (.bin .add (.var 1) (.cst (.int 1))) .nil)))) .skip)))
  (.seq (.asg (.tup (.cons (.var 3) (.cons (.var 1) .nil))) (.call 10 (.cons (.var 0) (.cons (.var 1) .nil)))) .skip)) (.seq (.asg (.tup (.cons (.var 3) (.cons (.var 1) .nil))) (.call 11 (.cons (.var 0) (.cons (.var 1) (.cons (.var 2) (.cons (.var 3) .nil)))))) (.seq (.ife (.cmp .eqn (.var 2) (.lst false .nil))
  (.seq .brk .skip)
  .skip) .skip)))
def b_read_from : Sm :=
  (.seq (.asg (.tup (.cons (.var 1) (.cons (.var 2) .nil))) (.tup (.cons (.cst (.int 0)) (.cons (.lst true .nil) .nil)))) (.seq (.whl (.cst (.bl true))
  b_read_from_1) (.seq (.ife (.cmp .lt (.var 1) (.prim .len (.cons (.var 0) .nil)))
  (.seq .bad .skip)
  .skip) (.seq (.ret (.var 3)) .skip))))
abbrev f_read_from : Df := ⟨1, 4, b_read_from⟩
def b_told_text : Sm :=
  (.seq (.ife (.notE (.call 4 (.cons (.var 0) .nil)))
  (.seq .bad .skip)
  .skip) (.seq (.ret (.call 5 (.cons (.var 0) .nil))) .skip))
abbrev f_told_text : Df := ⟨1, 1, b_told_text⟩
def b_read_told : Sm :=
  (.seq (.ife (.notE (.prim .isStr (.cons (.var 0) .nil)))
  (.seq .bad .skip)
  .skip) (.seq (.ret (.call 12 (.cons (.var 0) .nil))) .skip))
abbrev f_read_told : Df := ⟨1, 1, b_read_told⟩
def b__law_cup : Sm :=
  (.seq (.asg (.var 1) (.prim .abs (.cons (.idx (.bin .add (.prim .lst (.cons (.var 0) .nil)) (.lst false (.cons (.cst (.int 0)) .nil))) (.cst (.int 0))) .nil))) (.seq (.ret (.lst true (.cons (.ite (.cmp .ge (.var 1) (.bin .pow (.cst (.int 10)) (.cst (.int 18)))) (.bin .fdiv (.var 1) (.cst (.int 67))) (.cst (.int 0))) (.cons (.bin .add (.bin .mod (.prim .int (.cons (.bin .add (.bin .mul (.var 1) (.cst (.int 277))) (.cst (.int 2609))) .nil)) (.cst (.int 2077503167))) (.cst (.int 163))) .nil)))) .skip))
abbrev f__law_cup : Df := ⟨1, 2, b__law_cup⟩
def b__law_roll : Sm :=
  (.seq (.ife (.cmp .gt (.idx (.var 0) (.cst (.int 0))) (.cst (.int 0)))
  (.seq (.asg (.var 3) (.bin .mod (.prim .int (.cons (.idx (.var 0) (.cst (.int 0))) .nil)) (.var 1))) (.seq (.asg (.sub (.var 0) (.cst (.int 0))) (.bin .fdiv (.idx (.var 0) (.cst (.int 0))) (.var 1))) (.seq (.ret (.var 3)) .skip)))
  .skip) (.seq (.asg (.sub (.var 0) (.cst (.int 1))) (.bin .mod (.prim .int (.cons (.bin .add (.bin .mul (.idx (.var 0) (.cst (.int 1))) (.cst (.int 31051))) (.cst (.int 7993))) .nil)) (.cst (.int 2147483543)))) (.seq (.asg (.var 2) (.bin .mod (.prim .int (.cons (.bin .mul (.idx (.var 0) (.cst (.int 1))) (.bin .add (.idx (.var 0) (.cst (.int 1))) (.cst (.int 229)))) .nil)) (.cst (.int 2147483587)))) (.seq (.ret (.bin .mod (.prim .int (.cons (.bin .fdiv (.var 2) (.cst (.int 821))) .nil)) (.var 1))) .skip))))
abbrev f__law_roll : Df := ⟨2, 4, b__law_roll⟩
def b__law_some : Sm :=
  (.seq (.ret (.idx (.var 1) (.call 16 (.cons (.var 0) (.cons (.prim .len (.cons (.var 1) .nil)) .nil))))) .skip)
abbrev f__law_some : Df := ⟨2, 2, b__law_some⟩
def b__law_text : Sm :=
  (.seq (.ret (.meth .join (.cst (tx [])) (.cons (.comp false (.var 2) (.rng1 (.call 16 (.cons (.var 0) (.cons (.bin .add (.var 1) (.cst (.int 1))) .nil)))) .no (.call 17 (.cons (.var 0) (.cons (.prim .lst (.cons (.cst (tx [97, 98, 99, 100, 101, 102, 103, 104, 105, 106, 107, 108, 109, 110, 111, 112, 113, 114, 115, 116, 117, 118, 119, 120, 121, 122])) .nil)) .nil))) [2]) .nil))) .skip)
abbrev f__law_text : Df := ⟨2, 3, b__law_text⟩
def b__law_number : Sm :=
  (.seq (.asg (.var 1) (.call 16 (.cons (.var 0) (.cons (.cst (.int 4)) .nil)))) (.seq (.ife (.cmp .eq (.var 1) (.cst (.int 0)))
  (.seq (.ret (.bin .sub (.call 16 (.cons (.var 0) (.cons (.cst (.int 5)) .nil))) (.cst (.int 1)))) .skip)
  .skip) (.seq (.ife (.cmp .eq (.var 1) (.cst (.int 1)))
  (.seq (.ret (.bin .mul (.call 17 (.cons (.var 0) (.cons (.lst false (.cons (.cst (.int 255)) (.cons (.cst (.int 256)) (.cons (.cst (.int 257)) (.cons (.cst (.int 65535)) (.cons (.cst (.int 65536)) (.cons (.cst (.int 16777216)) (.cons (.bin .pow (.cst (.int 10)) (.cst (.int 12))) (.cons (.bin .sub (.bin .pow (.cst (.int 10)) (.cst (.int 12))) (.cst (.int 1))) (.cons (.cst (.int 0)) .nil)))))))))) .nil))) (.call 17 (.cons (.var 0) (.cons (.lst false (.cons (.cst (.int 1)) (.cons (.cst (.int 1)) (.cons (.neg (.cst (.int 1))) .nil)))) .nil))))) .skip)
  .skip) (.seq (.ret (.bin .mul (.bin .add (.bin .mul (.call 16 (.cons (.var 0) (.cons (.bin .pow (.cst (.int 10)) (.cst (.int 6))) .nil))) (.call 16 (.cons (.var 0) (.cons (.bin .pow (.cst (.int 10)) (.cst (.int 6))) .nil)))) (.var 1)) (.call 17 (.cons (.var 0) (.cons (.lst false (.cons (.cst (.int 1)) (.cons (.cst (.int 1)) (.cons (.cst (.int 1)) (.cons (.neg (.cst (.int 1))) .nil))))) .nil))))) .skip))))
abbrev f__law_number : Df := ⟨1, 2, b__law_number⟩
def b__law_value : Sm :=
  (.seq (.asg (.var 2) (.call 16 (.cons (.var 0) (.cons (.cst (.int 6)) .nil)))) (.seq (.ife (.cmp .eq (.var 2) (.cst (.int 0)))
  (.seq (.ret (.cst .non)) .skip)
  .skip) (.seq (.ife (.orE (.cmp .lt (.var 2) (.cst (.int 3))) (.cmp .eq (.var 1) (.cst (.int 0))))
  (.seq (.ret (.ite (.cmp .lt (.var 2) (.cst (.int 5))) (.call 19 (.cons (.var 0) .nil)) (.call 18 (.cons (.var 0) (.cons (.cst (.int 9)) .nil))))) .skip)
  .skip) (.seq (.ife (.cmp .eq (.var 2) (.cst (.int 3)))
  (.seq (.ret (.call 18 (.cons (.var 0) (.cons (.cst (.int 9)) .nil)))) .skip)
  .skip) (.seq (.ret (.prim .tup (.cons (.comp false (.var 3) (.rng1 (.call 16 (.cons (.var 0) (.cons (.cst (.int 5)) .nil)))) .no (.call 20 (.cons (.var 0) (.cons (.bin .sub (.var 1) (.cst (.int 1))) .nil))) [3]) .nil))) .skip)))))
abbrev f__law_value : Df := ⟨2, 4, b__law_value⟩
def b__law_written : Sm :=
  (.seq (.ife (.cmp .is (.var 0) (.cst .non))
  (.seq (.ret (.cst (tx [110, 111, 110, 101]))) .skip)
  .skip) (.seq (.ife (.prim .isStr (.cons (.var 0) .nil))
  (.seq (.ret (.bin .add (.bin .add (.cst (tx [34])) (.var 0)) (.cst (tx [34])))) .skip)
  .skip) (.seq (.ife (.prim .isTup (.cons (.var 0) .nil))
  (.seq (.ret (.bin .add (.bin .add (.cst (tx [60])) (.meth .join (.cst (tx [44, 32])) (.cons (.comp false (.var 1) (.ex (.var 0)) .no (.call 21 (.cons (.var 1) .nil)) [1]) .nil))) (.cst (tx [62])))) .skip)
  .skip) (.seq (.ret (.prim .strI (.cons (.var 0) .nil))) .skip))))
abbrev f__law_written : Df := ⟨1, 2, b__law_written⟩
def b_law_1 : Sm :=
  (.seq (.asg (.var 5) (.call 20 (.cons (.var 1) (.cons (.cst (.int 4)) .nil)))) (.seq (.asg (.var 6) (.call 21 (.cons (.var 5) .nil))) (.seq (.ife (.orE (.cmp .ne (.call 13 (.cons (.var 5) .nil)) (.var 6)) (.cmp .ne (.prim .repr (.cons (.call 14 (.cons (.var 6) .nil)) .nil)) (.prim .repr (.cons (.var 5) .nil))))
  (.seq (.ret (.cst (.bl false))) .skip)
  .skip) .skip)))
def b_law_2 : Sm :=
  (.seq (.asg (.var 4) (.tup (.cons (.var 4) .nil))) .skip)
def b_law_3 : Sm :=
  (.seq (.ife (.orE (.cmp .ne (.call 14 (.cons (.call 13 (.cons (.var 5) .nil)) .nil)) (.var 5)) (.cmp .ne (.call 13 (.cons (.var 5) .nil)) (.call 21 (.cons (.var 5) .nil))))
  (.seq (.ret (.cst (.bl false))) .skip)
  .skip) .skip)
def b_law : Sm :=
  (.seq (.asg (.var 1) (.call 15 (.cons (.var 0) .nil))) (.seq (.for_ (.var 2) (.rng1 (.cst (.int 5)))
  b_law_1) (.seq (.asg (.var 3) (.tup (.cons (.cst (tx [116, 97, 107, 101])) (.cons (.tup (.cons (.cst (.int 0)) (.cons (.cst (.int 1)) .nil))) (.cons (.cst .non) (.cons (.tup (.cons (.cst (tx [97, 98])) (.cons (.neg (.cst (.int 5))) (.cons (.cst (tx [])) .nil)))) (.cons (.tup .nil) .nil))))))) (.seq (.ife (.orE (.cmp .ne (.call 13 (.cons (.var 3) .nil)) (.cst (tx [60, 34, 116, 97, 107, 101, 34, 44, 32, 60, 48, 44, 32, 49, 62, 44, 32, 110, 111, 110, 101, 44, 32, 60, 34, 97, 98, 34, 44, 32, 45, 53, 44, 32, 34, 34, 62, 44, 32, 60, 62, 62]))) (.cmp .ne (.call 14 (.cons (.call 13 (.cons (.var 3) .nil)) .nil)) (.var 3)))
  (.seq (.ret (.cst (.bl false))) .skip)
  .skip) (.seq (.asg (.var 4) (.tup .nil)) (.seq (.for_ (.var 2) (.rng1 (.cst (.int 39)))
  b_law_2) (.seq (.ife (.orE (.cmp .ne (.call 14 (.cons (.bin .add (.bin .mul (.cst (tx [60])) (.cst (.int 40))) (.bin .mul (.cst (tx [62])) (.cst (.int 40)))) .nil)) (.var 4)) (.cmp .ne (.call 13 (.cons (.var 4) .nil)) (.bin .add (.bin .mul (.cst (tx [60])) (.cst (.int 40))) (.bin .mul (.cst (tx [62])) (.cst (.int 40))))))
  (.seq (.ret (.cst (.bl false))) .skip)
  .skip) (.seq (.for_ (.var 5) (.ex (.lst false (.cons (.bin .pow (.cst (.int 10)) (.cst (.int 12))) (.cons (.neg (.bin .pow (.cst (.int 10)) (.cst (.int 12)))) (.cons (.cst (.int 0)) (.cons (.cst (tx [])) (.cons (.bin .mul (.cst (tx [122])) (.cst (.int 100))) (.cons (.cst .non) (.cons (.tup .nil) (.cons (.tup (.cons (.cst .non) .nil)) (.cons (.bin .mul (.tup (.cons (.tup .nil) .nil)) (.cst (.int 3))) (.cons (.tup (.cons (.cst (tx [110, 111, 110, 101])) (.cons (.cst (.int 1)) .nil))) .nil))))))))))))
  b_law_3) (.seq (.ret (.andE (.cmp .is (.call 14 (.cons (.cst (tx [110, 111, 110, 101])) .nil)) (.cst .non)) (.cmp .eq (.call 14 (.cons (.cst (tx [34, 110, 111, 110, 101, 34])) .nil)) (.cst (tx [110, 111, 110, 101]))))) .skip)))))))))
abbrev f_law : Df := ⟨1, 7, b_law⟩
def DT : List Df := [f_is_whole, f_is_text, f_is_plain, f_fits_value, f_is_value, f_written, f_need_sign, f_none_at, f_word_at, f_number_at, f_simple_at, f_closed, f_read_from, f_told_text, f_read_told, f__law_cup, f__law_roll, f__law_some, f__law_text, f__law_number, f__law_value, f__law_written, f_law]
def GL (g : Nat) : Option EV := ([(.int 1000000000000), (.int 100), (.int 10000), (.int 40), (tx [97, 98, 99, 100, 101, 102, 103, 104, 105, 106, 107, 108, 109, 110, 111, 112, 113, 114, 115, 116, 117, 118, 119, 120, 121, 122]), (.int 1000000000000), (tx [97, 98, 99, 100, 101, 102, 103, 104, 105, 106, 107, 108, 109, 110, 111, 112, 113, 114, 115, 116, 117, 118, 119, 120, 121, 122]), (tx [48, 49, 50, 51, 52, 53, 54, 55, 56, 57]), (.int 100), (.int 10000), (.int 40)] : List EV)[g]?
end K72

end
section
set_option maxHeartbeats 0
namespace K72
open PySem PySem.Spec PyProof.Rows L2 Pm
def top (i : Nat) : Stmt := PySem.Challenge.pw_playedback_k72_whole_told_values_as_text.main.body.getD i (.Pass ⟨0, 0, 0, 0⟩)
def d_is_whole : Fd := ⟨"is_whole", ["value", "low", "high"], ["value", "low", "high"], top 10, b_is_whole⟩
def d_is_text : Fd := ⟨"is_text", ["value", "low", "high"], ["value", "low", "high", "sign"], top 11, b_is_text⟩
def d_is_plain : Fd := ⟨"is_plain", ["value"], ["value"], top 12, b_is_plain⟩
def d_fits_value : Fd := ⟨"fits_value", ["value", "deep"], ["value", "deep", "item"], top 13, b_fits_value⟩
def d_is_value : Fd := ⟨"is_value", ["value"], ["value"], top 14, b_is_value⟩
def d_written : Fd := ⟨"written", ["value"], ["value", "item"], top 22, b_written⟩
def d_need_sign : Fd := ⟨"need_sign", ["text", "at", "sign"], ["text", "at", "sign"], top 23, b_need_sign⟩
def d_none_at : Fd := ⟨"none_at", ["text", "at"], ["text", "at", "sign"], top 24, b_none_at⟩
def d_word_at : Fd := ⟨"word_at", ["text", "at"], ["text", "at", "end"], top 25, b_word_at⟩
def d_number_at : Fd := ⟨"number_at", ["text", "at"], ["text", "at", "begin", "end"], top 26, b_number_at⟩
def d_simple_at : Fd := ⟨"simple_at", ["text", "at"], ["text", "at"], top 27, b_simple_at⟩
def d_closed : Fd := ⟨"closed", ["text", "at", "open_rows", "value"], ["text", "at", "open_rows", "value"], top 28, b_closed⟩
def d_read_from : Fd := ⟨"read_from", ["text"], ["text", "at", "open_rows", "value"], top 29, b_read_from⟩
def d_told_text : Fd := ⟨"told_text", ["value"], ["value"], top 30, b_told_text⟩
def d_read_told : Fd := ⟨"read_told", ["text"], ["text"], top 31, b_read_told⟩
def d__law_cup : Fd := ⟨"_law_cup", ["script"], ["script", "cell"], top 33, b__law_cup⟩
def d__law_roll : Fd := ⟨"_law_roll", ["cup", "many"], ["cup", "many", "deep", "found"], top 34, b__law_roll⟩
def d__law_some : Fd := ⟨"_law_some", ["cup", "things"], ["cup", "things"], top 35, b__law_some⟩
def d__law_text : Fd := ⟨"_law_text", ["cup", "most"], ["cup", "most", "turn"], top 36, b__law_text⟩
def d__law_number : Fd := ⟨"_law_number", ["cup"], ["cup", "way"], top 37, b__law_number⟩
def d__law_value : Fd := ⟨"_law_value", ["cup", "deep"], ["cup", "deep", "way", "item"], top 38, b__law_value⟩
def d__law_written : Fd := ⟨"_law_written", ["value"], ["value", "item"], top 39, b__law_written⟩
def d_law : Fd := ⟨"law", ["script"], ["script", "cup", "turn", "some", "deep", "value", "text"], top 40, b_law⟩
def tb : Tb := ⟨[d_is_whole, d_is_text, d_is_plain, d_fits_value, d_is_value, d_written, d_need_sign, d_none_at, d_word_at, d_number_at, d_simple_at, d_closed, d_read_from, d_told_text, d_read_told, d__law_cup, d__law_roll, d__law_some, d__law_text, d__law_number, d__law_value, d__law_written, d_law], [("GREATEST_octets", (.int 1000000000000)), ("TEXT", (.int 100)), ("ITEMS_octets", (.int 10000)), ("DEEPEST_octets", (.int 40)), ("LETTERS_octets", (tx [97, 98, 99, 100, 101, 102, 103, 104, 105, 106, 107, 108, 109, 110, 111, 112, 113, 114, 115, 116, 117, 118, 119, 120, 121, 122])), ("GREATEST_toldtexts", (.int 1000000000000)), ("LETTERS_toldtexts", (tx [97, 98, 99, 100, 101, 102, 103, 104, 105, 106, 107, 108, 109, 110, 111, 112, 113, 114, 115, 116, 117, 118, 119, 120, 121, 122])), ("DIGITS", (tx [48, 49, 50, 51, 52, 53, 54, 55, 56, 57])), ("LONGEST", (.int 100)), ("ITEMS_toldtexts", (.int 10000)), ("DEEPEST_toldtexts", (.int 40))]⟩
theorem tb_ok : tb.T.all (fun d => d.ok tb.T tb.cns) = true := by decide +kernel
theorem bd_is_whole : Bd d_is_whole := fun _ _ _ _ _ _ us hl => match us, hl with | [_, _, _], _ => rfl
theorem bd_is_text : Bd d_is_text := fun _ _ _ _ _ _ us hl => match us, hl with | [_, _, _], _ => rfl
theorem bd_is_plain : Bd d_is_plain := fun _ _ _ _ _ _ us hl => match us, hl with | [_], _ => rfl
theorem bd_fits_value : Bd d_fits_value := fun _ _ _ _ _ _ us hl => match us, hl with | [_, _], _ => rfl
theorem bd_is_value : Bd d_is_value := fun _ _ _ _ _ _ us hl => match us, hl with | [_], _ => rfl
theorem bd_written : Bd d_written := fun _ _ _ _ _ _ us hl => match us, hl with | [_], _ => rfl
theorem bd_need_sign : Bd d_need_sign := fun _ _ _ _ _ _ us hl => match us, hl with | [_, _, _], _ => rfl
theorem bd_none_at : Bd d_none_at := fun _ _ _ _ _ _ us hl => match us, hl with | [_, _], _ => rfl
theorem bd_word_at : Bd d_word_at := fun _ _ _ _ _ _ us hl => match us, hl with | [_, _], _ => rfl
theorem bd_number_at : Bd d_number_at := fun _ _ _ _ _ _ us hl => match us, hl with | [_, _], _ => rfl
theorem bd_simple_at : Bd d_simple_at := fun _ _ _ _ _ _ us hl => match us, hl with | [_, _], _ => rfl
theorem bd_closed : Bd d_closed := fun _ _ _ _ _ _ us hl => match us, hl with | [_, _, _, _], _ => rfl
theorem bd_read_from : Bd d_read_from := fun _ _ _ _ _ _ us hl => match us, hl with | [_], _ => rfl
theorem bd_told_text : Bd d_told_text := fun _ _ _ _ _ _ us hl => match us, hl with | [_], _ => rfl
theorem bd_read_told : Bd d_read_told := fun _ _ _ _ _ _ us hl => match us, hl with | [_], _ => rfl
theorem bd__law_cup : Bd d__law_cup := fun _ _ _ _ _ _ us hl => match us, hl with | [_], _ => rfl
theorem bd__law_roll : Bd d__law_roll := fun _ _ _ _ _ _ us hl => match us, hl with | [_, _], _ => rfl
theorem bd__law_some : Bd d__law_some := fun _ _ _ _ _ _ us hl => match us, hl with | [_, _], _ => rfl
theorem bd__law_text : Bd d__law_text := fun _ _ _ _ _ _ us hl => match us, hl with | [_, _], _ => rfl
theorem bd__law_number : Bd d__law_number := fun _ _ _ _ _ _ us hl => match us, hl with | [_], _ => rfl
theorem bd__law_value : Bd d__law_value := fun _ _ _ _ _ _ us hl => match us, hl with | [_, _], _ => rfl
theorem bd__law_written : Bd d__law_written := fun _ _ _ _ _ _ us hl => match us, hl with | [_], _ => rfl
theorem bd_law : Bd d_law := fun _ _ _ _ _ _ us hl => match us, hl with | [_], _ => rfl
theorem tb_bd : ∀ d ∈ tb.T, Bd d := List.forall_mem_cons.mpr ⟨bd_is_whole, List.forall_mem_cons.mpr ⟨bd_is_text, List.forall_mem_cons.mpr ⟨bd_is_plain, List.forall_mem_cons.mpr ⟨bd_fits_value, List.forall_mem_cons.mpr ⟨bd_is_value, List.forall_mem_cons.mpr ⟨bd_written, List.forall_mem_cons.mpr ⟨bd_need_sign, List.forall_mem_cons.mpr ⟨bd_none_at, List.forall_mem_cons.mpr ⟨bd_word_at, List.forall_mem_cons.mpr ⟨bd_number_at, List.forall_mem_cons.mpr ⟨bd_simple_at, List.forall_mem_cons.mpr ⟨bd_closed, List.forall_mem_cons.mpr ⟨bd_read_from, List.forall_mem_cons.mpr ⟨bd_told_text, List.forall_mem_cons.mpr ⟨bd_read_told, List.forall_mem_cons.mpr ⟨bd__law_cup, List.forall_mem_cons.mpr ⟨bd__law_roll, List.forall_mem_cons.mpr ⟨bd__law_some, List.forall_mem_cons.mpr ⟨bd__law_text, List.forall_mem_cons.mpr ⟨bd__law_number, List.forall_mem_cons.mpr ⟨bd__law_value, List.forall_mem_cons.mpr ⟨bd__law_written, List.forall_mem_cons.mpr ⟨bd_law, fun _ h => (nomatch h)⟩⟩⟩⟩⟩⟩⟩⟩⟩⟩⟩⟩⟩⟩⟩⟩⟩⟩⟩⟩⟩⟩⟩
theorem eqDT : tb.T.map Fd.df = DT := rfl
theorem eqG : tb.G = GL := funext fun g => (List.getElem?_map (f := Prod.snd) (l := tb.cs) (i := g)).symm
-- law: index 22, top 40
abbrev RR : PySem.W.OpenRow := PySem.W.OpenLaw.row PySem.Challenge.rw_playedback_k72_whole_told_values_as_text
abbrev hk : PySem.W.Hook := hook 5 tb
def ob (s : PySem.W.SharedT) : He.AlD := obsG 5 tb (HandSHeadRun.getT s)
theorem ob_eq (s : PySem.W.SharedT) : ob s = hk.obs s.abs := obsG_eq (HandSHeadRun.getT_eq s)
def loose : List Str := (["__name__", "CourseError", "InvalidValue", "InvalidText", "GREATEST_octets", "TEXT", "ITEMS_octets", "DEEPEST_octets", "LETTERS_octets", "is_whole", "is_text", "is_plain", "fits_value", "is_value", "GREATEST_toldtexts", "LETTERS_toldtexts", "DIGITS", "LONGEST", "ITEMS_toldtexts", "DEEPEST_toldtexts"] : List Str) ++ (["written", "need_sign", "none_at", "word_at", "number_at", "simple_at", "closed", "read_from", "told_text", "read_told", "_law_cup", "_law_roll", "_law_some", "_law_text", "_law_number", "_law_value", "_law_written"] : List Str)
theorem run (w : World) : HandSHeadRun.RunEq RR (PySem.W.view RR.prog [40]) hk ob 4000 loose w := by
  intro os
  kernel_rfl
end K72

end
section
set_option maxHeartbeats 4000000
namespace K72
open PySem Pm Pw PySem.NumText
/-! ### told values and their texts -/
inductive TV : Nat → EV → Prop where
  | non {d : Nat} : TV d .non
  | int {d : Nat} {i : Int} (h : i.natAbs ≤ 1000000000000) : TV d (.int i)
  | txt {d : Nat} {l : List Nat} (h : ∀ c ∈ l, 97 ≤ c ∧ c ≤ 122) (hl : l.length ≤ 100) : TV d (tx l)
  | tup {d : Nat} {xs : List EV} (h : ∀ x ∈ xs, TV d x) (hl : xs.length ≤ 10000) : TV (d + 1) (.tup xs)
mutual
def wr : EV → List Nat
  | .non => [110, 111, 110, 101]
  | .int i => itx i
  | .str z => 34 :: z.cps.toList ++ [34]
  | .tup xs => 60 :: joinL [44, 32] (wrs xs) ++ [62]
  | _ => []
def wrs : List EV → List (List Nat)
  | [] => []
  | x :: xs => wr x :: wrs xs
end
theorem wrs_map : ∀ xs : List EV, wrs xs = xs.map wr
  | [] => rfl
  | x :: xs => by
    show wr x :: wrs xs = _
    rw [wrs_map xs]; rfl
theorem wr_tx (l : List Nat) : wr (tx l) = 34 :: l ++ [34] := rfl
theorem wr_tup (xs : List EV) : wr (.tup xs) = 60 :: joinL [44, 32] (xs.map wr) ++ [62] := by
  show 60 :: joinL [44, 32] (wrs xs) ++ [62] = _
  rw [wrs_map]
theorem joinL_leq (g : List Nat) : ∀ (r : List (List Nat)) (y : List Nat), (joinL g (y :: r)).length = y.length + (r.map fun z => z.length).sum + r.length * g.length
  | [], y => by simp [joinL]
  | z :: r, y => by
    have h := joinL_leq g r z
    rw [joinL_c, List.length_append, List.length_append, h, List.map_cons, List.sum_cons, List.length_cons, Nat.succ_mul]
    omega
theorem joinL_len (g : List Nat) (ys : List (List Nat)) : (ys.map fun z => z.length).sum ≤ (joinL g ys).length ∧ (joinL g ys).length + g.length ≥ (ys.map fun z => z.length).sum + ys.length * g.length := by
  cases ys with
  | nil => simp [joinL]
  | cons y r =>
    rw [joinL_leq, List.map_cons, List.sum_cons, List.length_cons, Nat.succ_mul]
    omega
theorem sum_mem {α : Type} (f : α → Nat) : ∀ {l : List α} {x : α}, x ∈ l → f x ≤ (l.map f).sum
  | y :: l, x, h => by
    rw [List.map_cons, List.sum_cons]
    rcases List.mem_cons.mp h with rfl | h
    · omega
    · have := sum_mem f h
      omega
theorem TV.mono {d e : Nat} {v : EV} (h : TV d v) : d ≤ e → TV e v := by
  induction h generalizing e with
  | non => exact fun _ => .non
  | int h => exact fun _ => .int h
  | txt h hl => exact fun _ => .txt h hl
  | tup h hl ih =>
    intro he
    cases e with
    | zero => omega
    | succ e => exact .tup (fun x hx => ih x hx (by omega)) hl
theorem TV.okd {d : Nat} {v : EV} (h : TV d v) : okd v d = true := by
  induction h with
  | non => simp
  | int h => simp
  | txt h hl => simp
  | tup h hl ih => rw [okd_tupS]; exact okds_iff.mpr ih
/-! ### letters, figures -/
def LL : List Nat := [97, 98, 99, 100, 101, 102, 103, 104, 105, 106, 107, 108, 109, 110, 111, 112, 113, 114, 115, 116, 117, 118, 119, 120, 121, 122]
def DD : List Nat := [48, 49, 50, 51, 52, 53, 54, 55, 56, 57]
theorem mem_LL {c : Nat} : c ∈ LL ↔ 97 ≤ c ∧ c ≤ 122 := by
  have e : LL = List.range' 97 26 := by decide
  rw [e, List.mem_range'_1]
  omega
theorem mem_DD {c : Nat} : c ∈ DD ↔ 48 ≤ c ∧ c ≤ 57 := by
  have e : DD = List.range' 48 10 := by decide
  rw [e, List.mem_range'_1]
  omega
/-- a number's figures -/
def dg (m : Nat) : List Nat := (Nat.toDigits 10 m).map Char.toNat
theorem dg_all (m : Nat) : AllDigits (dg m) := by
  intro c hc
  obtain ⟨ch, hch, e⟩ := List.mem_map.mp hc
  rw [← e]
  exact PyProof.Rows.digit_range (Nat.isDigit_of_mem_toDigits (by decide) (by decide) hch)
theorem dg_val (m : Nat) : digitsVal (dg m) = m := PySem.W.KIN.val_back m
theorem itx_pos (m : Nat) : itx (m : Int) = dg m := PySem.W.KIN.signs_num m
/-! ### the text of a value -/
def bW (j : Nat) : Sm :=
  (.seq (.ife (.cmp .is (.var 0) (.cst .non))
  (.seq (.ret (.cst (tx [110, 111, 110, 101]))) .skip)
  .skip) (.seq (.ife (.prim .isStr (.cons (.var 0) .nil))
  (.seq (.ret (.bin .add (.bin .add (.cst (tx [34])) (.var 0)) (.cst (tx [34])))) .skip)
  .skip) (.seq (.ife (.prim .isTup (.cons (.var 0) .nil))
  (.seq (.ret (.bin .add (.bin .add (.cst (tx [60])) (.meth .join (.cst (tx [44, 32])) (.cons (.comp false (.var 1) (.ex (.var 0)) .no (.call j (.cons (.var 1) .nil)) [1]) .nil))) (.cst (tx [62])))) .skip)
  .skip) (.seq (.ret (.prim .strI (.cons (.var 0) .nil))) .skip))))
theorem log_small {i : Int} (h : i.natAbs ≤ 1000000000000) : i.natAbs.log2 < 1920 := by
  by_cases h0 : i.natAbs = 0
  · rw [h0]; decide
  · have : i.natAbs < 2 ^ 40 := by omega
    have := (Nat.log2_lt h0).mpr this
    omega
@[simp] theorem p_isStr_tx {l : List Nat} {s : Sto} : primf .isStr [tx l] s = .ok (.bl true) s := rfl
@[simp] theorem p_isStr_int {i : Int} {s : Sto} : primf .isStr [.int i] s = .ok (.bl false) s := rfl
@[simp] theorem p_isStr_non {s : Sto} : primf .isStr [.non] s = .ok (.bl false) s := rfl
@[simp] theorem p_isStr_tup {x : List EV} {s : Sto} : primf .isStr [.tup x] s = .ok (.bl false) s := rfl
@[simp] theorem p_isTup_tx {l : List Nat} {s : Sto} : primf .isTup [tx l] s = .ok (.bl false) s := rfl
@[simp] theorem p_isTup_int {i : Int} {s : Sto} : primf .isTup [.int i] s = .ok (.bl false) s := rfl
@[simp] theorem p_isTup_non {s : Sto} : primf .isTup [.non] s = .ok (.bl false) s := rfl
@[simp] theorem p_isInt_tx {l : List Nat} {s : Sto} : primf .isInt [tx l] s = .ok (.bl false) s := rfl
@[simp] theorem p_isInt_int {i : Int} {s : Sto} : primf .isInt [.int i] s = .ok (.bl true) s := rfl
@[simp] theorem p_isInt_non {s : Sto} : primf .isInt [.non] s = .ok (.bl false) s := rfl
@[simp] theorem p_isInt_tup {x : List EV} {s : Sto} : primf .isInt [.tup x] s = .ok (.bl false) s := rfl
@[simp] theorem p_isBool_int {i : Int} {s : Sto} : primf .isBool [.int i] s = .ok (.bl false) s := rfl
theorem wr_mem {xs : List EV} {x : EV} (h : x ∈ xs) : (wr x).length + 2 ≤ (wr (.tup xs)).length := by
  rw [wr_tup]
  have h1 := (joinL_len [44, 32] (xs.map wr)).1
  have h2 : (wr x).length ≤ ((xs.map wr).map (·.length)).sum := by
    rw [List.map_map]
    exact sum_mem (fun x => (wr x).length) h
  simp only [List.length_append, List.length_cons, List.length_nil]
  omega
section
variable {fu : Nat} {s : Sto}
theorem written {j : Nat} (hj : DT[j]? = some ⟨1, 2, bW j⟩) : ∀ {d : Nat} {v : EV}, TV d v → ∀ (k : Nat), (wr v).length ≤ 1000000 → mean DT GL fu (k + d + 1) j [v] s = .ok (tx (wr v)) s := by
  intro d v h
  induction h with
  | non =>
    intro k _
    refine Wp.eq (mean_wp hj rfl ?_)
    show WpS (exec _ (bW j) [some .non, none] s) _
    simp [bW]; rfl
  | @int d i h =>
    intro k _
    refine Wp.eq (mean_wp hj rfl ?_)
    show WpS (exec _ (bW j) [some (.int i), none] s) _
    simp [bW, log_small h]; rfl
  | @txt d l h hl =>
    intro k hk
    refine Wp.eq (mean_wp hj rfl ?_)
    show WpS (exec _ (bW j) [some (tx l), none] s) _
    simp [bW, wr_tx]
    unfold big
    omega
  | @tup d xs h hl ih =>
    intro k hk
    refine Wp.eq (mean_wp hj rfl ?_)
    show WpS (exec _ (bW j) [some (.tup xs), none] s) _
    simp [bW]
    rw [comp_map (ds := xs) (fun x => x) (fun x => tx (wr x)) (by simp; rfl) fun x hx => ?_]
    · have e : xs.map (fun x => tx (wr x)) = (xs.map wr).map tx := by rw [List.map_map]; rfl
      have hb := joinL_len [44, 32] (xs.map wr)
      have hw := wr_tup xs
      have hlen : (wr (.tup xs)).length = (joinL [44, 32] (xs.map wr)).length + 2 := by rw [hw]; simp
      simp only [List.length_map, List.length_cons, List.length_nil] at hb
      simp
      rw [e, p_join (by
        simp only [List.length_map, List.length_cons, List.length_nil]
        unfold big
        omega)]
      simp [hw]
      unfold big
      omega
    · have hx2 := wr_mem hx
      refine Wp.eq ?_
      simp [wipe]
      rw [show k + (d + 1) = k + d + 1 by omega, ih x hx k (by omega)]
      simp
end
section
variable {fu k : Nat} {s : Sto}
/-! ### what can be told -/
theorem is_whole_int {i a b : Int} : mean DT GL fu (k + 1) 0 [.int i, .int a, .int b] s = .ok (.bl (decide (a ≤ i) && decide (i ≤ b))) s := by
  refine Wp.eq (mean_wp (d := f_is_whole) rfl rfl ?_)
  show WpS (exec _ b_is_whole [some (.int i), some (.int a), some (.int b)] s) _
  simp [b_is_whole]
  refine br_by (fun h => ?_) fun h => ?_
  · simp at h; simp [h]
  · simp at h; simp [Int.not_le.mpr h]
theorem is_whole_tx {l : List Nat} {a b : Int} : mean DT GL fu (k + 1) 0 [tx l, .int a, .int b] s = .ok (.bl false) s := by
  refine Wp.eq (mean_wp (d := f_is_whole) rfl rfl ?_)
  show WpS (exec _ b_is_whole [some (tx l), some (.int a), some (.int b)] s) _
  simp [b_is_whole]
theorem is_text_tx {l : List Nat} (h : ∀ c ∈ l, 97 ≤ c ∧ c ≤ 122) {a b : Int} (h1 : a ≤ l.length) (h2 : (l.length : Int) ≤ b) : mean DT GL fu (k + 1) 1 [tx l, .int a, .int b] s = .ok (.bl true) s := by
  refine Wp.eq (mean_wp (d := f_is_text) rfl rfl ?_)
  show WpS (exec _ b_is_text [some (tx l), some (.int a), some (.int b), none] s) _
  simp [b_is_text, h1, h2]
  rw [comp_map (ds := l) (fun c => tx [c]) (fun _ => .bl true) rfl fun c hc => ?_]
  · have e : l.map (fun _ => EV.bl true) = (l.map fun _ => true).map EV.bl := by rw [List.map_map]; rfl
    simp
    rw [e, p_all]
    simp
  · refine Wp.eq ?_
    have hm : c ∈ LL := mem_LL.mpr (h c hc)
    have hg : GL 4 = some (tx LL) := rfl
    simp [wipe, hg, hm]
theorem is_plain_non : mean DT GL fu (k + 2) 2 [.non] s = .ok (.bl true) s := by
  refine Wp.eq (mean_wp (d := f_is_plain) rfl rfl ?_)
  show WpS (exec _ b_is_plain [some .non] s) _
  simp [b_is_plain]
theorem is_plain_int {i : Int} (h : i.natAbs ≤ 1000000000000) : mean DT GL fu (k + 2) 2 [.int i] s = .ok (.bl true) s := by
  refine Wp.eq (mean_wp (d := f_is_plain) rfl rfl ?_)
  show WpS (exec _ b_is_plain [some (.int i)] s) _
  have hg : GL 0 = some (.int 1000000000000) := rfl
  have h1 : -1000000000000 ≤ i := by omega
  have h2 : i ≤ 1000000000000 := by omega
  simp [b_is_plain, hg, is_whole_int, h1, h2]
theorem is_plain_tx {l : List Nat} (h : ∀ c ∈ l, 97 ≤ c ∧ c ≤ 122) (hl : l.length ≤ 100) : mean DT GL fu (k + 2) 2 [tx l] s = .ok (.bl true) s := by
  refine Wp.eq (mean_wp (d := f_is_plain) rfl rfl ?_)
  show WpS (exec _ b_is_plain [some (tx l)] s) _
  have hg : GL 0 = some (.int 1000000000000) := rfl
  have hg1 : GL 1 = some (.int 100) := rfl
  simp [b_is_plain, hg, hg1, is_whole_tx]
  rw [is_text_tx h (by omega) (by omega)]
  simp
theorem fits_value : ∀ {d : Nat} {v : EV}, TV d v → ∀ (n : Nat), d ≤ n → mean DT GL fu (k + d + 3) 3 [v, .int n] s = .ok (.bl true) s := by
  intro d v h
  induction h with
  | non =>
    intro n hn
    refine Wp.eq (mean_wp (d := f_fits_value) rfl rfl ?_)
    show WpS (exec _ b_fits_value [some .non, some (.int n), none] s) _
    simp [b_fits_value, is_plain_non]
  | @int d i h =>
    intro n hn
    refine Wp.eq (mean_wp (d := f_fits_value) rfl rfl ?_)
    show WpS (exec _ b_fits_value [some (.int i), some (.int n), none] s) _
    simp [b_fits_value, is_plain_int h]
  | @txt d l h hl =>
    intro n hn
    refine Wp.eq (mean_wp (d := f_fits_value) rfl rfl ?_)
    show WpS (exec _ b_fits_value [some (tx l), some (.int n), none] s) _
    simp [b_fits_value, is_plain_tx h hl]
  | @tup d xs h hl ih =>
    intro n hn
    refine Wp.eq (mean_wp (d := f_fits_value) rfl rfl ?_)
    show WpS (exec _ b_fits_value [some (.tup xs), some (.int n), none] s) _
    have hg : GL 2 = some (.int 10000) := rfl
    have h1 : 0 < n := by omega
    have h2 : (xs.length : Int) ≤ 10000 := by omega
    simp [b_fits_value, hg, h1, h2]
    rw [comp_map (ds := xs) (fun x => x) (fun _ => .bl true) (by simp; rfl) fun x hx => ?_]
    · have e : xs.map (fun _ => EV.bl true) = (xs.map fun _ => true).map EV.bl := by rw [List.map_map]; rfl
      simp
      rw [e, p_all]
      simp
    · refine Wp.eq ?_
      simp [wipe]
      have e1 : (n : Int) - 1 = ((n - 1 : Nat) : Int) := by omega
      rw [e1, show k + (d + 1) + 2 = k + d + 3 by omega, ih x hx (n - 1) (by omega)]
      simp
theorem told_text {d : Nat} {v : EV} (h : TV d v) (hd : d ≤ 40) (hl : (wr v).length ≤ 1000000) : mean DT GL fu (k + d + 5) 13 [v] s = .ok (tx (wr v)) s := by
  refine Wp.eq (mean_wp (d := f_told_text) rfl rfl ?_)
  show WpS (exec _ b_told_text [some v] s) _
  have hg : GL 3 = some (.int 40) := rfl
  have hv : ∀ s, mean DT GL fu (k + d + 4) 4 [v] s = .ok (.bl true) s := fun s => by
    refine Wp.eq (mean_wp (d := f_is_value) rfl rfl ?_)
    show WpS (exec _ b_is_value [some v] s) _
    have := fits_value (fu := fu) (k := k) (s := s) h 40 hd
    simp [b_is_value, hg]
    rw [show ((40 : Nat) : Int) = 40 from rfl] at this
    rw [this]
    simp
  simp [b_told_text, hv]
  have e : k + d + 4 = (k + 3) + d + 1 := by omega
  rw [e, written (j := 5) rfl h (k + 3) hl]
  simp
theorem law_written {d : Nat} {v : EV} (h : TV d v) (hl : (wr v).length ≤ 1000000) : mean DT GL fu (k + d + 1) 21 [v] s = .ok (tx (wr v)) s := written (j := 21) rfl h k hl
end
section
variable {fu k : Nat} {s : Sto} {l r : List Nat} {a : Nat}
/-! ### reading -/
theorem need_sign {c : Nat} (h : l.drop a = c :: r) : mean DT GL fu (k + 1) 6 [tx l, .int a, tx [c]] s = .ok .non s := by
  refine Wp.eq (mean_wp (d := f_need_sign) rfl rfl ?_)
  show WpS (exec _ b_need_sign [some (tx l), some (.int a), some (tx [c])] s) _
  simp [b_need_sign, cut_sign, h]
theorem none_at (h : l.drop a = 110 :: 111 :: 110 :: 101 :: r) : mean DT GL fu (k + 2) 7 [tx l, .int a] s = .ok (.tup [.non, .int ((a + 4 : Nat) : Int)]) s := by
  refine Wp.eq (mean_wp (d := f_none_at) rfl rfl ?_)
  show WpS (exec _ b_none_at [some (tx l), some (.int a), none] s) _
  have h1 := drop_s h
  have h2 := drop_s h1
  have h3 := drop_s h2
  have n0 := fun s => need_sign (fu := fu) (k := k) (s := s) h
  have n1 := fun s => need_sign (fu := fu) (k := k) (s := s) h1
  have n2 := fun s => need_sign (fu := fu) (k := k) (s := s) h2
  have n3 := fun s => need_sign (fu := fu) (k := k) (s := s) h3
  have e1 : ((a + 1 : Nat) : Int) = (a : Int) + 1 := by omega
  have e2 : ((a + 1 + 1 : Nat) : Int) = (a : Int) + 1 + 1 := by omega
  have e3 : ((a + 1 + 1 + 1 : Nat) : Int) = (a : Int) + 1 + 1 + 1 := by omega
  rw [e1] at n1
  rw [e2] at n2
  rw [e3] at n3
  simp only [b_none_at, wps_seq]
  refine wps_forS ?_
  simp [b_none_at_1, sgs, n0, n1, n2, n3]
  omega
theorem word_at {w : List Nat} (hw : ∀ c ∈ w, 97 ≤ c ∧ c ≤ 122) (hl : w.length ≤ 100) (hf : 100 < fu) (h : l.drop a = 34 :: w ++ 34 :: r) : mean DT GL fu (k + 2) 8 [tx l, .int a] s = .ok (.tup [tx w, .int ((a + w.length + 2 : Nat) : Int)]) s := by
  refine Wp.eq (mean_wp (d := f_word_at) rfl rfl ?_)
  show WpS (exec _ b_word_at [some (tx l), some (.int a), none] s) _
  have hg : GL 6 = some (tx LL) := rfl
  have hg8 : GL 8 = some (.int 100) := rfl
  have h1 : l.drop (a + 1) = w ++ 34 :: r := drop_s h
  have hlen : a + 1 + w.length + 1 ≤ l.length := by
    have := congrArg List.length h1
    simp at this
    omega
  simp only [b_word_at, wps_seq]
  simp
  refine wps_whl (fun m ρ s' => ∃ i, i ≤ w.length ∧ m = w.length - i ∧ s' = s ∧ ρ = [some (tx l), some (.int a), some (.int ((a + 1 + i : Nat) : Int))]) w.length (by show w.length < fu; omega) ⟨0, by omega, by omega, rfl, by simp⟩ ?_
  rintro m ρ s' ⟨i, hi, rfl, rfl, rfl⟩
  have e1 : ((a + 1 + i : Nat) : Int) + 1 = ((a + 1 + i : Nat) : Int) + 1 := rfl
  have hd : l.drop (a + 1 + i) = w.drop i ++ 34 :: r := by
    rw [← List.drop_drop, h1, List.drop_append_of_le_length hi]
  simp [-Int.natCast_add, hg, hg8, cut_sign, hd]
  by_cases hi2 : i < w.length
  · obtain ⟨c, t, e, hc⟩ : ∃ c t, w.drop i = c :: t ∧ c ∈ w := ⟨_, _, List.drop_eq_getElem_cons hi2, List.getElem_mem hi2⟩
    have hm : c ∈ LL := mem_LL.mpr (hw _ hc)
    have hle : (((a + 1 + i : Nat) : Int) - (a : Int) ≤ 100) := by omega
    rw [e]
    simp [-Int.natCast_add, any_sgs, hm, hle, hg8, okds_sgs, b_word_at_1]
    exact ⟨w.length - (i + 1), by omega, i + 1, by omega, rfl, by simp; omega⟩
  · have e0 : i = w.length := by omega
    subst e0
    have e : w.drop w.length = [] := List.drop_length
    have hd2 : l.drop (a + 1 + w.length) = 34 :: r := by rw [hd, e]; rfl
    have hm : (34 : Nat) ∉ LL := by decide
    have n0 := fun s => need_sign (fu := fu) (k := k) (s := s) hd2
    rw [e]
    simp [-Int.natCast_add, any_sgs, hm, okds_sgs, n0]
    have ec : ((a : Int) + 1) = ((a + 1 : Nat) : Int) := by omega
    rw [ec, cut_part (by omega) (by omega), h1]
    have et : (w ++ 34 :: r).take (a + 1 + w.length - (a + 1)) = w := by
      rw [show a + 1 + w.length - (a + 1) = w.length by omega]
      simp
    rw [et]
    simp
    omega
end
/-! ### numbers -/
theorem ofS (x : String) : (Str.ofString x).cps.toList = x.toList.map Char.toNat := by
  show (cpsOfBytes 0 0 x.toByteArray.data.toList).toArray.toList = _
  rw [cpsOfBytes_string]
theorem itx_neg (m : Nat) : itx (Int.negSucc m) = 45 :: dg (m + 1) := by
  unfold itx
  rw [ofS]
  show (("-" ++ toString (m + 1) : String)).toList.map Char.toNat = _
  rw [String.toList_append, List.map_append]
  have e : (toString (m + 1) : String).toList.map Char.toNat = dg (m + 1) := by
    show (Nat.repr (m + 1)).toList.map Char.toNat = _
    rw [Nat.toList_repr]; rfl
  rw [e]; rfl
theorem itx_len {i : Int} (h : i.natAbs ≤ 1000000000000) : (itx i).length ≤ 14 := by
  unfold itx
  rw [ofS, List.length_map, String.length_toList]
  exact int_text_length_le10 (by decide) (Nat.lt_of_le_of_lt h (by decide))
theorem dg_len {m : Nat} (h : m ≤ 1000000000000) : (dg m).length ≤ 14 := by
  rw [← itx_pos]
  exact itx_len (by simpa using h)
theorem dg_small {m : Nat} (h : m < 10) : dg m = [48 + m] := by
  unfold dg
  rw [Nat.toDigits_of_lt_base h]
  have : ∀ d : Nat, d < 10 → (Nat.digitChar d).toNat = 48 + d := by decide
  simp [this m h]
theorem dg_big {m : Nat} (h : 10 ≤ m) : dg m = dg (m / 10) ++ dg (m % 10) := by
  have hm : m % 10 < 10 := Nat.mod_lt m (by decide)
  have t : Nat.toDigits 10 (m / 10) ++ Nat.toDigits 10 (m % 10) = Nat.toDigits 10 (10 * (m / 10) + m % 10) := Nat.toDigits_append_toDigits (by decide) (by omega) hm
  rw [Nat.div_add_mod] at t
  unfold dg
  rw [← t, List.map_append]
theorem dg_ne (m : Nat) : dg m ≠ [] := by
  by_cases h : m < 10
  · rw [dg_small h]; simp
  · rw [dg_big (by omega), dg_small (Nat.mod_lt m (by decide))]; simp
theorem dg_head : ∀ (m : Nat) {t : List Nat}, dg m = 48 :: t → m = 0 ∧ t = [] := by
  intro m
  induction m using Nat.strongRecOn with
  | _ m ih =>
    intro t e
    by_cases h : m < 10
    · rw [dg_small h] at e
      injection e with e1 e2
      exact ⟨by omega, e2.symm⟩
    · rw [dg_big (by omega)] at e
      cases q : dg (m / 10) with
      | nil => exact absurd q (dg_ne _)
      | cons c u =>
        rw [q] at e
        injection e with e1 e2
        subst e1
        have := (ih (m / 10) (by omega) q).1
        omega
theorem val_mono : ∀ (b : List Nat) (x : Nat), x ≤ b.foldl (fun acc c => acc * 10 + (c - 48)) x
  | [], x => Nat.le_refl x
  | c :: b, x => by
    have := val_mono b (x * 10 + (c - 48))
    show x ≤ b.foldl (fun acc c => acc * 10 + (c - 48)) (x * 10 + (c - 48))
    omega
theorem val_take (l : List Nat) (j : Nat) : digitsVal (l.take j) ≤ digitsVal l := by
  have h := val_mono (l.drop j) (digitsVal (l.take j))
  have e : digitsVal l = (l.drop j).foldl (fun acc c => acc * 10 + (c - 48)) (digitsVal (l.take j)) := by
    unfold digitsVal
    rw [← List.foldl_append, List.take_append_drop]
  rw [e]; exact h
/-- what follows is no figure -/
def NoD (r : List Nat) : Prop := ∀ c t, r = c :: t → ¬ (48 ≤ c ∧ c ≤ 57)
def bN : Sm := match b_number_at with
  | .seq _ r => r
  | _ => .skip
theorem signD {r : List Nat} (h : NoD r) : ((sgs DD).any fun y => veq y (tx (r.take 1))) = false := by
  cases r with
  | nil => exact any_sgs0
  | cons c t =>
    show ((sgs DD).any fun y => veq y (tx [c])) = false
    rw [any_sgs]
    exact decide_eq_false fun hm => h c t rfl (mem_DD.mp hm)
section
variable {fu k : Nat} {s : Sto} {l r : List Nat} {a b m : Nat} {i : Int}
theorem number_core (hm : m ≤ 1000000000000) (hf : 100 < fu) (h : l.drop b = dg m ++ r) (hr : NoD r) (hz : m = 0 → b = a) (hab : a ≤ b) (hv : PySem.intText? ⟨((l.drop a).take (b + (dg m).length - a)).toArray⟩ = some i) (hv2 : b - a ≤ 1) :
    WpS (exec ⟨mean DT GL fu k, GL, fu⟩ bN [some (tx l), some (.int a), some (.int b), none] s) (Rt fun v s' => v = .tup [.int i, .int ((b + (dg m).length : Nat) : Int)] ∧ s' = s) := by
  have hg : GL 7 = some (tx DD) := rfl
  have hg5 : GL 5 = some (.int 1000000000000) := rfl
  have hlen := dg_len hm
  have hne := dg_ne m
  have hpos : 0 < (dg m).length := List.length_pos_iff.mpr hne
  have htot : b + (dg m).length ≤ l.length := by
    have := congrArg List.length h
    simp at this
    omega
  simp only [bN, b_number_at, wps_seq]
  simp
  refine wps_whl (fun x ρ s' => ∃ j, j ≤ (dg m).length ∧ x = (dg m).length - j ∧ s' = s ∧ ρ = [some (tx l), some (.int a), some (.int b), some (.int ((b + j : Nat) : Int))]) (dg m).length (by show (dg m).length < fu; omega) ⟨0, by omega, by omega, rfl, by simp⟩ ?_
  rintro x ρ s' ⟨j, hj, rfl, rfl, rfl⟩
  have hd : l.drop (b + j) = (dg m).drop j ++ r := by
    rw [← List.drop_drop, h, List.drop_append_of_le_length hj]
  simp [-Int.natCast_add, hg, hg5, cut_sign, hd, okds_sgs]
  by_cases hj2 : j < (dg m).length
  · obtain ⟨c, t, e, hc⟩ : ∃ c t, (dg m).drop j = c :: t ∧ c ∈ dg m := ⟨_, _, List.drop_eq_getElem_cons hj2, List.getElem_mem hj2⟩
    have hmem : c ∈ DD := mem_DD.mpr (dg_all m c hc)
    have ec : (((b + j : Nat) : Int) + 1) = ((b + j + 1 : Nat) : Int) := by omega
    have ecut : cut l (some (b : Int)) (some ((b + j + 1 : Nat) : Int)) = (dg m).take (j + 1) := by
      rw [cut_part (by omega) (by omega), h, show b + j + 1 - b = j + 1 by omega, List.take_append_of_le_length (by omega)]
    have htk : PySem.intText? ⟨((dg m).take (j + 1)).toArray⟩ = some ((digitsVal ((dg m).take (j + 1)) : Nat) : Int) := by
      have := intText_digits (x := ⟨((dg m).take (j + 1)).toArray⟩) (fun c hc => dg_all m c (List.mem_of_mem_take (by simpa using hc))) (by
        intro e0
        have e0 : (dg m).take (j + 1) = [] := by simpa using e0
        rcases List.take_eq_nil_iff.mp e0 with h | h
        · omega
        · exact hne h) (by
        show ((dg m).take (j + 1)).toArray.size ≤ 4300
        simp
        omega)
      simpa using this
    have hle : digitsVal ((dg m).take (j + 1)) ≤ 1000000000000 := by
      have h1 := val_take (dg m) (j + 1)
      rw [dg_val] at h1
      omega
    have hle2 : ((digitsVal ((dg m).take (j + 1)) : Nat) : Int) ≤ 1000000000000 := by omega
    rw [e]
    simp [-Int.natCast_add, any_sgs, hmem]
    rw [ec, ecut]
    simp only [p_int_tx, htk, opt_some]
    have htl : ((dg m).take (j + 1)).length ≤ 640 := by simp; omega
    simp [-Int.natCast_add, -List.length_take, htl, hg5, hle2, b_number_at_1, cut_sign, h]
    cases q : dg m with
    | nil => exact absurd q hne
    | cons c0 u =>
      by_cases h48 : c0 = 48
      · subst h48
        obtain ⟨m0, u0⟩ := dg_head m q
        have hb0 := hz m0
        subst u0
        have hj0 : j = 0 := by
          rw [q] at hj2
          simp at hj2
          omega
        subst hj0
        subst hb0
        simp [-Int.natCast_add]
        exact ⟨1, by omega, by omega, by omega⟩
      · simp [-Int.natCast_add, h48]
        have hl0 : (dg m).length = u.length + 1 := by rw [q]; rfl
        exact ⟨u.length + 1 - (j + 1), by omega, j + 1, by omega, rfl, by simp; omega⟩
  · have e0 : j = (dg m).length := by omega
    subst e0
    have e : (dg m).drop (dg m).length = [] := List.drop_length
    rw [e]
    have hd2 : l.drop (b + (dg m).length) = r := by rw [hd, e]; rfl
    have hcut : cut l (some (a : Int)) (some ((b + (dg m).length : Nat) : Int)) = (l.drop a).take (b + (dg m).length - a) := cut_part htot (by omega)
    have hne2 : (((b + (dg m).length : Nat) : Int) == (b : Int)) = false := by
      rw [beq_eq_false_iff_ne]
      omega
    have hsz : ((l.drop a).take (b + (dg m).length - a)).length ≤ 640 := by
      rw [List.length_take]
      omega
    simp [-Int.natCast_add, signD hr, hg, okds_sgs, cut_sign, hd2, hcut, hne2, hv, hsz, -List.length_take]
    omega
end
theorem toNat_abs {i : Int} (h : i.natAbs ≤ 1000000000000) : (∃ m : Nat, i = (m : Int) ∧ m ≤ 1000000000000) ∨ ∃ m : Nat, i = Int.negSucc m ∧ m + 1 ≤ 1000000000000 := by
  cases i with
  | ofNat m => exact .inl ⟨m, rfl, h⟩
  | negSucc m => exact .inr ⟨m, rfl, h⟩
section
variable {fu k : Nat} {s : Sto} {l r : List Nat} {a : Nat} {i : Int}
theorem number_at (hi : i.natAbs ≤ 1000000000000) (hf : 100 < fu) (h : l.drop a = itx i ++ r) (hr : NoD r) :
    mean DT GL fu (k + 1) 9 [tx l, .int a] s = .ok (.tup [.int i, .int ((a + (itx i).length : Nat) : Int)]) s := by
  refine Wp.eq (mean_wp (d := f_number_at) rfl rfl ?_)
  show WpS (exec _ b_number_at [some (tx l), some (.int a), none, none] s) _
  have eN : b_number_at = .seq (.asg (.var 2) (.ite (.cmp .eq (.slc (.var 0) (.yes (.var 1)) (.yes (.bin .add (.var 1) (.cst (.int 1))))) (.cst (tx [45]))) (.bin .add (.var 1) (.cst (.int 1))) (.var 1))) bN := rfl
  rw [eN]
  rcases toNat_abs hi with ⟨m, rfl, hm⟩ | ⟨m, rfl, hm⟩
  · rw [itx_pos] at h ⊢
    have hne := dg_ne m
    have hall := dg_all m
    have core := number_core (fu := fu) (k := k) (s := s) (a := a) (b := a) (i := (m : Int)) hm hf h hr (fun _ => rfl) (Nat.le_refl a) (by
      have e : ((l.drop a).take (a + (dg m).length - a)) = dg m := by
        rw [h, show a + (dg m).length - a = (dg m).length by omega]
        simp
      rw [e]
      have := intText_digits (x := ⟨(dg m).toArray⟩) (by simpa using hall) (by simpa using hne) (by
        have := dg_len hm
        show (dg m).toArray.size ≤ 4300
        simp
        omega)
      simpa [dg_val] using this) (by omega)
    cases q : dg m with
    | nil => exact absurd q hne
    | cons c t =>
      rw [q] at h core
      have hc : c ≠ 45 := by
        have := hall c (by rw [q]; simp)
        omega
      simp [cut_sign, h, hc]
      simpa using core
  · rw [itx_neg] at h ⊢
    have h1 : l.drop (a + 1) = dg (m + 1) ++ r := drop_s h
    have hne := dg_ne (m + 1)
    have hall := dg_all (m + 1)
    have core := number_core (fu := fu) (k := k) (s := s) (a := a) (b := a + 1) (i := Int.negSucc m) hm hf h1 hr (fun z => by omega) (by omega) (by
      have e : ((l.drop a).take (a + 1 + (dg (m + 1)).length - a)) = 45 :: dg (m + 1) := by
        rw [h, show a + 1 + (dg (m + 1)).length - a = (45 :: dg (m + 1)).length by simp; omega]
        simp
      rw [e]
      have := intText_neg (x := ⟨(45 :: dg (m + 1)).toArray⟩) (cs := dg (m + 1)) (by simp) hall hne (by
        have := dg_len hm
        show (45 :: dg (m + 1)).toArray.size ≤ 4300
        simp
        omega)
      rw [this, dg_val]
      rfl) (by omega)
    simp [cut_sign, h]
    have e2 : ((a + 1 : Nat) : Int) = (a : Int) + 1 := by omega
    rw [e2] at core
    have e3 : (a : Int) + (((dg (m + 1)).length : Int) + 1) = ((a + 1 + (dg (m + 1)).length : Nat) : Int) := by omega
    rw [e3]
    exact core
end
/-- what is no tuple -/
def isSim : EV → Bool
  | .tup _ => false
  | _ => true
theorem simple_at {fu k : Nat} {s : Sto} {l r : List Nat} {a d : Nat} {v : EV} (hv : TV d v) (hs : isSim v = true) (hf : 100 < fu) (h : l.drop a = wr v ++ r) (hr : NoD r) :
    mean DT GL fu (k + 3) 10 [tx l, .int a] s = .ok (.tup [v, .int ((a + (wr v).length : Nat) : Int)]) s := by
  refine Wp.eq (mean_wp (d := f_simple_at) rfl rfl ?_)
  show WpS (exec _ b_simple_at [some (tx l), some (.int a)] s) _
  cases hv with
  | non =>
    have h : l.drop a = 110 :: 111 :: 110 :: 101 :: r := h
    have n := fun s => none_at (fu := fu) (k := k) (s := s) h
    simp [b_simple_at, cut_sign, h, n]
    rfl
  | @int d i hi =>
    have h : l.drop a = itx i ++ r := h
    have n := fun s => number_at (fu := fu) (k := k + 1) (s := s) hi hf h hr
    have e : (wr (.int i)) = itx i := rfl
    have hd : ∃ c t, itx i = c :: t ∧ c ≠ 110 ∧ c ≠ 34 := by
      rcases toNat_abs hi with ⟨m, rfl, hm⟩ | ⟨m, rfl, hm⟩
      · rw [itx_pos]
        cases q : dg m with
        | nil => exact absurd q (dg_ne m)
        | cons c t =>
          have := dg_all m c (by rw [q]; simp)
          exact ⟨c, t, rfl, by omega, by omega⟩
      · rw [itx_neg]
        exact ⟨45, _, rfl, by omega, by omega⟩
    obtain ⟨c, t, q, c1, c2⟩ := hd
    rw [e]
    rw [q] at h n ⊢
    simp [b_simple_at, cut_sign, h, c1, c2, -Int.natCast_add]
    rw [n]
    simp
  | @txt d w hw hl =>
    have h : l.drop a = 34 :: w ++ 34 :: r := by
      rw [h, wr_tx]; simp
    have n := fun s => word_at (fu := fu) (k := k) (s := s) hw hl hf h
    simp [b_simple_at, cut_sign, h, n, wr_tx]
    omega
  | tup _ _ => cases hs
/-! ### rows that are open -/
abbrev Fr := List EV × List EV
def suf : List Fr → List Nat
  | [] => []
  | f :: fs => (f.2.flatMap fun t => 44 :: 32 :: wr t) ++ 62 :: suf fs
def build : EV → List Fr → EV
  | v, [] => v
  | v, f :: fs => build (.tup (f.1 ++ v :: f.2)) fs
def Good : List Fr → Prop
  | [] => True
  | f :: fs => (∀ x ∈ f.1, TV (39 - fs.length) x) ∧ (∀ x ∈ f.2, TV (39 - fs.length) x) ∧ f.1.length + f.2.length + 1 ≤ 10000 ∧ fs.length < 40 ∧ Good fs
def rowsOf (fs : List Fr) : List EV := (fs.map fun f => EV.lst f.1).reverse
theorem rowsOf_c (f : Fr) (fs : List Fr) : rowsOf (f :: fs) = rowsOf fs ++ [.lst f.1] := by simp [rowsOf]
theorem rowsOf_len (fs : List Fr) : (rowsOf fs).length = fs.length := by simp [rowsOf]
theorem joinL_flat (g : List Nat) : ∀ (ys : List EV) (x : List Nat), joinL g (x :: ys.map wr) = x ++ ys.flatMap fun t => g ++ wr t
  | [], x => by simp [joinL]
  | y :: ys, x => by
    rw [List.map_cons, joinL_c, joinL_flat g ys (wr y)]
    simp
theorem suf_tup (x : EV) (ys : List EV) (fs : List Fr) : wr (.tup (x :: ys)) ++ suf fs = 60 :: (wr x ++ suf (([], ys) :: fs)) := by
  rw [wr_tup, List.map_cons, joinL_flat]
  simp [suf]
theorem noD_suf (fs : List Fr) : NoD (suf fs) := by
  intro c t e
  cases fs with
  | nil => cases e
  | cons f fs =>
    obtain ⟨dn, td⟩ := f
    cases td with
    | nil =>
      have e : 62 :: suf fs = c :: t := by simpa [suf] using e
      injection e with e1 _
      omega
    | cons y ys =>
      have e : 44 :: (32 :: wr y ++ (ys.flatMap fun t => 44 :: 32 :: wr t) ++ 62 :: suf fs) = c :: t := by simpa [suf] using e
      injection e with e1 _
      omega
theorem at_last (xs : List EV) (x : EV) : at_ (xs ++ [x]) (-1) = some x := by
  unfold at_ ixn
  have h1 : ¬ (0 : Int) ≤ -1 := by omega
  have h2 : -(((xs ++ [x]).length : Nat) : Int) ≤ -1 := by simp; omega
  rw [if_neg h1, if_pos h2]
  have e : ((-1 : Int) + (((xs ++ [x]).length : Nat) : Int)).toNat = xs.length := by simp; omega
  rw [e]
  simp
theorem set_last (xs : List EV) (x y : EV) : (ixn (xs ++ [x]).length (-1)).map (fun j => Ob.lst ((xs ++ [x]).set j y)) = some (.lst (xs ++ [y])) := by
  unfold ixn
  have h1 : ¬ (0 : Int) ≤ -1 := by omega
  have h2 : -(((xs ++ [x]).length : Nat) : Int) ≤ -1 := by simp; omega
  rw [if_neg h1, if_pos h2]
  have e : ((-1 : Int) + (((xs ++ [x]).length : Nat) : Int)).toNat = xs.length := by simp; omega
  rw [e]
  simp
theorem good_okd : ∀ {fs : List Fr}, Good fs → ∀ v ∈ rowsOf fs, okd v 59 = true
  | [], _, v, h => by simp [rowsOf] at h
  | f :: fs, g, v, h => by
    obtain ⟨g1, g2, g3, g4, g5⟩ := g
    rw [rowsOf_c, List.mem_append] at h
    rcases h with h | h
    · exact good_okd g5 v h
    · have e : v = .lst f.1 := by simpa using h
      subst e
      rw [okd_lstS]
      exact okds_iff.mpr fun x hx => okd_mono _ _ _ (g1 x hx).okd (by omega)
section
variable {fu k : Nat} {s : Sto} {l : List Nat} {a n : Nat} {v : EV} {fs : List Fr} {Q : EV → Sto → Prop}
theorem eqn_obj {s : Sto} {n : Nat} {xs : List EV} (h : olst s n = some xs) : cmpf .eqn (.obj n) (.lst []) s = .ok (.bl xs.isEmpty) s := by
  show (match look s (.obj n), look s (.lst []) with
    | .lst xs, .lst [] => R.ok (EV.bl xs.isEmpty) s
    | _, _ => .stuck) = _
  rw [look_o (olst_iff.mp h)]
  rfl
theorem closed_wp (hf : 100 < fu) (hn : n < s.length) (hl : fs.length ≤ 40) (h : l.drop a = suf fs) (hv : TV (40 - fs.length) v) (hg : Good fs)
    (hQ : ∀ a', l.length ≤ a' → Q (.tup [build v fs, .int (a' : Nat)]) (s.set n (.lst [])))
    (hM : ∀ t fs' a', l.drop a' = wr t ++ suf fs' → fs' ≠ [] → build t fs' = build v fs → a < a' → TV (40 - fs'.length) t → Good fs' → fs'.length ≤ 40 → Q (.tup [.non, .int (a' : Nat)]) (s.set n (.lst (rowsOf fs')))) :
    Wp (mean DT GL fu (k + 2) 11 [tx l, .int a, .obj n, v] (s.set n (.lst (rowsOf fs)))) Q := by
  refine mean_wp (d := f_closed) rfl rfl ?_
  show WpS (exec _ b_closed [some (tx l), some (.int a), some (.obj n), some v] _) _
  have hL : ∀ xs, olst (s.set n (.lst xs)) n = some xs := fun xs => olst_iff.mpr (List.getElem?_set_self hn)
  have hO : ∀ xs, oat (s.set n (.lst xs)) n = some (.lst xs) := fun xs => olst_oat (hL xs)
  have hg9 : GL 9 = some (.int 10000) := rfl
  simp only [b_closed, wps_seq]
  refine wps_whl (fun m ρ s' => ∃ v' fs' a', m = fs'.length ∧ ρ = [some (tx l), some (.int (a' : Nat)), some (.obj n), some v'] ∧ s' = s.set n (.lst (rowsOf fs')) ∧ l.drop a' = suf fs' ∧ build v' fs' = build v fs ∧ TV (40 - fs'.length) v' ∧ Good fs' ∧ a ≤ a' ∧ fs'.length ≤ 40)
    fs.length (by show fs.length < fu; omega) ⟨v, fs, a, rfl, rfl, rfl, h, rfl, hv, hg, Nat.le_refl _, hl⟩ ?_
  rintro m ρ s' ⟨v', fs', a', rfl, rfl, rfl, h', hb', hv', hg', ha', hl'⟩
  have ok := good_okd hg'
  have ok2 : okds (rowsOf fs') 59 = true := okds_iff.mpr ok
  simp [hL, ok2]
  cases fs' with
  | nil =>
    simp [rowsOf]
    have hlen : l.length ≤ a' := by
      have := congrArg List.length h'
      simp [suf] at this
      omega
    rw [show build v' [] = v' from rfl] at hb'
    rw [hb']
    exact hQ a' hlen
  | cons f fs' =>
    obtain ⟨dn, td⟩ := f
    obtain ⟨g1, g2, g3, g4, g5⟩ := hg'
    have e40 : 40 - ((dn, td) :: fs').length = 39 - fs'.length := by simp
    rw [e40] at hv'
    have hvq : veqs (rowsOf fs' ++ [EV.lst dn]) [] = false := by
      cases q : rowsOf fs' ++ [EV.lst dn] with
      | nil => simp at q
      | cons _ _ => simp
    have hdl : dn.length + 1 ≤ big := by
      have : dn.length + 1 ≤ 10000 := by simp only at g3; omega
      unfold big
      omega
    rw [rowsOf_c]
    simp [hvq, b_closed_1, hO, at_last, set_last, hdl, -List.length_append]
    cases td with
    | nil =>
      have h2 : l.drop a' = 62 :: suf fs' := by simpa [suf] using h'
      have n0 := fun s => need_sign (fu := fu) (k := k) (s := s) h2
      simp [cut_sign, h2, n0, hO, hL, at_last]
      refine ⟨fs'.length, by omega, .tup (dn ++ [v']), fs', rfl, a' + 1, ⟨by omega, rfl⟩, ?_⟩
      refine ⟨rfl, drop_s h2, ?_, ?_, g5, by omega, by omega⟩
      · rw [← hb']; rfl
      · have e : 40 - fs'.length = (39 - fs'.length) + 1 := by omega
        rw [e]
        refine .tup (fun x hx => ?_) (by simp at g3; simp; omega)
        rcases List.mem_append.mp hx with hx | hx
        · exact g1 x hx
        · have e : x = v' := by simpa using hx
          rw [e]; exact hv'
    | cons t ts =>
      have h2 : l.drop a' = 44 :: 32 :: (wr t ++ suf ((dn ++ [v'], ts) :: fs')) := by simpa [suf] using h'
      have h3 := drop_s h2
      have n0 := fun s => need_sign (fu := fu) (k := k) (s := s) h3
      have e1 : ((a' + 1 : Nat) : Int) = (a' : Int) + 1 := by omega
      rw [e1] at n0
      have hlt : dn.length + 1 < 10000 := by simp at g3; omega
      have hlt2 : ((dn.length : Int) + 1) < 10000 := by omega
      simp [cut_sign, h2, n0, hO, hL, at_last, hg9, hlt2]
      have := hM t ((dn ++ [v'], ts) :: fs') (a' + 2) (drop_s h3) (by simp) (by rw [← hb']; simp [build]) (by omega) (by
        have := g2 t (by simp)
        simpa using this) ⟨fun x hx => by
          rcases List.mem_append.mp hx with hx | hx
          · exact g1 x hx
          · have e : x = v' := by simpa using hx
            rw [e]; exact hv', fun x hx => g2 x (by simp [hx]), by simp at g3 ⊢; omega, g4, g5⟩ (by simpa using hl')
      rw [rowsOf_c] at this
      simpa using this
end
end K72

end
section
set_option maxHeartbeats 4000000
namespace K72
open PySem Pm Pw PySem.NumText
section
variable {fu k : Nat} {s : Sto} {l : List Nat} {a n : Nat} {v : EV} {fs : List Fr} {Q : EV → Sto → Prop}
theorem wr_ne (v : EV) {d : Nat} (h : TV d v) : ∃ c t, wr v = c :: t ∧ c ≠ 62 ∧ (isSim v = true → c ≠ 60) := by
  cases h with
  | non => exact ⟨110, _, rfl, by omega, fun _ => by omega⟩
  | @int d i hi =>
    rcases toNat_abs hi with ⟨m, rfl, hm⟩ | ⟨m, rfl, hm⟩
    · show ∃ c t, itx (m : Int) = c :: t ∧ _
      rw [itx_pos]
      cases q : dg m with
      | nil => exact absurd q (dg_ne m)
      | cons c t =>
        have := dg_all m c (by rw [q]; simp)
        exact ⟨c, t, rfl, by omega, fun _ => by omega⟩
    · show ∃ c t, itx (Int.negSucc m) = c :: t ∧ _
      rw [itx_neg]
      exact ⟨45, _, rfl, by omega, fun _ => by omega⟩
  | txt _ _ => exact ⟨34, _, rfl, by omega, fun _ => by omega⟩
  | tup _ _ =>
    rw [wr_tup]
    exact ⟨60, _, rfl, by omega, fun z => by cases z⟩
theorem notSim {v : EV} (h : ¬isSim v = true) : ∃ xs, v = .tup xs := by
  cases v <;> first | exact ⟨_, rfl⟩ | exact absurd rfl h
theorem TV.tup_inv {d : Nat} {xs : List EV} (h : TV d (.tup xs)) : ∃ d', d = d' + 1 ∧ (∀ x ∈ xs, TV d' x) ∧ xs.length ≤ 10000 := by
  generalize e : EV.tup xs = v at h
  cases h with
  | non => cases e
  | int _ => cases e
  | txt _ _ => cases e
  | tup h hl => cases e; exact ⟨_, rfl, h, hl⟩
/-- what holds ahead of a turn -/
def RI (l : List Nat) (V : EV) (s : Sto) (m : Nat) (ρ : En) (s' : Sto) : Prop := ∃ v fs a vv, m = l.length - a ∧ ρ = [some (tx l), some (.int (a : Nat)), some (.obj s.length), vv] ∧ s' = s ++ [.lst (rowsOf fs)] ∧ l.drop a = wr v ++ suf fs ∧ build v fs = V ∧ TV (40 - fs.length) v ∧ Good fs ∧ fs.length ≤ 40
/-- behind the loop -/
def DR (l : List Nat) (V : EV) (s : Sto) (D : Fl → Sto → Prop) : Prop := ∀ a', l.length ≤ a' → D (.nx [some (tx l), some (.int (a' : Nat)), some (.obj s.length), some V]) (s ++ [.lst []])
theorem read_loop {D : Fl → Sto → Prop} {V : EV} (hf : 100 < fu) (hf2 : l.length < fu) (h : l = wr V) (hv : TV 40 V) (hD : DR l V s D) :
    WpS (exec ⟨mean DT GL fu (k + 3), GL, fu⟩ (.whl (.cst (.bl true)) b_read_from_1) [some (tx l), some (.int 0), some (.obj s.length), none] (s ++ [.lst []])) D := by
  have hset : ∀ xs, (s ++ [Ob.lst []]).set s.length (.lst xs) = s ++ [.lst xs] := fun xs => by simp
  have hn : s.length < (s ++ [Ob.lst []]).length := by simp
  have hL : ∀ xs, olst (s ++ [Ob.lst xs]) s.length = some xs := fun xs => olst_iff.mpr (by simp)
  have hO : ∀ xs, oat (s ++ [Ob.lst xs]) s.length = some (.lst xs) := fun xs => olst_oat (hL xs)
  have hset2 : ∀ xs ys, (s ++ [Ob.lst xs]).set s.length (.lst ys) = s ++ [.lst ys] := fun xs ys => by simp
  have hg10 : GL 10 = some (.int 40) := rfl
  refine wps_whl (RI l V s)
    l.length hf2 ⟨V, [], 0, none, by omega, rfl, rfl, by simp [suf, h], rfl, hv, trivial, by simp⟩ ?_
  rintro m ρ s' ⟨v, fs, a, vv, rfl, rfl, rfl, h', hb, hv', hg, hl'⟩
  obtain ⟨c, t, hc, c62, c60⟩ := wr_ne v hv'
  have hal : a < l.length := by
    have := congrArg List.length h'
    rw [hc] at this
    simp at this
    omega
  -- behind a whole value
  have after : ∀ (w : EV) (a1 : Nat), a < a1 → l.drop a1 = suf fs → TV (40 - fs.length) w → build w fs = V → ∀ vv' : EV,
      Wp (mean DT GL fu (k + 3) 11 [tx l, .int a1, .obj s.length, w] (s ++ [.lst (rowsOf fs)])) fun r s1 => ∃ v2 a2, r = .tup [v2, .int (a2 : Nat)] ∧
        ((s1 = s ++ [.lst []] ∧ v2 = V ∧ l.length ≤ a2) ∨ ∃ t fs', fs' ≠ [] ∧ s1 = s ++ [.lst (rowsOf fs')] ∧ l.drop a2 = wr t ++ suf fs' ∧ build t fs' = V ∧ TV (40 - fs'.length) t ∧ Good fs' ∧ fs'.length ≤ 40 ∧ a < a2) := by
    intro w a1 ha1 hd hw hbw vv'
    have e0 : s ++ [Ob.lst (rowsOf fs)] = (s ++ [Ob.lst []]).set s.length (.lst (rowsOf fs)) := (hset _).symm
    rw [e0]
    refine closed_wp (fu := fu) (k := k + 1) (s := s ++ [Ob.lst []]) (n := s.length) hf hn hl' hd hw hg (fun a' ha' => ?_) fun t fs' a' h1 h2 h3 h4 h5 h6 h7 => ?_
    · exact ⟨_, a', rfl, .inl ⟨hset _, hbw, ha'⟩⟩
    · exact ⟨_, a', rfl, .inr ⟨t, fs', h2, hset _, h1, h3.trans hbw, h5, h6, h7, by omega⟩⟩
  -- the rest of a turn
  have rest : ∀ (w : EV) (a1 : Nat), a < a1 → l.drop a1 = suf fs → TV (40 - fs.length) w → build w fs = V →
      WpS (exec ⟨mean DT GL fu (k + 3), GL, fu⟩ (.seq (.asg (.tup (.cons (.var 3) (.cons (.var 1) .nil))) (.call 11 (.cons (.var 0) (.cons (.var 1) (.cons (.var 2) (.cons (.var 3) .nil)))))) (.seq (.ife (.cmp .eqn (.var 2) (.lst false .nil)) (.seq .brk .skip) .skip) .skip))
        [some (tx l), some (.int a1), some (.obj s.length), some w] (s ++ [.lst (rowsOf fs)]))
        (Wh (RI l V s) D (l.length - a)) := by
    intro w a1 ha1 hd hw hbw
    simp
    refine (after w a1 ha1 hd hw hbw .non).mono ?_
    rintro r s1 ⟨v2, a2, rfl, ⟨rfl, rfl, h2⟩ | ⟨t, fs', h2, rfl, h3, h4, h5, h6, h7, h8⟩⟩
    · simp [eqn_obj (hL [])]
      exact hD a2 h2
    · have hr : (rowsOf fs').isEmpty = false := by
        cases q : rowsOf fs' with
        | nil =>
          have := congrArg List.length q
          rw [rowsOf_len] at this
          exact absurd (List.eq_nil_of_length_eq_zero this) h2
        | cons _ _ => rfl
      simp [eqn_obj (hL _), hr]
      have hlt : a2 < l.length := by
        obtain ⟨c, u, hc, _⟩ := wr_ne t h5
        have := congrArg List.length h3
        rw [hc] at this
        simp at this
        omega
      exact ⟨l.length - a2, by omega, t, fs', a2, _, rfl, rfl, rfl, h3, h4, h5, h6, h7⟩
  simp only [b_read_from_1, wps_seq]
  by_cases hs : isSim v = true
  · have c60 := c60 hs
    have n0 := fun s => simple_at (fu := fu) (k := k) (s := s) hv' hs hf h' (noD_suf fs)
    have r0 := rest v (a + (wr v).length) (by rw [hc]; simp) (drop_app h') hv' hb
    simp only [wps_seq] at r0
    simp [cut_sign, h', hc, c60, -Int.natCast_add]
    rw [n0]
    simpa [-Int.natCast_add] using r0
  · obtain ⟨xs, rfl⟩ := notSim hs
    obtain ⟨d, hd, hx, hl⟩ := hv'.tup_inv
    have hfl : fs.length < 40 := by omega
    have hfl2 : (fs.length : Int) < 40 := by omega
    cases xs with
    | nil =>
      have h2 : l.drop a = 60 :: 62 :: suf fs := by rw [h']; rfl
      have h3 := drop_s h2
      have e1 : ((a : Int) + 1) = ((a + 1 : Nat) : Int) := by omega
      have e2 : ((a : Int) + 1 + 1) = ((a + 2 : Nat) : Int) := by omega
      have r0 := rest (.tup []) (a + 2) (by omega) (drop_s h3) hv' hb
      simp only [wps_seq] at r0
      simp [cut_sign, h2, hO, rowsOf_len, hg10, hfl2, -Int.natCast_add]
      rw [e1]
      simp [cut_sign, h3, -Int.natCast_add]
      rw [show ((a + 1 : Nat) : Int) + 1 = ((a + 2 : Nat) : Int) by omega]
      simpa [-Int.natCast_add] using r0
    | cons x ys =>
      have h2 : l.drop a = 60 :: (wr x ++ suf (([], ys) :: fs)) := by rw [h', suf_tup]
      have h3 := drop_s h2
      obtain ⟨cx, u, hcx, cx62, _⟩ := wr_ne x (hx x (by simp))
      have e1 : ((a : Int) + 1) = ((a + 1 : Nat) : Int) := by omega
      simp [cut_sign, h2, hO, rowsOf_len, hg10, hfl2, -Int.natCast_add]
      rw [e1]
      simp [cut_sign, h3, hcx, cx62, hL, -Int.natCast_add]
      refine ⟨by rw [rowsOf_len]; unfold big; omega, l.length - (a + 1), by omega, x, ([], ys) :: fs, a + 1, _, rfl, rfl, by rw [rowsOf_c], by rw [h3, hcx], ?_, ?_, ?_, by simp; omega⟩
      · rw [← hb]; rfl
      · have : TV d x := hx x (by simp)
        refine this.mono ?_
        simp
        omega
      · refine ⟨fun _ z => (nomatch z), fun y hy => ?_, by simp at hl ⊢; omega, hfl, hg⟩
        have : TV d y := hx y (by simp [hy])
        exact this.mono (by omega)
theorem read_told {V : EV} (hv : TV 40 V) (hf : 100 < fu) (hf2 : (wr V).length < fu) : mean DT GL fu (k + 5) 14 [tx (wr V)] s = .ok V (s ++ [.lst []]) := by
  refine Wp.eq (mean_wp (d := f_read_told) rfl rfl ?_)
  show WpS (exec _ b_read_told [some (tx (wr V))] s) _
  have hr : mean DT GL fu (k + 4) 12 [tx (wr V)] s = .ok V (s ++ [.lst []]) := by
    refine Wp.eq (mean_wp (d := f_read_from) rfl rfl ?_)
    show WpS (exec _ b_read_from [some (tx (wr V)), none, none, none] s) _
    simp only [b_read_from, wps_seq]
    simp
    refine read_loop hf hf2 rfl hv fun a' ha' => ?_
    have h1 : ¬ ((a' : Int) < ((wr V).length : Int)) := by omega
    simp [h1]
  simp [b_read_told, hr]
end
end K72

end
section
set_option maxHeartbeats 4000000
namespace K72
open PySem Pm Pw PySem.NumText
theorem H15 : DT[15]? = some d_cup := rfl
theorem H16 : DT[16]? = some d_roll := rfl
theorem H17 : DT[17]? = some (d_some 16) := rfl
theorem cup_set {s : Sto} {n : Nat} {a b : Int} (h : Cup s n) : Cup (s.set n (.lst [.int a, .int b])) n := by
  obtain ⟨x, y, h⟩ := h
  have hn : n < s.length := (List.getElem?_eq_some_iff.mp (olst_iff.mp h)).1
  exact ⟨a, b, olst_iff.mpr (List.getElem?_set_self hn)⟩
section
variable {fu k n : Nat} {s : Sto} {Q : EV → Sto → Prop}
theorem number_wp (hc : Cup s n) (h : ∀ i a b : Int, i.natAbs ≤ 1000000000000 → Q (.int i) (s.set n (.lst [.int a, .int b]))) : Wp (mean DT GL fu (k + 3) 19 [.obj n] s) Q := by
  refine mean_wp (d := f__law_number) rfl rfl ?_
  show WpS (exec _ b__law_number [some (.obj n), none] s) _
  simp [b__law_number]
  refine roll_wp H16 hc (by omega) (by omega) fun way a b w0 w1 => ?_
  simp
  refine br_by (fun hw => ?_) fun hw => ?_
  · simp
    refine roll_wp H16 (cup_set hc) (by omega) (by omega) fun r a b r0 r1 => ?_
    simp
    exact h _ _ _ (by omega)
  · simp
    refine br_by (fun hw => ?_) fun hw => ?_
    · simp
      refine some_int (fun i => 0 ≤ i ∧ i ≤ 1000000000000) H17 H16 (cup_set hc) (by simp) (by simp) (by simp) fun i hi a b => ?_
      simp
      refine some_int (fun i => i = 1 ∨ i = -1) H17 H16 (cup_set hc) (by simp) (by simp) (by simp) fun j hj a b => ?_
      rcases hj with rfl | rfl
      · simp; exact h _ _ _ (by omega)
      · simp; exact h _ _ _ (by omega)
    · simp
      refine roll_wp H16 (cup_set hc) (by omega) (by omega) fun x a b x0 x1 => ?_
      simp
      refine roll_wp H16 (cup_set hc) (by omega) (by omega) fun y a b y0 y1 => ?_
      have hxy : 0 ≤ x * y := Int.mul_nonneg x0 y0
      have hxy2 : x * y ≤ 999999 * 999999 := Int.mul_le_mul (by omega) (by omega) y0 (by omega)
      simp
      refine ⟨.inl ⟨by omega, by omega⟩, ?_⟩
      refine some_int (fun i => i = 1 ∨ i = -1) H17 H16 (cup_set hc) (by simp) (by simp) (by simp) fun j hj a b => ?_
      rcases hj with rfl | rfl
      · simp; exact h _ _ _ (by omega)
      · simp; exact h _ _ _ (by omega)
def TI (s : Sto) (n : Nat) (xs ys : List EV) (s' : Sto) : Prop := ∃ (l : List Nat) (a b : Int), ys = l.map (fun c => tx [c]) ∧ (∀ c ∈ l, 97 ≤ c ∧ c ≤ 122) ∧ l.length + xs.length ≤ 9 ∧ s' = s.set n (.lst [.int a, .int b])
theorem text_wp (hc : Cup s n) (h : ∀ (l : List Nat) (a b : Int), (∀ c ∈ l, 97 ≤ c ∧ c ≤ 122) → l.length ≤ 9 → Q (tx l) (s.set n (.lst [.int a, .int b]))) : Wp (mean DT GL fu (k + 3) 18 [.obj n, .int 9] s) Q := by
  refine mean_wp (d := f__law_text) rfl rfl ?_
  show WpS (exec _ b__law_text [some (.obj n), some (.int 9), none] s) _
  simp [b__law_text]
  refine wp_comp (TI s n) ?_ ?_ ?_
  · simp
    refine roll_wp H16 hc (by omega) (by omega) fun r a b r0 r1 => ?_
    simp
    refine ⟨⟨by omega, by omega, by unfold big; omega⟩, [], a, b, rfl, by simp, ?_, rfl⟩
    simp [rngs]
    omega
  · rintro x xs ys s' ⟨l, a, b, rfl, hl, hlen, rfl⟩
    simp [wipe]
    refine some_wp H17 H16 (cup_set hc) (by simp [sgs]) (by simp [sgs]) fun x hx a b => ?_
    have hx : x ∈ LL.map fun c => tx [c] := hx
    obtain ⟨c, hc, rfl⟩ := List.mem_map.mp hx
    have hc := mem_LL.mp hc
    refine ⟨l ++ [c], a, b, by simp, fun d hd => ?_, by simp at hlen ⊢; omega, by simp⟩
    rcases List.mem_append.mp hd with hd | hd
    · exact hl d hd
    · have : d = c := by simpa using hd
      rw [this]; exact hc
  · rintro ys s' ⟨l, a, b, rfl, hl, hlen, rfl⟩
    have e : l.map (fun c => tx [c]) = (l.map fun c => [c]).map tx := by rw [List.map_map]; rfl
    have ej : ∀ l : List Nat, joinL [] (l.map fun c => [c]) = l := by
      intro l
      induction l with
      | nil => rfl
      | cons c l ih =>
        cases l with
        | nil => rfl
        | cons d l =>
          rw [List.map_cons, List.map_cons, joinL_c]
          rw [List.map_cons] at ih
          rw [ih]; rfl
    have es : ∀ l : List Nat, ((l.map fun c => [c]).map fun z => z.length).sum = l.length := by
      intro l
      induction l with
      | nil => rfl
      | cons c l ih => rw [List.map_cons, List.map_cons, List.sum_cons, ih]; simp; omega
    simp
    rw [e, p_join (by rw [es]; simp; unfold big; simp at hlen; omega), ej]
    simp
    exact h l a b hl (by simpa using hlen)
/-- the most signs of a value's text -/
def BB : Nat → Nat
  | 0 => 20
  | d + 1 => 4 * (BB d + 2) + 2
theorem BB_mono (d : Nat) : BB 0 ≤ BB d := by
  induction d with
  | zero => exact Nat.le_refl _
  | succ d ih => show _ ≤ 4 * (BB d + 2) + 2; omega
def VI (s : Sto) (n d : Nat) (xs ys : List EV) (s' : Sto) : Prop := ∃ a b : Int, (∀ y ∈ ys, TV d y ∧ (wr y).length ≤ BB d) ∧ ys.length + xs.length ≤ 4 ∧ s' = s.set n (.lst [.int a, .int b])
theorem value_wp : ∀ (d k : Nat) {s : Sto} {Q : EV → Sto → Prop}, Cup s n → (∀ (v : EV) (a b : Int), TV d v → (wr v).length ≤ BB d → Q v (s.set n (.lst [.int a, .int b]))) → Wp (mean DT GL fu (k + d + 4) 20 [.obj n, .int d] s) Q := by
  intro d
  induction d with
  | zero =>
    intro k s Q hc h
    refine mean_wp (d := f__law_value) rfl rfl ?_
    show WpS (exec _ b__law_value [some (.obj n), some (.int 0), none, none] s) _
    simp [b__law_value]
    refine roll_wp H16 hc (by omega) (by omega) fun way a b w0 w1 => ?_
    simp
    refine br_by (fun hw => ?_) fun hw => ?_
    · simp; exact h _ _ _ .non (by decide)
    · simp
      refine br_by (fun hw => ?_) fun hw => ?_
      · have h5 : way < 5 := by simp at hw; omega
        simp [hw, h5]
        refine number_wp (cup_set hc) fun i a b hi => ?_
        simp
        refine h _ _ _ (.int hi) ?_
        have := itx_len hi
        show (itx i).length ≤ 20
        omega
      · simp [hw]
        refine br_by (fun hw => ?_) fun hw => ?_
        · simp
          refine number_wp (cup_set hc) fun i a b hi => ?_
          simp
          refine h _ _ _ (.int hi) ?_
          have := itx_len hi
          show (itx i).length ≤ 20
          omega
        · simp
          refine text_wp (cup_set hc) fun l a b hl hlen => ?_
          simp
          refine h _ _ _ (.txt hl (by omega)) ?_
          rw [wr_tx]
          simp
          show l.length + 1 + 1 ≤ 20
          omega
  | succ d ih =>
    intro k s Q hc h
    refine mean_wp (d := f__law_value) rfl rfl ?_
    show WpS (exec _ b__law_value [some (.obj n), some (.int (d + 1 : Nat)), none, none] s) _
    have hB := BB_mono (d + 1)
    have hB : 20 ≤ BB (d + 1) := hB
    simp [b__law_value]
    refine roll_wp H16 hc (by omega) (by omega) fun way a b w0 w1 => ?_
    have e0 : (((d : Int) + 1) == 0) = false := by rw [beq_eq_false_iff_ne]; omega
    simp
    refine br_by (fun hw => ?_) fun hw => ?_
    · simp; exact h _ _ _ .non (by
        show 4 ≤ BB (d + 1)
        omega)
    · simp
      refine br_by (fun hw => ?_) fun hw => ?_
      · have h5 : way < 5 := by simp at hw; omega
        simp [hw, h5]
        refine number_wp (cup_set hc) fun i a b hi => ?_
        simp
        refine h _ _ _ (.int hi) ?_
        have := itx_len hi
        show (itx i).length ≤ BB (d + 1)
        omega
      · simp [hw, e0]
        refine br_by (fun hw => ?_) fun hw => ?_
        · simp
          refine text_wp (cup_set hc) fun l a b hl hlen => ?_
          simp
          refine h _ _ _ (.txt hl (by omega)) ?_
          rw [wr_tx]
          simp
          omega
        · simp
          refine wp_comp (VI s n d) ?_ ?_ ?_
          · simp
            refine roll_wp H16 (cup_set hc) (by omega) (by omega) fun r a b r0 r1 => ?_
            simp
            refine ⟨⟨by omega, by omega, by unfold big; omega⟩, a, b, by simp, ?_, rfl⟩
            simp [rngs]
            omega
          · rintro x xs ys s' ⟨a, b, hy, hlen, rfl⟩
            simp [wipe]
            have := ih k (s := s.set n (.lst [.int a, .int b])) (Q := fun v s1 => VI s n d xs (ys ++ [v]) s1) (cup_set hc) fun v a b hv hw => by
              refine ⟨a, b, fun y hy2 => ?_, by simp at hlen ⊢; omega, by simp⟩
              rcases List.mem_append.mp hy2 with h2 | h2
              · exact hy y h2
              · have e : y = v := by simpa using h2
                rw [e]; exact ⟨hv, hw⟩
            exact this
          · rintro ys s' ⟨a, b, hy, hlen, rfl⟩
            simp
            refine h _ _ _ (.tup (fun y hy2 => (hy y hy2).1) (by simp at hlen; omega)) ?_
            rw [wr_tup]
            have hj := (joinL_len [44, 32] (ys.map wr))
            have hsum : ((ys.map wr).map fun z => z.length).sum ≤ ys.length * BB d := by
              rw [List.map_map]
              clear hlen hj
              induction ys with
              | nil => simp
              | cons y ys ih2 =>
                have h1 := (hy y (by simp)).2
                have h2 := ih2 fun z hz => hy z (by simp [hz])
                rw [List.map_cons, List.sum_cons, List.length_cons, Nat.succ_mul]
                simp only [Function.comp] at h2 ⊢
                omega
            have hjl : (joinL [44, 32] (ys.map wr)).length ≤ ((ys.map wr).map fun z => z.length).sum + ys.length * 2 := by
              cases ys with
              | nil => simp [joinL]
              | cons y ys =>
                rw [List.map_cons, joinL_leq]
                simp only [List.map_cons, List.sum_cons, List.length_cons, List.length_map, List.length_nil]
                omega
            have hm : ys.length * BB d ≤ 4 * BB d := Nat.mul_le_mul_right _ (by simpa using hlen)
            have hlen : ys.length ≤ 4 := by simpa using hlen
            show _ ≤ 4 * (BB d + 2) + 2
            simp
            omega
end
end K72

end
section
set_option maxHeartbeats 4000000
namespace K72
open PySem Pm Pw PySem.NumText
theorem rlens_sum : ∀ xs : List EV, rlens xs = (xs.map fun x => rlen x + 2).sum
  | [] => rfl
  | x :: xs => by
    show rlen x + 2 + rlens xs = _
    rw [rlens_sum xs]; simp
theorem TV.rlen {d : Nat} {v : EV} (h : TV d v) : rlen v ≤ 30 * (wr v).length := by
  induction h with
  | non => decide
  | @int d i h =>
    have : i.natAbs < 10 ^ 20 := by omega
    show (if i.natAbs < 10 ^ 20 then 21 else 2000) ≤ 30 * (itx i).length
    rw [if_pos this]
    obtain ⟨c, t, e, _⟩ := wr_ne (.int i) (TV.int (d := 0) h)
    have e : itx i = c :: t := e
    rw [e]
    simp
    omega
  | @txt d l h hl =>
    rw [wr_tx]
    show 10 * (⟨l.toArray⟩ : Str).length + 2 ≤ _
    have : (⟨l.toArray⟩ : Str).length = l.length := by simp [Str.length]
    rw [this]
    simp
    omega
  | @tup d xs h hl ih =>
    rw [wr_tup]
    show rlens xs + 3 ≤ _
    rw [rlens_sum]
    have hj := (joinL_len [44, 32] (xs.map wr)).2
    have h1 : (xs.map fun x => Pm.rlen x + 2).sum ≤ 30 * ((xs.map wr).map fun z => z.length).sum + 2 * xs.length := by
      clear hj h hl
      induction xs with
      | nil => simp
      | cons x xs ih2 =>
        have h1 := ih x (by simp)
        have h2 := ih2 fun z hz => ih z (by simp [hz])
        simp only [List.map_cons, List.sum_cons, List.length_cons] at h2 ⊢
        omega
    cases xs with
    | nil => simp [joinL]
    | cons x xs =>
      simp only [List.length_map, List.length_cons, List.length_nil, List.length_append] at hj h1 ⊢
      omega
theorem showAll : ∀ {xs : List EV}, (∀ x ∈ xs, (pd x).showable = true) → PyData.showableAll (pds xs) = true
  | [], _ => rfl
  | x :: xs, h => by
    show ((pd x).showable && PyData.showableAll (pds xs)) = true
    rw [h x (by simp), showAll fun y hy => h y (by simp [hy])]; rfl
theorem TV.shows {d : Nat} {v : EV} (h : TV d v) : (pd v).showable = true := by
  induction h with
  | non => rfl
  | int h => exact decide_eq_true (log_small h)
  | txt _ _ => rfl
  | tup h hl ih => exact showAll ih
section
variable {V : EV}
theorem RTo (hv : TV 40 V) (hl : (wr V).length ≤ 10000) (s : Sto) : mean DT GL 100000 59 14 [tx (wr V)] s = .ok V (s ++ [.lst []]) := read_told (fu := 100000) (k := 54) hv (by omega) (by omega)
theorem TTo (hv : TV 40 V) (hl : (wr V).length ≤ 10000) (s : Sto) : mean DT GL 100000 59 13 [V] s = .ok (tx (wr V)) s := told_text (fu := 100000) (k := 14) (d := 40) hv (by omega) (by omega)
theorem LWr (hv : TV 40 V) (hl : (wr V).length ≤ 10000) (s : Sto) : mean DT GL 100000 59 21 [V] s = .ok (tx (wr V)) s := law_written (fu := 100000) (k := 18) (d := 40) hv (by omega)
theorem TV.look {d : Nat} {v : EV} (h : TV d v) (s : Sto) : look s v = v := by
  cases h <;> rfl
theorem TV.self {d : Nat} {v : EV} (h : TV d v) : veq v v = true := veq_refl _ _ h.okd
end
/-- tuples in tuples -/
def nest : Nat → EV
  | 0 => .tup []
  | n + 1 => .tup [nest n]
theorem nest_tv : ∀ n : Nat, TV (n + 1) (nest n)
  | 0 => .tup (fun _ h => (nomatch h)) (by decide)
  | n + 1 => .tup (fun x hx => by
      have e : x = nest n := by simpa using hx
      rw [e]; exact nest_tv n) (by simp)
def V1 : EV := .tup [tx [116, 97, 107, 101], .tup [.int 0, .int 1], .non, .tup [tx [97, 98], .int (-5), tx []], .tup []]
theorem V1_tv : TV 40 V1 := by
  refine .tup (d := 39) (fun x hx => ?_) (by decide)
  simp only [List.mem_cons, List.not_mem_nil, or_false] at hx
  rcases hx with rfl | rfl | rfl | rfl | rfl
  · exact .txt (by decide) (by decide)
  · refine .tup (d := 38) (fun x hx => ?_) (by decide)
    simp only [List.mem_cons, List.not_mem_nil, or_false] at hx
    rcases hx with rfl | rfl <;> exact .int (by decide)
  · exact .non
  · refine .tup (d := 38) (fun x hx => ?_) (by decide)
    simp only [List.mem_cons, List.not_mem_nil, or_false] at hx
    rcases hx with rfl | rfl | rfl
    · exact .txt (by decide) (by decide)
    · exact .int (by decide)
    · exact .txt (by decide) (by decide)
  · exact .tup (d := 38) (fun _ h => (nomatch h)) (by decide)
theorem i0 : itx 0 = [48] := (itx_pos 0).trans (dg_small (by decide))
theorem i1 : itx 1 = [49] := (itx_pos 1).trans (dg_small (by decide))
theorem i5 : itx (-5) = [45, 53] := (itx_neg 4).trans (by rw [dg_small (by decide)])
theorem V1_wr : wr V1 = [60, 34, 116, 97, 107, 101, 34, 44, 32, 60, 48, 44, 32, 49, 62, 44, 32, 110, 111, 110, 101, 44, 32, 60, 34, 97, 98, 34, 44, 32, 45, 53, 44, 32, 34, 34, 62, 44, 32, 60, 62, 62] := by
  have w0 : wr (.int 0) = [48] := i0
  have w1 : wr (.int 1) = [49] := i1
  have w5 : wr (.int (-5)) = [45, 53] := i5
  have wn : wr .non = [110, 111, 110, 101] := rfl
  simp [V1, wr_tup, wr_tx, w0, w1, w5, wn, joinL]
theorem N_wr : wr (nest 39) = (List.replicate 40 [60]).flatten ++ (List.replicate 40 [62]).flatten := by decide +kernel
def L3 : List EV := [.int 1000000000000, .int (-1000000000000), .int 0, tx [], tx (List.replicate 100 122), .non, .tup [], .tup [.non], .tup [.tup [], .tup [], .tup []], .tup [tx [110, 111, 110, 101], .int 1]]
theorem L3_tv : ∀ x ∈ L3, TV 40 x ∧ (wr x).length ≤ 10000 := by
  intro x hx
  have h1 : (wr x).length ≤ 10000 := by
    have a1 : (wr (.int 1000000000000)).length ≤ 14 := itx_len (by decide)
    have a2 : (wr (.int (-1000000000000))).length ≤ 14 := itx_len (by decide)
    have a3 : (wr (.int 0)).length ≤ 14 := itx_len (by decide)
    have a4 : (wr (.int 1)).length ≤ 14 := itx_len (by decide)
    have wn : wr .non = [110, 111, 110, 101] := rfl
    simp only [L3, List.mem_cons, List.not_mem_nil, or_false] at hx
    rcases hx with rfl | rfl | rfl | rfl | rfl | rfl | rfl | rfl | rfl | rfl
    · omega
    · omega
    · omega
    · simp [wr_tx]
    · simp [wr_tx]
    · simp [wn]
    · simp [wr_tup, joinL]
    · simp [wr_tup, joinL, wn]
    · simp [wr_tup, joinL]
    · simp [wr_tup, joinL, wr_tx]; omega
  refine ⟨?_, h1⟩
  simp only [L3, List.mem_cons, List.not_mem_nil, or_false] at hx
  rcases hx with rfl | rfl | rfl | rfl | rfl | rfl | rfl | rfl | rfl | rfl
  · exact .int (by decide)
  · exact .int (by decide)
  · exact .int (by decide)
  · exact .txt (by decide) (by decide)
  · exact .txt (fun c hc => by rw [List.eq_of_mem_replicate hc]; omega) (by decide)
  · exact .non
  · exact .tup (d := 39) (fun _ h => (nomatch h)) (by decide)
  · refine .tup (d := 39) (fun x hx => ?_) (by decide)
    have e : x = .non := by simpa using hx
    rw [e]; exact .non
  · refine .tup (d := 39) (fun x hx => ?_) (by decide)
    have e : x = .tup [] := by simpa using hx
    rw [e]; exact .tup (d := 38) (fun _ h => (nomatch h)) (by decide)
  · refine .tup (d := 39) (fun x hx => ?_) (by decide)
    simp only [List.mem_cons, List.not_mem_nil, or_false] at hx
    rcases hx with rfl | rfl
    · exact .txt (by decide) (by decide)
    · exact .int (by decide)
end K72

end
section
-- DEPTH 60 FUEL 100000
set_option maxHeartbeats 4000000
namespace K72
open PySem Pm Pw PySem.NumText
abbrev CC : Ct := ⟨mean DT GL 100000 59, GL, 100000⟩
/-- ahead of a turn -/
def I1 (sc : EV) (xs : List EV) (ρ : En) (s : Sto) : Prop := ∃ (a b : Int) (t : Sto) (v2 v5 v6 : Option EV), ρ = [some sc, some (.obj 0), v2, none, none, v5, v6] ∧ s = .lst [.int a, .int b] :: t
/-- nested so far -/
def I2 (sc : EV) (n : Nat) (xs : List EV) (ρ : En) (s : Sto) : Prop := ∃ (v2 v5 v6 : Option EV), ρ = [some sc, some (.obj 0), v2, some V1, some (nest (n - xs.length)), v5, v6] ∧ xs.length ≤ n
/-- the rest of the list -/
def I3 (sc : EV) (xs : List EV) (ρ : En) (s : Sto) : Prop := ∃ (v2 v4 v5 v6 : Option EV), ρ = [some sc, some (.obj 0), v2, some V1, v4, v5, v6] ∧ ∀ x ∈ xs, x ∈ L3
theorem law_run (ns : List Int) (hn : ns.length ≤ 63) : ∃ s, mean DT GL 100000 60 22 [.scr (ns.map .int)] [] = .ok (.bl true) s := by
  have main : Wp (mean DT GL 100000 60 22 [.scr (ns.map .int)] []) fun v s => v = .bl true := by
    refine mean_wp (d := f_law) rfl rfl ?_
    show WpS (exec CC b_law [some (.scr (ns.map .int)), none, none, none, none, none, none] _) _
    simp only [b_law, wps_seq]
    simp
    refine cup_wp H15 hn fun a b => ?_
    simp
    refine wps_for (I1 (.scr (ns.map .int))) ?_ ?_ ?_
    · simp
      exact ⟨by unfold big; omega, a, b, [], none, none, none, rfl, rfl⟩
    · rintro x xs ρ s ⟨a, b, t, v2, v5, v6, rfl, rfl⟩
      simp [b_law_1]
      have := value_wp (fu := 100000) (n := 0) 4 51 (s := .lst [.int a, .int b] :: t) (Q := fun v s1 => TV 4 v ∧ (wr v).length ≤ BB 4 ∧ ∃ a b, s1 = .lst [.int a, .int b] :: t) ⟨a, b, rfl⟩ fun v a b h1 h2 => ⟨h1, h2, a, b, rfl⟩
      refine this.mono ?_
      rintro V s1 ⟨h1, h2, a, b, rfl⟩
      have hv : TV 40 V := h1.mono (by omega)
      have hl : (wr V).length ≤ 10000 := Nat.le_trans h2 (by decide)
      have hr : rlen V ≤ big := by
        have := hv.rlen
        unfold big
        omega
      simp [LWr hv hl, TTo hv hl, RTo hv hl, hv.look, okd_mono _ _ 60 hv.okd, hv.shows, hr]
      exact ⟨a, b, _, _, _, _, rfl, rfl⟩
    · rintro ρ s ⟨a, b, t, v2, v5, v6, rfl, rfl⟩
      simp
      have eV : EV.tup [tx [116, 97, 107, 101], .tup [.int 0, .int 1], .non, .tup [tx [97, 98], .int (-5), tx []], .tup []] = V1 := rfl
      rw [eV]
      have hl : (wr V1).length ≤ 10000 := by rw [V1_wr]; decide
      have t1 := TTo V1_tv hl
      have t2 := RTo V1_tv hl
      rw [V1_wr] at t1 t2
      simp only [t1, t2]
      simp [t1, t2, V1_tv.self, V1_tv.look, okd_mono _ _ 60 V1_tv.okd]
      refine wps_for (I2 (.scr (ns.map .int)) 39) ?_ ?_ ?_
      · simp
        exact ⟨by unfold big; omega, v2, v5, v6, rfl, (by first | decide | simp)⟩
      · rintro x xs ρ s ⟨v2, v5, v6, rfl, hx⟩
        simp at hx
        have e : EV.tup [nest (38 - xs.length)] = nest (39 - xs.length) := by
          have : 39 - xs.length = (38 - xs.length) + 1 := by omega
          rw [this]; rfl
        simp [b_law_2, e]
        exact ⟨_, _, _, rfl, by omega⟩
      · rintro ρ s ⟨v2, v5, v6, rfl, hx⟩
        have hv := nest_tv 39
        have hl : (wr (nest 39)).length ≤ 10000 := by rw [N_wr]; decide
        have t1 := TTo hv hl
        have t2 := RTo hv hl
        rw [N_wr] at t1 t2
        simp at t1 t2
        have b1 : 40 ≤ big := by decide
        have b2 : 80 ≤ big := by decide
        have b3 : 100 ≤ big := by decide
        simp [t1, t2, b1, b2, hv.self, hv.look, okd_mono _ _ 60 hv.okd]
        refine wps_for (I3 (.scr (ns.map .int))) ?_ ?_ ?_
        · simp [b3]
          refine ⟨v2, some (nest 39), v5, v6, rfl, ?_⟩
          intro x hx
          exact hx
        · rintro x xs ρ s ⟨v2, v4, v5, v6, rfl, hx⟩
          obtain ⟨hv, hl⟩ := L3_tv x (hx x (by simp))
          simp [b_law_3, LWr hv hl, TTo hv hl, RTo hv hl, hv.look, hv.self, okd_mono _ _ 60 hv.okd]
          exact ⟨_, _, _, _, rfl, fun y hy => hx y (by simp [hy])⟩
        · rintro ρ s ⟨v2, v4, v5, v6, rfl, hx⟩
          have t1 : ∀ s, mean DT GL 100000 59 14 [tx [110, 111, 110, 101]] s = .ok .non (s ++ [.lst []]) := RTo (V := .non) .non (by decide)
          have t2 : ∀ s, mean DT GL 100000 59 14 [tx [34, 110, 111, 110, 101, 34]] s = .ok (tx [110, 111, 110, 101]) (s ++ [.lst []]) := by
            have h : TV 40 (tx [110, 111, 110, 101]) := .txt (by decide) (by decide)
            have e := RTo h (by simp [wr_tx])
            rw [wr_tx] at e
            exact e
          simp [t1, t2]
  obtain ⟨v, s, e, rfl⟩ := Wp.iff.mp main
  exact ⟨s, e⟩
end K72

end
open PySem PySem.W PySem.Calls PyProof.Rows
theorem PySem.Challenge.cw_playedback_k72_whole_told_values_as_text_holds : PySem.Challenge.rw_playedback_k72_whole_told_values_as_text.Holds := by
  w_on; o_law
  refine HandSHeadRun.head_any (r := OpenLaw.row PySem.Challenge.rw_playedback_k72_whole_told_values_as_text) (q := view (OpenLaw.row PySem.Challenge.rw_playedback_k72_whole_told_values_as_text).prog [40]) (H := K72.hk) (ob := K72.ob) (M := 4000) (loose := K72.loose) (d := HandSHeadRun.topDef (OpenLaw.row PySem.Challenge.rw_playedback_k72_whole_told_values_as_text).prog 40) (kwd := []) K72.ob_eq
    (by kernel_rfl) (fun s => by kernel_rfl) K72.run (by kernel_rfl) (by kernel_rfl) (by kernel_rfl) (by rfl) (by first | assumption | decide +kernel) (by decide +kernel) ⟨rfl, rfl, rfl, rfl, rfl, by decide +kernel⟩ ?hw ?hc
  case hw => w_witness2
  case hc => exact Pm.law_end (l := PySem.Challenge.rw_playedback_k72_whole_told_values_as_text) (t := K72.tb) (fu := 100000) (k := 60) (i := 22) (d0 := K72.d_law) rfl (by kernel_rfl) ⟨rfl, by decide, by decide⟩ rfl (by kernel_rfl) rfl K72.tb_bd K72.tb_ok fun ns h => K72.eqG ▸ K72.eqDT ▸ K72.law_run ns h
