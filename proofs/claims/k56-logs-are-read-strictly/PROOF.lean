import PyProof.Rows.All
import Wide.All
import OpenK.AllK
import Wide.FinOn
import HandS.ForMost
import HandS.ForExc
import HandS.Walk
import HandS.Conv
import HandS.Deep
import HandS.TupAny
import HandS.TupMul
import HandS.IsInst
import HandS.DictComp
import HandS.FStr
import KE.SortData
import HandS.More
import HandS.Small
import HandS.HeadHook1
import HandS.ExcIs
import HandS.HeadWalk
import HandS.Zip
import KE.GoesNew
import KE.GoesMore
import KE.GoesEnum
import KE.GoesZip
import HandS.NoneIn
import HandS.Exc
import HandS.TryOnly
import HandS.ExcOwn
import PyProof.ExcBaseAll.ValueError
import HandS.SortKw
import HandS.Style
import HandS.Ends
import HandS.Words
import HandS.WordsExc
import HandS.Defaults
import HandS.Head0
import HandS.Head1
import HandS.Head2
import HandS.HeadEnd
import HandS.HeadHook2
import KE.KStateDown
import PyProof.Rows.BitMore
import PySem.Challenge.RW_probewright_k56_logs_are_read_strictly
set_option Elab.async false
set_option linter.all false
set_option maxRecDepth 100000
set_option maxHeartbeats 0
/-! Vm, part 1: data, a small abstract heap, a mini language and its interpreter. Own text. -/
namespace Vm
open PySem L2

/-! ### data: tuples, frozen lists, dicts and instances by value; ref: a cell of the small heap -/
inductive Dt where
  | non
  | bl (b : Bool)
  | int (i : Int)
  | str (x : Str)
  | tup (ds : List Dt)
  | lst (ds : List Dt)
  | frl (ds : List Dt)
  | dic (ks : List Key) (ds : List Dt)
  | ins (c : Nat) (ns : List Str) (ds : List Dt)
  | ref (n : Nat)
  deriving Inhabited

mutual
def noRef : Dt → Bool
  | .tup ds => noRefs ds
  | .lst ds => noRefs ds
  | .frl ds => noRefs ds
  | .dic _ ds => noRefs ds
  | .ins _ _ ds => noRefs ds
  | .ref _ => false
  | _ => true
def noRefs : List Dt → Bool
  | [] => true
  | d :: ds => noRef d && noRefs ds
end

inductive Cell where
  | dead
  | lst (ds : List Dt)
  | dic (ks : List Key) (ds : List Dt)
  | ins (c : Nat) (ns : List Str) (ds : List Dt)
  deriving Inhabited
abbrev Hq := List Cell
abbrev En := List (Option Dt)

/-- an exception: its class's number, its fields -/
structure Ex where
  c : Nat
  ns : List Str
  ds : List Dt

inductive Res (α : Type) where
  | ok (a : α) (h : Hq)
  | exc (x : Ex) (h : Hq)
  | no
def Res.bind {α β : Type} : Res α → (α → Hq → Res β) → Res β
  | .ok a h, f => f a h
  | .exc x h, _ => .exc x h
  | .no, _ => .no
/-- what a statement comes to -/
inductive Rs where
  | nx (σ : En) (h : Hq)
  | rt (d : Dt) (h : Hq)
  | bk (σ : En) (h : Hq)
  | ct (σ : En) (h : Hq)
  | ex (x : Ex) (σ : En) (h : Hq)
  | no
def Rs.of {α : Type} (σ : En) : Res α → (α → Hq → Rs) → Rs
  | .ok a h, f => f a h
  | .exc x h, _ => .ex x σ h
  | .no, _ => .no

/-! ### data seen as Python's data, ==, the depth -/
mutual
def py : Dt → PyData
  | .non => .none
  | .bl b => .bool b
  | .int i => .int i
  | .str x => .str x
  | .tup ds => .tuple (pys ds)
  | .lst ds => .list (pys ds)
  | .frl ds => .list (pys ds)
  | _ => .none
def pys : List Dt → List PyData
  | [] => []
  | d :: ds => py d :: pys ds
end
/-- plain data of depth at most n -/
def plainN : Nat → Dt → Bool
  | _, .non => true
  | _, .bl _ => true
  | _, .int _ => true
  | _, .str x => PyData.canLay0 (.str x)
  | n + 1, .tup ds => ds.all (plainN n)
  | n + 1, .lst ds => ds.all (plainN n)
  | n + 1, .frl ds => ds.all (plainN n)
  | _, _ => false
def plain (d : Dt) : Bool := plainN 64 d
def eqD (d e : Dt) : Option Bool := if plain d && plain e then some (PyData.eqv (py d) (py e)) else none

/-- what stands at a cell, seen as data -/
def vw (h : Hq) : Dt → Dt
  | .ref n => (match h[n]? with
    | some (.lst ds) => .lst ds
    | some (.dic ks ds) => .dic ks ds
    | some (.ins c ns ds) => .ins c ns ds
    | _ => .ref n)
  | d => d
/-- the items of a list, a tuple -/
def sqOf : Dt → Option (List Dt)
  | .tup ds => some ds
  | .lst ds => some ds
  | .frl ds => some ds
  | _ => none
def keyOf : Dt → Option Key
  | .int i => some (Sum.inl i)
  | .str x => some (Sum.inr x)
  | _ => none
def keyD : Key → Dt
  | .inl i => .int i
  | .inr x => .str x
def lookK : List Key → List Dt → Key → Option Dt
  | k :: ks, d :: ds, x => if k = x then some d else lookK ks ds x
  | _, _, _ => none
def replK : List Key → List Dt → Key → Dt → List Dt
  | k :: ks, d :: ds, x, y => (if k = x then y else d) :: replK ks ds x y
  | _, _, _, _ => []
def putK (ks : List Key) (ds : List Dt) (x : Key) (y : Dt) : List Key × List Dt :=
  if (ks.any fun k => decide (k = x)) then (ks, replK ks ds x y) else (ks ++ [x], ds ++ [y])
def pairsD : List Dt → Option (List (Key × Dt))
  | [] => some []
  | k :: d :: r => (keyOf k).bind fun kk => (pairsD r).map ((kk, d) :: ·)
  | _ => none
def mergeD (l : List (Key × Dt)) (ks : List Key) (ds : List Dt) : List Key × List Dt := l.foldl (fun acc p => putK acc.1 acc.2 p.1 p.2) (ks, ds)
def lookF : List Str → List Dt → Str → Option Dt
  | k :: ks, d :: ds, x => if x = k then some d else lookF ks ds x
  | _, _, _ => none
def putFd : List Str → List Dt → Str → Dt → List Str × List Dt
  | k :: ks, d :: ds, x, y => if k = x then (k :: ks, y :: ds) else ((k :: (putFd ks ds x y).1), (d :: (putFd ks ds x y).2))
  | _, _, x, y => ([x], [y])

/-! ### operators -/
def small64 (i : Int) : Bool := decide (-(2 ^ 64) < i) && decide (i < 2 ^ 64)
def boolI (b : Bool) : Int := if b then 1 else 0
def binD : Operator → Dt → Dt → Option Dt
  | .Add, .int i, .int j => some (.int (i + j))
  | .Sub, .int i, .int j => some (.int (i - j))
  | .Mult, .int i, .int j => if small64 i || small64 j then some (.int (i * j)) else none
  | .FloorDiv, .int i, .int j => if decide (0 < j) && decide (j < 1073741824) then some (.int (i / j)) else none
  | .Mod, .int i, .int j => if decide (0 < j) then some (.int (i % j)) else none
  | .Pow, .int i, .int j => if decide (0 ≤ j) && decide (j ≤ 1000000) && decide (i.natAbs < 2 ^ 64) then some (.int (i ^ j.toNat)) else none
  | .LShift, .int i, .int j => if decide (0 ≤ j) && decide (j ≤ 1000000) && decide (i.natAbs < 2 ^ 64) then some (.int (i * 2 ^ j.toNat)) else none
  | .RShift, .int i, .int j => if decide (0 ≤ j) then some (.int (i / 2 ^ j.toNat)) else none
  | .BitAnd, .int i, .int j => some (.int (Builtin.bitAnd i j))
  | .BitOr, .int i, .int j => some (.int (Builtin.bitOr i j))
  | .BitXor, .int i, .int j => some (.int (Builtin.bitXor i j))
  | .Add, .str x, .str y => if decide (x.length + y.length ≤ sizeLine) then some (.str (x ++ y)) else none
  | .Add, .tup xs, .tup ys => if decide (xs.length + ys.length ≤ sizeLine) then some (.tup (xs ++ ys)) else none
  | .Add, .lst xs, .lst ys => if decide (xs.length + ys.length ≤ sizeLine) then some (.lst (xs ++ ys)) else none
  | .Mult, .lst xs, .int k => if decide (-(2 ^ 63) ≤ k) && decide (k < 2 ^ 63) && decide (xs.length * k.toNat ≤ sizeLine) then some (.lst (List.replicate k.toNat xs).flatten) else none
  | .Mult, .tup xs, .int k => if decide (k = 1) then some (.tup xs) else if decide (xs ≠ []) && decide (2 ≤ k) && decide (k ≤ 1000) && decide (xs.length ≤ 1000) then some (.tup (List.replicate k.toNat xs).flatten) else if decide (xs ≠ []) && decide (k ≤ 0) && decide (-1000 ≤ k) then some (.tup []) else none
  | _, _, _ => none
def flatD : Dt → Bool
  | .non => true
  | .bl _ => true
  | .int _ => true
  | .str _ => true
  | _ => false
/-- == of flat data -/
def eqF : Dt → Dt → Bool
  | .non, .non => true
  | .bl a, .bl b => a == b
  | .bl a, .int b => boolI a == b
  | .int a, .bl b => a == boolI b
  | .int a, .int b => a == b
  | .str a, .str b => a == b
  | _, _ => false
def inSeq (x : Dt) (ds : List Dt) : Option Bool :=
  if flatD x && ds.all flatD then some (ds.any fun y => eqF y x)
  else none
def inD (x y : Dt) : Option Bool :=
  match y with
  | .tup ds => inSeq x ds
  | .lst ds => if plain x && plain (.lst ds) then some (ds.any fun z => PyData.eqv (py z) (py x)) else none
  | .frl ds => inSeq x ds
  | .dic ks ds => (keyOf x).map fun k => (lookK ks ds k).isSome
  | .str z => (match x with
    | .str c => (match c.cps.toList with
      | [k] => if decide (c = ⟨#[k]⟩) then some (decide (k ∈ z.cps.toList)) else none
      | _ => none)
    | _ => none)
  | _ => none
def isNonD : Dt → Bool
  | .non => true
  | _ => false
def cmpD : CmpOp → Dt → Dt → Option Bool
  | .Eq, a, b => eqD a b
  | .NotEq, a, b => (eqD a b).map (!·)
  | .Lt, .int i, .int j => some (decide (i < j))
  | .LtE, .int i, .int j => some (decide (i ≤ j))
  | .Gt, .int i, .int j => some (decide (j < i))
  | .GtE, .int i, .int j => some (decide (j ≤ i))
  | .Lt, .str i, .str j => some (decide (i.cps.toList < j.cps.toList))
  | .GtE, .str i, .str j => some (!decide (i.cps.toList < j.cps.toList))
  | .Is, a, .non => some (isNonD a)
  | .IsNot, a, .non => some (!isNonD a)
  | .In, a, b => inD a b
  | .NotIn, a, b => (inD a b).map (!·)
  | _, _, _ => none

/-! ### subscripts -/
def ixD (a b : Dt) : Option Dt :=
  match a, b with
  | .tup ds, .int i => atI ds i
  | .lst ds, .int i => atI ds i
  | .frl ds, .int i => atI ds i
  | .str z, .int i => (atI z.cps.toList i).map fun c => .str ⟨#[c]⟩
  | .dic ks ds, k => (keyOf k).bind fun k => lookK ks ds k
  | _, _ => none
def cutD (xs : List Dt) (lo hi : Option Int) : List Dt := (xs.drop (HT.sIx xs.length 0 lo)).take (HT.sIx xs.length xs.length hi - HT.sIx xs.length 0 lo)
def optI : Option Dt → Option (Option Int)
  | none => some none
  | some (.int i) => some (some i)
  | _ => none
def slD (a : Dt) (lo hi : Option Int) : Option Dt :=
  match a with
  | .tup ds => some (.tup (cutD ds lo hi))
  | .lst ds => some (.lst (cutD ds lo hi))
  | .frl ds => some (.lst (cutD ds lo hi))
  | .str z => some (.str (cutS z lo hi))
  | _ => none

/-! ### builtin functions -/
inductive Bf where
  | len | int | str | tuple | all | any | sum | min | max | sorted
  deriving DecidableEq
/-- the builtin types of isinstance -/
inductive Ty where
  | int | bool | str | tuple | list
  deriving DecidableEq
def isTy : Dt → Ty → Bool
  | .int _, .int => true
  | .bl _, .int => true
  | .bl _, .bool => true
  | .str _, .str => true
  | .tup _, .tuple => true
  | .lst _, .list => true
  | .frl _, .list => true
  | _, _ => false
def boolsOf : List Dt → Option (List Bool)
  | [] => some []
  | .bl b :: ds => (boolsOf ds).map (b :: ·)
  | _ => none
def intsOf : List Dt → Option (List Int)
  | [] => some []
  | .int b :: ds => (intsOf ds).map (b :: ·)
  | _ => none
def maxL : Int → List Int → Int
  | m, [] => m
  | m, x :: xs => maxL (if x > m then x else m) xs
def minL : Int → List Int → Int
  | m, [] => m
  | m, x :: xs => minL (if x < m then x else m) xs
def rangeD (a b : Int) : List Dt := (List.range (b - a).toNat).map fun i => .int (a + (i : Nat))
def listView : Dt → Option (List Dt)
  | .lst ds => some ds
  | .frl ds => some ds
  | _ => none
def tup1 : Dt → Bool
  | .tup (_ :: _) => true
  | _ => false
def notTup : Dt → Bool
  | .tup _ => false
  | .non => false
  | _ => true
/-- plain data of one kind, place by place (what sorted asks) -/
def sortOk (ds : List Dt) : Bool :=
  ds.all plain && (ds.all fun x => ds.all fun y => PySem.W.alike (py x) (py y)) && (ds.all tup1 || ds.all notTup)
/-- the keys of a dict, if all are ints -/
def keyInts : List Key → Option (List Int)
  | [] => some []
  | .inl i :: ks => (keyInts ks).map (i :: ·)
  | _ => none
def dicInts : Dt → Option (List Int)
  | .dic ks _ => keyInts ks
  | _ => none
def insI (x : Int) : List Int → List Int
  | [] => [x]
  | y :: l => if x ≤ y then x :: y :: l else y :: insI x l
def sortI : List Int → List Int
  | [] => []
  | x :: l => insI x (sortI l)
def leD (a b : Dt) : Bool := PySem.W.dataLe false py a b
def bfD : Bf → List Dt → Option Dt
  | .len, [.str z] => some (.int z.length)
  | .len, [.tup ds] => some (.int ds.length)
  | .len, [.lst ds] => some (.int ds.length)
  | .len, [.frl ds] => some (.int ds.length)
  | .int, [.int i] => some (.int i)
  | .int, [.bl b] => some (.int (boolI b))
  | .str, [.int i] => if decide (i.natAbs.log2 < 1920) then some (.str (toString i)) else none
  | .tuple, [d] => (sqOf d).map .tup
  | .all, [d] => ((listView d).bind boolsOf).map fun bs => .bl (bs.all id)
  | .any, [d] => ((listView d).bind boolsOf).map fun bs => .bl (bs.any id)
  | .sum, [d] => ((listView d).bind intsOf).map fun ns => .int ns.sum
  | .min, [.int i, .int j] => some (.int (if j < i then j else i))
  | .max, [.int i, .int j] => some (.int (if j > i then j else i))
  | .min, [d] => ((listView d).bind intsOf).bind fun ns => (match ns with | [] => none | n :: ns => some (.int (minL n ns)))
  | .max, [d] => ((listView d).bind intsOf).bind fun ns => (match ns with | [] => none | n :: ns => some (.int (maxL n ns)))
  | .sorted, [d] => (match dicInts d with
    | some ns => if decide (ns.length < 64) then some (.lst ((sortI ns).map .int)) else none
    | none => (listView d).bind fun ds => if sortOk ds then some (.lst (ds.mergeSort leD)) else none)
  | _, _ => none

/-! ### the mini language -/
/-- a target: a slot, or slots of a pair .. -/
inductive Tg where
  | nm (i : Nat)
  | tu (l : List Nat)
def Tg.slots : Tg → List Nat
  | .nm i => [i]
  | .tu l => l
def setSlots : List Nat → List Dt → En → Option En
  | [], [], σ => some σ
  | i :: is, d :: ds, σ => setSlots is ds (σ.set i (some d))
  | _, _, _ => none
def Tg.set : Tg → Dt → En → Option En
  | .nm i, d, σ => some (σ.set i (some d))
  | .tu l, .tup ds, σ => setSlots l ds σ
  | .tu l, .lst ds, σ => setSlots l ds σ
  | _, _, _ => none
def wipeE (σ : En) : List Nat → En
  | [] => σ
  | i :: is => (wipeE σ is).set i none

inductive E where
  | nil
  | cons (e es : E)
  | lit (d : Dt)
  | gl (i : Nat)
  | v (i : Nat)
  | bin (op : Operator) (a b : E)
  | neg (a : E)
  | nt (a : E)
  | and (a b : E)
  | or (a b : E)
  | one (a : E)
  | cmp (op : CmpOp) (a b : E)
  | chain (op op' : CmpOp) (a b c : E)
  | ife (c a b : E)
  | tup (es : E)
  | lst (m : Bool) (es : E)
  | comp (m : Bool) (t : Tg) (it c el : E)
  | dnew
  | disp (m : Bool) (es : E)
  | dcomp (m : Bool) (t : Tg) (it k el : E)
  | ix (a b : E)
  | sl (a lo hi : E)
  | call (f : Nat) (es : E)
  | make (c f : Nat) (es : E)
  | mcall (c : Nat) (m : Str) (f : Nat) (o es : E)
  | bf (f : Bf) (es : E)
  | isin (T : List Ty) (a : E)
  | listOf (m : Bool) (a : E)
  | get (o k d : E)
  | append (o a : E)
  | extend (o a : E)
  | fld (c : Nat) (o : E) (f : Str)
  | fz (a : E)
  | rng (es : E)
  | enum (a : E)
  | zip (a b : E)
  | items (a : E)
  | addM (op : Operator) (a b : E)
  | comp2 (m : Bool) (t : Tg) (it : E) (t1 : Tg) (it1 el : E)
  | rgT (es : E)
  | rgL (m : Bool) (es : E)
  | sortR (a : E)
  | rev (m : Bool) (a : E)

/-- what is walked: items, or the list at a cell as it stands at each turn -/
inductive Wk where
  | its (ds : List Dt)
  | cel (n : Nat)

def enumD : Nat → List Dt → List Dt
  | _, [] => []
  | i, d :: ds => .tup [.int (i : Nat), d] :: enumD (i + 1) ds
def zipD : List Dt → List Dt → List Dt
  | d :: ds, e :: es => .tup [d, e] :: zipD ds es
  | _, _ => []
def itemsD : List Key → List Dt → List Dt
  | k :: ks, d :: ds => .tup [keyD k, d] :: itemsD ks ds
  | _, _ => []
def bnd62 (i : Int) : Bool := decide (-(2 ^ 62) ≤ i) && decide (i < 2 ^ 62)
/-- how many items has range(i, j, c), c positive -/
def cntC (i j c : Int) : Nat := if i < j then ((j - i - 1) / c + 1).toNat else 0
def rngD : List Dt → Option (List Dt)
  | [.int j] => if bnd62 j then some (rangeD 0 j) else none
  | [.int i, .int j] => if bnd62 i && bnd62 j then some (rangeD i j) else none
  | [.int i, .int j, .int c] => if bnd62 i && bnd62 j && decide (c = -1) then some ((List.range (i - j).toNat).map fun (k : Nat) => .int (i + (k : Int) * (-1))) else
    if (decide (0 ≤ i) && decide (i < 1000000) && decide (0 ≤ j) && decide (j < 1000000)) && (decide (0 < c) && decide (c < 1000000)) then some ((List.range (cntC i j c)).map fun (k : Nat) => .int (i + (k : Int) * c)) else none
  | _ => none
def walkD (h : Hq) : Dt → Option Wk
  | .tup ds => some (.its ds)
  | .lst ds => some (.its ds)
  | .frl ds => some (.its ds)
  | .str z => some (.its (z.cps.toList.map fun c => .str ⟨#[c]⟩))
  | .ref n => (match h[n]? with
    | some (.lst _) => some (.cel n)
    | _ => none)
  | _ => none
def Res.opt {α : Type} (h : Hq) : Option α → Res α
  | some a => .ok a h
  | none => .no
/-- freezing: what the cells at b and above hold becomes data by value, the cells die -/
def fzs (g : Dt → Hq → Option (Dt × Hq)) : List Dt → Hq → Option (List Dt × Hq)
  | [], h => some ([], h)
  | d :: ds, h => (g d h).bind fun p => (fzs g ds p.2).map fun q => (p.1 :: q.1, q.2)
def fzN : Nat → Nat → Dt → Hq → Option (Dt × Hq)
  | 0, _, d, h => if noRef d then some (d, h) else none
  | k + 1, b, d, h => if noRef d then some (d, h) else
    (match d with
    | .ref n => if n < b then some (d, h) else
      (match h[n]? with
      | some (.lst ds) => (fzs (fzN k b) ds (h.set n .dead)).map fun q => (.lst q.1, q.2)
      | some (.dic ks ds) => (fzs (fzN k b) ds (h.set n .dead)).map fun q => (.dic ks q.1, q.2)
      | some (.ins c ns ds) => (fzs (fzN k b) ds (h.set n .dead)).map fun q => (.ins c ns q.1, q.2)
      | _ => none)
    | .tup ds => (fzs (fzN k b) ds h).map fun q => (.tup q.1, q.2)
    | _ => none)

def compL (f : Dt → Hq → Res (List Dt)) : List Dt → Hq → Res (List Dt)
  | [], h => .ok [] h
  | d :: ds, h => (f d h).bind fun x h1 => (compL f ds h1).bind fun xs h2 => .ok (x ++ xs) h2
/-- over what nx gives: turn i, at most m more -/
def compN (f : Dt → Hq → Res (List Dt)) (nx : Hq → Nat → Option (Option Dt)) : Nat → Nat → Hq → Res (List Dt)
  | m, i, h => match nx h i with
    | none => .no
    | some none => .ok [] h
    | some (some d) => (match m with
      | 0 => .no
      | m + 1 => (f d h).bind fun x h1 => (compN f nx m (i + 1) h1).bind fun xs h2 => .ok (x ++ xs) h2)
/-- the list at cell n as it stands -/
def nxC (n : Nat) (h : Hq) (i : Nat) : Option (Option Dt) := match h[n]? with
  | some (.lst ds) => some ds[i]?
  | _ => none
def nxL (ds : List Dt) (_ : Hq) (i : Nat) : Option (Option Dt) := some ds[i]?
def Wk.nx : Wk → Hq → Nat → Option (Option Dt)
  | .its ds => nxL ds
  | .cel n => nxC n
def cellLen (h : Hq) (n : Nat) : Nat := match h[n]? with
  | some (.lst ds) => ds.length
  | _ => 0
def compW (f : Dt → Hq → Res (List Dt)) (w : Wk) (h : Hq) : Res (List Dt) :=
  match w with
  | .its ds => compL f ds h
  | .cel n => compN f (nxC n) (cellLen h n) 0 h
/-- a dict comprehension's turns -/
def dcompL (f : Dt → Hq → Res (Key × Dt)) : List Dt → List Key → List Dt → Hq → Res (List Key × List Dt)
  | [], ks, vs, h => .ok (ks, vs) h
  | d :: ds, ks, vs, h => (f d h).bind fun x h1 => dcompL f ds (putK ks vs x.1 x.2).1 (putK ks vs x.1 x.2).2 h1
def asB : Res Dt → Res Bool
  | .ok (.bl c) h => .ok c h
  | .ok _ _ => .no
  | .exc x h => .exc x h
  | .no => .no
/-- the whole numbers of a small range -/
def rgI : List Dt → Option (List Dt)
  | [.int j] => if bnd62 0 && bnd62 j && decide ((j - 0).toNat ≤ 16777216) then some (rangeD 0 j) else none
  | [.int i, .int j] => if bnd62 i && bnd62 j && decide ((j - i).toNat ≤ 16777216) then some (rangeD i j) else none
  | _ => none
def sortDn (ns : List Int) : List Int := ns.mergeSort fun a b => decide (b ≤ a)
/-- a new list: by value, or at a new cell -/
def newL (m : Bool) (ds : List Dt) (h : Hq) : Res Dt := if m then .ok (.ref h.length) (h ++ [.lst ds]) else .ok (.lst ds) h
def newD (m : Bool) (ks : List Key) (ds : List Dt) (h : Hq) : Res Dt := if m then .ok (.ref h.length) (h ++ [.dic ks ds]) else .ok (.dic ks ds) h
/-- may d be stored in cell n, below the base b? -/
def stOk (b n : Nat) (d : Dt) : Bool := decide (b ≤ n) || noRef d
/-- the number of a cell that holds a list -/
def lcell (h : Hq) : Dt → Option Nat
  | .ref n => (match h[n]? with
    | some (.lst _) => some n
    | _ => none)
  | _ => none
def asDic : Dt → Option (List Key × List Dt)
  | .dic ks vs => some (ks, vs)
  | _ => none
def noExc {α : Type} : Res α → Res α
  | .exc _ _ => .no
  | r => r

section
variable (cl : Nat → Nat → List Dt → Hq → Res Dt) (gl : List Dt) (b : Nat)
mutual
def ev : E → En → Hq → Res Dt
  | .lit d, _, h => .ok d h
  | .gl i, _, h => .opt h gl[i]?
  | .v i, σ, h => (match σ[i]? with
    | some (some d) => .ok d h
    | _ => .no)
  | .bin op x y, σ, h => (ev x σ h).bind fun d h1 => (ev y σ h1).bind fun e h2 => .opt h2 (binD op (vw h2 d) (vw h2 e))
  | .neg x, σ, h => (ev x σ h).bind fun d h1 => (match d with
    | .int i => .ok (.int (-i)) h1
    | _ => .no)
  | .nt x, σ, h => (asB (ev x σ h)).bind fun c h1 => .ok (.bl (!c)) h1
  | .and x y, σ, h => (asB (ev x σ h)).bind fun c h1 => if c then ev y σ h1 else .ok (.bl false) h1
  | .or x y, σ, h => (asB (ev x σ h)).bind fun c h1 => if c then .ok (.bl true) h1 else ev y σ h1
  | .one x, σ, h => ev x σ h
  | .cmp op x y, σ, h => (ev x σ h).bind fun d h1 => (ev y σ h1).bind fun e h2 => (Res.opt h2 (cmpD op (vw h2 d) (vw h2 e))).bind fun c h3 => .ok (.bl c) h3
  | .chain op op' x y z, σ, h => (ev x σ h).bind fun d h1 => (ev y σ h1).bind fun e h2 => (Res.opt h2 (cmpD op (vw h2 d) (vw h2 e))).bind fun c h3 =>
      if c then (ev z σ h3).bind fun g h4 => (Res.opt h4 (cmpD op' (vw h4 e) (vw h4 g))).bind fun c' h5 => .ok (.bl c') h5 else .ok (.bl false) h3
  | .ife c x y, σ, h => (asB (ev c σ h)).bind fun c h1 => if c then ev x σ h1 else ev y σ h1
  | .tup es, σ, h => (evs es σ h).bind fun ds h1 => if decide (ds.length ≤ sizeLine) then .ok (.tup ds) h1 else .no
  | .lst m es, σ, h => (evs es σ h).bind fun ds h1 => if decide (ds.length ≤ sizeLine) then newL m ds h1 else .no
  | .comp m t it c el, σ, h => (evi it σ h).bind fun w h1 => (noExc (compW (fun d hh => match t.set d (wipeE σ t.slots) with
      | none => .no
      | some σ' => (evc c σ' hh).bind fun ok h2 => if ok then (ev el σ' h2).bind fun y h3 => .ok [y] h3 else .ok [] h2) w h1)).bind fun ds h2 => if decide (ds.length ≤ sizeLine) then newL m ds h2 else .no
  | .dnew, _, h => newD true [] [] h
  | .disp m es, σ, h => (noExc (evs es σ h)).bind fun ds h1 => (match pairsD ds with
      | some l => if decide (l.length ≤ 15) then newD m (mergeD l [] []).1 (mergeD l [] []).2 h1 else .no
      | none => .no)
  | .dcomp m t it k el, σ, h => (evi it σ h).bind fun w h1 => (match w with
      | .its ds => (noExc (dcompL (fun d hh => match t.set d (wipeE σ t.slots) with
        | none => .no
        | some σ' => (ev k σ' hh).bind fun kd h2 => (ev el σ' h2).bind fun y h3 => (Res.opt h3 (keyOf kd)).bind fun kk h4 => .ok (kk, y) h4) ds [] [] h1)).bind fun p h2 => if decide (ds.length ≤ sizeLine) then newD m p.1 p.2 h2 else .no
      | _ => .no)
  | .ix x y, σ, h => (ev x σ h).bind fun d h1 => (ev y σ h1).bind fun e h2 => .opt h2 (ixD (vw h2 d) e)
  | .sl x lo hi, σ, h => (ev x σ h).bind fun d h1 => (evo lo σ h1).bind fun l h2 => (evo hi σ h2).bind fun u h3 => .opt h3 (slD (vw h3 d) l u)
  | .call f es, σ, h => (evs es σ h).bind fun ds h1 => cl f b ds h1
  | .make c f es, σ, h => (evs es σ h).bind fun ds h1 => (cl f b (.ref h1.length :: ds) (h1 ++ [.ins c [] []])).bind fun r h2 => (match r with
      | .non => .ok (.ref h1.length) h2
      | _ => .no)
  | .mcall c m f o es, σ, h => (ev o σ h).bind fun d h1 => (match vw h1 d with
      | .ins c' ns _ => if decide (c' = c) && decide (m ∉ ns) then (evs es σ h1).bind fun ds h2 => cl f b (d :: ds) h2 else .no
      | _ => .no)
  | .bf f es, σ, h => (evs es σ h).bind fun ds h1 => .opt h1 (bfD f (ds.map (vw h1)))
  | .isin T x, σ, h => (ev x σ h).bind fun d h1 => (match vw h1 d with
      | .dic _ _ => .no
      | .ins _ _ _ => .no
      | .ref _ => .no
      | d => .ok (.bl (T.any (isTy d))) h1)
  | .listOf m x, σ, h => (match x with
      | .rng es => (evs es σ h).bind fun ds h1 => (match ds with
        | [.int j] => if decide (-(2 ^ 62) ≤ j) && decide (j ≤ 16777216) then newL m (rangeD 0 j) h1 else .no
        | _ => .no)
      | x => (ev x σ h).bind fun d h1 => (match sqOf (vw h1 d) with
        | some ds => newL m ds h1
        | none => .no))
  | .get o k d, σ, h => (ev o σ h).bind fun od h1 => (Res.opt h1 (asDic (vw h1 od))).bind fun _ h1 => (ev k σ h1).bind fun kd h2 => (evo' d σ h2).bind fun dd h3 => (match vw h3 od, keyOf kd with
      | .dic ks vs, some kk => .ok ((lookK ks vs kk).getD dd) h3
      | _, _ => .no)
  | .append o x, σ, h => (ev o σ h).bind fun od h1 => (Res.opt h1 (lcell h1 od)).bind fun n h1 => (ev x σ h1).bind fun d h2 => (match h2[n]? with
      | some (.lst ds) => if decide (ds.length < sizeLine) && stOk b n d then .ok .non (h2.set n (.lst (ds ++ [d]))) else .no
      | _ => .no)
  | .extend o x, σ, h => (ev o σ h).bind fun od h1 => (Res.opt h1 (lcell h1 od)).bind fun n h1 => (ev x σ h1).bind fun d h2 => (match vw h2 d, h2[n]? with
      | .lst es, some (.lst ds) => if decide (ds.length + es.length ≤ sizeLine) && (decide (b ≤ n) || noRefs es) then .ok .non (h2.set n (.lst (ds ++ es))) else .no
      | _, _ => .no)
  | .fld c o f, σ, h => (ev o σ h).bind fun d h1 => (match vw h1 d with
      | .ins c' ns ds => if decide (c' = c) then .opt h1 (lookF ns ds f) else .no
      | _ => .no)
  | .fz x, σ, h => (ev x σ h).bind fun d h1 => (match fzN 9 b d h1 with
      | some p => .ok p.1 p.2
      | none => .no)
  | .addM op x y, σ, h => (ev x σ h).bind fun d h1 => (ev y σ h1).bind fun e h2 => (match binD op (vw h2 d) (vw h2 e) with
      | some (.lst ds) => newL true ds h2
      | _ => .no)
  | .comp2 m t it t1 it1 el, σ, h => (evi it σ h).bind fun w h1 => (noExc (compW (fun d hh => match t.set d (wipeE σ (t1.slots ++ t.slots)) with
      | none => .no
      | some σ' => (evi it1 σ' hh).bind fun w1 h2 => compW (fun d1 h3 => match t1.set d1 (wipeE σ' t1.slots) with
        | none => .no
        | some σ'' => (ev el σ'' h3).bind fun y h4 => .ok [y] h4) w1 h2) w h1)).bind fun ds h2 => if decide (ds.length ≤ sizeLine) then newL m ds h2 else .no
  | .rgT es, σ, h => (evs es σ h).bind fun ds h1 => (Res.opt h1 (rgI ds)).bind fun l h2 => .ok (.tup l) h2
  | .rgL m es, σ, h => (evs es σ h).bind fun ds h1 => (Res.opt h1 (rgI ds)).bind fun l h2 => newL m l h2
  | .sortR x, σ, h => (ev x σ h).bind fun d h1 => (match (listView (vw h1 d)).bind intsOf with
      | some ns => .ok (.lst ((sortDn ns).map .int)) h1
      | none => .no)
  | .rev m x, σ, h => (ev x σ h).bind fun d h1 => (match vw h1 d with
      | .tup ds => .ok (.tup ds.reverse) h1
      | d' => (match listView d' with
        | some ds => newL m ds.reverse h1
        | none => .no))
  | _, _, _ => .no
def evs : E → En → Hq → Res (List Dt)
  | .nil, _, h => .ok [] h
  | .cons e es, σ, h => (ev e σ h).bind fun d h1 => (evs es σ h1).bind fun ds h2 => .ok (d :: ds) h2
  | _, _, _ => .no
/-- conditions of a comprehension: none, or one -/
def evc : E → En → Hq → Res Bool
  | .nil, _, h => .ok true h
  | .cons e .nil, σ, h => asB (ev e σ h)
  | _, _, _ => .no
/-- a part of a slice -/
def evo : E → En → Hq → Res (Option Int)
  | .nil, _, h => .ok none h
  | .one e, σ, h => (ev e σ h).bind fun d h1 => (match d with
    | .int i => .ok (some i) h1
    | _ => .no)
  | _, _, _ => .no
/-- a default: none is None -/
def evo' : E → En → Hq → Res Dt
  | .nil, _, h => .ok .non h
  | .one e, σ, h => ev e σ h
  | _, _, _ => .no
/-- what is walked -/
def evi : E → En → Hq → Res Wk
  | .rng es, σ, h => (evs es σ h).bind fun ds h1 => (Res.opt h1 (rngD ds)).bind fun l h2 => .ok (.its l) h2
  | .enum x, σ, h => (ev x σ h).bind fun d h1 => (match sqOf d with
    | some ds => .ok (.its (enumD 0 ds)) h1
    | none => .no)
  | .zip x y, σ, h => (ev x σ h).bind fun d h1 => (ev y σ h1).bind fun e h2 => (match sqOf d, sqOf e with
    | some ds, some es => .ok (.its (zipD ds es)) h2
    | _, _ => .no)
  | .items x, σ, h => (ev x σ h).bind fun d h1 => (match d with
    | .dic ks ds => .ok (.its (itemsD ks ds)) h1
    | _ => .no)
  | .one x, σ, h => (ev x σ h).bind fun d h1 => .opt h1 (walkD h1 d)
  | _, _, _ => .no
end
end

/-! ### statements -/
/-- what an except suite that has a name gives -/
inductive U where
  | lit (d : Dt)
  | isx (d : Nat)
  | ife (d : Nat) (a b : U)
  | two (d e : Nat)
def U.val (sub : Nat → Nat → Option Bool) (x : Nat) : U → Option Dt
  | .lit d => some d
  | .isx d => (sub x d).map .bl
  | .ife d a b => (sub x d).bind fun k => if k then a.val sub x else b.val sub x
  | .two d e => (sub x d).bind fun k => (sub x e).map fun l => .lst [.bl k, .bl l]
inductive S where
  | nil
  | seq (s r : S)
  | pass
  | brk
  | cont
  | set (i : Nat) (e : E)
  | setT (t : Tg) (e : E)
  | setF (c : Nat) (o : E) (f : Str) (e : E)
  | setX (o k e : E)
  | parX (i : Nat) (o k e : E)
  | aug (i : Nat) (op : Operator) (e : E)
  | exp (e : E)
  | ret (e : E)
  | retN
  | ife (c : E) (a b : S)
  | forS (t : Tg) (it : E) (body : S)
  | whl (n : Nat) (c : E) (body : S)
  | raise (c : Nat)
  | par (i j : Nat) (a b : E)
  | try1 (c : Nat) (body suite : S)
  | tryU (c i : Nat) (body : S) (u : U)
  | never

def augD (op : Operator) (a b : Dt) : Option Dt :=
  match op, a, b with
  | .Add, .int i, .int j => some (.int (i + j))
  | .Sub, .int i, .int j => some (.int (i - j))
  | .BitAnd, .int i, .int j => some (.int (Builtin.bitAnd i j))
  | .BitOr, .int i, .int j => some (.int (Builtin.bitOr i j))
  | .BitXor, .int i, .int j => some (.int (Builtin.bitXor i j))
  | _, _, _ => none
def forL (f : Dt → En → Hq → Rs) : List Dt → En → Hq → Rs
  | [], σ, h => .nx σ h
  | d :: ds, σ, h => match f d σ h with
    | .nx σ' h' => forL f ds σ' h'
    | .ct σ' h' => forL f ds σ' h'
    | .bk σ' h' => .nx σ' h'
    | r => r
def forN (f : Dt → En → Hq → Rs) (nx : Hq → Nat → Option (Option Dt)) : Nat → Nat → En → Hq → Rs
  | m, i, σ, h => match nx h i with
    | none => .no
    | some none => .nx σ h
    | some (some d) => (match m with
      | 0 => .no
      | m + 1 => (match f d σ h with
        | .nx σ' h' => forN f nx m (i + 1) σ' h'
        | .ct σ' h' => forN f nx m (i + 1) σ' h'
        | .bk σ' h' => .nx σ' h'
        | r => r))
def forW (f : Dt → En → Hq → Rs) (w : Wk) (σ : En) (h : Hq) : Rs :=
  match w with
  | .its ds => forL f ds σ h
  | .cel n => forN f (nxC n) (cellLen h n + 4096) 0 σ h
def whlN (t : En → Hq → Res Bool) (f : En → Hq → Rs) : Nat → En → Hq → Rs
  | 0, _, _ => .no
  | n + 1, σ, h => .of σ (t σ h) fun c h1 => if c then (match f σ h1 with
      | .nx σ' h' => whlN t f n σ' h'
      | .ct σ' h' => whlN t f n σ' h'
      | .bk σ' h' => .nx σ' h'
      | r => r) else .nx σ h1
/-- o[k] = d -/
def storeX (b : Nat) (o k d : Dt) (h : Hq) : Option Hq :=
  match o with
  | .ref n => if stOk b n d then (match h[n]? with
    | some (.lst ds) => (match k with
      | .int i => (ixN ds.length i).map fun j => h.set n (.lst (ds.set j d))
      | _ => none)
    | some (.dic ks vs) => (keyOf k).bind fun kk => if decide (ks.length < sizeLine) then some (h.set n (.dic (putK ks vs kk d).1 (putK ks vs kk d).2)) else none
    | _ => none) else none
  | _ => none
/-- o.f = d, o of class c -/
def storeF (b c : Nat) (o : Dt) (f : Str) (d : Dt) (h : Hq) : Option Hq :=
  match o with
  | .ref n => if stOk b n d then (match h[n]? with
    | some (.ins c' ns ds) => if decide (c' = c) && decide (ns.length < 1000) then some (h.set n (.ins c' (putFd ns ds f d).1 (putFd ns ds f d).2)) else none
    | _ => none) else none
  | _ => none
def Rs.opt (σ : En) : Option Hq → Rs
  | some h => .nx σ h
  | none => .no
section
variable (cl : Nat → Nat → List Dt → Hq → Res Dt) (gl : List Dt) (sub : Nat → Nat → Option Bool) (b : Nat)
def exS : S → En → Hq → Rs
  | .nil, σ, h => .nx σ h
  | .seq s r, σ, h => (match exS s σ h with
    | .nx σ' h' => exS r σ' h'
    | q => q)
  | .pass, σ, h => .nx σ h
  | .brk, σ, h => .bk σ h
  | .cont, σ, h => .ct σ h
  | .set i e, σ, h => .of σ (ev cl gl b e σ h) fun d h1 => .nx (σ.set i (some d)) h1
  | .setT t e, σ, h => .of σ (ev cl gl b e σ h) fun d h1 => (match t.set d σ with
    | some σ' => .nx σ' h1
    | none => .no)
  | .setF c o f e, σ, h => .of σ (ev cl gl b e σ h) fun d h1 => .of σ (ev cl gl b o σ h1) fun od h2 => .opt σ (storeF b c od f d h2)
  | .setX o k e, σ, h => .of σ (ev cl gl b e σ h) fun d h1 => .of σ (ev cl gl b o σ h1) fun od h2 => .of σ (ev cl gl b k σ h2) fun kd h3 => .opt σ (storeX b od kd d h3)
  | .parX i o k e, σ, h => .of σ (ev cl gl b e σ h) fun d h1 => (match d with
    | .tup [x, y] => .of (σ.set i (some x)) (ev cl gl b o (σ.set i (some x)) h1) fun od h2 => .of (σ.set i (some x)) (ev cl gl b k (σ.set i (some x)) h2) fun kd h3 => .opt (σ.set i (some x)) (storeX b od kd y h3)
    | _ => .no)
  | .aug i op e, σ, h => (match σ[i]? with
    | some (some d) => .of σ (ev cl gl b e σ h) fun e h1 => (match augD op d e with
      | some r => .nx (σ.set i (some r)) h1
      | none => .no)
    | _ => .no)
  | .exp e, σ, h => .of σ (ev cl gl b e σ h) fun _ h1 => .nx σ h1
  | .ret e, σ, h => .of σ (ev cl gl b e σ h) fun d h1 => .rt d h1
  | .retN, _, h => .rt .non h
  | .ife c a r, σ, h => .of σ (asB (ev cl gl b c σ h)) fun c h1 => if c then exS a σ h1 else exS r σ h1
  | .forS t it body, σ, h => .of σ (evi cl gl b it σ h) fun w h1 => forW (fun d σ hh => match t.set d σ with
      | none => .no
      | some σ' => exS body σ' hh) w σ h1
  | .whl n c body, σ, h => whlN (fun σ hh => asB (ev cl gl b c σ hh)) (fun σ hh => exS body σ hh) n σ h
  | .raise c, σ, h => .ex ⟨c, [], []⟩ σ h
  | .par i j x y, σ, h => .of σ (ev cl gl b x σ h) fun d h1 => .of σ (ev cl gl b y σ h1) fun e h2 => .nx ((σ.set i (some d)).set j (some e)) h2
  | .try1 c body suite, σ, h => (match exS body σ h with
    | .ex x σ' h' => (match sub x.c c with
      | some true => (match exS suite σ' h' with
        | .ex _ _ _ => .no
        | r => r)
      | some false => .ex x σ' h'
      | none => .no)
    | r => r)
  | .tryU c i body u, σ, h => (match exS body σ h with
    | .ex x σ' h' => (match sub x.c c with
      | some true => (match x.ns with
        | [] => if decide (i < σ'.length) then (match u.val sub x.c with
          | some d => .rt d h'
          | none => .no) else .no
        | _ => .no)
      | some false => .ex x σ' h'
      | none => .no)
    | r => r)
  | .never, _, _ => .no
end

/-! ### defs -/
structure Fd where
  np : Nat
  n : Nat
  reg : Bool
  body : S
structure Tb where
  fn : Nat → Option Fd
  gl : List Dt
  sub : Nat → Nat → Option Bool
def startE (n : Nat) (ds : List Dt) : En := ds.map some ++ List.replicate (n - ds.length) none
/-- a def's end, on ground of its own: what it gives is frozen, its cells go -/
def finR (b : Nat) : Rs → Res Dt
  | .nx _ h => .ok .non (h.take b)
  | .rt d h => (match fzN 9 b d h with
    | some p => .ok p.1 (p.2.take b)
    | none => .no)
  | .ex x _ h => if noRefs x.ds then .exc x (h.take b) else .no
  | _ => .no
def finK : Rs → Res Dt
  | .nx _ h => .ok .non h
  | .rt d h => .ok d h
  | .ex x _ h => .exc x h
  | _ => .no
def callK (T : Tb) : Nat → Nat → Nat → List Dt → Hq → Res Dt
  | 0, _, _, _, _ => .no
  | k + 1, f, b, ds, h => match T.fn f with
    | none => .no
    | some fd => if decide (ds.length = fd.np) then
        (if fd.reg then finR h.length (exS (callK T k) T.gl T.sub h.length fd.body (startE fd.n ds) h) else finK (exS (callK T k) T.gl T.sub b fd.body (startE fd.n ds) h))
      else .no
end Vm

/-! Vm, part 2: how data and the small heap stand in the hand layer's abstract heap. Own text. -/
namespace Vm
open PySem L2

/-- what is known of the abstract heap: F, objects that never change again; ι, the addresses of the cells; A, objects that nobody but one touches -/
structure Wd where
  F : Hp
  ι : List Addr
  A : Hp
def Wd.le (W W' : Wd) : Prop := (∀ a o, W.F a = some o → W'.F a = some o) ∧ (∃ l, W'.ι = W.ι ++ l) ∧ W'.A = W.A
theorem Wd.le.refl (W : Wd) : W.le W := ⟨fun _ _ e => e, ⟨[], (List.append_nil _).symm⟩, rfl⟩
theorem Wd.le.trans {A B C : Wd} (x : A.le B) (y : B.le C) : A.le C := by
  obtain ⟨x1, ⟨l, e⟩, q⟩ := x
  obtain ⟨y1, ⟨m, f⟩, r⟩ := y
  exact ⟨fun a o q => y1 a o (x1 a o q), ⟨l ++ m, by rw [f, e, List.append_assoc]⟩, r.trans q⟩
theorem Wd.le.get {A B : Wd} (x : A.le B) {n : Nat} {a : Addr} (e : A.ι[n]? = some a) : B.ι[n]? = some a := by
  obtain ⟨_, ⟨l, q⟩, _⟩ := x
  rw [q, List.getElem?_append_left (List.getElem?_eq_some_iff.mp e).1]
  exact e

section
variable (K : PySem.W.Frag) (ca : Nat → Addr)
mutual
def DV (W : Wd) : Dt → V → Prop
  | .non, v => v = .non
  | .bl b, v => v = .bl b
  | .int i, v => v = .int i
  | .str x, v => v = .str x ∧ x.length ≤ sizeLine
  | .tup ds, v => ∃ a vs, v = .ref a ∧ SqT K W.F a vs ∧ vs.length ≤ sizeLine ∧ DVs W ds vs
  | .lst ds, v => ∃ a vs, v = .ref a ∧ W.F a = some (.lst vs) ∧ vs.length ≤ sizeLine ∧ DVs W ds vs
  | .frl ds, v => ∃ a vs, v = .ref a ∧ SqL K W.F a vs ∧ vs.length ≤ sizeLine ∧ DVs W ds vs
  | .dic ks ds, v => ∃ a kvs, v = .ref a ∧ W.F a = some (.dK kvs) ∧ kvs.map (·.1) = ks ∧ kvs.length ≤ sizeLine ∧ DVs W ds (kvs.map (·.2))
  | .ins c ns ds, v => ∃ a dx fs, v = .ref a ∧ W.F a = some (.ins (ca c) dx fs) ∧ fs.map (·.1) = ns ∧ DVs W ds (fs.map (·.2))
  | .ref n, v => ∃ a, v = .ref a ∧ W.ι[n]? = some a
def DVs (W : Wd) : List Dt → List V → Prop
  | [], vs => vs = []
  | d :: ds, vs => ∃ v r, vs = v :: r ∧ DV W d v ∧ DVs W ds r
end
end

section
variable {K : PySem.W.Frag} {ca : Nat → Addr}
/-- locked dicts apart, what is in F stands in H -/
def FH (H : Hp) (a : Addr) (o : HO) : Prop := Rd H a o ∧ ((∀ kvs, o ≠ .dK kvs) → H a = some o)
theorem FH.of {H : Hp} {a : Addr} {o : HO} (h : H a = some o) : FH H a o := ⟨.inl h, fun _ => h⟩

theorem SqT.le {F F' : Hp} {a : Addr} {vs : List V} (h : ∀ a o, F a = some o → F' a = some o) (q : SqT K F a vs) : SqT K F' a vs := by
  rcases q with (e | ⟨o, e⟩) | q
  · exact .inl (.inl (h _ _ e))
  · exact .inl (.inr ⟨o, h _ _ e⟩)
  · exact .inr q
theorem SqL.le {F F' : Hp} {a : Addr} {vs : List V} (h : ∀ a o, F a = some o → F' a = some o) (q : SqL K F a vs) : SqL K F' a vs := by
  rcases q with (e | ⟨o, e⟩) | q
  · exact .inl (.inl (h _ _ e))
  · exact .inl (.inr ⟨o, h _ _ e⟩)
  · exact .inr q

mutual
/-- one lemma for growing: F may grow, refs that are there stay -/
theorem DV.mono' {W W' : Wd} (hF : ∀ a o, W.F a = some o → W'.F a = some o) : ∀ (d : Dt) (v : V), (noRef d = true ∨ ∀ (n : Nat) (a : Addr), W.ι[n]? = some a → W'.ι[n]? = some a) → DV K ca W d v → DV K ca W' d v
  | .non, _, _, h => h
  | .bl _, _, _, h => h
  | .int _, _, _, h => h
  | .str _, _, _, h => h
  | .tup ds, _, hr, ⟨a, vs, e, q, z, r⟩ => ⟨a, vs, e, SqT.le hF q, z, DVs.mono' hF ds vs hr r⟩
  | .lst ds, _, hr, ⟨a, vs, e, q, z, r⟩ => ⟨a, vs, e, hF _ _ q, z, DVs.mono' hF ds vs hr r⟩
  | .frl ds, _, hr, ⟨a, vs, e, q, z, r⟩ => ⟨a, vs, e, SqL.le hF q, z, DVs.mono' hF ds vs hr r⟩
  | .dic _ ds, _, hr, ⟨a, kvs, e, q, k, z, r⟩ => ⟨a, kvs, e, hF _ _ q, k, z, DVs.mono' hF ds _ hr r⟩
  | .ins _ _ ds, _, hr, ⟨a, dx, fs, e, q, k, r⟩ => ⟨a, dx, fs, e, hF _ _ q, k, DVs.mono' hF ds _ hr r⟩
  | .ref n, _, hr, ⟨a, e, q⟩ => by
    rcases hr with z | z
    · cases z
    · exact ⟨a, e, z n a q⟩
theorem DVs.mono' {W W' : Wd} (hF : ∀ a o, W.F a = some o → W'.F a = some o) : ∀ (ds : List Dt) (vs : List V), (noRefs ds = true ∨ ∀ (n : Nat) (a : Addr), W.ι[n]? = some a → W'.ι[n]? = some a) → DVs K ca W ds vs → DVs K ca W' ds vs
  | [], _, _, h => h
  | d :: ds, _, hr, ⟨v, r, e, h1, h2⟩ => by
    have hd : noRef d = true ∨ ∀ (n : Nat) (a : Addr), W.ι[n]? = some a → W'.ι[n]? = some a := hr.imp (fun z => (Bool.and_eq_true_iff.mp (show (noRef d && noRefs ds) = true from z)).1) id
    have hs : noRefs ds = true ∨ ∀ (n : Nat) (a : Addr), W.ι[n]? = some a → W'.ι[n]? = some a := hr.imp (fun z => (Bool.and_eq_true_iff.mp (show (noRef d && noRefs ds) = true from z)).2) id
    exact ⟨v, r, e, DV.mono' hF d v hd h1, DVs.mono' hF ds r hs h2⟩
end
theorem DV.le {W W' : Wd} (w : W.le W') {d : Dt} {v : V} (h : DV K ca W d v) : DV K ca W' d v := DV.mono' w.1 d v (.inr fun _ _ e => w.get e) h
theorem DVs.le {W W' : Wd} (w : W.le W') {d : List Dt} {v : List V} (h : DVs K ca W d v) : DVs K ca W' d v := DVs.mono' w.1 d v (.inr fun _ _ e => w.get e) h

theorem DVs.len {W : Wd} : ∀ {ds : List Dt} {vs : List V}, DVs K ca W ds vs → ds.length = vs.length
  | [], vs, h => by rw [show vs = ([] : List V) from h]; rfl
  | d :: ds, _, ⟨v, r, e, _, h2⟩ => by rw [e, List.length_cons, List.length_cons, DVs.len h2]
theorem DVs.get {W : Wd} : ∀ {ds : List Dt} {vs : List V} {i : Nat} {d : Dt}, DVs K ca W ds vs → ds[i]? = some d → ∃ v, vs[i]? = some v ∧ DV K ca W d v
  | [], _, _, _, _, e => by simp at e
  | d :: ds, _, 0, _, ⟨v, r, rfl, h1, _⟩, e => by simp at e; subst e; exact ⟨v, by simp, h1⟩
  | d :: ds, _, i + 1, x, ⟨v, r, rfl, _, h2⟩, e => by
    obtain ⟨u, e1, h⟩ := DVs.get (i := i) (d := x) h2 (by simpa using e)
    exact ⟨u, by simpa using e1, h⟩
theorem DVs.getV {W : Wd} : ∀ {ds : List Dt} {vs : List V} {i : Nat} {v : V}, DVs K ca W ds vs → vs[i]? = some v → ∃ d, ds[i]? = some d ∧ DV K ca W d v
  | [], _, _, _, h, e => by rw [show _ = ([] : List V) from h] at e; simp at e
  | d :: ds, _, 0, _, ⟨v, r, rfl, h1, _⟩, e => by simp at e; subst e; exact ⟨d, by simp, h1⟩
  | d :: ds, _, i + 1, x, ⟨v, r, rfl, _, h2⟩, e => by
    obtain ⟨u, e1, h⟩ := DVs.getV (i := i) (v := x) h2 (by simpa using e)
    exact ⟨u, by simpa using e1, h⟩
theorem DVs.append {W : Wd} : ∀ {ds es : List Dt} {vs us : List V}, DVs K ca W ds vs → DVs K ca W es us → DVs K ca W (ds ++ es) (vs ++ us)
  | [], _, _, _, h, q => by rw [show _ = ([] : List V) from h]; exact q
  | d :: ds, _, _, _, ⟨v, r, rfl, h1, h2⟩, q => ⟨v, r ++ _, rfl, h1, DVs.append h2 q⟩
theorem DVs.snoc {W : Wd} {ds : List Dt} {vs : List V} {d : Dt} {v : V} (h : DVs K ca W ds vs) (q : DV K ca W d v) : DVs K ca W (ds ++ [d]) (vs ++ [v]) :=
  DVs.append h ⟨v, [], rfl, q, rfl⟩
theorem DVs.take {W : Wd} : ∀ {ds : List Dt} {vs : List V} (n : Nat), DVs K ca W ds vs → DVs K ca W (ds.take n) (vs.take n)
  | _, _, 0, _ => rfl
  | [], _, n + 1, h => by rw [show _ = ([] : List V) from h]; rfl
  | d :: ds, _, n + 1, ⟨v, r, rfl, h1, h2⟩ => ⟨v, r.take n, rfl, h1, DVs.take n h2⟩
theorem DVs.drop {W : Wd} : ∀ {ds : List Dt} {vs : List V} (n : Nat), DVs K ca W ds vs → DVs K ca W (ds.drop n) (vs.drop n)
  | _, _, 0, h => h
  | [], _, n + 1, h => by rw [show _ = ([] : List V) from h]; rfl
  | d :: ds, _, n + 1, ⟨v, r, rfl, h1, h2⟩ => DVs.drop n h2
theorem DVs.set {W : Wd} {d : Dt} {v : V} (q : DV K ca W d v) : ∀ {ds : List Dt} {vs : List V} (n : Nat), DVs K ca W ds vs → DVs K ca W (ds.set n d) (vs.set n v)
  | [], _, _, h => by rw [show _ = ([] : List V) from h]; rfl
  | d :: ds, _, 0, ⟨v, r, rfl, h1, h2⟩ => ⟨_, r, rfl, q, h2⟩
  | d :: ds, _, n + 1, ⟨v, r, rfl, h1, h2⟩ => ⟨v, _, rfl, h1, DVs.set q n h2⟩
theorem DVs.flatRep {W : Wd} {ds : List Dt} {vs : List V} (h : DVs K ca W ds vs) : ∀ n : Nat, DVs K ca W (List.replicate n ds).flatten (List.replicate n vs).flatten
  | 0 => rfl
  | n + 1 => by
    rw [List.replicate_succ, List.flatten_cons, List.replicate_succ, List.flatten_cons]
    exact DVs.append h (DVs.flatRep h n)

/-- a cell's content -/
def CR (K : PySem.W.Frag) (ca : Nat → Addr) (W : Wd) : Cell → HO → Prop
  | .dead, _ => True
  | .lst ds, o => ∃ vs, o = .lst vs ∧ vs.length ≤ sizeLine ∧ DVs K ca W ds vs
  | .dic ks ds, o => ∃ kvs, o = .dK kvs ∧ kvs.map (·.1) = ks ∧ kvs.length ≤ sizeLine ∧ DVs K ca W ds (kvs.map (·.2))
  | .ins c ns ds, o => ∃ dx fs, o = .ins (ca c) dx fs ∧ fs.map (·.1) = ns ∧ DVs K ca W ds (fs.map (·.2))
theorem CR.mono {W W' : Wd} {c : Cell} {o : HO} (hF : ∀ a o, W.F a = some o → W'.F a = some o) (hι : ∀ (n : Nat) (a : Addr), W.ι[n]? = some a → W'.ι[n]? = some a) (h : CR K ca W c o) : CR K ca W' c o := by
  cases c with
  | dead => trivial
  | lst ds => obtain ⟨vs, e, z, r⟩ := h; exact ⟨vs, e, z, DVs.mono' hF _ _ (.inr hι) r⟩
  | dic ks ds => obtain ⟨kvs, e, k, z, r⟩ := h; exact ⟨kvs, e, k, z, DVs.mono' hF _ _ (.inr hι) r⟩
  | ins c ns ds => obtain ⟨dx, fs, e, k, r⟩ := h; exact ⟨dx, fs, e, k, DVs.mono' hF _ _ (.inr hι) r⟩

/-- the part of the world that cell n may speak of: below the base b its own -/
def Wd.at (W : Wd) (b : Nat) (ρ : Nat → Nat) (n : Nat) : Wd := if n < b then ⟨W.F, W.ι.take (ρ n), W.A⟩ else W
structure HR (K : PySem.W.Frag) (ca : Nat → Addr) (b : Nat) (ρ : Nat → Nat) (W : Wd) (h : Hq) (H : Hp) : Prop where
  F : ∀ a o, W.F a = some o → FH H a o
  len : W.ι.length = h.length
  nd : W.ι.Nodup
  th : ∀ a ∈ W.ι, H a ≠ none
  cell : ∀ (n : Nat) (c : Cell) (a : Addr), h[n]? = some c → c ≠ .dead → W.ι[n]? = some a → W.F a = none ∧ ∃ o, H a = some o ∧ CR K ca (W.at b ρ n) c o
  acc : ∀ a o, W.A a = some o → H a = some o ∧ W.F a = none ∧ a ∉ W.ι
  base : b ≤ h.length
  rk : ∀ n, n < b → n < ρ n ∧ ρ n ≤ b

/-- the slots -/
def SR (K : PySem.W.Frag) (ca : Nat → Addr) (W : Wd) (σd : En) (σ : St) : Prop := σd.length = σ.length ∧ ∀ (i : Nat) (d : Dt), σd[i]? = some (some d) → ∃ v, σ[i]? = some (some v) ∧ DV K ca W d v
theorem SR.le {W W' : Wd} (w : W.le W') {s : En} {σ : St} (h : SR K ca W s σ) : SR K ca W' s σ := ⟨h.1, fun i d e => by
  obtain ⟨v, e1, q⟩ := h.2 i d e
  exact ⟨v, e1, q.le w⟩⟩
theorem SR.set {W : Wd} {s : En} {σ : St} {i : Nat} {d : Dt} {v : V} (h : SR K ca W s σ) (q : DV K ca W d v) : SR K ca W (s.set i (some d)) (σ.set i (some v)) := by
  refine ⟨by rw [List.length_set, List.length_set, h.1], fun j e hj => ?_⟩
  by_cases ij : i = j
  · subst ij
    have hl : i < s.length := by
      have := (List.getElem?_eq_some_iff.mp hj).1
      rwa [List.length_set] at this
    rw [List.getElem?_set_self hl] at hj
    cases hj
    exact ⟨v, by rw [List.getElem?_set_self (h.1 ▸ hl)], q⟩
  · rw [List.getElem?_set_ne ij] at hj
    obtain ⟨u, e1, r⟩ := h.2 j e hj
    exact ⟨u, by rw [List.getElem?_set_ne ij]; exact e1, r⟩
theorem SR.drop1 {W : Wd} {s : En} {σ : St} {i : Nat} (h : SR K ca W s σ) : SR K ca W (s.set i none) (σ.set i none) := by
  refine ⟨by rw [List.length_set, List.length_set, h.1], fun j e hj => ?_⟩
  by_cases ij : i = j
  · subst ij
    have hl : i < s.length := by
      have := (List.getElem?_eq_some_iff.mp hj).1
      rwa [List.length_set] at this
    rw [List.getElem?_set_self hl] at hj
    cases hj
  · rw [List.getElem?_set_ne ij] at hj
    obtain ⟨u, e1, r⟩ := h.2 j e hj
    exact ⟨u, by rw [List.getElem?_set_ne ij]; exact e1, r⟩
theorem SR.wipe {W : Wd} {s : En} {σ : St} (h : SR K ca W s σ) : ∀ l : List Nat, SR K ca W (wipeE s l) (L2.wipe σ l)
  | [] => h
  | i :: is => SR.drop1 (SR.wipe h is)
theorem SR.weak {W : Wd} {s : En} {σ σ' : St} (h : SR K ca W s σ) (hl : σ'.length = σ.length) (w : ∀ (i : Nat) v, σ[i]? = some (some v) → σ'[i]? = some (some v)) : SR K ca W s σ' :=
  ⟨by rw [hl]; exact h.1, fun i d e => by obtain ⟨v, e1, q⟩ := h.2 i d e; exact ⟨v, w i v e1, q⟩⟩

/-! ### steps of the heap -/
section
variable {b : Nat} {ρ : Nat → Nat} {W : Wd} {h : Hq} {H : Hp}
theorem Wd.at_F (W : Wd) (b : Nat) (ρ : Nat → Nat) (n : Nat) : (W.at b ρ n).F = W.F := by
  unfold Wd.at; split <;> rfl
/-- a new object, frozen from the start -/
theorem HR.newF (R : HR K ca b ρ W h H) {p : Addr} {o : HO} (hp : H p = none) : HR K ca b ρ ⟨upd W.F p o, W.ι, W.A⟩ h (upd H p o) ∧ W.le ⟨upd W.F p o, W.ι, W.A⟩ := by
  have hF : ∀ a u, W.F a = some u → upd W.F p o a = some u := fun a u e => by
    rw [upd_ne (fun z => ?_)]
    · exact e
    · subst z
      rcases (R.F a u e).1 with q | ⟨_, q⟩ <;> rw [hp] at q <;> cases q
  refine ⟨⟨fun a u e => ?_, R.len, R.nd, fun a ha z => ?_, fun n c a hn hc ha => ?_, fun a u e => ?_, R.base, R.rk⟩, hF, ⟨[], (List.append_nil _).symm⟩, rfl⟩
  · by_cases hap : a = p
    · subst hap
      rw [show (⟨upd W.F a o, W.ι, W.A⟩ : Wd).F a = some o from upd_same] at e
      cases e
      exact FH.of upd_same
    · rw [show (⟨upd W.F p o, W.ι, W.A⟩ : Wd).F a = W.F a from upd_ne hap] at e
      unfold FH Rd
      rw [upd_ne hap]
      exact R.F a u e
  · by_cases hap : a = p
    · subst hap
      exact R.th a ha hp
    · rw [upd_ne hap] at z
      exact R.th a ha z
  · obtain ⟨h1, o', h2, h3⟩ := R.cell n c a hn hc ha
    have hap : a ≠ p := ne_of_none h2 hp
    refine ⟨(upd_ne hap).trans h1, o', (upd_ne hap).trans h2, h3.mono (fun x u e => ?_) (fun m x e => ?_)⟩
    · rw [Wd.at_F] at e ⊢
      exact hF x u e
    · unfold Wd.at at e ⊢
      split at e
      · rename_i hb; rw [if_pos hb]; exact e
      · rename_i hb; rw [if_neg hb]; exact e
  · obtain ⟨q1, q2, q3⟩ := R.acc a u e
    have hap : a ≠ p := ne_of_none q1 hp
    exact ⟨(upd_ne hap).trans q1, (upd_ne hap).trans q2, q3⟩
/-- a new object at a new cell -/
theorem HR.newC (R : HR K ca b ρ W h H) {p : Addr} {o : HO} {c : Cell} (hp : H p = none) (hc : CR K ca W c o) : HR K ca b ρ ⟨W.F, W.ι ++ [p], W.A⟩ (h ++ [c]) (upd H p o) ∧ W.le ⟨W.F, W.ι ++ [p], W.A⟩ ∧ (W.ι ++ [p])[h.length]? = some p := by
  have hpF : ∀ a u, W.F a = some u → a ≠ p := fun a u e z => by
    subst z
    rcases (R.F a u e).1 with q | ⟨_, q⟩ <;> rw [hp] at q <;> cases q
  have hpι : ∀ a ∈ W.ι, a ≠ p := fun a ha z => R.th a ha (by rw [z]; exact hp)
  have mono : ∀ (n : Nat) (a : Addr), W.ι[n]? = some a → (W.ι ++ [p])[n]? = some a := fun n a e => by
    rw [List.getElem?_append_left (List.getElem?_eq_some_iff.mp e).1]
    exact e
  refine ⟨⟨fun a u e => ?_, by simp [R.len], ?_, fun a ha z => ?_, fun n c' a hn hc' ha => ?_, fun a u e => ?_, by rw [List.length_append]; exact Nat.le_trans R.base (Nat.le_add_right _ _), R.rk⟩, ⟨fun _ _ e => e, ⟨[p], rfl⟩, rfl⟩, by rw [← R.len]; simp⟩
  · have hap := hpF a u e
    unfold FH Rd
    rw [upd_ne hap]
    exact R.F a u e
  · rw [List.nodup_append]
    exact ⟨R.nd, by simp, fun a ha x hx => by
      have : x = p := by simpa using hx
      rw [this]
      exact hpι a ha⟩
  · rcases List.mem_append.mp ha with ha | ha
    · rw [upd_ne (hpι a ha)] at z
      exact R.th a ha z
    · have : a = p := by simpa using ha
      subst this
      rw [upd_same] at z
      cases z
  · by_cases hnl : n < h.length
    · rw [List.getElem?_append_left hnl] at hn
      have ha' : W.ι[n]? = some a := by
        have ha2 : (W.ι ++ [p])[n]? = some a := ha
        rw [List.getElem?_append_left (by rw [R.len]; exact hnl)] at ha2
        exact ha2
      obtain ⟨h1, o', h2, h3⟩ := R.cell n c' a hn hc' ha'
      refine ⟨h1, o', (upd_ne (ne_of_none h2 hp)).trans h2, h3.mono (fun x u e => ?_) (fun m x e => ?_)⟩
      · rw [Wd.at_F] at e ⊢
        exact e
      · unfold Wd.at at e ⊢
        split at e
        · rename_i hb
          rw [if_pos hb]
          have hle : ρ n ≤ W.ι.length := by rw [R.len]; exact Nat.le_trans (R.rk n hb).2 R.base
          show ((W.ι ++ [p]).take (ρ n))[m]? = some x
          rw [List.take_append_of_le_length hle]
          exact e
        · rename_i hb
          rw [if_neg hb]
          exact mono m x e
    · have hn1 : n = h.length := by
        have := (List.getElem?_eq_some_iff.mp hn).1
        rw [List.length_append, List.length_singleton] at this
        omega
      subst hn1
      have e1 : c' = c := by simpa using hn.symm
      subst e1
      have e2 : a = p := by
        have ha2 : (W.ι ++ [p])[h.length]? = some a := ha
        rw [← R.len] at ha2
        simpa using ha2.symm
      subst e2
      refine ⟨?_, o, upd_same, hc.mono (fun x u e => ?_) (fun m x e => ?_)⟩
      · cases q : W.F a with
        | none => rfl
        | some u => exact absurd rfl (hpF a u q)
      · rw [Wd.at_F]; exact e
      · unfold Wd.at
        rw [if_neg (Nat.not_lt.mpr R.base)]
        exact mono m x e
  · obtain ⟨q1, q2, q3⟩ := R.acc a u e
    have hap : a ≠ p := ne_of_none q1 hp
    refine ⟨(upd_ne hap).trans q1, q2, fun z => ?_⟩
    rcases List.mem_append.mp z with z | z
    · exact q3 z
    · exact hap (by simpa using z)
/-- cell n is written -/
theorem HR.put (R : HR K ca b ρ W h H) {n : Nat} {a : Addr} {c c' : Cell} {o' : HO} (hn : h[n]? = some c) (hd : c ≠ .dead) (ha : W.ι[n]? = some a) (hc : CR K ca (W.at b ρ n) c' o') : HR K ca b ρ W (h.set n c') (upd H a o') := by
  obtain ⟨hF, o, hH, _⟩ := R.cell n c a hn hd ha
  have hnl := (List.getElem?_eq_some_iff.mp hn).1
  refine ⟨fun x u e => ?_, by rw [List.length_set]; exact R.len, R.nd, fun x hx z => ?_, fun m c2 x hm hd2 hx => ?_, fun x u e => ?_, by rw [List.length_set]; exact R.base, R.rk⟩
  · have hxa : x ≠ a := fun z => by subst z; rw [hF] at e; cases e
    unfold FH Rd
    rw [upd_ne hxa]
    exact R.F x u e
  · by_cases hxa : x = a
    · subst hxa; rw [upd_same] at z; cases z
    · rw [upd_ne hxa] at z; exact R.th x hx z
  · by_cases hmn : n = m
    · subst hmn
      rw [List.getElem?_set_self hnl] at hm
      cases hm
      rw [ha] at hx; cases hx
      exact ⟨hF, o', upd_same, hc⟩
    · rw [List.getElem?_set_ne hmn] at hm
      obtain ⟨h1, o2, h2, h3⟩ := R.cell m c2 x hm hd2 hx
      have hxa : x ≠ a := fun z => by
        subst z
        obtain ⟨l1, e1⟩ := List.getElem?_eq_some_iff.mp hx
        obtain ⟨l2, e2⟩ := List.getElem?_eq_some_iff.mp ha
        exact hmn ((List.getElem_inj R.nd).mp (e2.trans e1.symm))
      exact ⟨h1, o2, (upd_ne hxa).trans h2, h3⟩
  · obtain ⟨q1, q2, q3⟩ := R.acc x u e
    have hxa : x ≠ a := fun z => q3 (by rw [z]; exact List.mem_of_getElem? ha)
    exact ⟨(upd_ne hxa).trans q1, q2, q3⟩
/-- cell n dies, what it held is frozen -/
theorem HR.kill (R : HR K ca b ρ W h H) {n : Nat} {a : Addr} {c : Cell} {o : HO} (hn : h[n]? = some c) (hd : c ≠ .dead) (ha : W.ι[n]? = some a) (hH : H a = some o) : HR K ca b ρ ⟨upd W.F a o, W.ι, W.A⟩ (h.set n .dead) H ∧ W.le ⟨upd W.F a o, W.ι, W.A⟩ := by
  obtain ⟨hF, o', hH', _⟩ := R.cell n c a hn hd ha
  have hnl := (List.getElem?_eq_some_iff.mp hn).1
  have mono : ∀ x u, W.F x = some u → upd W.F a o x = some u := fun x u e => by
    rw [upd_ne (fun z => by subst z; rw [hF] at e; cases e)]; exact e
  refine ⟨⟨fun x u e => ?_, by rw [List.length_set]; exact R.len, R.nd, R.th, fun m c2 x hm hd2 hx => ?_, fun x u e => ?_, by rw [List.length_set]; exact R.base, R.rk⟩, mono, ⟨[], (List.append_nil _).symm⟩, rfl⟩
  · by_cases hxa : x = a
    · subst hxa
      rw [show (⟨upd W.F x o, W.ι, W.A⟩ : Wd).F x = some o from upd_same] at e
      cases e
      exact FH.of hH
    · rw [show (⟨upd W.F a o, W.ι, W.A⟩ : Wd).F x = W.F x from upd_ne hxa] at e
      exact R.F x u e
  · by_cases hmn : n = m
    · subst hmn
      rw [List.getElem?_set_self hnl] at hm
      cases hm
      exact absurd rfl hd2
    · rw [List.getElem?_set_ne hmn] at hm
      obtain ⟨h1, o2, h2, h3⟩ := R.cell m c2 x hm hd2 hx
      have hxa : x ≠ a := fun z => by
        subst z
        obtain ⟨l1, e1⟩ := List.getElem?_eq_some_iff.mp hx
        obtain ⟨l2, e2⟩ := List.getElem?_eq_some_iff.mp ha
        exact hmn ((List.getElem_inj R.nd).mp (e2.trans e1.symm))
      refine ⟨(upd_ne hxa).trans h1, o2, h2, h3.mono (fun y u e => ?_) (fun k y e => ?_)⟩
      · rw [Wd.at_F] at e ⊢; exact mono y u e
      · unfold Wd.at at e ⊢
        split at e
        · rename_i hb; rw [if_pos hb]; exact e
        · rename_i hb; rw [if_neg hb]; exact e
  · obtain ⟨q1, q2, q3⟩ := R.acc x u e
    have hxa : x ≠ a := fun z => q3 (by rw [z]; exact List.mem_of_getElem? ha)
    exact ⟨q1, (upd_ne hxa).trans q2, q3⟩
/-- into a def that works on ground of its own -/
def rkIn (b : Nat) (ρ : Nat → Nat) (l : Nat) : Nat → Nat := fun n => if n < b then ρ n else l
theorem HR.enter (R : HR K ca b ρ W h H) : HR K ca h.length (rkIn b ρ h.length) W h H := by
  refine ⟨R.F, R.len, R.nd, R.th, fun n c a hn hd ha => ?_, R.acc, Nat.le_refl _, fun n hn => ?_⟩
  · obtain ⟨h1, o, h2, h3⟩ := R.cell n c a hn hd ha
    refine ⟨h1, o, h2, h3.mono (fun x u e => ?_) (fun m x e => ?_)⟩
    · rw [Wd.at_F] at e ⊢; exact e
    · unfold Wd.at at e ⊢
      rw [if_pos (List.getElem?_eq_some_iff.mp hn).1]
      show (W.ι.take (rkIn b ρ h.length n))[m]? = some x
      unfold rkIn
      split at e
      · rename_i hb; rw [if_pos hb]; exact e
      · rename_i hb; rw [if_neg hb, ← R.len, List.take_length]; exact e
  · unfold rkIn
    split
    · rename_i hb; exact ⟨(R.rk n hb).1, Nat.le_trans (R.rk n hb).2 R.base⟩
    · exact ⟨hn, Nat.le_refl _⟩
/-- out of it: what is above its ground is forgotten -/
theorem HR.leave {W1 : Wd} {h1 : Hq} {H1 : Hp} (R : HR K ca b ρ W h H) (w : W.le W1) (R1 : HR K ca h.length (rkIn b ρ h.length) W1 h1 H1) : HR K ca b ρ ⟨W1.F, W.ι, W1.A⟩ (h1.take h.length) H1 ∧ W.le ⟨W1.F, W.ι, W1.A⟩ := by
  obtain ⟨wF, ⟨l, wι⟩, wA⟩ := w
  have hle : h.length ≤ h1.length := R1.base
  have tk : W1.ι.take h.length = W.ι := by rw [wι, ← R.len, List.take_left]
  refine ⟨⟨R1.F, ?_, R.nd, fun a ha => R1.th a (by rw [wι]; exact List.mem_append_left _ ha), fun n c a hn hd ha => ?_, fun a u e => ?_, ?_, R.rk⟩, wF, ⟨[], (List.append_nil _).symm⟩, wA⟩
  · show W.ι.length = _
    rw [R.len, List.length_take, Nat.min_eq_left hle]
  · have hnl : n < h.length := by
      have := (List.getElem?_eq_some_iff.mp hn).1
      rw [List.length_take] at this
      omega
    have hn1 : h1[n]? = some c := by rw [List.getElem?_take_of_lt hnl] at hn; exact hn
    have ha1 : W1.ι[n]? = some a := by
      rw [wι, List.getElem?_append_left (by rw [R.len]; exact hnl)]
      exact ha
    obtain ⟨q1, o, q2, q3⟩ := R1.cell n c a hn1 hd ha1
    refine ⟨q1, o, q2, q3.mono (fun x u e => ?_) (fun m x e => ?_)⟩
    · rw [Wd.at_F] at e ⊢; exact e
    · unfold Wd.at at e ⊢
      rw [if_pos hnl] at e
      have e : (W1.ι.take (rkIn b ρ h.length n))[m]? = some x := e
      unfold rkIn at e
      split
      · rename_i hb
        rw [if_pos hb] at e
        show (W.ι.take (ρ n))[m]? = some x
        have hρ := (R.rk n hb).2
        rw [← tk, List.take_take, Nat.min_eq_left (Nat.le_trans hρ R.base)]
        exact e
      · rename_i hb
        rw [if_neg hb, tk] at e
        exact e
  · obtain ⟨q1, q2, q3⟩ := R1.acc a u e
    exact ⟨q1, q2, fun z => q3 (by rw [wι]; exact List.mem_append_left _ z)⟩
  · rw [List.length_take, Nat.min_eq_left hle]
    exact R.base
/-- a new object that one alone touches; written; given to the world -/
theorem HR.accNew (R : HR K ca b ρ W h H) {p : Addr} {o : HO} (hp : H p = none) : HR K ca b ρ ⟨W.F, W.ι, upd W.A p o⟩ h (upd H p o) := by
  have hne : ∀ a u, H a = some u → a ≠ p := fun a u e => ne_of_none e hp
  refine ⟨fun a u e => ?_, R.len, R.nd, fun a ha z => ?_, fun n c a hn hc ha => ?_, fun a u e => ?_, R.base, R.rk⟩
  · have hap : a ≠ p := by
      rcases (R.F a u e).1 with q | ⟨_, q⟩ <;> exact hne a _ q
    unfold FH Rd
    rw [upd_ne hap]
    exact R.F a u e
  · by_cases hap : a = p
    · subst hap; rw [upd_same] at z; cases z
    · rw [upd_ne hap] at z; exact R.th a ha z
  · obtain ⟨h1, o', h2, h3⟩ := R.cell n c a hn hc ha
    refine ⟨h1, o', (upd_ne (hne a _ h2)).trans h2, h3.mono (fun x u e => ?_) (fun m x e => ?_)⟩
    · rw [Wd.at_F] at e ⊢; exact e
    · unfold Wd.at at e ⊢
      split at e
      · rename_i hb; rw [if_pos hb]; exact e
      · rename_i hb; rw [if_neg hb]; exact e
  · by_cases hap : a = p
    · subst hap
      rw [show (⟨W.F, W.ι, upd W.A a o⟩ : Wd).A a = some o from upd_same] at e
      cases e
      refine ⟨upd_same, ?_, fun z => R.th a z hp⟩
      cases q : W.F a with
      | none => rfl
      | some u =>
        rcases (R.F a u q).1 with r | ⟨_, r⟩ <;> rw [hp] at r <;> cases r
    · rw [show (⟨W.F, W.ι, upd W.A p o⟩ : Wd).A a = W.A a from upd_ne hap] at e
      obtain ⟨q1, q2, q3⟩ := R.acc a u e
      exact ⟨(upd_ne hap).trans q1, q2, q3⟩
theorem HR.accPut (R : HR K ca b ρ W h H) {p : Addr} {o o' : HO} (hp : W.A p = some o) : HR K ca b ρ ⟨W.F, W.ι, upd W.A p o'⟩ h (upd H p o') := by
  obtain ⟨q1, q2, q3⟩ := R.acc p o hp
  refine ⟨fun a u e => ?_, R.len, R.nd, fun a ha z => ?_, fun n c a hn hc ha => ?_, fun a u e => ?_, R.base, R.rk⟩
  · have hap : a ≠ p := fun z => by subst z; rw [q2] at e; cases e
    unfold FH Rd
    rw [upd_ne hap]
    exact R.F a u e
  · have hap : a ≠ p := fun z => by subst z; exact q3 ha
    rw [upd_ne hap] at z; exact R.th a ha z
  · obtain ⟨h1, o2, h2, h3⟩ := R.cell n c a hn hc ha
    have hap : a ≠ p := fun z => q3 (by rw [← z]; exact List.mem_of_getElem? ha)
    refine ⟨h1, o2, (upd_ne hap).trans h2, h3.mono (fun x u e => ?_) (fun m x e => ?_)⟩
    · rw [Wd.at_F] at e ⊢; exact e
    · unfold Wd.at at e ⊢
      split at e
      · rename_i hb; rw [if_pos hb]; exact e
      · rename_i hb; rw [if_neg hb]; exact e
  · by_cases hap : a = p
    · subst hap
      rw [show (⟨W.F, W.ι, upd W.A a o'⟩ : Wd).A a = some o' from upd_same] at e
      cases e
      exact ⟨upd_same, q2, q3⟩
    · rw [show (⟨W.F, W.ι, upd W.A p o'⟩ : Wd).A a = W.A a from upd_ne hap] at e
      obtain ⟨r1, r2, r3⟩ := R.acc a u e
      exact ⟨(upd_ne hap).trans r1, r2, r3⟩
/-- the accumulator at p is let go: A is what it was, with nothing at p -/
theorem HR.accDrop (R : HR K ca b ρ W h H) {A : Hp} (hA : ∀ a o, A a = some o → W.A a = some o) : HR K ca b ρ ⟨W.F, W.ι, A⟩ h H := by
  refine ⟨R.F, R.len, R.nd, R.th, fun n c a hn hc ha => ?_, fun a u e => R.acc a u (hA a u e), R.base, R.rk⟩
  obtain ⟨h1, o2, h2, h3⟩ := R.cell n c a hn hc ha
  refine ⟨h1, o2, h2, h3.mono (fun x u e => ?_) (fun m x e => ?_)⟩
  · rw [Wd.at_F] at e ⊢; exact e
  · unfold Wd.at at e ⊢
    split at e
    · rename_i hb; rw [if_pos hb]; exact e
    · rename_i hb; rw [if_neg hb]; exact e
/-- an object that stands, untouched by the world, becomes frozen data -/
theorem HR.takeF (R : HR K ca b ρ W h H) {p : Addr} {o : HO} (hp : H p = some o) (hF : W.F p = none) (hι : p ∉ W.ι) (hA : W.A p = none) : HR K ca b ρ ⟨upd W.F p o, W.ι, W.A⟩ h H ∧ W.le ⟨upd W.F p o, W.ι, W.A⟩ := by
  have mono : ∀ x u, W.F x = some u → upd W.F p o x = some u := fun x u e => by
    rw [upd_ne (fun z => by subst z; rw [hF] at e; cases e)]; exact e
  refine ⟨⟨fun x u e => ?_, R.len, R.nd, R.th, fun n c a hn hc ha => ?_, fun x u e => ?_, R.base, R.rk⟩, mono, ⟨[], (List.append_nil _).symm⟩, rfl⟩
  · by_cases hxp : x = p
    · subst hxp
      rw [show (⟨upd W.F x o, W.ι, W.A⟩ : Wd).F x = some o from upd_same] at e
      cases e
      exact FH.of hp
    · rw [show (⟨upd W.F p o, W.ι, W.A⟩ : Wd).F x = W.F x from upd_ne hxp] at e
      exact R.F x u e
  · obtain ⟨h1, o2, h2, h3⟩ := R.cell n c a hn hc ha
    have hap : a ≠ p := fun z => hι (by rw [← z]; exact List.mem_of_getElem? ha)
    refine ⟨(upd_ne hap).trans h1, o2, h2, h3.mono (fun x u e => ?_) (fun m x e => ?_)⟩
    · rw [Wd.at_F] at e ⊢; exact mono x u e
    · unfold Wd.at at e ⊢
      split at e
      · rename_i hb; rw [if_pos hb]; exact e
      · rename_i hb; rw [if_neg hb]; exact e
  · obtain ⟨r1, r2, r3⟩ := R.acc x u e
    have hxp : x ≠ p := fun z => by subst z; rw [hA] at e; cases e
    exact ⟨r1, (upd_ne hxp).trans r2, r3⟩
/-- .. or a cell's -/
theorem HR.takeC (R : HR K ca b ρ W h H) {p : Addr} {o : HO} {c : Cell} (hp : H p = some o) (hF : W.F p = none) (hι : p ∉ W.ι) (hA : W.A p = none) (hc : CR K ca W c o) : HR K ca b ρ ⟨W.F, W.ι ++ [p], W.A⟩ (h ++ [c]) H ∧ W.le ⟨W.F, W.ι ++ [p], W.A⟩ ∧ (W.ι ++ [p])[h.length]? = some p := by
  have mono : ∀ (n : Nat) (a : Addr), W.ι[n]? = some a → (W.ι ++ [p])[n]? = some a := fun n a e => by
    rw [List.getElem?_append_left (List.getElem?_eq_some_iff.mp e).1]
    exact e
  refine ⟨⟨R.F, by simp [R.len], ?_, fun a ha z => ?_, fun n c' a hn hc' ha => ?_, fun a u e => ?_, by rw [List.length_append]; exact Nat.le_trans R.base (Nat.le_add_right _ _), R.rk⟩, ⟨fun _ _ e => e, ⟨[p], rfl⟩, rfl⟩, by rw [← R.len]; simp⟩
  · rw [List.nodup_append]
    exact ⟨R.nd, by simp, fun a ha x hx => by
      have : x = p := by simpa using hx
      rw [this]
      exact fun z => hι (z ▸ ha)⟩
  · rcases List.mem_append.mp ha with ha | ha
    · exact R.th a ha z
    · have : a = p := by simpa using ha
      subst this
      rw [hp] at z
      cases z
  · by_cases hnl : n < h.length
    · rw [List.getElem?_append_left hnl] at hn
      have ha' : W.ι[n]? = some a := by
        have ha2 : (W.ι ++ [p])[n]? = some a := ha
        rw [List.getElem?_append_left (by rw [R.len]; exact hnl)] at ha2
        exact ha2
      obtain ⟨h1, o', h2, h3⟩ := R.cell n c' a hn hc' ha'
      refine ⟨h1, o', h2, h3.mono (fun x u e => ?_) (fun m x e => ?_)⟩
      · rw [Wd.at_F] at e ⊢
        exact e
      · unfold Wd.at at e ⊢
        split at e
        · rename_i hb
          rw [if_pos hb]
          have hle : ρ n ≤ W.ι.length := by rw [R.len]; exact Nat.le_trans (R.rk n hb).2 R.base
          show ((W.ι ++ [p]).take (ρ n))[m]? = some x
          rw [List.take_append_of_le_length hle]
          exact e
        · rename_i hb
          rw [if_neg hb]
          exact mono m x e
    · have hn1 : n = h.length := by
        have := (List.getElem?_eq_some_iff.mp hn).1
        rw [List.length_append, List.length_singleton] at this
        omega
      subst hn1
      have e1 : c' = c := by simpa using hn.symm
      subst e1
      have e2 : a = p := by
        have ha2 : (W.ι ++ [p])[h.length]? = some a := ha
        rw [← R.len] at ha2
        simpa using ha2.symm
      subst e2
      refine ⟨hF, o, hp, hc.mono (fun x u e => ?_) (fun m x e => ?_)⟩
      · rw [Wd.at_F]; exact e
      · unfold Wd.at
        rw [if_neg (Nat.not_lt.mpr R.base)]
        exact mono m x e
  · obtain ⟨q1, q2, q3⟩ := R.acc a u e
    have hap : a ≠ p := fun z => by subst z; rw [hA] at e; cases e
    refine ⟨q1, q2, fun z => ?_⟩
    rcases List.mem_append.mp z with z | z
    · exact q3 z
    · exact hap (by simpa using z)
/-- data without cells, or at a cell of its own ground -/
theorem stOk_at {n : Nat} {d : Dt} {v : V} (hs : stOk b n d = true) (q : DV K ca W d v) : DV K ca (W.at b ρ n) d v := by
  unfold Wd.at
  split
  · rename_i hb
    rcases Bool.or_eq_true_iff.mp hs with z | z
    · exact absurd (of_decide_eq_true z) (Nat.not_le.mpr hb)
    · exact DV.mono' (W := W) (W' := ⟨W.F, W.ι.take (ρ n), W.A⟩) (fun _ _ e => e) d v (.inl z) q
  · exact q

/-! ### freezing -/
/-- the world below the base -/
def Wd.low (W : Wd) (b : Nat) : Wd := ⟨W.F, W.ι.take b, W.A⟩
theorem low_le {W W' : Wd} {b : Nat} (hF : ∀ a o, W.F a = some o → W'.F a = some o) (hι : W'.ι = W.ι) (n : Nat) (a : Addr) (e : (W.low b).ι[n]? = some a) : (W'.low b).ι[n]? = some a := by
  show (W'.ι.take b)[n]? = some a
  rw [hι]; exact e
def FzOk (K : PySem.W.Frag) (ca : Nat → Addr) (b : Nat) (ρ : Nat → Nat) (g : Dt → Hq → Option (Dt × Hq)) : Prop :=
  ∀ (d : Dt) (v : V) (h : Hq) (W : Wd) (H : Hp) (p : Dt × Hq), HR K ca b ρ W h H → DV K ca W d v → g d h = some p → ∃ W', W.le W' ∧ W'.ι = W.ι ∧ HR K ca b ρ W' p.2 H ∧ DV K ca (W'.low b) p.1 v
theorem fzs_ok {g : Dt → Hq → Option (Dt × Hq)} (G : FzOk K ca b ρ g) : ∀ (ds : List Dt) (vs : List V) (h : Hq) (W : Wd) (H : Hp) (p : List Dt × Hq), HR K ca b ρ W h H → DVs K ca W ds vs → fzs g ds h = some p →
    ∃ W', W.le W' ∧ W'.ι = W.ι ∧ HR K ca b ρ W' p.2 H ∧ DVs K ca (W'.low b) p.1 vs
  | [], vs, h, W, H, p, R, r, e => by
    have e : some (([] : List Dt), h) = some p := e
    cases e
    exact ⟨W, .refl W, rfl, R, r⟩
  | d :: ds, vs, h, W, H, p, R, ⟨v, vr, e1, r1, r2⟩, e => by
    have e : ((g d h).bind fun p => (fzs g ds p.2).map fun q => (p.1 :: q.1, q.2)) = some p := e
    cases q1 : g d h with
    | none => rw [q1] at e; cases e
    | some p1 =>
      rw [q1] at e
      have e : ((fzs g ds p1.2).map fun q => (p1.1 :: q.1, q.2)) = some p := e
      cases q2 : fzs g ds p1.2 with
      | none => rw [q2] at e; cases e
      | some p2 =>
        rw [q2] at e
        have e : some (p1.1 :: p2.1, p2.2) = some p := e
        cases e
        obtain ⟨W1, w1, i1, R1, d1⟩ := G d v h W H p1 R r1 q1
        obtain ⟨W2, w2, i2, R2, d2⟩ := fzs_ok G ds vr p1.2 W1 H p2 R1 (r2.le w1) q2
        exact ⟨W2, w1.trans w2, i2.trans i1, R2, v, vr, e1, DV.mono' (W := W1.low b) (W' := W2.low b) w2.1 _ _ (.inr (low_le w2.1 i2)) d1, d2⟩
theorem fzN_ok : ∀ k : Nat, FzOk K ca b ρ (fzN k b)
  | 0 => fun d v h W H p R r e => by
    unfold fzN at e
    split at e
    · rename_i hn
      cases e
      exact ⟨W, .refl W, rfl, R, DV.mono' (W := W) (W' := W.low b) (fun _ _ e => e) d v (.inl hn) r⟩
    · cases e
  | k + 1 => fun d v h W H p R r e => by
    have ih := fzN_ok k
    unfold fzN at e
    split at e
    · rename_i hn
      cases e
      exact ⟨W, .refl W, rfl, R, DV.mono' (W := W) (W' := W.low b) (fun _ _ e => e) d v (.inl hn) r⟩
    · split at e
      · rename_i n _
        obtain ⟨a, ea, ha⟩ := r
        split at e
        · rename_i hb
          cases e
          refine ⟨W, .refl W, rfl, R, a, ea, ?_⟩
          show (W.ι.take b)[n]? = some a
          rw [List.getElem?_take_of_lt hb]; exact ha
        · rename_i hb
          have at_ : W.at b ρ n = W := by unfold Wd.at; rw [if_neg hb]
          split at e
          · rename_i ds hn
            obtain ⟨_, o, hH, cr⟩ := R.cell n _ a hn (by intro z; cases z) ha
            rw [at_] at cr
            obtain ⟨vs, rfl, z, dv⟩ := cr
            obtain ⟨R1, w1⟩ := R.kill hn (by intro z; cases z) ha hH
            cases q : fzs (fzN k b) ds (h.set n .dead) with
            | none => rw [q] at e; cases e
            | some p1 =>
              rw [q] at e; cases e
              obtain ⟨W2, w2, i2, R2, d2⟩ := fzs_ok ih ds vs _ _ H p1 R1 (dv.le w1) q
              exact ⟨W2, w1.trans w2, i2, R2, a, vs, ea, w2.1 _ _ upd_same, z, d2⟩
          · rename_i ks ds hn
            obtain ⟨_, o, hH, cr⟩ := R.cell n _ a hn (by intro z; cases z) ha
            rw [at_] at cr
            obtain ⟨kvs, rfl, hk, z, dv⟩ := cr
            obtain ⟨R1, w1⟩ := R.kill hn (by intro z; cases z) ha hH
            cases q : fzs (fzN k b) ds (h.set n .dead) with
            | none => rw [q] at e; cases e
            | some p1 =>
              rw [q] at e; cases e
              obtain ⟨W2, w2, i2, R2, d2⟩ := fzs_ok ih ds _ _ _ H p1 R1 (dv.le w1) q
              exact ⟨W2, w1.trans w2, i2, R2, a, kvs, ea, w2.1 _ _ upd_same, hk, z, d2⟩
          · rename_i c ns ds hn
            obtain ⟨_, o, hH, cr⟩ := R.cell n _ a hn (by intro z; cases z) ha
            rw [at_] at cr
            obtain ⟨dx, fs, rfl, hk, dv⟩ := cr
            obtain ⟨R1, w1⟩ := R.kill hn (by intro z; cases z) ha hH
            cases q : fzs (fzN k b) ds (h.set n .dead) with
            | none => rw [q] at e; cases e
            | some p1 =>
              rw [q] at e; cases e
              obtain ⟨W2, w2, i2, R2, d2⟩ := fzs_ok ih ds _ _ _ H p1 R1 (dv.le w1) q
              exact ⟨W2, w1.trans w2, i2, R2, a, dx, fs, ea, w2.1 _ _ upd_same, hk, d2⟩
          · cases e
      · rename_i ds _
        obtain ⟨a, vs, ea, sq, z, dv⟩ := r
        cases q : fzs (fzN k b) ds h with
        | none => rw [q] at e; cases e
        | some p1 =>
          rw [q] at e; cases e
          obtain ⟨W2, w2, i2, R2, d2⟩ := fzs_ok ih ds vs _ _ H p1 R dv q
          exact ⟨W2, w2, i2, R2, a, vs, ea, SqT.le w2.1 sq, z, d2⟩
      · cases e
theorem low_up {W : Wd} {b : Nat} {d : Dt} {v : V} (h : DV K ca (W.low b) d v) : DV K ca W d v :=
  DV.mono' (W := W.low b) (W' := W) (fun _ _ e => e) d v (.inr fun n a e => by
    have e : (W.ι.take b)[n]? = some a := e
    rw [List.getElem?_take] at e
    split at e
    · exact e
    · cases e) h
end
end
end Vm

/-! Vm, part 3: the operations, by values. Own text. -/
namespace Vm
open PySem L2

section
variable {K : PySem.W.Frag} {ca : Nat → Addr} {b : Nat} {ρ : Nat → Nat} {W : Wd} {h : Hq} {H : Hp}

/-- data as it stands in the heap now (one level) -/
def DH (K : PySem.W.Frag) (ca : Nat → Addr) (W : Wd) (H : Hp) : Dt → V → Prop
  | .tup ds, v => ∃ a vs, v = .ref a ∧ SqT K W.F a vs ∧ vs.length ≤ sizeLine ∧ DVs K ca W ds vs
  | .lst ds, v => ∃ a vs, v = .ref a ∧ H a = some (.lst vs) ∧ vs.length ≤ sizeLine ∧ DVs K ca W ds vs
  | .frl ds, v => ∃ a vs, v = .ref a ∧ SqL K H a vs ∧ vs.length ≤ sizeLine ∧ DVs K ca W ds vs
  | .dic ks ds, v => ∃ a kvs, v = .ref a ∧ Rd H a (.dK kvs) ∧ kvs.map (·.1) = ks ∧ kvs.length ≤ sizeLine ∧ DVs K ca W ds (kvs.map (·.2))
  | .ins c ns ds, v => ∃ a dx fs, v = .ref a ∧ H a = some (.ins (ca c) dx fs) ∧ fs.map (·.1) = ns ∧ DVs K ca W ds (fs.map (·.2))
  | .non, v => v = .non
  | .bl c, v => v = .bl c
  | .int i, v => v = .int i
  | .str x, v => v = .str x ∧ x.length ≤ sizeLine
  | .ref _, v => ∃ a, v = .ref a
def DHs (K : PySem.W.Frag) (ca : Nat → Addr) (W : Wd) (H : Hp) : List Dt → List V → Prop
  | [], vs => vs = []
  | d :: ds, vs => ∃ v r, vs = v :: r ∧ DH K ca W H d v ∧ DHs K ca W H ds r

theorem HR.seqT (R : HR K ca b ρ W h H) {a : Addr} {vs : List V} (q : SqT K W.F a vs) : SqT K H a vs := by
  rcases q with (e | ⟨o, e⟩) | q
  · exact .inl (.inl ((R.F a _ e).2 fun _ z => by cases z))
  · exact .inl (.inr ⟨o, (R.F a _ e).2 fun _ z => by cases z⟩)
  · exact .inr q
theorem HR.seqL (R : HR K ca b ρ W h H) {a : Addr} {vs : List V} (q : SqL K W.F a vs) : SqL K H a vs := by
  rcases q with (e | ⟨o, e⟩) | q
  · exact .inl (.inl ((R.F a _ e).2 fun _ z => by cases z))
  · exact .inl (.inr ⟨o, (R.F a _ e).2 fun _ z => by cases z⟩)
  · exact .inr q
theorem HR.lstF (R : HR K ca b ρ W h H) {a : Addr} {vs : List V} (q : W.F a = some (.lst vs)) : H a = some (.lst vs) := (R.F a _ q).2 fun _ z => by cases z
theorem at_up {n : Nat} {ds : List Dt} {vs : List V} (q : DVs K ca (W.at b ρ n) ds vs) : DVs K ca W ds vs := by
  unfold Wd.at at q
  split at q
  · exact DVs.mono' (W := ⟨W.F, W.ι.take (ρ n), W.A⟩) (W' := W) (fun _ _ e => e) ds vs (.inr fun m a e => by
      have e : (W.ι.take (ρ n))[m]? = some a := e
      rw [List.getElem?_take] at e
      split at e
      · exact e
      · cases e) q
  · exact q
theorem DV.dh (R : HR K ca b ρ W h H) {d : Dt} {v : V} (q : DV K ca W d v) : DH K ca W H d v := by
  cases d with
  | tup ds => exact q
  | lst ds => obtain ⟨a, vs, e, sq, z, r⟩ := q; exact ⟨a, vs, e, R.lstF sq, z, r⟩
  | frl ds => obtain ⟨a, vs, e, sq, z, r⟩ := q; exact ⟨a, vs, e, R.seqL sq, z, r⟩
  | dic ks ds => obtain ⟨a, kvs, e, sq, hk, z, r⟩ := q; exact ⟨a, kvs, e, (R.F a _ sq).1, hk, z, r⟩
  | ins c ns ds => obtain ⟨a, dx, fs, e, sq, hk, r⟩ := q; exact ⟨a, dx, fs, e, (R.F a _ sq).2 (fun _ z => by cases z), hk, r⟩
  | ref n => obtain ⟨a, e, _⟩ := q; exact ⟨a, e⟩
  | _ => exact q
theorem vw_ok (R : HR K ca b ρ W h H) {d : Dt} {v : V} (q : DV K ca W d v) : DH K ca W H (vw h d) v := by
  cases d with
  | ref n =>
    obtain ⟨a, e, ha⟩ := q
    cases hn : h[n]? with
    | none =>
      have e1 : vw h (.ref n) = .ref n := by simp only [vw, hn]
      rw [e1]; exact ⟨a, e⟩
    | some c =>
      cases c with
      | dead =>
        have e1 : vw h (.ref n) = .ref n := by simp only [vw, hn]
        rw [e1]; exact ⟨a, e⟩
      | lst ds =>
        obtain ⟨_, o, hH, vs, rfl, z, dv⟩ := R.cell n _ a hn (by intro z; cases z) ha
        have e1 : vw h (.ref n) = .lst ds := by simp only [vw, hn]
        rw [e1]; exact ⟨a, vs, e, hH, z, at_up dv⟩
      | dic ks ds =>
        obtain ⟨_, o, hH, kvs, rfl, hk, z, dv⟩ := R.cell n _ a hn (by intro z; cases z) ha
        have e1 : vw h (.ref n) = .dic ks ds := by simp only [vw, hn]
        rw [e1]; exact ⟨a, kvs, e, .inl hH, hk, z, at_up dv⟩
      | ins c ns ds =>
        obtain ⟨_, o, hH, dx, fs, rfl, hk, dv⟩ := R.cell n _ a hn (by intro z; cases z) ha
        have e1 : vw h (.ref n) = .ins c ns ds := by simp only [vw, hn]
        rw [e1]; exact ⟨a, dx, fs, e, hH, hk, at_up dv⟩
  | _ => exact DV.dh R q
theorem vws_ok (R : HR K ca b ρ W h H) : ∀ {ds : List Dt} {vs : List V}, DVs K ca W ds vs → DHs K ca W H (ds.map (vw h)) vs
  | [], _, q => q
  | d :: ds, _, ⟨v, r, e, q1, q2⟩ => ⟨v, r, e, vw_ok R q1, vws_ok R q2⟩

/-! ### ==: plain data -/
theorem dep_tup (xs : List PyData) : PyData.depth (.tuple xs) = PyData.depthAll xs + 1 := by rw [PyData.depth]
theorem dep_list (xs : List PyData) : PyData.depth (.list xs) = PyData.depthAll xs + 1 := by rw [PyData.depth]
theorem pys_map (ds : List Dt) : pys ds = ds.map py := by
  induction ds with
  | nil => rfl
  | cons d ds ih => rw [pys, ih]; rfl
theorem plain_dep : ∀ (n : Nat) (d : Dt), plainN n d = true → (py d).depth ≤ n
  | n, .non, _ => by rw [py, PyData.depth]; exact Nat.zero_le _
  | n, .bl _, _ => by rw [py, PyData.depth]; exact Nat.zero_le _
  | n, .int _, _ => by rw [py, PyData.depth]; exact Nat.zero_le _
  | n, .str _, _ => by rw [py, PyData.depth]; exact Nat.zero_le _
  | n + 1, .tup ds, h => by
    rw [py, dep_tup, pys_map]
    have h : ds.all (plainN n) = true := by rw [plainN] at h; exact h
    have := all_dep n ds h
    omega
  | n + 1, .lst ds, h => by
    rw [py, dep_list, pys_map]
    have h : ds.all (plainN n) = true := by rw [plainN] at h; exact h
    have := all_dep n ds h
    omega
  | n + 1, .frl ds, h => by
    rw [py, dep_list, pys_map]
    have h : ds.all (plainN n) = true := by rw [plainN] at h; exact h
    have := all_dep n ds h
    omega
  | 0, .tup ds, h => by simp [plainN] at h
  | 0, .lst ds, h => by simp [plainN] at h
  | 0, .frl ds, h => by simp [plainN] at h
  | n, .dic _ _, h => by cases n <;> simp [plainN] at h
  | n, .ins _ _ _, h => by cases n <;> simp [plainN] at h
  | n, .ref _, h => by cases n <;> simp [plainN] at h
where all_dep (n : Nat) : ∀ ds : List Dt, ds.all (plainN n) = true → PyData.depthAll (ds.map py) ≤ n
  | [], _ => by rw [List.map_nil, PyData.depthAll]; exact Nat.zero_le _
  | d :: ds, h => by
    rw [List.all_cons, Bool.and_eq_true] at h
    rw [List.map_cons, PyData.depthAll]
    exact Nat.max_le.mpr ⟨plain_dep n d h.1, all_dep n ds h.2⟩
theorem plain_lay : ∀ (n : Nat) (d : Dt), plainN n d = true → (py d).canLay0 = true
  | n, .non, _ => by rw [py, PyData.canLay0]
  | n, .bl _, _ => by rw [py, PyData.canLay0]
  | n, .int _, _ => by rw [py, PyData.canLay0]
  | n, .str x, h => by
    rw [py]
    cases n <;> simpa [plainN] using h
  | n + 1, .tup ds, h => by
    rw [py, PyData.canLay0, pys_map]
    exact all_lay n ds (by rw [plainN] at h; exact h)
  | n + 1, .lst ds, h => by
    rw [py, PyData.canLay0, pys_map]
    exact all_lay n ds (by rw [plainN] at h; exact h)
  | n + 1, .frl ds, h => by
    rw [py, PyData.canLay0, pys_map]
    exact all_lay n ds (by rw [plainN] at h; exact h)
  | 0, .tup ds, h => by simp [plainN] at h
  | 0, .lst ds, h => by simp [plainN] at h
  | 0, .frl ds, h => by simp [plainN] at h
  | n, .dic _ _, h => by cases n <;> simp [plainN] at h
  | n, .ins _ _ _, h => by cases n <;> simp [plainN] at h
  | n, .ref _, h => by cases n <;> simp [plainN] at h
where all_lay (n : Nat) : ∀ ds : List Dt, ds.all (plainN n) = true → PyData.canLayAll0 (ds.map py) = true
  | [], _ => by rw [List.map_nil, PyData.canLayAll0]
  | d :: ds, h => by
    rw [List.all_cons, Bool.and_eq_true] at h
    rw [List.map_cons, PyData.canLayAll0, plain_lay n d h.1, all_lay n ds h.2]
    rfl
theorem plain_shaped {d : Dt} (h : plain d = true) : SeqAt.shaped (py d) = true :=
  Bool.and_eq_true_iff.mpr ⟨plain_lay 64 d h, decide_eq_true (plain_dep 64 d h)⟩
/-- plain data, deep -/
theorem dp_of (R : HR K ca b ρ W h H) : ∀ (n : Nat) (d : Dt) (v : V), plainN n d = true → DH K ca W H d v → Dp K H v (py d)
  | n, .non, _, _, q => by rw [show _ = V.non from q, py]; exact .non
  | n, .bl c, _, _, q => by rw [show _ = V.bl c from q, py]; exact .bl c
  | n, .int i, _, _, q => by rw [show _ = V.int i from q, py]; exact .int i
  | n, .str x, _, _, q => by rw [show _ = V.str x from q.1, py]; exact .str x
  | n + 1, .tup ds, _, hp, ⟨a, vs, e, sq, _, r⟩ => by
    rw [e, py, pys_map]
    exact .tup (R.seqT sq) (dps_of R n ds vs (by rw [plainN] at hp; exact hp) r)
  | n + 1, .lst ds, _, hp, ⟨a, vs, e, sq, _, r⟩ => by
    rw [e, py, pys_map]
    exact .lst (SqL.of sq) (dps_of R n ds vs (by rw [plainN] at hp; exact hp) r)
  | n + 1, .frl ds, _, hp, ⟨a, vs, e, sq, _, r⟩ => by
    rw [e, py, pys_map]
    exact .lst sq (dps_of R n ds vs (by rw [plainN] at hp; exact hp) r)
  | 0, .tup ds, _, h, _ => by simp [plainN] at h
  | 0, .lst ds, _, h, _ => by simp [plainN] at h
  | 0, .frl ds, _, h, _ => by simp [plainN] at h
  | n, .dic _ _, _, h, _ => by cases n <;> simp [plainN] at h
  | n, .ins _ _ _, _, h, _ => by cases n <;> simp [plainN] at h
  | n, .ref _, _, h, _ => by cases n <;> simp [plainN] at h
where dps_of (R : HR K ca b ρ W h H) (n : Nat) : ∀ (ds : List Dt) (vs : List V), ds.all (plainN n) = true → DVs K ca W ds vs → DpAll K H vs (ds.map py)
  | [], _, _, q => by rw [show _ = ([] : List V) from q]; exact .nil
  | d :: ds, _, hp, ⟨v, r, e, q1, q2⟩ => by
    rw [List.all_cons, Bool.and_eq_true] at hp
    rw [e, List.map_cons]
    exact .cons (dp_of R n d v hp.1 (DV.dh R q1)) (dps_of R n ds r hp.2 q2)
end
end Vm

/-! Vm, part 4: readings of the mini language, operators. Own text. -/
namespace Vm
open PySem L2

/-- names of the text, by number -/
structure Gm where
  fn : Nat → Option Str
  cls : Nat → Option Str
  init : Nat → Option Nat
  meth : Nat → Str → Option Nat
  attr : Nat → Str → Bool
  xc : Nat → Option Str
  xr : Nat → Bool
  gl : List Str
  free : List Str
/-- what is fixed in a def's body -/
structure Sc where
  T : Tb
  G : Gm
  K : PySem.W.Frag
  mg : Str → Option Value
  ca : Nat → Addr
  xa : Nat → Addr
  k : Nat
  b : Nat
  ρ : Nat → Nat
abbrev Sc.HR (S : Sc) : Wd → Hq → Hp → Prop := Vm.HR S.K S.ca S.b S.ρ
abbrev Sc.DV (S : Sc) : Wd → Dt → V → Prop := Vm.DV S.K S.ca
abbrev Sc.DVs (S : Sc) : Wd → List Dt → List V → Prop := Vm.DVs S.K S.ca
abbrev Sc.SR (S : Sc) : Wd → En → St → Prop := Vm.SR S.K S.ca
/-- an exception's value: its class, its dict -/
def XV (K : PySem.W.Frag) (ca xa : Nat → Addr) (W : Wd) (x : Ex) (C : Value) (d : Option Addr) (H : Hp) : Prop :=
  C = .ref (xa x.c) ∧ ((x.ns = [] ∧ x.ds = [] ∧ d = none) ∨ ∃ a fs, x.ns ≠ [] ∧ d = some a ∧ H a = some (.xd fs) ∧ fs.map (·.1) = x.ns ∧ DVs K ca W x.ds (fs.map (·.2)))
section
variable (S : Sc)
/-- a result's reading, from the world W on -/
def RD {α β : Type} (rel : Wd → α → β → Prop) (W : Wd) (r : Res α) (Q : β → Hp → Prop) (E : XK) : Prop :=
  match r with
  | .ok a h => ∀ W' H v, W.le W' → S.HR W' h H → rel W' a v → Q v H
  | .exc x h => ∀ W' H C d, W.le W' → S.HR W' h H → XV S.K S.ca S.xa W' x C d H → E C d H
  | .no => False
end
section
variable {S : Sc} {α β γ δ : Type} {rel : Wd → α → β → Prop} {rel2 : Wd → γ → δ → Prop} {W W1 : Wd} {E : XK}
theorem RD.up (w : W.le W1) {r : Res α} {Q : β → Hp → Prop} (h : RD S rel W r Q E) : RD S rel W1 r Q E := by
  cases r with
  | ok a hh => exact fun W' H v w' => h W' H v (w.trans w')
  | exc x hh => exact fun W' H C d w' => h W' H C d (w.trans w')
  | no => exact h
theorem RD.imp {r : Res α} {Q Q' : β → Hp → Prop} (h : RD S rel W r Q E) (k : ∀ v H, Q v H → Q' v H) : RD S rel W r Q' E := by
  cases r with
  | ok a hh => exact fun W' H v w' R q => k v H (h W' H v w' R q)
  | exc x hh => exact h
  | no => exact h
theorem RD.bind {r : Res α} {f : α → Hq → Res γ} {Q : δ → Hp → Prop} (h : RD S rel2 W (r.bind f) Q E) :
    RD S rel W r (fun v H => ∃ a h1 W1, r = .ok a h1 ∧ W.le W1 ∧ S.HR W1 h1 H ∧ rel W1 a v ∧ RD S rel2 W1 (f a h1) Q E) E := by
  cases r with
  | ok a h1 => exact fun W1 H v w R q => ⟨a, h1, W1, rfl, w, R, q, RD.up w h⟩
  | exc x hh => exact h
  | no => exact h
theorem RD.fin {a : α} {h : Hq} {Q : β → Hp → Prop} (q : RD S rel W (.ok a h) Q E) {W' : Wd} {H : Hp} {v : β} (w : W.le W') (R : S.HR W' h H) (r : rel W' a v) : Q v H := q W' H v w R r
theorem RD.opt {o : Option α} {h : Hq} {Q : β → Hp → Prop} (q : RD S rel W (Res.opt h o) Q E) : ∃ a, o = some a ∧ RD S rel W (.ok a h) Q E := by
  cases o with
  | none => exact False.elim q
  | some a => exact ⟨a, rfl, q⟩
end

/-! ### the readings -/
abbrev rB : Wd → Bool → Bool → Prop := fun _ a b => b = a
section
variable (S : Sc) (wx : WX)
abbrev Sc.ev (m : E) (s : En) (h : Hq) : Res Dt := Vm.ev (callK S.T S.k) S.T.gl S.b m s h
abbrev Sc.evs (m : E) (s : En) (h : Hq) : Res (List Dt) := Vm.evs (callK S.T S.k) S.T.gl S.b m s h
abbrev Sc.evi (m : E) (s : En) (h : Hq) : Res Wk := Vm.evi (callK S.T S.k) S.T.gl S.b m s h
abbrev Sc.evc (m : E) (s : En) (h : Hq) : Res Bool := Vm.evc (callK S.T S.k) S.T.gl S.b m s h
def tE (m : E) : TE := fun σ H Q => ∃ W h s, S.HR W h H ∧ S.SR W s σ ∧ RD S S.DV W (S.ev m s h) Q (fun C d H' => wx C d σ H')
def tT (m : E) : TT := fun σ H Q => ∃ W h s, S.HR W h H ∧ S.SR W s σ ∧ RD S rB W (asB (S.ev m s h)) Q (fun C d H' => wx C d σ H')
def tA (m : E) : TA := fun σ H Q => ∃ W h s, S.HR W h H ∧ S.SR W s σ ∧ RD S S.DVs W (S.evs m s h) Q (fun C d H' => wx C d σ H')
def tC' (m : E) : TT := fun σ H Q => ∃ W h s, S.HR W h H ∧ S.SR W s σ ∧ RD S rB W (S.evc m s h) Q (fun C d H' => wx C d σ H')
end
section
variable {X : Cx} {e : Expr} {es : List Expr}
theorem peImp {t t' : TE} (h : PE X e t) (k : ∀ σ H Q, t' σ H Q → t σ H Q) : PE X e t' := ⟨fun pins s σ H Q I q => h.run pins s σ H Q I (k σ H Q q)⟩
theorem ptImp {t t' : TT} (h : PT X e t) (k : ∀ σ H Q, t' σ H Q → t σ H Q) : PT X e t' := ⟨fun pins s σ H Q I q => h.run pins s σ H Q I (k σ H Q q)⟩
theorem pwImp {t t' : TT} (h : PW X e t) (k : ∀ σ H Q, t' σ H Q → t σ H Q) : PW X e t' := ⟨fun wh pins s σ H Q I q => h.run wh pins s σ H Q I (k σ H Q q)⟩
theorem paImp {t t' : TA} (h : PA X es t) (k : ∀ σ H Q, t' σ H Q → t σ H Q) : PA X es t' := ⟨fun pos pins s σ H Q I q => h.run pos pins s σ H Q I (k σ H Q q)⟩
theorem asB_RD {S : Sc} {W : Wd} {r : Res Dt} {Q : Bool → Hp → Prop} {E : XK} (h : RD S rB W (asB r) Q E) : RD S S.DV W r (fun x H1 => ∃ c, x = .bl c ∧ Q c H1) E := by
  cases r with
  | ok a hh =>
    cases a with
    | bl c => exact fun W' H v w R q => ⟨c, q, h W' H c w R rfl⟩
    | _ => exact False.elim h
  | exc x hh => exact h
  | no => exact h
theorem RD_asB {S : Sc} {W : Wd} {r : Res Dt} {Q : Bool → Hp → Prop} {E : XK} (h : RD S rB W (asB r) Q E) : (∃ c hh, r = .ok (.bl c) hh) ∨ (∃ x hh, r = .exc x hh) := by
  cases r with
  | ok a hh =>
    cases a with
    | bl c => exact .inl ⟨c, hh, rfl⟩
    | _ => exact False.elim h
  | exc x hh => exact .inr ⟨x, hh, rfl⟩
  | no => exact False.elim h
end

/-! ### operators -/
section
variable {X : Cx}
/-! ### tuple * 1 -/
theorem tuple_mul1 (l : Addr) (items : Array Value) (n : Nat) (dd : Option Addr) (sl : Array (Option Value)) (u : Tok) :
    Meets (Builtin.«tuple.__mul__» ⟨[.ref l, .int 1 u], []⟩) (fun _ R s => s.heap.get? l = some { cls := .type "tuple", dict := dd, data := .seq items n, slots := sl } ∧
      R (.ok (.ret (Value.ref l))) s) :=
  .of_wp fun prog w A R s h => by
    obtain ⟨hp, g, d, tk, os⟩ := s
    obtain ⟨hl, h⟩ := h
    have f1 := AutoSeq1.idx_int
    have c1 : (items.isEmpty || (1 : Int) == 1) = true := by cases items.isEmpty <;> rfl
    wp_walk using wpAny_loadPart' hl
    repeat (first
      | (refine wpAny_ite_true (decide_eq_true (by rw [c1])) ?_; wp_walk using wpAny_loadPart' hl)
      | (refine wpAny_ite_false (decide_eq_false (by decide)) ?_; wp_walk using wpAny_loadPart' hl))
    exact ⟨_, rfl, h⟩
def rRepT1 (K : PySem.W.Frag) : R2 := fun x y H Q => ∃ l xs, x = .ref l ∧ y = .int 1 ∧ SqT K H l xs ∧ Q (.ref l) H
theorem op_repT1 {X : Cx} : OpR X (binaryOp .Mult) (rRepT1 X.K) := by
  intro pins s σ H x y v u Q I rx ry h
  obtain ⟨l, xs, rfl, rfl, hT, q⟩ := h
  cases rx
  obtain ⟨t, rfl⟩ := ry
  obtain ⟨its, r, ⟨⟨cls, dd, data, sl⟩, ho, hc, n, hd⟩, hs⟩ := I.tuple hT
  simp only at hc hd
  subst hc hd
  refine wpAny_binaryOp_repeat_ref (T := "tuple") (U := "int") (by decide) ⟨_, ho, rfl⟩ (fun s' => typeIs_int s' 1 t) noFill_tuple_mul F.fills_int_mul F.slot_int_rmul repeat_tuple F.slot_int_index.lookup
    (call_meets F.slot_int_rmul (typeIs_int s 1 t) F.entry_int_rmul (F.args_int_rmul_2 _ _) (int_rmul_tuple 1 t l its.toArray n dd sl)
      ⟨ho, rfl, ⟨_, ho, rfl⟩, call_meets F.slot_tuple_mul ⟨_, ho, rfl⟩ F.entry_tuple_mul (F.args_tuple_mul_2 _ _) (tuple_mul1 l its.toArray n dd sl t) ⟨ho, ?_⟩⟩)
  exact ⟨.ref l, H, I, rfl, q⟩
/-! ### tuple * 0 -/
theorem tuple_mul0 (l : Addr) (items : Array Value) (n : Nat) (dd : Option Addr) (sl : Array (Option Value)) (x : Int) (u : Tok) (c0 : (decide (x < -(2 ^ 63)) || decide (x ≥ 2 ^ 63)) = false) (c1 : (items.isEmpty || x == 1) = false) (c2 : (decide (x ≤ 0) || items.isEmpty) = true) :
    Meets (Builtin.«tuple.__mul__» ⟨[.ref l, .int x u], []⟩) (fun _ R s => s.heap.get? l = some { cls := .type "tuple", dict := dd, data := .seq items n, slots := sl } ∧
      R (.ok (.ret (Value.ref s.heap.objs.size))) { s with heap := s.heap.push { cls := Value.type "tuple", data := Data.seq #[] }, toks := s.toks }) :=
  .of_wp fun prog w A R s h => by
    obtain ⟨hp, g, d, tk, os⟩ := s
    obtain ⟨hl, h⟩ := h
    have f1 := AutoSeq1.idx_int
    wp_walk using wpAny_loadPart' hl
    repeat (first
      | (refine wpAny_ite_false (decide_eq_false (by rw [c0]; exact Bool.false_ne_true)) ?_; wp_walk using wpAny_loadPart' hl)
      | (refine wpAny_ite_false (decide_eq_false (by rw [c1]; exact Bool.false_ne_true)) ?_; wp_walk using wpAny_loadPart' hl)
      | (refine wpAny_ite_true (decide_eq_true (by rw [c2])) ?_; wp_walk using wpAny_loadPart' hl))
    exact ⟨_, rfl, h⟩
def rRepT0 (K : PySem.W.Frag) : R2 := fun x y H Q => ∃ l k xs, x = .ref l ∧ y = .int k ∧ SqT K H l xs ∧ xs ≠ [] ∧ k ≤ 0 ∧ -1000 ≤ k ∧ ∀ p, H p = none → Q (.ref p) (upd H p (.tup []))
theorem op_repT0 {X : Cx} : OpR X (binaryOp .Mult) (rRepT0 X.K) := by
  intro pins s σ H x y v u Q I rx ry h
  obtain ⟨l, k, xs, rfl, rfl, hT, hne, h1, h2, q⟩ := h
  cases rx
  obtain ⟨t, rfl⟩ := ry
  obtain ⟨its, r, ⟨⟨cls, dd, data, sl⟩, ho, hc, n, hd⟩, hs⟩ := I.tuple hT
  simp only at hc hd
  subst hc hd
  have hle : its.length = xs.length := r.length.symm
  have hi : its.toArray.isEmpty = false := by
    cases its with
    | nil => exact absurd (List.eq_nil_of_length_eq_zero hle.symm) hne
    | cons a b => rfl
  have c0 : (decide (k < -(2 ^ 63)) || decide (k ≥ 2 ^ 63)) = false := by
    rw [decide_eq_false (by omega), decide_eq_false (by omega)] <;> rfl
  have c1 : (its.toArray.isEmpty || k == 1) = false := by
    rw [hi, Bool.false_or]
    exact beq_eq_false_iff_ne.mpr (by omega)
  have c2 : (decide (k ≤ 0) || its.toArray.isEmpty) = true := by rw [decide_eq_true h1, Bool.true_or]
  refine wpAny_binaryOp_repeat_ref (T := "tuple") (U := "int") (by decide) ⟨_, ho, rfl⟩ (fun s' => typeIs_int s' k t) noFill_tuple_mul F.fills_int_mul F.slot_int_rmul repeat_tuple F.slot_int_index.lookup
    (call_meets F.slot_int_rmul (typeIs_int s k t) F.entry_int_rmul (F.args_int_rmul_2 _ _) (int_rmul_tuple k t l its.toArray n dd sl)
      ⟨ho, rfl, ⟨_, ho, rfl⟩, call_meets F.slot_tuple_mul ⟨_, ho, rfl⟩ F.entry_tuple_mul (F.args_tuple_mul_2 _ _) (tuple_mul0 l its.toArray n dd sl k t c0 c1 c2) ⟨ho, ?_⟩⟩)
  refine ⟨.ref s.heap.objs.size, _, I.laid (t' := s.toks) (o := .tup []) (fun b ob q => Heap.get?_push_of_some _ q) (Nat.le_refl _) ?_, rfl, q _ (I.hok.fresh (Nat.le_refl _))⟩
  exact ⟨Nat.zero_le _, [], .nil, PyProof.Rows.IsTup.new _ _⟩
def rNo : R2 := fun _ _ _ _ => False
theorem op_no (f : Value → Value → Sem Value) : OpR X f rNo := fun _ _ _ _ _ _ _ _ _ _ _ _ h => False.elim h
def rBin (K : PySem.W.Frag) : Operator → R2
  | .Add => fun x y H Q => rI0 (fun i j => .int (i + j)) x y H Q ∨ (∃ i j, x = .str i ∧ y = .str j ∧ i.length + j.length ≤ sizeLine ∧ Q (.str (i ++ j)) H) ∨ rCatA K x y H Q ∨ rCat x y H Q
  | .Sub => rI0 fun i j => .int (i - j)
  | .Mult => fun x y H Q => rI CMul (fun i j => .int (i * j)) x y H Q ∨ rRep x y H Q ∨ rRepT K x y H Q ∨ rRepT1 K x y H Q ∨ rRepT0 K x y H Q
  | .FloorDiv => rI CDiv fun i j => .int (i / j)
  | .Mod => rI (fun _ j => 0 < j) fun i j => .int (i % j)
  | .Pow => rI CPow fun i j => .int (i ^ j.toNat)
  | .LShift => rI CPow fun i j => .int (i * 2 ^ j.toNat)
  | .RShift => rI (fun _ j => 0 ≤ j) fun i j => .int (i / 2 ^ j.toNat)
  | .BitAnd => rI0 fun i j => .int (Builtin.bitAnd i j)
  | .BitOr => rI0 fun i j => .int (Builtin.bitOr i j)
  | .BitXor => rI0 fun i j => .int (Builtin.bitXor i j)
  | _ => rNo
theorem op_bin (op : Operator) : OpR X (binaryOp op) (rBin X.K op) := by
  cases op with
  | Add => exact op_add.or (op_add_str.or (op_catA.or op_cat))
  | Sub => exact op_sub
  | Mult => exact op_mul.or (op_rep.or (op_repT.or (op_repT1.or op_repT0)))
  | FloorDiv => exact op_fdiv
  | Mod => exact op_mod
  | Pow => exact op_pow
  | LShift => exact op_shl
  | RShift => exact op_shr
  | BitAnd => exact op_and
  | BitOr => exact op_or
  | BitXor => exact op_xor
  | MatMult => exact op_no _
  | Div => exact op_no _
end
section
variable {S : Sc} {W : Wd} {h : Hq} {H : Hp} {E : XK} {Q : VK}
theorem new_tup (R : S.HR W h H) {ds : List Dt} {vs : List V} (q : S.DVs W ds vs) (z : vs.length ≤ sizeLine) (k : RD S S.DV W (.ok (.tup ds) h) Q E) {p : Addr} (hp : H p = none) : Q (.ref p) (upd H p (.tup vs)) := by
  obtain ⟨R', w⟩ := R.newF (o := .tup vs) hp
  exact k _ _ _ w R' ⟨p, vs, rfl, SqT.of upd_same, z, q.le w⟩
theorem new_lst (R : S.HR W h H) {ds : List Dt} {vs : List V} (q : S.DVs W ds vs) (z : vs.length ≤ sizeLine) (k : RD S S.DV W (.ok (.lst ds) h) Q E) {p : Addr} (hp : H p = none) : Q (.ref p) (upd H p (.lst vs)) := by
  obtain ⟨R', w⟩ := R.newF (o := .lst vs) hp
  exact k _ _ _ w R' ⟨p, vs, rfl, upd_same, z, q.le w⟩
theorem new_lstM (R : S.HR W h H) {ds : List Dt} {vs : List V} (m : Bool) (q : S.DVs W ds vs) (z : vs.length ≤ sizeLine) (k : RD S S.DV W (newL m ds h) Q E) {p : Addr} (hp : H p = none) : Q (.ref p) (upd H p (.lst vs)) := by
  cases m with
  | false => exact new_lst R q z k hp
  | true =>
    obtain ⟨R', w, e⟩ := R.newC (o := .lst vs) (c := .lst ds) hp ⟨vs, rfl, z, q⟩
    exact k _ _ _ w R' ⟨p, rfl, e⟩
theorem new_dicM (R : S.HR W h H) {ks : List Key} {ds : List Dt} {kvs : List (Key × V)} (m : Bool) (hk : kvs.map (·.1) = ks) (q : S.DVs W ds (kvs.map (·.2))) (z : kvs.length ≤ sizeLine) (k : RD S S.DV W (newD m ks ds h) Q E) {p : Addr} (hp : H p = none) : Q (.ref p) (upd H p (.dK kvs)) := by
  cases m with
  | false =>
    obtain ⟨R', w⟩ := R.newF (o := .dK kvs) hp
    exact k _ _ _ w R' ⟨p, kvs, rfl, upd_same, hk, z, q.le w⟩
  | true =>
    obtain ⟨R', w, e⟩ := R.newC (o := .dK kvs) (c := .dic ks ds) hp ⟨kvs, rfl, hk, z, q⟩
    exact k _ _ _ w R' ⟨p, rfl, e⟩
theorem c64 {i j : Int} (e : (small64 i || small64 j) = true) : CMul i j := by
  rcases Bool.or_eq_true_iff.mp e with e | e
  · obtain ⟨a, c⟩ := Bool.and_eq_true_iff.mp e
    exact .inl ⟨of_decide_eq_true a, of_decide_eq_true c⟩
  · obtain ⟨a, c⟩ := Bool.and_eq_true_iff.mp e
    exact .inr ⟨of_decide_eq_true a, of_decide_eq_true c⟩
theorem ite_some {α : Type} {c : Bool} {a d : α} (h : (if c = true then some a else none) = some d) : c = true ∧ a = d := by
  cases c with
  | true => exact ⟨rfl, Option.some.inj h⟩
  | false => cases h
theorem and2 {a b : Bool} (h : (a && b) = true) : a = true ∧ b = true := Bool.and_eq_true_iff.mp h
theorem bin_ok {op : Operator} {d e r : Dt} {x y : V} (R : S.HR W h H) (qd : DH S.K S.ca W H d x) (qe : DH S.K S.ca W H e y) (hr : binD op d e = some r) (k : RD S S.DV W (.ok r h) Q E) : rBin S.K op x y H Q := by
  unfold binD at hr
  split at hr
  · cases hr; exact .inl ⟨_, _, qd, qe, k _ _ _ (.refl W) R rfl⟩
  · cases hr; exact ⟨_, _, qd, qe, k _ _ _ (.refl W) R rfl⟩
  · obtain ⟨c, rfl⟩ := ite_some hr
    exact .inl ⟨_, _, qd, qe, c64 c, k _ _ _ (.refl W) R rfl⟩
  · obtain ⟨c, rfl⟩ := ite_some hr
    obtain ⟨c1, c2⟩ := and2 c
    exact ⟨_, _, qd, qe, ⟨of_decide_eq_true c1, of_decide_eq_true c2⟩, k _ _ _ (.refl W) R rfl⟩
  · obtain ⟨c, rfl⟩ := ite_some hr
    exact ⟨_, _, qd, qe, of_decide_eq_true c, k _ _ _ (.refl W) R rfl⟩
  · obtain ⟨c, rfl⟩ := ite_some hr
    obtain ⟨c1, c3⟩ := and2 c
    obtain ⟨c1, c2⟩ := and2 c1
    exact ⟨_, _, qd, qe, ⟨of_decide_eq_true c1, of_decide_eq_true c2, of_decide_eq_true c3⟩, k _ _ _ (.refl W) R rfl⟩
  · obtain ⟨c, rfl⟩ := ite_some hr
    obtain ⟨c1, c3⟩ := and2 c
    obtain ⟨c1, c2⟩ := and2 c1
    exact ⟨_, _, qd, qe, ⟨of_decide_eq_true c1, of_decide_eq_true c2, of_decide_eq_true c3⟩, k _ _ _ (.refl W) R rfl⟩
  · obtain ⟨c, rfl⟩ := ite_some hr
    exact ⟨_, _, qd, qe, of_decide_eq_true c, k _ _ _ (.refl W) R rfl⟩
  · cases hr; exact ⟨_, _, qd, qe, k _ _ _ (.refl W) R rfl⟩
  · cases hr; exact ⟨_, _, qd, qe, k _ _ _ (.refl W) R rfl⟩
  · cases hr; exact ⟨_, _, qd, qe, k _ _ _ (.refl W) R rfl⟩
  · obtain ⟨c, rfl⟩ := ite_some hr
    have c := of_decide_eq_true c
    refine .inr (.inl ⟨_, _, qd.1, qe.1, c, k _ _ _ (.refl W) R ⟨rfl, ?_⟩⟩)
    rw [Str.length_append]; exact c
  · obtain ⟨c, rfl⟩ := ite_some hr
    have c := of_decide_eq_true c
    obtain ⟨a, vs, ea, sa, za, ra⟩ := qd
    obtain ⟨a2, us, eb, sb, zb, rb⟩ := qe
    have l1 := ra.len
    have l2 := rb.len
    refine .inr (.inr (.inl ⟨a, a2, vs, us, ea, eb, R.seqT sa, R.seqT sb, by omega, fun e => ?_, fun e1 e2 => ?_, fun e1 e2 p hp => ?_⟩))
    · subst e
      refine k _ _ _ (.refl W) R ⟨a2, us, rfl, sb, zb, ?_⟩
      have := DVs.append ra rb
      simpa using this
    · subst e2
      refine k _ _ _ (.refl W) R ⟨a, vs, rfl, sa, za, ?_⟩
      have := DVs.append ra rb
      simpa using this
    · exact new_tup R (DVs.append ra rb) (by rw [List.length_append]; omega) k hp
  · obtain ⟨c, rfl⟩ := ite_some hr
    have c := of_decide_eq_true c
    obtain ⟨a, vs, ea, sa, za, ra⟩ := qd
    obtain ⟨a2, us, eb, sb, zb, rb⟩ := qe
    have l1 := ra.len
    have l2 := rb.len
    exact .inr (.inr (.inr ⟨a, a2, vs, us, ea, eb, sa, sb, by omega, fun p hp => new_lst R (DVs.append ra rb) (by rw [List.length_append]; omega) k hp⟩))
  · obtain ⟨c, rfl⟩ := ite_some hr
    obtain ⟨c1, c3⟩ := and2 c
    obtain ⟨c1, c2⟩ := and2 c1
    obtain ⟨a, vs, ea, sa, za, ra⟩ := qd
    have l1 := ra.len
    have c3 := of_decide_eq_true c3
    refine .inr (.inl ⟨a, _, vs, ea, qe, sa, of_decide_eq_true c1, of_decide_eq_true c2, by rw [← l1]; exact c3, fun p hp => new_lst R (DVs.flatRep ra _) ?_ k hp⟩)
    rw [List.length_flatten, List.map_replicate, List.sum_replicate_nat, ← l1, Nat.mul_comm]; exact c3
  · split at hr
    · rename_i hk
      have hk := of_decide_eq_true hk
      subst hk
      cases hr
      obtain ⟨a, vs, ea, sa, za, ra⟩ := qd
      exact .inr (.inr (.inr (.inl ⟨a, vs, ea, qe, R.seqT sa, k _ _ _ (.refl W) R ⟨a, vs, rfl, sa, za, ra⟩⟩)))
    split at hr
    rotate_left
    · obtain ⟨c, rfl⟩ := ite_some hr
      obtain ⟨c1, c3⟩ := and2 c
      obtain ⟨c1, c2⟩ := and2 c1
      obtain ⟨a, vs, ea, sa, za, ra⟩ := qd
      have l1 := ra.len
      refine .inr (.inr (.inr (.inr ⟨a, _, vs, ea, qe, R.seqT sa, fun z => of_decide_eq_true c1 ?_, of_decide_eq_true c2, of_decide_eq_true c3, fun p hp => new_tup R (ds := []) (vs := []) rfl (Nat.zero_le _) k hp⟩)))
      exact List.length_eq_zero_iff.mp (by rw [l1, z]; rfl)
    rename_i c
    cases hr
    obtain ⟨c1, c4⟩ := and2 c
    obtain ⟨c1, c3⟩ := and2 c1
    obtain ⟨c1, c2⟩ := and2 c1
    obtain ⟨a, vs, ea, sa, za, ra⟩ := qd
    have l1 := ra.len
    have c1 := of_decide_eq_true c1
    have c2 := of_decide_eq_true c2
    have c3 := of_decide_eq_true c3
    have c4 := of_decide_eq_true c4
    refine .inr (.inr (.inl ⟨a, _, vs, ea, qe, R.seqT sa, fun z => c1 ?_, c2, c3, by omega, fun p hp => new_tup R (DVs.flatRep ra _) ?_ k hp⟩))
    · exact List.length_eq_zero_iff.mp (by rw [l1, z]; rfl)
    · rw [List.length_flatten, List.map_replicate, List.sum_replicate_nat, sizeLine_eq]
      have h1 := Int.toNat_le.mpr (show _ ≤ ((1000 : Nat) : Int) from c3)
      have h2 : vs.length ≤ 1000 := by omega
      exact Nat.le_trans (Nat.mul_le_mul h1 h2) (show 1000 * 1000 ≤ 16777216 by decide)
  · cases hr
end
end Vm

/-! Vm, part 5: comparisons, subscripts, slices, builtins, by values. Own text. -/
namespace Vm
open PySem L2

section
variable {X : Cx}
theorem opImp {f : Value → Value → Sem Value} {r r' : R2} (h : OpR X f r) (k : ∀ x y H Q, r' x y H Q → r x y H Q) : OpR X f r' :=
  fun pins s σ H x y v u Q I rx ry q => h pins s σ H x y v u Q I rx ry (k x y H Q q)
theorem op_in_dict (hu : X.A.units + 1 < cLine) : OpR X (compareOp .In) (fun x y H Q => ∃ a o, y = .ref a ∧ DGet H a x o ∧ Q (.bl o.isSome) H) := by
  intro pins s σ H x y v u Q I rx ry ⟨a, o, e, g, q⟩
  subst e
  obtain rfl : u = Value.ref a := ry
  exact d_in hu I g rx fun s' I' => ⟨.bl o.isSome, H, I', rfl, q⟩
theorem op_notin_dict (hu : X.A.units + 1 < cLine) : OpR X (compareOp .NotIn) (fun x y H Q => ∃ a o, y = .ref a ∧ DGet H a x o ∧ Q (.bl (!o.isSome)) H) := by
  intro pins s σ H x y v u Q I rx ry ⟨a, o, e, g, q⟩
  subst e
  obtain rfl : u = Value.ref a := ry
  exact d_notIn hu I g rx fun s' I' => ⟨.bl (!o.isSome), H, I', rfl, q⟩
def rInA (K : PySem.W.Frag) : R2 := fun x y H Q => rIn K false x y H Q ∨ rInD K x y H Q ∨ (∃ a o, y = .ref a ∧ DGet H a x o ∧ Q (.bl o.isSome) H) ∨ ∃ (c : Nat) (z : Str), x = .str ⟨#[c]⟩ ∧ y = .str z ∧ Q (.bl (decide (c ∈ z.cps.toList))) H
def rNotInA (K : PySem.W.Frag) : R2 := fun x y H Q => rIn K true x y H Q ∨ rNotInD K x y H Q ∨ (∃ a o, y = .ref a ∧ DGet H a x o ∧ Q (.bl (!o.isSome)) H) ∨ ∃ (c : Nat) (z : Str), x = .str ⟨#[c]⟩ ∧ y = .str z ∧ Q (.bl (!decide (c ∈ z.cps.toList))) H
def rCmp (K : PySem.W.Frag) : CmpOp → R2
  | .Eq => rEqD K
  | .NotEq => rNeD K
  | .Lt => fun x y H Q => rI0 (fun i j => .bl (decide (i < j))) x y H Q ∨ ∃ i j, x = .str i ∧ y = .str j ∧ Q (.bl (decide (i.cps.toList < j.cps.toList))) H
  | .LtE => rI0 fun i j => .bl (decide (i ≤ j))
  | .Gt => rI0 fun i j => .bl (decide (j < i))
  | .GtE => fun x y H Q => rI0 (fun i j => .bl (decide (j ≤ i))) x y H Q ∨ ∃ i j, x = .str i ∧ y = .str j ∧ Q (.bl (!decide (i.cps.toList < j.cps.toList))) H
  | .Is => fun x y H Q => y = .non ∧ Q (.bl (decide (x = .non))) H
  | .IsNot => fun x y H Q => y = .non ∧ Q (.bl (!decide (x = .non))) H
  | .In => rInA K
  | .NotIn => rNotInA K
theorem op_cmp (hu : X.A.units + 100 < cLine) (op : CmpOp) : OpR X (compareOp op) (rCmp X.K op) := by
  cases op with
  | Eq => exact op_eqD (by omega)
  | NotEq => exact op_neD (by omega)
  | Lt => exact op_lt.or op_lt_str
  | LtE => exact op_le
  | Gt => exact op_gt
  | GtE => exact op_ge.or op_ge_str
  | Is => exact op_isN
  | IsNot => exact op_notN
  | In => exact op_in_seq.or ((op_inD (by omega)).or ((op_in_dict (by omega)).or op_in_sign))
  | NotIn => exact op_notIn_seq.or ((op_notInD (by omega)).or ((op_notin_dict (by omega)).or op_notIn_sign))
end

section
variable {S : Sc} {W : Wd} {h : Hq} {H : Hp} {E : XK} {Q : VK}
theorem flat_of {d : Dt} {v : V} (f : flatD d = true) (q : DH S.K S.ca W H d v) : flatV v = true := by
  cases d with
  | non => rw [show v = V.non from q]; rfl
  | bl _ => rw [show v = V.bl _ from q]; rfl
  | int _ => rw [show v = V.int _ from q]; rfl
  | str _ => rw [show v = V.str _ from q.1]; rfl
  | _ => cases f
theorem eqF_of {d e : Dt} {v u : V} (f : flatD d = true) (g : flatD e = true) (q : DH S.K S.ca W H d v) (r : DH S.K S.ca W H e u) : eqV v u = eqF d e := by
  cases d with
  | non =>
    rw [show v = V.non from q]
    cases e with
    | non => rw [show u = V.non from r]; rfl
    | bl _ => rw [show u = V.bl _ from r]; rfl
    | int _ => rw [show u = V.int _ from r]; rfl
    | str _ => rw [show u = V.str _ from r.1]; rfl
    | _ => cases g
  | bl _ =>
    rw [show v = V.bl _ from q]
    cases e with
    | non => rw [show u = V.non from r]; rfl
    | bl _ => rw [show u = V.bl _ from r]; rfl
    | int _ => rw [show u = V.int _ from r]; rfl
    | str _ => rw [show u = V.str _ from r.1]; rfl
    | _ => cases g
  | int _ =>
    rw [show v = V.int _ from q]
    cases e with
    | non => rw [show u = V.non from r]; rfl
    | bl _ => rw [show u = V.bl _ from r]; rfl
    | int _ => rw [show u = V.int _ from r]; rfl
    | str _ => rw [show u = V.str _ from r.1]; rfl
    | _ => cases g
  | str _ =>
    rw [show v = V.str _ from q.1]
    cases e with
    | non => rw [show u = V.non from r]; rfl
    | bl _ => rw [show u = V.bl _ from r]; rfl
    | int _ => rw [show u = V.int _ from r]; rfl
    | str _ => rw [show u = V.str _ from r.1]; rfl
    | _ => cases g
  | _ => cases f
theorem flats_of (R : S.HR W h H) : ∀ {ds : List Dt} {vs : List V}, ds.all flatD = true → S.DVs W ds vs → vs.all flatV = true
  | [], _, _, q => by rw [show _ = ([] : List V) from q]; rfl
  | d :: ds, _, f, ⟨v, r, e, q1, q2⟩ => by
    rw [List.all_cons, Bool.and_eq_true] at f
    rw [e, List.all_cons, flat_of f.1 (DV.dh R q1), flats_of R f.2 q2]; rfl
theorem inV_of (R : S.HR W h H) {d : Dt} {v : V} (f : flatD d = true) (q : DH S.K S.ca W H d v) : ∀ {ds : List Dt} {vs : List V}, ds.all flatD = true → S.DVs W ds vs → inV v vs = ds.any fun y => eqF y d
  | [], _, _, q => by rw [show _ = ([] : List V) from q]; rfl
  | e :: ds, _, g, ⟨u, r, e1, q1, q2⟩ => by
    rw [List.all_cons, Bool.and_eq_true] at g
    rw [e1, List.any_cons, ← inV_of R f q g.2 q2, ← eqF_of g.1 f (DV.dh R q1) q]
    rfl
theorem lookK_val : ∀ {ks : List Key} {ds : List Dt} {kvs : List (Key × V)} {k : Key}, kvs.map (·.1) = ks → S.DVs W ds (kvs.map (·.2)) →
    (∀ d, lookK ks ds k = some d → ∃ v, valV kvs k = some v ∧ S.DV W d v) ∧ (lookK ks ds k = none → valV kvs k = none)
  | [], ds, kvs, k, hk, q => by
    have e : kvs = [] := List.map_eq_nil_iff.mp hk
    subst e
    exact ⟨fun d z => by simp [lookK] at z, fun _ => rfl⟩
  | j :: ks, [], kvs, k, hk, q => by
    have e : kvs.map (·.2) = [] := q
    have e : kvs = [] := List.map_eq_nil_iff.mp e
    subst e
    cases hk
  | j :: ks, d :: ds, [], k, hk, q => by cases hk
  | j :: ks, d :: ds, p :: kvs, k, hk, ⟨v, r, e, q1, q2⟩ => by
    rw [List.map_cons] at hk e
    injection hk with hk1 hk2
    injection e with e1 e2
    have ih := lookK_val (ks := ks) (ds := ds) (kvs := kvs) (k := k) hk2 (by rw [e2]; exact q2)
    unfold lookK
    by_cases c : j = k
    · rw [if_pos c]
      exact ⟨fun x z => by cases z; exact ⟨p.2, valV_pos (hk1.trans c), by rw [e1]; exact q1⟩, fun z => by cases z⟩
    · rw [if_neg c]
      have hn : ¬ p.1 = k := fun z => c (hk1.symm.trans z)
      rw [valV_neg hn]
      exact ih
theorem keyOf_v {d : Dt} {v : V} {k : Key} (e : keyOf d = some k) (q : DH S.K S.ca W H d v) : v = kV k := by
  cases d with
  | int i => cases e; exact q
  | str x => cases e; exact q.1
  | _ => cases e
theorem dget_of {ks : List Key} {ds : List Dt} {x y : V} {d : Dt} {k : Key} (hd : keyOf d = some k) (qx : DH S.K S.ca W H d x) (qy : DH S.K S.ca W H (.dic ks ds) y) :
    ∃ a o, y = .ref a ∧ DGet H a x o ∧ (∀ d, lookK ks ds k = some d → ∃ v, o = some v ∧ S.DV W d v) ∧ (lookK ks ds k = none → o = none) := by
  obtain ⟨a, kvs, e, rd, hk, z, dv⟩ := qy
  have := lookK_val (k := k) hk dv
  exact ⟨a, valV kvs k, e, .inl ⟨kvs, k, rd, keyOf_v hd qx, rfl⟩, this.1, this.2⟩
theorem look_isSome {ks : List Key} {ds : List Dt} {k : Key} {o : Option V} (h1 : ∀ d, lookK ks ds k = some d → ∃ v, o = some v ∧ S.DV W d v) (h2 : lookK ks ds k = none → o = none) : o.isSome = (lookK ks ds k).isSome := by
  cases e : lookK ks ds k with
  | none => rw [h2 e]; rfl
  | some d => obtain ⟨v, e2, _⟩ := h1 d e; rw [e2]; rfl
theorem eqD_some {d e : Dt} {c : Bool} (hr : eqD d e = some c) : plain d = true ∧ plain e = true ∧ c = PyData.eqv (py d) (py e) := by
  unfold eqD at hr
  obtain ⟨h1, h2⟩ := ite_some hr
  obtain ⟨h3, h4⟩ := and2 h1
  exact ⟨h3, h4, h2.symm⟩
theorem any_pys (d : Dt) (ds : List Dt) : (pys ds).any (fun z => PyData.eqv z (py d)) = ds.any fun z => PyData.eqv (py z) (py d) := by
  induction ds with
  | nil => rfl
  | cons e ds ih => rw [pys, List.any_cons, List.any_cons, ih]
theorem in_ok {d e : Dt} {c : Bool} {x y : V} (R : S.HR W h H) (qd : DH S.K S.ca W H d x) (qe : DH S.K S.ca W H e y) (hr : inD d e = some c) :
    (Q (.bl c) H → rInA S.K x y H Q) ∧ (Q (.bl (!c)) H → rNotInA S.K x y H Q) := by
  unfold inD at hr
  split at hr
  · rename_i ds
    obtain ⟨a, vs, ea, sa, za, ra⟩ := qe
    obtain ⟨h1, h2⟩ := ite_some (show (if (flatD d && ds.all flatD) = true then some (ds.any fun y => eqF y d) else none) = some c from hr)
    obtain ⟨h3, h4⟩ := and2 h1
    have e := inV_of R h3 qd h4 ra
    exact ⟨fun q => .inl ⟨a, vs, ea, .inr (R.seqT sa), flat_of h3 qd, flats_of R h4 ra, by rw [if_neg (by decide), e, h2]; exact q⟩,
      fun q => .inl ⟨a, vs, ea, .inr (R.seqT sa), flat_of h3 qd, flats_of R h4 ra, by rw [if_pos rfl, e, h2]; exact q⟩⟩
  · rename_i ds
    obtain ⟨h1, h2⟩ := ite_some hr
    obtain ⟨h3, h4⟩ := and2 h1
    have hx := dp_of R 64 d x h3 qd
    have hy := dp_of R 64 (.lst ds) y h4 qe
    rw [py] at hy
    have hs : SeqAt.shaped (.list (pys ds)) = true := by have := plain_shaped h4; rwa [py] at this
    exact ⟨fun q => .inr (.inl ⟨_, _, hx, hy, plain_shaped h3, hs, by rw [any_pys, h2]; exact q⟩), fun q => .inr (.inl ⟨_, _, hx, hy, plain_shaped h3, hs, by rw [any_pys, h2]; exact q⟩)⟩
  · rename_i ds
    obtain ⟨a, vs, ea, sa, za, ra⟩ := qe
    obtain ⟨h1, h2⟩ := ite_some (show (if (flatD d && ds.all flatD) = true then some (ds.any fun y => eqF y d) else none) = some c from hr)
    obtain ⟨h3, h4⟩ := and2 h1
    have e := inV_of R h3 qd h4 ra
    exact ⟨fun q => .inl ⟨a, vs, ea, .inl sa, flat_of h3 qd, flats_of R h4 ra, by rw [if_neg (by decide), e, h2]; exact q⟩,
      fun q => .inl ⟨a, vs, ea, .inl sa, flat_of h3 qd, flats_of R h4 ra, by rw [if_pos rfl, e, h2]; exact q⟩⟩
  · rename_i ks ds
    cases hk : keyOf d with
    | none => rw [hk] at hr; cases hr
    | some k =>
      rw [hk] at hr
      have hr : some (lookK ks ds k).isSome = some c := hr
      injection hr with hr
      obtain ⟨a, o, ea, g, g1, g2⟩ := dget_of hk qd qe
      have e := look_isSome g1 g2
      exact ⟨fun q => .inr (.inr (.inl ⟨a, o, ea, g, by rw [e, hr]; exact q⟩)), fun q => .inr (.inr (.inl ⟨a, o, ea, g, by rw [e, hr]; exact q⟩))⟩
  · rename_i z
    split at hr
    · rename_i s
      split at hr
      · rename_i k hl
        obtain ⟨h1, h2⟩ := ite_some hr
        have h1 := of_decide_eq_true h1
        have ex : x = .str s := qd.1
        rw [h1] at ex
        exact ⟨fun q => .inr (.inr (.inr ⟨k, z, ex, qe.1, by rw [h2]; exact q⟩)), fun q => .inr (.inr (.inr ⟨k, z, ex, qe.1, by rw [h2]; exact q⟩))⟩
      · cases hr
    · cases hr
  · cases hr
theorem isNon {d : Dt} {x : V} (q : DH S.K S.ca W H d x) : decide (x = V.non) = isNonD d := by
  cases d with
  | non => rw [show x = V.non from q]; rfl
  | bl _ => rw [show x = V.bl _ from q]; rfl
  | int _ => rw [show x = V.int _ from q]; rfl
  | str _ => rw [show x = V.str _ from q.1]; rfl
  | tup _ => obtain ⟨a, vs, e, _⟩ := q; rw [e]; rfl
  | lst _ => obtain ⟨a, vs, e, _⟩ := q; rw [e]; rfl
  | frl _ => obtain ⟨a, vs, e, _⟩ := q; rw [e]; rfl
  | dic _ _ => obtain ⟨a, vs, e, _⟩ := q; rw [e]; rfl
  | ins _ _ _ => obtain ⟨a, dx, vs, e, _⟩ := q; rw [e]; rfl
  | ref _ => obtain ⟨a, e⟩ := q; rw [e]; rfl
theorem cmp_ok {op : CmpOp} {d e : Dt} {c : Bool} {x y : V} (R : S.HR W h H) (qd : DH S.K S.ca W H d x) (qe : DH S.K S.ca W H e y) (hr : cmpD op d e = some c) (k : Q (.bl c) H) : rCmp S.K op x y H Q := by
  unfold cmpD at hr
  split at hr
  · obtain ⟨h1, h2, rfl⟩ := eqD_some hr
    exact ⟨_, _, dp_of R 64 _ _ h1 qd, dp_of R 64 _ _ h2 qe, plain_shaped h1, plain_shaped h2, k⟩
  · cases hq : eqD d e with
    | none => rw [hq] at hr; cases hr
    | some c' =>
      rw [hq] at hr
      have hr : some (!c') = some c := hr
      cases hr
      obtain ⟨h1, h2, rfl⟩ := eqD_some hq
      exact ⟨_, _, dp_of R 64 _ _ h1 qd, dp_of R 64 _ _ h2 qe, plain_shaped h1, plain_shaped h2, k⟩
  · cases hr; exact .inl ⟨_, _, qd, qe, k⟩
  · cases hr; exact ⟨_, _, qd, qe, k⟩
  · cases hr; exact ⟨_, _, qd, qe, k⟩
  · cases hr; exact .inl ⟨_, _, qd, qe, k⟩
  · cases hr; exact .inr ⟨_, _, qd.1, qe.1, k⟩
  · cases hr; exact .inr ⟨_, _, qd.1, qe.1, k⟩
  · injection hr with hr
    refine ⟨qe, ?_⟩
    rw [isNon qd]
    subst hr
    exact k
  · injection hr with hr
    refine ⟨qe, ?_⟩
    rw [isNon qd]
    subst hr
    exact k
  · exact (in_ok R qd qe hr).1 k
  · cases hq : inD d e with
    | none => rw [hq] at hr; cases hr
    | some c' =>
      rw [hq] at hr
      have hr : some (!c') = some c := hr
      cases hr
      exact (in_ok R qd qe hq).2 k
  · cases hr
end
end Vm

/-! Vm, part 6: subscripts, slices, builtins, by values. Own text. -/
namespace Vm
open PySem L2

section
variable {X : Cx}
theorem ixImp {r r' : R2} (h : IxR X r) (k : ∀ x y H Q, r' x y H Q → r x y H Q) : IxR X r' :=
  fun a b pins s σ H x y v u Q I rx ry q e => h a b pins s σ H x y v u Q I rx ry (k x y H Q q) e
def rIxDc : R2 := fun x y H Q => ∃ a v, x = .ref a ∧ DGet H a y (some v) ∧ Q v H
theorem ix_dic (hu : X.A.units + 1 < cLine) : IxR X rIxDc := by
  intro value slice pins s σ H x y v u Q I rx ry ⟨a, w, e, g, q⟩ hs
  subst e
  obtain rfl : v = Value.ref a := rx
  exact PyProof.Rows.tail_any (dict_typeIs I g) PySem.F.slot_dict_getitem.lookup (d_getItem hu I g ry fun w' s3 I3 rw' => ⟨w, H, I3, rw', q⟩) hs
def rIxA (K : PySem.W.Frag) : R2 := fun x y H Q => rIx K x y H Q ∨ rIxDc x y H Q
theorem ix_all (hu : X.A.units + 1 < cLine) : IxR X (rIxA X.K) := ix_seq.or (ix_dic hu)
def rSl (K : PySem.W.Frag) : V → Option Int → Option Int → Hp → VK → Prop := fun x lo hi H Q => rSlL K x lo hi H Q ∨ rSlA K x lo hi H Q ∨ rSlS x lo hi H Q
theorem sl_all : SlR X (rSl X.K) := sl_list.or (sl_tupA.or sl_str)
end
section
variable {S : Sc} {W : Wd} {h : Hq} {H : Hp} {E : XK} {Q : VK}
theorem atI_DV {ds : List Dt} {vs : List V} {i : Int} {d : Dt} (q : S.DVs W ds vs) (e : atI ds i = some d) : ∃ v, atI vs i = some v ∧ S.DV W d v := by
  unfold atI at e ⊢
  rw [q.len] at e
  cases hj : ixN vs.length i with
  | none => rw [hj] at e; cases e
  | some j =>
    rw [hj] at e
    exact q.get e
theorem str1_len (c : Nat) : (⟨#[c]⟩ : Str).length ≤ sizeLine := by rw [sizeLine_eq]; show 1 ≤ _; decide
theorem ix_ok {d e r : Dt} {x y : V} (R : S.HR W h H) (qd : DH S.K S.ca W H d x) (qe : DH S.K S.ca W H e y) (hr : ixD d e = some r) (k : RD S S.DV W (.ok r h) Q E) : rIxA S.K x y H Q := by
  unfold ixD at hr
  split at hr
  · obtain ⟨a, vs, ea, sa, za, ra⟩ := qd
    obtain ⟨v, e1, q⟩ := atI_DV ra hr
    exact .inl (.inr (.inl ⟨a, vs, _, v, ea, qe, R.seqT sa, e1, k _ _ _ (.refl W) R q⟩))
  · obtain ⟨a, vs, ea, sa, za, ra⟩ := qd
    obtain ⟨v, e1, q⟩ := atI_DV ra hr
    exact .inl (.inl ⟨a, vs, _, v, ea, qe, SqL.of sa, e1, k _ _ _ (.refl W) R q⟩)
  · obtain ⟨a, vs, ea, sa, za, ra⟩ := qd
    obtain ⟨v, e1, q⟩ := atI_DV ra hr
    exact .inl (.inl ⟨a, vs, _, v, ea, qe, sa, e1, k _ _ _ (.refl W) R q⟩)
  · rename_i z i
    cases hc : atI z.cps.toList i with
    | none => rw [hc] at hr; cases hr
    | some c =>
      rw [hc] at hr
      have hr : some (Dt.str ⟨#[c]⟩) = some r := hr
      cases hr
      exact .inl (.inr (.inr ⟨z, i, c, qd.1, qe, qd.2, hc, k _ _ _ (.refl W) R ⟨rfl, str1_len c⟩⟩))
  · rename_i ks ds
    cases hk : keyOf e with
    | none => rw [hk] at hr; cases hr
    | some kk =>
      rw [hk] at hr
      have hr : lookK ks ds kk = some r := hr
      obtain ⟨a, o, ea, g, g1, _⟩ := dget_of hk qe qd
      obtain ⟨v, eo, q⟩ := g1 r hr
      subst eo
      exact .inr ⟨a, v, ea, g, k _ _ _ (.refl W) R q⟩
  · cases hr
theorem cut_DV {ds : List Dt} {vs : List V} {lo hi : Option Int} (q : S.DVs W ds vs) : S.DVs W (cutD ds lo hi) (cutV vs lo hi) := by
  unfold cutD cutV
  rw [q.len]
  exact (q.drop _).take _
theorem cut_whole {ds : List Dt} {lo hi : Option Int} (e : HT.sIx ds.length 0 lo = 0 ∧ HT.sIx ds.length ds.length hi = ds.length) : cutD ds lo hi = ds := by
  unfold cutD
  rw [e.1, e.2, List.drop_zero, Nat.sub_zero, List.take_length]
theorem sl_ok {d r : Dt} {lo hi : Option Int} {x : V} (R : S.HR W h H) (qd : DH S.K S.ca W H d x) (hr : slD d lo hi = some r) (k : RD S S.DV W (.ok r h) Q E) : rSl S.K x lo hi H Q := by
  unfold slD at hr
  split at hr
  · rename_i ds
    cases hr
    obtain ⟨a, vs, ea, sa, za, ra⟩ := qd
    refine .inr (.inl ⟨a, vs, ea, R.seqT sa, fun e => ?_, fun e p hp => ?_⟩)
    · rw [← ra.len] at e
      rw [cut_whole e] at k
      exact k _ _ _ (.refl W) R ⟨a, vs, rfl, sa, za, ra⟩
    · exact new_tup R (cut_DV ra) (Nat.le_trans (cutV_length _ _ _) za) k hp
  · cases hr
    obtain ⟨a, vs, ea, sa, za, ra⟩ := qd
    exact .inl ⟨a, vs, ea, SqL.of sa, fun p hp => new_lst R (cut_DV ra) (Nat.le_trans (cutV_length _ _ _) za) k hp⟩
  · cases hr
    obtain ⟨a, vs, ea, sa, za, ra⟩ := qd
    exact .inl ⟨a, vs, ea, sa, fun p hp => new_lst R (cut_DV ra) (Nat.le_trans (cutV_length _ _ _) za) k hp⟩
  · rename_i z
    cases hr
    exact .inr (.inr ⟨z, qd.1, qd.2, k _ _ _ (.refl W) R ⟨rfl, Nat.le_trans (cutS_length _ _ _) qd.2⟩⟩)
  · cases hr
end

/-! ### builtin functions -/
def bfV : Bf → Value
  | .len => .builtin "len"
  | .int => .type "int"
  | .str => .type "str"
  | .tuple => .type "tuple"
  | .all => .builtin "all"
  | .any => .builtin "any"
  | .sum => .builtin "sum"
  | .min => .builtin "min"
  | .max => .builtin "max"
  | .sorted => .builtin "sorted"
def bfName : Bf → Str
  | .len => "len"
  | .int => "int"
  | .str => "str"
  | .tuple => "tuple"
  | .all => "all"
  | .any => "any"
  | .sum => "sum"
  | .min => "min"
  | .max => "max"
  | .sorted => "sorted"
theorem bf_boot (f : Bf) : bootBuiltins (bfName f) = some (bfV f) := by cases f <;> decide +kernel
abbrev RC := List V → Hp → VK → Prop
def rSortD (K : PySem.W.Frag) (ca : Nat → Addr) : RC := fun xs H Q => ∃ (W : Wd) (a : Addr) (ds : List Dt) (vs : List V) (b : Nat) (ρ : Nat → Nat) (h : Hq), xs = [.ref a] ∧ Vm.HR K ca b ρ W h H ∧ SqL K H a vs ∧ vs.length ≤ sizeLine ∧ Vm.DVs K ca W ds vs ∧ sortOk ds = true ∧
  ∀ p us, H p = none → Vm.DVs K ca W (ds.mergeSort leD) us → us.length = vs.length → Q (.ref p) (upd H p (.lst us))
def rBf (K : PySem.W.Frag) (ca : Nat → Addr) : Bf → RC
  | .len => fun xs H Q => (∃ p ys, xs = [.ref p] ∧ (SqL K H p ys ∨ SqT K H p ys) ∧ Q (.int ys.length) H) ∨ ∃ z, xs = [.str z] ∧ z.length ≤ sizeLine ∧ Q (.int z.length) H
  | .int => fun xs H Q => (∃ i, xs = [.int i] ∧ Q (.int i) H) ∨ ∃ k, xs = [.bl k] ∧ Q (.int (if k then 1 else 0)) H
  | .str => fun xs H Q => ∃ i, xs = [.int i] ∧ i.natAbs.log2 < 1920 ∧ Q (.str (toString i)) H
  | .tuple => fun xs H Q => ∃ p ys, xs = [.ref p] ∧ ((SqL K H p ys ∧ ∀ l, H l = none → Q (.ref l) (upd H l (.tup ys))) ∨ (SqT K H p ys ∧ Q (.ref p) H))
  | .all => rAll K
  | .any => rAny K
  | .sum => rSum K
  | .min => fun xs H Q => (∃ i j, xs = [.int i, .int j] ∧ Q (.int (if j < i then j else i)) H) ∨ rMin K xs H Q
  | .max => fun xs H Q => (∃ i j, xs = [.int i, .int j] ∧ Q (.int (if j > i then j else i)) H) ∨ rMax K xs H Q
  | .sorted => fun xs H Q => rSortD K ca xs H Q ∨ (∃ (a : Addr) (kvs : List (Key × V)) (ks : List Int), xs = [.ref a] ∧ Rd H a (.dK kvs) ∧ kvs.map (·.1) = ks.map Sum.inl ∧ ks.length < 64 ∧
    ∀ (ys : List Int) (p : Addr), ys.Perm ks → ys.Pairwise (· ≤ ·) → H p = none → Q (.ref p) (upd H p (.lst (ys.map V.int))))
theorem each_reads {K : PySem.W.Frag} {ca : Nat → Addr} {W : Wd} {b : Nat} {ρ : Nat → Nat} {h : Hq} {X : Cx} {pins : List (Addr × Obj)} {σ : St} {H : Hp} {s : Shared} (hK : X.K = K) (I : Inv X pins σ H s) (R : Vm.HR K ca b ρ W h H) :
    ∀ {ds : List Dt} {vs : List V} {us : List Value}, Vm.DVs K ca W ds vs → Vals vs us → ds.all plain = true →
      PySem.W.EachIs (fun v d => ∃ x, RelV x v ∧ Vm.DV K ca W d x) us ds ∧ PySem.W.EachIs (fun v d => ∃ as, Reads s.heap v (py d) as) us ds
  | [], _, _, q, r, _ => by
    rw [show _ = ([] : List V) from q] at r
    cases r
    exact ⟨.nil, .nil⟩
  | d :: ds, _, _, ⟨v, vr, e, q1, q2⟩, r, hp => by
    rw [e] at r
    rw [List.all_cons, Bool.and_eq_true] at hp
    cases r with
    | cons r1 r2 =>
      obtain ⟨ih1, ih2⟩ := each_reads hK I R q2 r2 hp.2
      have dp := dp_of R 64 d v hp.1 (DV.dh R q1)
      rw [← hK] at dp
      exact ⟨.cons ⟨v, r1, q1⟩ ih1, .cons (Dp.reads I _ _ _ dp r1) ih2⟩
theorem vals_back {K : PySem.W.Frag} {ca : Nat → Addr} {W : Wd} : ∀ {out : List Value} {ds : List Dt}, PySem.W.EachIs (fun v d => ∃ x, RelV x v ∧ Vm.DV K ca W d x) out ds → ∃ us, Vals us out ∧ Vm.DVs K ca W ds us
  | _, _, .nil => ⟨[], .nil, rfl⟩
  | _, _, .cons ⟨x, r, q⟩ t => by
    obtain ⟨us, h1, h2⟩ := vals_back t
    exact ⟨x :: us, .cons r h1, x, us, rfl, q, h2⟩
theorem sort_facts {ds : List Dt} (h : sortOk ds = true) : ds.all plain = true ∧ PySem.W.AllAlike (ds.map py) ∧ PySem.W.Sortable (ds.map py) := by
  unfold sortOk at h
  obtain ⟨h1, h3⟩ := and2 h
  obtain ⟨h1, h2⟩ := and2 h1
  refine ⟨h1, fun d hd d' hd' => ?_, ?_⟩
  · obtain ⟨x, hx, rfl⟩ := List.mem_map.mp hd
    obtain ⟨y, hy, rfl⟩ := List.mem_map.mp hd'
    exact List.all_eq_true.mp (List.all_eq_true.mp h2 x hx) y hy
  · rcases Bool.or_eq_true_iff.mp h3 with h3 | h3
    · refine .inl fun d hd => ?_
      obtain ⟨x, hx, rfl⟩ := List.mem_map.mp hd
      have hx1 := List.all_eq_true.mp h3 x hx
      unfold tup1 at hx1
      split at hx1
      · rw [py, pys]; exact ⟨_, _, rfl⟩
      · cases hx1
    · refine .inr fun d hd => ?_
      obtain ⟨x, hx, rfl⟩ := List.mem_map.mp hd
      have hx1 := List.all_eq_true.mp h3 x hx
      have hp := List.all_eq_true.mp h1 x hx
      cases x with
      | tup _ => simp [notTup] at hx1
      | non => simp [notTup] at hx1
      | bl _ => rw [py]; exact ⟨nofun, fun _ => nofun⟩
      | int _ => rw [py]; exact ⟨nofun, fun _ => nofun⟩
      | str _ => rw [py]; exact ⟨nofun, fun _ => nofun⟩
      | lst _ => rw [py]; exact ⟨nofun, fun _ => nofun⟩
      | frl _ => rw [py]; exact ⟨nofun, fun _ => nofun⟩
      | dic _ _ => simp [plain, plainN] at hp
      | ins _ _ _ => simp [plain, plainN] at hp
      | ref _ => simp [plain, plainN] at hp
theorem cr_sortD {X : Cx} {ca : Nat → Addr} (hu : X.A.units + 100 < cLine) : CallR X (.builtin "sorted") (rSortD X.K ca) := by
  intro pins s σ H xs us Q I r ⟨W, a, ds, vs, b, ρ, h, e, R, sq, z, dv, ok, k⟩
  subst e
  obtain rfl := Vals.ref1 r
  obtain ⟨its, rv, pl, _⟩ := I.list sq
  obtain ⟨hp, hal, hso⟩ := sort_facts ok
  obtain ⟨e1, e2⟩ := each_reads rfl I R dv rv hp
  have hlen : ds.length = vs.length := dv.len
  refine PySem.W.sorted_data (s := s) (enc := py) (R := fun v d => ∃ x, RelV x v ∧ Vm.DV X.K ca W d x) pl.isList e1 e2 hal hso (by rw [hlen]; exact z) (fun d hd => ?_) fun out hol heo => ?_
  · have := plain_dep 64 d (List.all_eq_true.mp hp d hd)
    omega
  · obtain ⟨m, F⟩ := I.fr
    obtain ⟨c, _, N, _, kp⟩ := PySem.W.sorted_news (s := s) (news := []) F (fun p hp => by cases hp) its out
    obtain ⟨us, rv2, dv2⟩ := vals_back heo
    have hD : (PyProof.Rows.sortedAll s.heap its out.toArray).get? (s.heap.objs.size + 1) = some (PySem.W.listOf out.toArray c) := (N _ (List.mem_cons_self)).1
    have hlu : us.length = vs.length := by rw [← dv2.len, List.length_mergeSort, hlen]
    have hn : H (s.heap.objs.size + 1) = none := I.hok.fresh (Nat.le_succ _)
    refine ⟨.ref (s.heap.objs.size + 1), _, I.laid (t' := s.toks) (o := .lst us) kp (Nat.le_succ _) ⟨by rw [hlu]; exact z, out, c, rv2, ?_⟩, rfl, k _ us hn dv2 hlu⟩
    rw [hD]
theorem cr_bf {X : Cx} {ca : Nat → Addr} (hc : X.calm = true) (hu : X.A.units + 100 < cLine) (f : Bf) : CallR X (bfV f) (rBf X.K ca f) := by
  cases f with
  | len => exact CallR.or call_len_seq call_len_str
  | int => exact call_int1
  | str => exact call_str_int
  | tuple => exact call_tuple_of
  | all => exact cr_all hc
  | any => exact cr_any hc
  | sum => exact cr_sum hc
  | min => exact CallR.or (call_min2 hc) (cr_min hc)
  | max => exact CallR.or (call_max2 hc) (cr_max hc)
  | sorted => exact CallR.or (cr_sortD hu) (call_sortedDI hc)

theorem str_int_len {i : Int} (c : i.natAbs.log2 < 1920) : (toString i : Str).length ≤ sizeLine := int_text_fits c
section
variable {S : Sc} {W : Wd} {h : Hq} {H : Hp} {E : XK} {Q : VK}
theorem listView_ok (R : S.HR W h H) {d : Dt} {v : V} {ds : List Dt} (q : DH S.K S.ca W H d v) (e : listView d = some ds) : ∃ a vs, v = .ref a ∧ SqL S.K H a vs ∧ vs.length ≤ sizeLine ∧ S.DVs W ds vs := by
  cases d with
  | lst _ => cases e; obtain ⟨a, vs, ea, sa, za, ra⟩ := q; exact ⟨a, vs, ea, SqL.of sa, za, ra⟩
  | frl _ => cases e; obtain ⟨a, vs, ea, sa, za, ra⟩ := q; exact ⟨a, vs, ea, sa, za, ra⟩
  | _ => cases e
theorem sqOf_ok (R : S.HR W h H) {d : Dt} {v : V} {ds : List Dt} (q : DH S.K S.ca W H d v) (e : sqOf d = some ds) : ∃ a vs, v = .ref a ∧ (SqL S.K H a vs ∨ SqT S.K W.F a vs) ∧ vs.length ≤ sizeLine ∧ S.DVs W ds vs := by
  cases d with
  | tup _ => cases e; obtain ⟨a, vs, ea, sa, za, ra⟩ := q; exact ⟨a, vs, ea, .inr sa, za, ra⟩
  | lst _ => cases e; obtain ⟨a, vs, ea, sa, za, ra⟩ := q; exact ⟨a, vs, ea, .inl (SqL.of sa), za, ra⟩
  | frl _ => cases e; obtain ⟨a, vs, ea, sa, za, ra⟩ := q; exact ⟨a, vs, ea, .inl sa, za, ra⟩
  | _ => cases e
theorem bools_ok : ∀ {ds : List Dt} {vs : List V} {bs : List Bool}, S.DVs W ds vs → boolsOf ds = some bs → vs = bs.map V.bl
  | [], _, _, q, e => by cases e; exact q
  | .bl c :: ds, _, _, ⟨v, r, e1, q1, q2⟩, e => by
    cases hb : boolsOf ds with
    | none => rw [boolsOf, hb] at e; cases e
    | some bs =>
      rw [boolsOf, hb] at e; cases e
      rw [e1, List.map_cons, ← bools_ok q2 hb, show v = V.bl c from q1]
  | .non :: _, _, _, _, e => by cases e
  | .int _ :: _, _, _, _, e => by cases e
  | .str _ :: _, _, _, _, e => by cases e
  | .tup _ :: _, _, _, _, e => by cases e
  | .lst _ :: _, _, _, _, e => by cases e
  | .frl _ :: _, _, _, _, e => by cases e
  | .dic _ _ :: _, _, _, _, e => by cases e
  | .ins _ _ _ :: _, _, _, _, e => by cases e
  | .ref _ :: _, _, _, _, e => by cases e
theorem ints_ok : ∀ {ds : List Dt} {vs : List V} {bs : List Int}, S.DVs W ds vs → intsOf ds = some bs → vs = bs.map V.int
  | [], _, _, q, e => by cases e; exact q
  | .int c :: ds, _, _, ⟨v, r, e1, q1, q2⟩, e => by
    cases hb : intsOf ds with
    | none => rw [intsOf, hb] at e; cases e
    | some bs =>
      rw [intsOf, hb] at e; cases e
      rw [e1, List.map_cons, ← ints_ok q2 hb, show v = V.int c from q1]
  | .non :: _, _, _, _, e => by cases e
  | .bl _ :: _, _, _, _, e => by cases e
  | .str _ :: _, _, _, _, e => by cases e
  | .tup _ :: _, _, _, _, e => by cases e
  | .lst _ :: _, _, _, _, e => by cases e
  | .frl _ :: _, _, _, _, e => by cases e
  | .dic _ _ :: _, _, _, _, e => by cases e
  | .ins _ _ _ :: _, _, _, _, e => by cases e
  | .ref _ :: _, _, _, _, e => by cases e
theorem maxL_ok : ∀ (ns : List Int) (n : Int), maxL n ns ∈ n :: ns ∧ ∀ y ∈ n :: ns, y ≤ maxL n ns
  | [], n => ⟨by simp [maxL], fun y hy => by simp at hy; rw [hy]; exact Int.le_refl _⟩
  | x :: xs, n => by
    obtain ⟨h1, h2⟩ := maxL_ok xs (if x > n then x else n)
    rw [maxL]
    refine ⟨?_, fun y hy => ?_⟩
    · rcases List.mem_cons.mp h1 with e | e
      · rw [e]; split <;> simp
      · exact List.mem_cons_of_mem _ (List.mem_cons_of_mem _ e)
    · have hm := h2 _ List.mem_cons_self
      rcases List.mem_cons.mp hy with e | e
      · rw [e]; refine Int.le_trans ?_ hm; split <;> omega
      · rcases List.mem_cons.mp e with e | e
        · rw [e]; refine Int.le_trans ?_ hm; split <;> omega
        · exact h2 y (List.mem_cons_of_mem _ e)
theorem minL_ok : ∀ (ns : List Int) (n : Int), minL n ns ∈ n :: ns ∧ ∀ y ∈ n :: ns, minL n ns ≤ y
  | [], n => ⟨by simp [minL], fun y hy => by simp at hy; rw [hy]; exact Int.le_refl _⟩
  | x :: xs, n => by
    obtain ⟨h1, h2⟩ := minL_ok xs (if x < n then x else n)
    rw [minL]
    refine ⟨?_, fun y hy => ?_⟩
    · rcases List.mem_cons.mp h1 with e | e
      · rw [e]; split <;> simp
      · exact List.mem_cons_of_mem _ (List.mem_cons_of_mem _ e)
    · have hm := h2 _ List.mem_cons_self
      rcases List.mem_cons.mp hy with e | e
      · rw [e]; refine Int.le_trans hm ?_; split <;> omega
      · rcases List.mem_cons.mp e with e | e
        · rw [e]; refine Int.le_trans hm ?_; split <;> omega
        · exact h2 y (List.mem_cons_of_mem _ e)
theorem args1 {d : Dt} {vs : List V} (q : DHs S.K S.ca W H [d] vs) : ∃ v, vs = [v] ∧ DH S.K S.ca W H d v := by
  obtain ⟨v, r, e, q1, q2⟩ := q
  rw [show r = [] from q2] at e
  exact ⟨v, e, q1⟩
theorem args2 {d d2 : Dt} {vs : List V} (q : DHs S.K S.ca W H [d, d2] vs) : ∃ v u, vs = [v, u] ∧ DH S.K S.ca W H d v ∧ DH S.K S.ca W H d2 u := by
  obtain ⟨v, r, e, q1, q2⟩ := q
  obtain ⟨u, e2, q3⟩ := args1 q2
  rw [e2] at e
  exact ⟨v, u, e, q1, q3⟩
theorem keyInts_ok : ∀ {ks : List Key} {ns : List Int}, keyInts ks = some ns → ks = ns.map Sum.inl
  | [], _, e => by cases e; rfl
  | .inl i :: ks, _, e => by
    cases hb : keyInts ks with
    | none => rw [keyInts, hb] at e; cases e
    | some bs =>
      rw [keyInts, hb] at e; cases e
      rw [List.map_cons, ← keyInts_ok hb]
  | .inr _ :: _, _, e => by cases e
theorem insI_perm (x : Int) : ∀ l, (insI x l).Perm (x :: l)
  | [] => .refl _
  | y :: l => by
    unfold insI
    split
    · exact .refl _
    · exact ((insI_perm x l).cons y).trans (.swap x y l)
theorem sortI_perm : ∀ l, (sortI l).Perm l
  | [] => .refl _
  | x :: l => (insI_perm x _).trans ((sortI_perm l).cons x)
theorem insI_sorted (x : Int) : ∀ {l : List Int}, l.Pairwise (· ≤ ·) → (insI x l).Pairwise (· ≤ ·)
  | [], _ => List.pairwise_singleton _ _
  | y :: l, h => by
    unfold insI
    split
    · rename_i hxy
      refine .cons (fun z hz => ?_) h
      rcases List.mem_cons.mp hz with e | e
      · rw [e]; exact hxy
      · exact Int.le_trans hxy ((List.pairwise_cons.mp h).1 z e)
    · rename_i hxy
      refine .cons (fun z hz => ?_) (insI_sorted x (List.pairwise_cons.mp h).2)
      rcases List.mem_cons.mp ((insI_perm x l).mem_iff.mp hz) with e | e
      · rw [e]; exact Int.le_of_lt (Int.not_le.mp hxy)
      · exact (List.pairwise_cons.mp h).1 z e
theorem sortI_sorted : ∀ l, (sortI l).Pairwise (· ≤ ·)
  | [] => .nil
  | x :: l => insI_sorted x (sortI_sorted l)
theorem ints_DVs : ∀ l : List Int, S.DVs W (l.map Dt.int) (l.map V.int)
  | [] => rfl
  | x :: l => ⟨_, _, rfl, rfl, ints_DVs l⟩
theorem bf_ok {f : Bf} {ds : List Dt} {r : Dt} {vs : List V} (R : S.HR W h H) (qs : DHs S.K S.ca W H ds vs) (hr : bfD f ds = some r) (k : RD S S.DV W (.ok r h) Q E) : rBf S.K S.ca f vs H Q := by
  have kk : ∀ v, S.DV W r v → Q v H := fun v q => k _ _ _ (.refl W) R q
  unfold bfD at hr
  split at hr
  · cases hr; obtain ⟨v, rfl, q⟩ := args1 qs; obtain ⟨q1, q2⟩ := q; subst q1; exact .inr ⟨_, rfl, q2, kk _ rfl⟩
  · cases hr; obtain ⟨v, rfl, q⟩ := args1 qs; obtain ⟨a, vs, rfl, sa, za, ra⟩ := q
    exact .inl ⟨a, vs, rfl, .inr (R.seqT sa), kk _ (by rw [ra.len]; rfl)⟩
  · cases hr; obtain ⟨v, rfl, q⟩ := args1 qs; obtain ⟨a, vs, rfl, sa, za, ra⟩ := q
    exact .inl ⟨a, vs, rfl, .inl (SqL.of sa), kk _ (by rw [ra.len]; rfl)⟩
  · cases hr; obtain ⟨v, rfl, q⟩ := args1 qs; obtain ⟨a, vs, rfl, sa, za, ra⟩ := q
    exact .inl ⟨a, vs, rfl, .inl sa, kk _ (by rw [ra.len]; rfl)⟩
  · cases hr; obtain ⟨v, rfl, q⟩ := args1 qs; rw [show v = V.int _ from q]; exact .inl ⟨_, rfl, kk _ rfl⟩
  · cases hr; obtain ⟨v, rfl, q⟩ := args1 qs; rw [show v = V.bl _ from q]; exact .inr ⟨_, rfl, kk _ rfl⟩
  · obtain ⟨c, rfl⟩ := ite_some hr
    obtain ⟨v, rfl, q⟩ := args1 qs; rw [show v = V.int _ from q]
    refine ⟨_, rfl, of_decide_eq_true c, kk _ ⟨rfl, ?_⟩⟩
    exact str_int_len (of_decide_eq_true c)
  · rename_i d
    obtain ⟨v, rfl, q⟩ := args1 qs
    cases hs : sqOf d with
    | none => rw [hs] at hr; cases hr
    | some es =>
      rw [hs] at hr; cases hr
      obtain ⟨a, vs, rfl, sq, z, dv⟩ := sqOf_ok R q hs
      refine ⟨a, vs, rfl, ?_⟩
      rcases sq with sq | sq
      · exact .inl ⟨sq, fun l hl => new_tup R dv z k hl⟩
      · exact .inr ⟨R.seqT sq, kk _ ⟨a, vs, rfl, sq, z, dv⟩⟩
  · rename_i d
    obtain ⟨v, rfl, q⟩ := args1 qs
    cases hs : listView d with
    | none => rw [hs] at hr; cases hr
    | some es =>
      rw [hs] at hr
      cases hb : boolsOf es with
      | none => rw [Option.bind_some, hb] at hr; cases hr
      | some bs =>
        rw [Option.bind_some, hb] at hr; cases hr
        obtain ⟨a, vs, rfl, sq, z, dv⟩ := listView_ok R q hs
        exact ⟨a, bs, rfl, by rw [← bools_ok dv hb]; exact sq, kk _ rfl⟩
  · rename_i d
    obtain ⟨v, rfl, q⟩ := args1 qs
    cases hs : listView d with
    | none => rw [hs] at hr; cases hr
    | some es =>
      rw [hs] at hr
      cases hb : boolsOf es with
      | none => rw [Option.bind_some, hb] at hr; cases hr
      | some bs =>
        rw [Option.bind_some, hb] at hr; cases hr
        obtain ⟨a, vs, rfl, sq, z, dv⟩ := listView_ok R q hs
        exact ⟨a, bs, rfl, by rw [← bools_ok dv hb]; exact sq, kk _ rfl⟩
  · rename_i d
    obtain ⟨v, rfl, q⟩ := args1 qs
    cases hs : listView d with
    | none => rw [hs] at hr; cases hr
    | some es =>
      rw [hs] at hr
      cases hb : intsOf es with
      | none => rw [Option.bind_some, hb] at hr; cases hr
      | some bs =>
        rw [Option.bind_some, hb] at hr; cases hr
        obtain ⟨a, vs, rfl, sq, z, dv⟩ := listView_ok R q hs
        exact ⟨a, bs, rfl, by rw [← ints_ok dv hb]; exact sq, kk _ rfl⟩
  · cases hr; obtain ⟨v, u, rfl, q1, q2⟩ := args2 qs
    rw [show v = V.int _ from q1, show u = V.int _ from q2]
    exact .inl ⟨_, _, rfl, kk _ rfl⟩
  · cases hr; obtain ⟨v, u, rfl, q1, q2⟩ := args2 qs
    rw [show v = V.int _ from q1, show u = V.int _ from q2]
    exact .inl ⟨_, _, rfl, kk _ rfl⟩
  · rename_i d
    obtain ⟨v, rfl, q⟩ := args1 qs
    cases hs : listView d with
    | none => rw [hs] at hr; cases hr
    | some es =>
      rw [hs] at hr
      cases hb : intsOf es with
      | none => rw [Option.bind_some, hb] at hr; cases hr
      | some bs =>
        rw [Option.bind_some, hb] at hr
        cases bs with
        | nil => cases hr
        | cons n ns =>
          have hr : some (Dt.int (minL n ns)) = some r := hr
          cases hr
          obtain ⟨a, vs, rfl, sq, z, dv⟩ := listView_ok R q hs
          refine .inr ⟨a, n :: ns, rfl, by rw [← ints_ok dv hb]; exact sq, Nat.succ_pos _, fun m hm hl => kk _ ?_⟩
          obtain ⟨h1, h2⟩ := minL_ok ns n
          rw [show m = minL n ns from Int.le_antisymm (hl _ h1) (h2 _ hm)]
          rfl
  · rename_i d
    obtain ⟨v, rfl, q⟩ := args1 qs
    cases hs : listView d with
    | none => rw [hs] at hr; cases hr
    | some es =>
      rw [hs] at hr
      cases hb : intsOf es with
      | none => rw [Option.bind_some, hb] at hr; cases hr
      | some bs =>
        rw [Option.bind_some, hb] at hr
        cases bs with
        | nil => cases hr
        | cons n ns =>
          have hr : some (Dt.int (maxL n ns)) = some r := hr
          cases hr
          obtain ⟨a, vs, rfl, sq, z, dv⟩ := listView_ok R q hs
          refine .inr ⟨a, n :: ns, rfl, by rw [← ints_ok dv hb]; exact sq, Nat.succ_pos _, fun m hm hl => kk _ ?_⟩
          obtain ⟨h1, h2⟩ := maxL_ok ns n
          rw [show m = maxL n ns from Int.le_antisymm (h2 _ hm) (hl _ h1)]
          rfl
  · rename_i d
    obtain ⟨v, rfl, q⟩ := args1 qs
    cases hd : dicInts d with
    | some ns =>
      rw [hd] at hr
      obtain ⟨c, rfl⟩ := ite_some (show (if decide (ns.length < 64) = true then some (Dt.lst ((sortI ns).map .int)) else none) = some r from hr)
      have c := of_decide_eq_true c
      cases d with
      | dic ks ds =>
        obtain ⟨a, kvs, rfl, rd, hk, z, dv⟩ := q
        refine .inr ⟨a, kvs, ns, rfl, rd, by rw [hk]; exact keyInts_ok hd, c, fun ys p h1 h2 hp => ?_⟩
        have e : ys = sortI ns := (h1.trans (sortI_perm ns).symm).eq_of_pairwise (fun _ _ _ _ z1 z2 => Int.le_antisymm z1 z2) h2 (sortI_sorted ns)
        subst e
        exact new_lst R (ints_DVs _) (by rw [List.length_map, (sortI_perm ns).length_eq, sizeLine_eq]; omega) k hp
      | _ => cases hd
    | none =>
      rw [hd] at hr
      cases hs : listView d with
      | none => rw [hs] at hr; cases hr
      | some es =>
        rw [hs] at hr
        obtain ⟨c, rfl⟩ := ite_some (show (if sortOk es = true then some (Dt.lst (es.mergeSort leD)) else none) = some r from hr)
        obtain ⟨a, vs, rfl, sq, z, dv⟩ := listView_ok R q hs
        exact .inl ⟨W, a, es, vs, S.b, S.ρ, h, rfl, R, sq, z, dv, c, fun p us hp d2 hl => new_lst R d2 (by rw [hl]; exact z) k hp⟩
  · cases hr
end
end Vm

/-! Vm, part 7: expressions: what is asked of the text, a lemma a construct. Own text. -/
namespace Vm
open PySem L2

/-! ### what the text must be -/
def notStar : Expr → Bool
  | .Starred _ _ => false
  | _ => true
def notSlice : Expr → Bool
  | .Slice _ _ _ _ => false
  | _ => true
def notSet : Expr → Bool
  | .Set _ _ _ => false
  | _ => true
def noSup : Expr → Bool
  | .Call (.Name _ _) [] [] _ => false
  | _ => true
def tstPlain : Expr → Bool
  | .UnaryOp .Not _ _ => false
  | .BoolOp _ _ _ => false
  | .IfExp _ _ _ _ => false
  | .Compare _ _ _ _ => false
  | _ => true
def isBO : Expr → Bool
  | .BoolOp _ _ _ => true
  | _ => false
theorem star_cons {e : Expr} {es : List Expr} {env : Env} (h : notStar e = true) : starEach (e :: es) env = (false, eval e env) :: starEach es env := by
  cases e <;> first | rfl | cases h
theorem back_plain {pos : Pos} {env : Env} : ∀ {es : List Expr}, es.all notStar = true → (backTo pos (starEach es env)).any (·.1) = false
  | [], _ => rfl
  | e :: es, h => by
    rw [List.all_cons, Bool.and_eq_true] at h
    rw [star_cons h.1]
    show (false || (backTo pos (starEach es env)).any (·.1)) = false
    rw [back_plain h.2]; rfl
theorem back_all {pos : Pos} {env : Env} : ∀ {es : List Expr}, es.all notStar = true → (backTo pos (starEach es env)).all (fun x => !x.1) = true
  | [], _ => rfl
  | e :: es, h => by
    rw [List.all_cons, Bool.and_eq_true] at h
    rw [star_cons h.1]
    show (true && (backTo pos (starEach es env)).all (fun x => !x.1)) = true
    rw [back_all h.2]; rfl
theorem back_few {pos : Pos} {env : Env} {es : List Expr} (h : es.all notStar = true) (hn : es.length < 30) : ((backTo pos (starEach es env)).all (fun x => !x.1) && (backToKw pos (keywordEach [] env)).all (fun x => x.1.isSome)
      && decide (es.length + ([] : List Keyword).length + (if ([] : List Keyword).isEmpty then 0 else 1) < 30)) = true := by
  rw [back_all h]
  show (true && true && decide (es.length + 0 + 0 < 30)) = true
  rw [decide_eq_true (by omega)]; rfl
theorem slice_plain {e : Expr} (h : notSlice e = true) (o i : Value) : subscripted e false o i = operate [o, i] (getItem o i) := by
  cases e <;> first | rfl | cases h
theorem sup_plain {e : Expr} {n : Str} {env : Env} {w : Sem Value} (h : noSup e = true) : attributeBase e n env w = w := by
  unfold attributeBase
  split
  · rename_i heq
    cases h
  · rfl
theorem tst_dflt {e : Expr} {env : Env} (h : tstPlain e = true) (whole : Sem Value) : isTrue e env whole = (do let v ← whole; standAt e.pos; holding [v] (truthy v)) := by
  cases e with
  | UnaryOp op x pos => cases op <;> first | rfl | cases h
  | BoolOp _ _ _ => cases h
  | IfExp _ _ _ _ => cases h
  | Compare _ _ _ _ => cases h
  | _ => rfl
theorem behind_plain {op : CmpOp} {e : Expr} (h : notSet e = true) : behindInMarks op e = false := by
  cases e <;> first | rfl | cases h
theorem fold_plain {e : Expr} {env : Env} {x : Value} (h : notSet e = true) : foldedSetIterable e env x = pure x := by
  cases e <;> first | rfl | cases h

/-! ### facts of the text behind the top -/
def spD (S : Sc) (f np : Nat) : Sp := fun vs H Q E => ∃ (W : Wd) (h : Hq) (ds : List Dt) (b : Nat) (ρ : Nat → Nat), ({ S with b := b, ρ := ρ } : Sc).HR W h H ∧ S.DVs W ds vs ∧ ds.length = np ∧ RD { S with b := b, ρ := ρ } S.DV W (callK S.T S.k f b ds h) Q E
structure FnF (S : Sc) (P : Program) (w : World) (base : Heap) (f : Nat) (a : Addr) : Prop where
  ex : ∃ (d : Fd) (fd : FuncData) (ps : List Str), S.T.fn f = some d ∧ FnOk P w S.K S.mg base (L2.CX P w) (2 * S.k) a fd ps (spD S f d.np) ∧ Binds S.K fd ps [] ∧ PySem.W.keepIn S.K (.ref a) = true
structure Facts (S : Sc) (P : Program) (w : World) (base : Heap) : Prop where
  fn : ∀ f x, S.G.fn f = some x → ∃ a, S.mg x = some (.ref a) ∧ FnF S P w base f a
  free : ∀ x ∈ S.G.free, S.mg x = none
  gl : ∀ (i : Nat) (x : Str), S.G.gl[i]? = some x → ∃ d u v, S.T.gl[i]? = some d ∧ S.mg x = some u ∧ RelV v u ∧ ∀ W, S.DV W d v
  cls : ∀ c x, S.G.cls c = some x → S.mg x = some (.ref (S.ca c)) ∧ Cls S.K (S.ca c)
  init : ∀ c f, S.G.init c = some f → ∃ a, Mk S.K (S.ca c) a ∧ FnF S P w base f a
  meth : ∀ c m f, S.G.meth c m = some f → ∃ a, Meth S.K (S.ca c) m a ∧ FnF S P w base f a
  attr : ∀ c m, S.G.attr c m = true → NoAttr S.K (S.ca c) m
  xc : ∀ c x, S.G.xc c = some x → S.mg x = some (.ref (S.xa c))
  xr : ∀ c, S.G.xr c = true → PySem.W.excIn S.K (S.xa c) He.veBase "ValueError.__new__" = true ∧ PySem.W.keepIn S.K (.ref (S.xa c)) = true ∧ PySem.W.subIn S.K (.ref (S.xa c)) (.type "BaseException") = some true ∧ PySem.W.typeIn S.K (.ref (S.xa c)) = some (.type "type")
  xm : ∀ c c' b, S.T.sub c c' = some b → PySem.W.exmOne S.K (.ref (S.xa c)) (.ref (S.xa c')) = some b
  xk : ∀ c c' b, S.T.sub c c' = some b → ExcC S.K (S.xa c) ∧ PySem.W.kitOne S.K (.ref (S.xa c)) (.ref (S.xa c')) = some b
structure XOk (S : Sc) (sc : Scope) (N : List Str) (cm : Bool) (X : Cx) (wx : WX) : Prop where
  K : X.K = S.K
  mg : X.mg = S.mg
  nm : X.N = N
  sc : X.env.scope = sc
  nd : N.Nodup
  cm : cm = true → X.calm = true ∧ Room (2 * S.k + 1) X.A
  un : X.A.units + 100 < cLine
  tk : Takes X wx
  ft : Facts S X.prog X.w X.base

/-! ### a lemma a construct -/
section
variable {S : Sc} {wx : WX} {X : Cx} {pos : Pos} {a c e x y : Expr} {es : List Expr} {m m1 m2 m3 : E} {sc : Scope} {N : List Str} {cm : Bool}
def ndbg (x : Str) : Bool := !(x == ("__debug__" : Str)) && !(x == ("__classdict__" : Str))
theorem ndbg_ok {x : Str} (h : ndbg x = true) : (x == ("__debug__" : Str)) = false ∧ (x == ("__classdict__" : Str)) = false := by
  obtain ⟨h1, h2⟩ := and2 h
  exact ⟨by simpa using h1, by simpa using h2⟩
def visB (sc : Scope) (x : Str) : Bool := match sc.names.lookup x with
  | some .local => true
  | some .cell => true
  | some .free => true
  | _ => false
theorem visB_ok {sc : Scope} {x : Str} (h : visB sc x = true) : Vis sc x := by
  unfold visB at h
  split at h
  · rename_i e; exact .inl e
  · rename_i e; exact .inr (.inl e)
  · rename_i e; exact .inr (.inr e)
  · cases h
def glB (sc : Scope) (x : Str) : Bool := match sc.names.lookup x with
  | some .globalImplicit => true
  | _ => false
theorem glB_ok {sc : Scope} {x : Str} (ok : XOk S sc N cm X wx) (h : glB sc x = true) : Gl X x := by
  unfold glB at h
  split at h
  · rename_i e
    show X.env.scope.names.lookup x = _
    rw [ok.sc]; exact e
  · cases h
/-- a literal -/
def litB : Dt → Const → Bool
  | .non, .none => true
  | .bl a, .bool b => a == b
  | .int i, .int j => decide (i = j)
  | .str x, .str y => decide (x = y) && decide (x.length ≤ sizeLine)
  | _, _ => false
theorem se_lit {d : Dt} {k : Const} {j : Nat} (h : litB d k = true) : PE X (.Constant k j pos) (tE S wx (.lit d)) := by
  cases d with
  | non =>
    cases k with
    | none => exact peImp pe_non fun σ H Q ⟨W, hh, s, R, sr, rd⟩ => rd _ _ _ (.refl W) R rfl
    | _ => simp [litB] at h
  | bl b' =>
    cases k with
    | bool b =>
      have e : b' = b := beq_iff_eq.mp h
      subst e
      exact peImp pe_bl fun σ H Q ⟨W, hh, s, R, sr, rd⟩ => rd _ _ _ (.refl W) R rfl
    | _ => simp [litB] at h
  | int b' =>
    cases k with
    | int b =>
      have e : b' = b := of_decide_eq_true h
      subst e
      exact peImp pe_int fun σ H Q ⟨W, hh, s, R, sr, rd⟩ => rd _ _ _ (.refl W) R rfl
    | _ => simp [litB] at h
  | str b' =>
    cases k with
    | str b =>
      obtain ⟨h1, h2⟩ := and2 h
      have e : b' = b := of_decide_eq_true h1
      subst e
      exact peImp pe_str fun σ H Q ⟨W, hh, s, R, sr, rd⟩ => rd _ _ _ (.refl W) R ⟨rfl, of_decide_eq_true h2⟩
    | _ => simp [litB] at h
  | _ => simp [litB] at h
theorem se_gl {i : Nat} {n : Str} (ok : XOk S sc N cm X wx) (hg : glB sc n = true) (hn : S.G.gl[i]? = some n) (hd : ndbg n = true) : PE X (.Name n pos) (tE S wx (.gl i)) := by
  obtain ⟨d, u, v, h1, h2, h3, h4⟩ := ok.ft.gl i n hn
  refine peImp (pe_glob (glB_ok ok hg) (by rw [ok.mg]; exact h2) h3 (ndbg_ok hd).1) fun σ H Q ⟨W, hh, s, R, sr, rd⟩ => ?_
  have e : S.ev (.gl i) s hh = .ok d hh := by show Res.opt hh S.T.gl[i]? = _; rw [h1]; rfl
  rw [e] at rd
  exact rd _ _ _ (.refl W) R (h4 W)
theorem se_v {i : Nat} {n : Str} (ok : XOk S sc N cm X wx) (hn : N[i]? = some n) (hv : visB sc n = true) (hd : ndbg n = true) : PE X (.Name n pos) (tE S wx (.v i)) := by
  refine peImp (pe_var (i := i) (by rw [ok.nm]; exact hn) (by rw [ok.sc]; exact visB_ok hv) (ndbg_ok hd).1 (ndbg_ok hd).2) fun σ H Q ⟨W, hh, s, R, sr, rd⟩ => ?_
  cases hs : s[i]? with
  | none =>
    have e : S.ev (.v i) s hh = .no := by show (match s[i]? with | some (some d) => Res.ok d hh | _ => .no) = _; rw [hs]
    rw [e] at rd; exact False.elim rd
  | some o =>
    cases o with
    | none =>
      have e : S.ev (.v i) s hh = .no := by show (match s[i]? with | some (some d) => Res.ok d hh | _ => .no) = _; rw [hs]
      rw [e] at rd; exact False.elim rd
    | some d =>
      have e : S.ev (.v i) s hh = .ok d hh := by show (match s[i]? with | some (some d) => Res.ok d hh | _ => .no) = _; rw [hs]
      rw [e] at rd
      obtain ⟨v, e1, q⟩ := sr.2 i d hs
      exact ⟨v, e1, rd _ _ _ (.refl W) R q⟩
/-- two in a row -/
theorem two_RD {γ δ : Type} {rel : Wd → γ → δ → Prop} {f : Dt → Dt → Hq → Res γ} {Q : δ → Hp → Prop} {R2' : V → V → Hp → Prop} {σ : St} {H : Hp} {W : Wd} {h : Hq} {s : En} (R : S.HR W h H) (sr : S.SR W s σ)
    (rd : RD S rel W ((S.ev m1 s h).bind fun d h1 => (S.ev m2 s h1).bind fun e h2 => f d e h2) Q (fun C d H' => wx C d σ H'))
    (k : ∀ W2 h2 H2 d e x y, W.le W2 → S.HR W2 h2 H2 → S.DV W2 d x → S.DV W2 e y → RD S rel W2 (f d e h2) Q (fun C d H' => wx C d σ H') → R2' x y H2) :
    tE S wx m1 σ H fun x H1 => tE S wx m2 σ H1 fun y H2 => R2' x y H2 :=
  ⟨W, h, s, R, sr, rd.bind.imp fun x H1 ⟨d, h1, W1, _, w1, R1, q1, rd1⟩ => ⟨W1, h1, s, R1, sr.le w1, rd1.bind.imp fun y H2 ⟨e, h2, W2, _, w2, R2, q2, rd2⟩ => k W2 h2 H2 d e x y (w1.trans w2) R2 (q1.le w2) q2 rd2⟩⟩
theorem se_bin {op : Operator} (ok : XOk S sc N cm X wx) (ha : PE X x (tE S wx m1)) (hb : PE X y (tE S wx m2)) : PE X (.BinOp x op y pos) (tE S wx (.bin op m1 m2)) := by
  refine peImp (pe_op (op_bin op) ha hb) fun σ H Q ⟨W, hh, s, R, sr, rd⟩ => ?_
  refine two_RD R sr rd fun W2 h2 H2 d e x y w R2 q1 q2 rd2 => ?_
  obtain ⟨r, hr, k⟩ := rd2.opt
  rw [ok.K]
  exact bin_ok R2 (vw_ok R2 q1) (vw_ok R2 q2) hr k
theorem se_neg (ha : PE X x (tE S wx m)) : PE X (.UnaryOp .USub x pos) (tE S wx (.neg m)) := by
  refine peImp (pe_un un_neg ha) fun σ H Q ⟨W, hh, s, R, sr, rd⟩ => ⟨W, hh, s, R, sr, rd.bind.imp fun v H1 ⟨d, h1, W1, _, w1, R1, q1, rd1⟩ => ?_⟩
  cases d with
  | int i => exact ⟨i, q1, rd1 _ _ _ (.refl W1) R1 rfl⟩
  | _ => exact False.elim rd1
/-- the value of a test is a bool -/
theorem bl_RD {γ δ : Type} {rel : Wd → γ → δ → Prop} {f : Bool → Hq → Res γ} {Q : δ → Hp → Prop} {E : XK} {W : Wd} {h : Hq} {s : En}
    (rd : RD S rel W ((asB (S.ev m s h)).bind f) Q E) : RD S S.DV W (S.ev m s h) (fun v H1 => ∃ c h1 W1, v = .bl c ∧ W.le W1 ∧ S.HR W1 h1 H1 ∧ RD S rel W1 (f c h1) Q E) E :=
  (asB_RD (Q := fun c H1 => ∃ h1 W1, W.le W1 ∧ S.HR W1 h1 H1 ∧ RD S rel W1 (f c h1) Q E) (rd.bind.imp fun c H1 ⟨c', h1, W1, _, w1, R1, q1, rd1⟩ => by subst q1; exact ⟨h1, W1, w1, R1, rd1⟩)).imp fun v H1 q => by
    obtain ⟨c, e, h1, W1, w, R1, rd1⟩ := q
    exact ⟨c, h1, W1, e, w, R1, rd1⟩
theorem blT_RD {γ δ : Type} {rel : Wd → γ → δ → Prop} {f : Bool → Hq → Res γ} {Q : δ → Hp → Prop} {E : XK} {W : Wd} {h : Hq} {s : En}
    (rd : RD S rel W ((asB (S.ev m s h)).bind f) Q E) : RD S rB W (asB (S.ev m s h)) (fun c H1 => ∃ h1 W1, W.le W1 ∧ S.HR W1 h1 H1 ∧ RD S rel W1 (f c h1) Q E) E :=
  rd.bind.imp fun c H1 ⟨c', h1, W1, _, w1, R1, q1, rd1⟩ => by subst q1; exact ⟨h1, W1, w1, R1, rd1⟩
theorem se_nt (ha : PE X x (tE S wx m)) : PE X (.UnaryOp .Not x pos) (tE S wx (.nt m)) := by
  refine peImp (pe_not ha) fun σ H Q ⟨W, hh, s, R, sr, rd⟩ => ⟨W, hh, s, R, sr, (bl_RD rd).imp fun v H1 ⟨c, h1, W1, e, w, R1, rd1⟩ => ⟨c, e, rd1 _ _ _ (.refl W1) R1 rfl⟩⟩
theorem st_nt (ha : PT X x (tT S wx m)) : PT X (.UnaryOp .Not x pos) (tT S wx (.nt m)) := by
  refine ptImp (pt_not ha) fun σ H Q ⟨W, hh, s, R, sr, rd⟩ => ⟨W, hh, s, R, sr, ?_⟩
  have rd : RD S rB W (asB ((asB (S.ev m s hh)).bind fun c h1 => .ok (.bl (!c)) h1)) Q (fun C d H' => wx C d σ H') := rd
  cases hr : asB (S.ev m s hh) with
  | ok c h1 => rw [hr] at rd; exact fun W1 H1 v w R1 q => rd W1 H1 _ w R1 (by subst q; rfl)
  | exc x h1 => rw [hr] at rd; exact rd
  | no => rw [hr] at rd; exact rd
theorem se_one {op : BoolOp} (ha : PE X x (tE S wx m)) : PE X (.BoolOp op [x] pos) (tE S wx (.one m)) := peImp (pe_one ha) fun _ _ _ q => q
theorem sw_one {op : BoolOp} (ha : PT X x (tT S wx m)) : PW X (.BoolOp op [x] pos) (tT S wx (.one m)) := by
  cases op with
  | And => exact pwImp (pw_and1 ha) fun _ _ _ q => q
  | Or => exact pwImp (pw_or1 ha) fun _ _ _ q => q
theorem se_and (ha : PE X x (tE S wx m1)) (hb : PE X (.BoolOp .And (y :: es) pos) (tE S wx m2)) : PE X (.BoolOp .And (x :: y :: es) pos) (tE S wx (.and m1 m2)) := by
  refine peImp (pe_and ha hb) fun σ H Q ⟨W, hh, s, R, sr, rd⟩ => ⟨W, hh, s, R, sr, (bl_RD rd).imp fun v H1 ⟨c, h1, W1, e, w, R1, rd1⟩ => ⟨c, e, ?_⟩⟩
  cases c with
  | true => exact ⟨W1, h1, s, R1, sr.le w, rd1⟩
  | false => exact rd1 _ _ _ (.refl W1) R1 rfl
theorem se_or (ha : PE X x (tE S wx m1)) (hb : PE X (.BoolOp .Or (y :: es) pos) (tE S wx m2)) : PE X (.BoolOp .Or (x :: y :: es) pos) (tE S wx (.or m1 m2)) := by
  refine peImp (pe_or ha hb) fun σ H Q ⟨W, hh, s, R, sr, rd⟩ => ⟨W, hh, s, R, sr, (bl_RD rd).imp fun v H1 ⟨c, h1, W1, e, w, R1, rd1⟩ => ⟨c, e, ?_⟩⟩
  cases c with
  | true => exact rd1 _ _ _ (.refl W1) R1 rfl
  | false => exact ⟨W1, h1, s, R1, sr.le w, rd1⟩
/-- a test of a test -/
theorem asB_bind {r : Res Bool} {f : Bool → Hq → Res Dt} : asB (r.bind f) = r.bind fun c h => asB (f c h) := by
  cases r <;> rfl
theorem sw_and (ha : PT X x (tT S wx m1)) (hb : PW X (.BoolOp .And (y :: es) pos) (tT S wx m2)) : PW X (.BoolOp .And (x :: y :: es) pos) (tT S wx (.and m1 m2)) := by
  refine pwImp (pw_and ha hb) fun σ H Q ⟨W, hh, s, R, sr, rd⟩ => ⟨W, hh, s, R, sr, ?_⟩
  have rd : RD S rB W (asB ((asB (S.ev m1 s hh)).bind fun c h1 => if c then S.ev m2 s h1 else .ok (.bl false) h1)) Q (fun C d H' => wx C d σ H') := rd
  rw [asB_bind] at rd
  refine (blT_RD rd).imp fun c H1 ⟨h1, W1, w, R1, rd1⟩ => ?_
  cases c with
  | true => exact ⟨W1, h1, s, R1, sr.le w, rd1⟩
  | false => exact rd1 _ _ _ (.refl W1) R1 rfl
theorem sw_or (ha : PT X x (tT S wx m1)) (hb : PW X (.BoolOp .Or (y :: es) pos) (tT S wx m2)) : PW X (.BoolOp .Or (x :: y :: es) pos) (tT S wx (.or m1 m2)) := by
  refine pwImp (pw_or ha hb) fun σ H Q ⟨W, hh, s, R, sr, rd⟩ => ⟨W, hh, s, R, sr, ?_⟩
  have rd : RD S rB W (asB ((asB (S.ev m1 s hh)).bind fun c h1 => if c then .ok (.bl true) h1 else S.ev m2 s h1)) Q (fun C d H' => wx C d σ H') := rd
  rw [asB_bind] at rd
  refine (blT_RD rd).imp fun c H1 ⟨h1, W1, w, R1, rd1⟩ => ?_
  cases c with
  | true => exact rd1 _ _ _ (.refl W1) R1 rfl
  | false => exact ⟨W1, h1, s, R1, sr.le w, rd1⟩
theorem cmp_RD {op : CmpOp} {σ : St} {H : Hp} {W : Wd} {h : Hq} {s : En} {Q : VK} (ok : XOk S sc N cm X wx) (R : S.HR W h H) (sr : S.SR W s σ)
    (rd : RD S S.DV W ((S.ev m1 s h).bind fun d h1 => (S.ev m2 s h1).bind fun e h2 => (Res.opt h2 (cmpD op (vw h2 d) (vw h2 e))).bind fun c h3 => .ok (.bl c) h3) Q (fun C d H' => wx C d σ H')) :
    tOp (rCmp X.K op) (tE S wx m1) (tE S wx m2) σ H Q := by
  refine two_RD R sr rd fun W2 h2 H2 d e x y w R2 q1 q2 rd2 => ?_
  rw [ok.K]
  cases hc : cmpD op (vw h2 d) (vw h2 e) with
  | none => rw [hc] at rd2; exact False.elim rd2
  | some c =>
    rw [hc] at rd2
    exact cmp_ok R2 (vw_ok R2 q1) (vw_ok R2 q2) hc (rd2 _ _ (.bl c) (.refl W2) R2 rfl)
theorem se_cmp {op : CmpOp} (ok : XOk S sc N cm X wx) (ha : PE X x (tE S wx m1)) (hb : PE X y (tE S wx m2)) (hs : notSet y = true) : PE X (.Compare x [op] [y] pos) (tE S wx (.cmp op m1 m2)) :=
  peImp (pe_cmpR (op_cmp ok.un op) ha hb (behind_plain hs)) fun σ H Q ⟨W, hh, s, R, sr, rd⟩ => cmp_RD ok R sr rd
theorem asB_bl {r : Res Dt} : asB r = r.bind fun d h => match d with | .bl c => .ok c h | _ => .no := by
  cases r with
  | ok a h => cases a <;> rfl
  | exc x h => rfl
  | no => rfl
theorem bind_assoc' {α β γ : Type} {r : Res α} {f : α → Hq → Res β} {g : β → Hq → Res γ} : (r.bind f).bind g = r.bind fun a h => (f a h).bind g := by
  cases r <;> rfl
theorem st_cmp {op : CmpOp} (ok : XOk S sc N cm X wx) (ha : PE X x (tE S wx m1)) (hb : PE X y (tE S wx m2)) (hs : notSet y = true) : PT X (.Compare x [op] [y] pos) (tT S wx (.cmp op m1 m2)) := by
  refine ptImp (pt_cmpR (op_cmp ok.un op) ha hb (behind_plain hs)) fun σ H Q ⟨W, hh, s, R, sr, rd⟩ => ?_
  exact cmp_RD (Q := fun v H' => ∃ k, v = .bl k ∧ Q k H') ok R sr (asB_RD rd)
theorem se_ife (hc : PT X c (tT S wx m)) (ha : PE X x (tE S wx m1)) (hb : PE X y (tE S wx m2)) : PE X (.IfExp c x y pos) (tE S wx (.ife m m1 m2)) := by
  refine peImp (pe_ifExp hc ha hb) fun σ H Q ⟨W, hh, s, R, sr, rd⟩ => ⟨W, hh, s, R, sr, (blT_RD rd).imp fun c H1 ⟨h1, W1, w, R1, rd1⟩ => ?_⟩
  cases c with
  | true => exact ⟨W1, h1, s, R1, sr.le w, rd1⟩
  | false => exact ⟨W1, h1, s, R1, sr.le w, rd1⟩
/-- any other expression as a test -/
theorem st_val (h : PE X e (tE S wx m)) (hp : tstPlain e = true) : PT X e (tT S wx m) :=
  ptImp (pt_val h (tst_dflt hp)) fun σ H Q ⟨W, hh, s, R, sr, rd⟩ => ⟨W, hh, s, R, sr, asB_RD rd⟩
theorem sa_nil : PA X [] (tA S wx .nil) := paImp pa_nil fun σ H Q ⟨W, hh, s, R, sr, rd⟩ => rd _ _ _ (.refl W) R rfl
theorem sa_cons (ha : PE X x (tE S wx m1)) (hb : PA X es (tA S wx m2)) (hs : notStar x = true) : PA X (x :: es) (tA S wx (.cons m1 m2)) := by
  refine paImp (pa_cons ha hb (star_cons hs)) fun σ H Q ⟨W, hh, s, R, sr, rd⟩ => ⟨W, hh, s, R, sr, rd.bind.imp fun v H1 ⟨d, h1, W1, _, w1, R1, q1, rd1⟩ => ?_⟩
  exact ⟨W1, h1, s, R1, sr.le w1, rd1.bind.imp fun vs H2 ⟨ds, h2, W2, _, w2, R2, q2, rd2⟩ => rd2 _ _ _ (.refl W2) R2 ⟨v, vs, rfl, q1.le w2, q2⟩⟩
theorem se_tup {k : Nat} (ha : PA X es (tA S wx m)) : PE X (.Tuple es k pos) (tE S wx (.tup m)) := by
  refine peImp (pe_tup ha) fun σ H Q ⟨W, hh, s, R, sr, rd⟩ => ⟨W, hh, s, R, sr, rd.bind.imp fun vs H1 ⟨ds, h1, W1, _, w1, R1, q1, rd1⟩ => ?_⟩
  split at rd1
  · rename_i hl
    have hl := of_decide_eq_true hl
    rw [q1.len] at hl
    exact ⟨hl, fun p hp => new_tup R1 q1 hl rd1 hp⟩
  · exact False.elim rd1
theorem se_lst {b : Bool} (ha : PA X es (tA S wx m)) : PE X (.List es pos) (tE S wx (.lst b m)) := by
  refine peImp (pe_lst ha) fun σ H Q ⟨W, hh, s, R, sr, rd⟩ => ⟨W, hh, s, R, sr, rd.bind.imp fun vs H1 ⟨ds, h1, W1, _, w1, R1, q1, rd1⟩ => ?_⟩
  split at rd1
  · rename_i hl
    have hl := of_decide_eq_true hl
    rw [q1.len] at hl
    exact ⟨hl, fun p hp => new_lstM R1 b q1 hl rd1 hp⟩
  · exact False.elim rd1
theorem se_dnew : PE X (.Dict [] [] pos) (tE S wx .dnew) :=
  peImp pe_dnewK fun σ H Q ⟨W, hh, s, R, sr, rd⟩ p hp => new_dicM (kvs := []) (ks := []) (ds := []) R true rfl (show S.DVs W [] ([] : List V) from rfl) (Nat.zero_le _) rd hp
theorem se_ix (ok : XOk S sc N cm X wx) (ha : PE X x (tE S wx m1)) (hb : PE X y (tE S wx m2)) (hs : notSlice y = true) : PE X (.Subscript x y pos) (tE S wx (.ix m1 m2)) := by
  have hu : X.A.units + 1 < cLine := by have := ok.un; omega
  refine peImp (pe_ix (ix_all hu) ha hb (slice_plain hs)) fun σ H Q ⟨W, hh, s, R, sr, rd⟩ => ?_
  refine two_RD R sr rd fun W2 h2 H2 d e x y w R2 q1 q2 rd2 => ?_
  obtain ⟨r, hr, k⟩ := rd2.opt
  rw [ok.K]
  exact ix_ok R2 (vw_ok R2 q1) (DV.dh R2 q2) hr k
def tO (S : Sc) (wx : WX) (m : E) : TO := fun σ H Q => ∃ W h s, S.HR W h H ∧ S.SR W s σ ∧ RD S (fun _ a b => b = a) W (Vm.evo (callK S.T S.k) S.T.gl S.b m s h) Q (fun C d H' => wx C d σ H')
theorem poImp {oe : Option Expr} {t t' : TO} (h : PO X oe t) (k : ∀ σ H Q, t' σ H Q → t σ H Q) : PO X oe t' := ⟨fun pins s σ H Q I q => h.run pins s σ H Q I (k σ H Q q)⟩
theorem so_nil : PO X none (tO S wx .nil) := poImp po_none fun σ H Q ⟨W, hh, s, R, sr, rd⟩ => rd _ _ _ (.refl W) R rfl
theorem so_some (ha : PE X x (tE S wx m)) : PO X (some x) (tO S wx (.one m)) := by
  refine poImp (po_some ha) fun σ H Q ⟨W, hh, s, R, sr, rd⟩ => ⟨W, hh, s, R, sr, ?_⟩
  have rd : RD S (fun _ a b => b = a) W ((S.ev m s hh).bind fun d h1 => (match d with | .int i => Res.ok (some i) h1 | _ => .no)) Q (fun C d H' => wx C d σ H') := rd
  refine rd.bind.imp fun v H1 ⟨d, h1, W1, _, w1, R1, q1, rd1⟩ => ?_
  cases d with
  | int i => exact ⟨i, q1, rd1 _ _ _ (.refl W1) R1 rfl⟩
  | _ => exact False.elim rd1
theorem se_sl {lo hi : Option Expr} {p2 : Pos} (ok : XOk S sc N cm X wx) (ha : PE X x (tE S wx m1)) (hl : PO X lo (tO S wx m2)) (hh : PO X hi (tO S wx m3)) : PE X (.Subscript x (.Slice lo hi none p2) pos) (tE S wx (.sl m1 m2 m3)) := by
  refine peImp (pe_slice sl_all ha hl hh) fun σ H Q ⟨W, h, s, R, sr, rd⟩ => ⟨W, h, s, R, sr, rd.bind.imp fun v H1 ⟨d, h1, W1, _, w1, R1, q1, rd1⟩ => ?_⟩
  refine ⟨W1, h1, s, R1, sr.le w1, rd1.bind.imp fun l' H2 ⟨l, h2, W2, _, w2, R2, q2, rd2⟩ => ?_⟩
  refine ⟨W2, h2, s, R2, (sr.le w1).le w2, rd2.bind.imp fun u' H3 ⟨u, h3, W3, _, w3, R3, q3, rd3⟩ => ?_⟩
  subst q2 q3
  obtain ⟨r, hr, k⟩ := rd3.opt
  rw [ok.K]
  exact sl_ok R3 (vw_ok R3 ((q1.le w2).le w3)) hr k
theorem bf_go (f : Bf) : (∃ id, bfV f = .builtin id) ∨ ∃ T, bfV f = .type T := by cases f <;> first | exact .inl ⟨_, rfl⟩ | exact .inr ⟨_, rfl⟩
theorem se_bf {f : Bf} {p : Pos} (ok : XOk S sc N true X wx) (hg : glB sc (bfName f) = true) (hf : bfName f ∈ S.G.free) (ha : PA X (x :: es) (tA S wx m)) (hs : (x :: es).all notStar = true) : PE X (.Call (.Name (bfName f) p) (x :: es) [] pos) (tE S wx (.bf f m)) := by
  have hc := (ok.cm rfl).1
  rw [List.all_cons, Bool.and_eq_true] at hs
  have go : ∀ σ H Q, tE S wx (.bf f m) σ H Q → tCB (rBf X.K S.ca f) (tA S wx m) σ H Q := fun σ H Q ⟨W, hh, s, R, sr, rd⟩ => ⟨W, hh, s, R, sr, rd.bind.imp fun vs H1 ⟨ds, h1, W1, _, w1, R1, q1, rd1⟩ => by
    obtain ⟨r, hr, k⟩ := rd1.opt
    rw [ok.K]
    exact bf_ok R1 (vws_ok R1 q1) hr k⟩
  have hm : X.mg (bfName f) = none := by rw [ok.mg]; exact ok.ft.free _ hf
  rcases bf_go f with ⟨id, e⟩ | ⟨T, e⟩
  · have c := cr_bf (ca := S.ca) hc ok.un f
    rw [e] at c
    exact peImp (pe_callB c (glB_ok ok hg) hm (by rw [bf_boot, e]) ha (by cases f <;> decide) (by cases f <;> decide) (star_cons hs.1) (back_plain hs.2)) go
  · have c := cr_bf (ca := S.ca) hc ok.un f
    rw [e] at c
    exact peImp (pe_callTy c (glB_ok ok hg) hm (by rw [bf_boot, e]) ha (by cases f <;> decide) (by cases f <;> decide) (star_cons hs.1) (back_plain hs.2)) go
theorem lookF_val {W : Wd} : ∀ {ns : List Str} {ds : List Dt} {fs : List (Str × V)} {f : Str}, fs.map (·.1) = ns → S.DVs W ds (fs.map (·.2)) →
    (∀ d, lookF ns ds f = some d → ∃ v, fs.lookup f = some v ∧ S.DV W d v)
  | [], ds, fs, k, hk, q => fun d z => by simp [lookF] at z
  | j :: ns, [], fs, k, hk, q => fun d z => by simp [lookF] at z
  | j :: ns, d :: ds, [], k, hk, q => by cases hk
  | j :: ns, d :: ds, p :: fs, k, hk, ⟨v, r, e, q1, q2⟩ => by
    rw [List.map_cons] at hk e
    injection hk with hk1 hk2
    injection e with e1 e2
    have ih := lookF_val (ns := ns) (ds := ds) (fs := fs) (f := k) hk2 (by rw [e2]; exact q2)
    intro x z
    unfold lookF at z
    obtain ⟨pn, pv⟩ := p
    rw [List.lookup_cons]
    by_cases c : k = j
    · rw [if_pos c] at z
      cases z
      have : (k == pn) = true := by rw [beq_iff_eq]; exact c.trans hk1.symm
      rw [this]
      exact ⟨pv, rfl, by rw [show pv = v from e1]; exact q1⟩
    · rw [if_neg c] at z
      have : (k == pn) = false := by rw [beq_eq_false_iff_ne]; exact fun z => c (z.trans hk1)
      rw [this]
      exact ih x z
theorem se_fld {f : Str} {c : Nat} {nm : Str} (ok : XOk S sc N cm X wx) (ha : PE X x (tE S wx m)) (hs : noSup x = true) (hn : S.G.cls c = some nm) (hf : S.G.attr c f = true) : PE X (.Attribute x f pos) (tE S wx (.fld c m f)) := by
  refine peImp (pe_fld ha (sup_plain hs)) fun σ H Q ⟨W, hh, s, R, sr, rd⟩ => ⟨W, hh, s, R, sr, rd.bind.imp fun v H1 ⟨d, h1, W1, _, w1, R1, q1, rd1⟩ => ?_⟩
  have q := vw_ok R1 q1
  cases hd : vw h1 d with
  | ins c' ns ds =>
    rw [hd] at rd1 q
    have rd3 : RD S S.DV W1 (if decide (c' = c) = true then Res.opt h1 (lookF ns ds f) else .no) Q (fun C d H' => wx C d σ H') := rd1
    clear rd1
    split at rd3
    · rename_i hc
      have hc := of_decide_eq_true hc
      subst hc
      obtain ⟨r, hr, k⟩ := rd3.opt
      obtain ⟨a, dx, fs, ea, ha2, hn2, dv⟩ := q
      obtain ⟨u, e1, q2⟩ := lookF_val hn2 dv r hr
      rw [ok.K]
      exact ⟨a, S.ca c', dx, fs, u, ea, ha2, (ok.ft.cls c' nm hn).2, ok.ft.attr c' f hf, e1, k _ _ _ (.refl W1) R1 q2⟩
    · exact False.elim rd3
  | _ => rw [hd] at rd1; exact False.elim rd1
theorem se_fz (ha : PE X x (tE S wx m)) : PE X x (tE S wx (.fz m)) := by
  refine peImp ha fun σ H Q ⟨W, hh, s, R, sr, rd⟩ => ⟨W, hh, s, R, sr, rd.bind.imp fun v H1 ⟨d, h1, W1, _, w1, R1, q1, rd1⟩ => ?_⟩
  cases hf : fzN 9 S.b d h1 with
  | none => rw [hf] at rd1; exact False.elim rd1
  | some p =>
    rw [hf] at rd1
    obtain ⟨W2, w2, _, R2, q2⟩ := fzN_ok 9 d v h1 W1 H1 p R1 q1 hf
    exact rd1 _ _ _ w2 R2 (low_up q2)
end
end Vm

/-! Vm, part 8: calls. Own text. -/
namespace Vm
open PySem L2 PySem.Spec PyProof.Rows

section
variable {S : Sc} {wx : WX} {X : Cx} {pos : Pos} {a c e x y : Expr} {es : List Expr} {m m1 m2 m3 : E} {sc : Scope} {N : List Str} {cm : Bool}
theorem callK_np {f : Nat} {d : Fd} (hf : S.T.fn f = some d) : ∀ {k b : Nat} {ds : List Dt} {h : Hq}, ds.length ≠ d.np → callK S.T k f b ds h = .no
  | 0, _, _, _, _ => rfl
  | k + 1, b, ds, h, hn => by
    unfold callK
    simp only [hf, decide_eq_false hn, Bool.false_eq_true, if_false]
theorem call_sp {f : Nat} {d : Fd} {W : Wd} {h : Hq} {ds : List Dt} {vs : List V} {H : Hp} {Q : VK} {E : XK} (hf : S.T.fn f = some d) (R : S.HR W h H) (q : S.DVs W ds vs) (rd : RD S S.DV W (callK S.T S.k f S.b ds h) Q E) : spD S f d.np vs H Q E := by
  refine ⟨W, h, ds, S.b, S.ρ, R, q, ?_, rd⟩
  by_cases hn : ds.length = d.np
  · exact hn
  · rw [callK_np hf hn] at rd
    exact False.elim rd
theorem XOk.hx (ok : XOk S sc N cm X wx) (σ : L2.St) : PassesAt (L2.CX X.prog X.w) X σ (WE wx σ) := passAt ok.tk σ
theorem XOk.room (ok : XOk S sc N true X wx) : Room (2 * S.k) X.A := (ok.cm rfl).2.mono (Nat.le_succ _)
/-- the callee runs, from a body -/
theorem run_sp {pins : List (Addr × Obj)} {σ : L2.St} {s : Shared} {us : List Value} {f : Nat} {fa : Addr} {W : Wd} {h : Hq} {ds : List Dt} {vs : List V} {H : Hp} {Q : VK} (ok : XOk S sc N true X wx) (F : FnF S X.prog X.w X.base f fa) (I : Inv X pins σ H s) (r : Vals vs us)
    (R : S.HR W h H) (q : S.DVs W ds vs) (rd : RD S S.DV W (callK S.T S.k f S.b ds h) Q (WE wx σ)) : wpAny (model X.prog X.w) X.A (call (.ref fa) us) (EP X pins σ Q) X.xe s := by
  obtain ⟨d, fd, ps, h1, h2, h3, h4⟩ := F.ex
  have e1 := ok.K
  have e2 := ok.mg
  rw [← e1, ← e2] at h2
  rw [← e1] at h3
  exact run_fnS (E := WE wx) h2 ok.room h3 (ok.hx σ) I r (call_sp h1 R q rd)
theorem fn_keep {f : Nat} {fa : Addr} (ok : XOk S sc N cm X wx) (F : FnF S X.prog X.w X.base f fa) : PySem.W.keepIn X.K (.ref fa) = true := by
  obtain ⟨d, fd, ps, h1, h2, h3, h4⟩ := F.ex
  rw [ok.K]; exact h4
theorem se_call {f : Nat} {n : Str} {p : Pos} (ok : XOk S sc N true X wx) (hg : glB sc n = true) (hn : S.G.fn f = some n) (hd : ndbg n = true) (ha : PA X (x :: es) (tA S wx m)) (hs : (x :: es).all notStar = true) : PE X (.Call (.Name n p) (x :: es) [] pos) (tE S wx (.call f m)) := by
  obtain ⟨fa, hm, F⟩ := ok.ft.fn f n hn
  rw [List.all_cons, Bool.and_eq_true] at hs
  refine ⟨fun pins s σ H Q I ⟨W, hh, σd, R, sr, rd⟩ => ?_⟩
  refine wpAny_Call_Name_kw (ld_glob I (glB_ok ok hg) (by rw [ok.mg]; exact hm) ?_ (ndbg_ok hd).1)
  have go : tA S wx m σ H fun vs H1 => ∃ ds h1 W1, S.HR W1 h1 H1 ∧ S.DVs W1 ds vs ∧ RD S S.DV W1 (callK S.T S.k f S.b ds h1) Q (WE wx σ) :=
    ⟨W, hh, σd, R, sr, rd.bind.imp fun vs H1 ⟨ds, h1, W1, _, w1, R1, q1, rd1⟩ => ⟨ds, h1, W1, R1, q1, rd1⟩⟩
  refine PySem.W.callWith_K (h₀ := X.base) I.ok.mod.kin (fn_keep ok F) (thn (ha.run pos pins s σ H _ I go) fun us s1 ⟨vs, H1, I1, r, ds, h1, W1, R1, q1, rd1⟩ => ⟨I1.kIn, ?_⟩) (star_cons hs.1) (back_plain hs.2)
  exact run_sp ok F I1 r R1 q1 rd1
theorem se_call0 {f : Nat} {n : Str} {p : Pos} (ok : XOk S sc N true X wx) (hg : glB sc n = true) (hn : S.G.fn f = some n) (hd : ndbg n = true) : PE X (.Call (.Name n p) [] [] pos) (tE S wx (.call f .nil)) := by
  obtain ⟨fa, hm, F⟩ := ok.ft.fn f n hn
  refine ⟨fun pins s σ H Q I ⟨W, hh, σd, R, sr, rd⟩ => ?_⟩
  refine wpAny_Call_Name_kw (ld_glob I (glB_ok ok hg) (by rw [ok.mg]; exact hm) ?_ (ndbg_ok hd).1)
  exact PySem.W.callWith_K0 I.kIn (fn_keep ok F) (run_sp ok F (us := []) (vs := []) (ds := []) I .nil R rfl rd)

/-! ### C(..) -/
theorem run_makeS {pins : List (Addr × Obj)} {σ : L2.St} {H : Hp} {s : Shared} {Q : VK} {us : List Value} {vs : List V} {C f : Addr} {fd : FuncData} {ps : List Str} {sp : Sp} {CX : CXT} {k : Nat} {E : L2.St → XK}
    (M : Mk X.K C f) (F : FnOk X.prog X.w X.K X.mg X.base CX k f fd ps sp) (hr : Room (k + 1) X.A) (hb : Binds X.K fd ps [])
    (hx : PassesAt CX X σ (E σ)) (I : Inv X pins σ H s) (r : Vals vs us)
    (h : ∀ x dx, H x = none → H dx = none → dx ≠ x → sp (.ref x :: vs) (upd (upd H dx (.own x)) x (.ins C dx [])) (fun v H2 => v = .non ∧ Q (.ref x) H2) (E σ)) :
    wpAny (model X.prog X.w) X.A (call (.ref C) us) (EP X pins σ Q) X.xe s := by
  have hq := h (s.heap.objs.size + 1) s.heap.objs.size (I.hok.fresh (Nat.le_succ _)) (I.hok.fresh (Nat.le_refl _)) (Nat.ne_of_lt (Nat.lt_succ_self _))
  have I2 := Inv.made (C := C) I
  have r2 : Vals (V.ref (s.heap.objs.size + 1) :: vs) (Value.ref (s.heap.objs.size + 1) :: us) := .cons rfl r
  have hl : (Value.ref (s.heap.objs.size + 1) :: us ++ []).length = ps.length := by
    rw [List.append_nil, ← r2.length]
    exact F.len _ _ _ _ hq
  have bb := hb _ (Value.ref (s.heap.objs.size + 1) :: us) I2.kIn hl
  rw [List.append_nil] at bb
  refine wpAny_call (make_map (f := f) I.kIn M.makes M.init (beq_iff_eq.mp M.fn) (codeAny_mono (F.run _ X.stack _ _ ⟨Value.ref (s.heap.objs.size + 1) :: us, []⟩ (Value.ref (s.heap.objs.size + 1) :: us) _ _ (E σ) (hr.make C us [])
    (I2.env0.make C us []) bb r2 hq) fun r s' hq' => ?_))
  cases r with
  | error e => exact hx pins _ _ e s' I2 hq'
  | ok fl =>
    cases fl with
    | ret u =>
      obtain ⟨v, H', I3, rv, ev, q3⟩ := I2.after hq'
      subst ev
      exact ⟨rv, ⟨V.ref (s.heap.objs.size + 1), H', I3, rfl, q3⟩⟩
    | next => exact False.elim hq'
    | brk => exact False.elim hq'
    | cont => exact False.elim hq'
/-- a new instance, a new cell -/
theorem new_ins {W : Wd} {h : Hq} {H : Hp} {x dx : Addr} {c : Nat} (R : S.HR W h H) (hx : H x = none) (hd : H dx = none) (ne : dx ≠ x) :
    S.HR ⟨W.F, W.ι ++ [x], W.A⟩ (h ++ [.ins c [] []]) (upd (upd H dx (.own x)) x (.ins (S.ca c) dx [])) ∧ W.le ⟨W.F, W.ι ++ [x], W.A⟩ ∧ (W.ι ++ [x])[h.length]? = some x := by
  have R1 := HR.accNew (o := .own x) R hd
  have R2 : S.HR W h (upd H dx (.own x)) := HR.accDrop (A := W.A) R1 fun a o e => by
    have : a ≠ dx := fun z => by
      subst z
      have := (R.acc a o e).1
      rw [hd] at this
      cases this
    show upd W.A dx (.own x) a = some o
    rw [upd_ne this]; exact e
  exact R2.newC (c := .ins c [] []) (by rw [upd_ne (fun z => ne z.symm)]; exact hx) ⟨dx, [], rfl, rfl, rfl⟩
theorem make_ok {W : Wd} {h : Hq} {H : Hp} {σ : L2.St} {Q : VK} {c f : Nat} {d : Fd} {ds : List Dt} {vs : List V} (hf : S.T.fn f = some d) (R : S.HR W h H) (q : S.DVs W ds vs)
    (rd : RD S S.DV W ((callK S.T S.k f S.b (.ref h.length :: ds) (h ++ [.ins c [] []])).bind fun r h2 => (match r with | .non => Res.ok (.ref h.length) h2 | _ => .no)) Q (WE wx σ)) (x dx : Addr) (hx : H x = none) (hd : H dx = none) (ne : dx ≠ x) :
    spD S f d.np (.ref x :: vs) (upd (upd H dx (.own x)) x (.ins (S.ca c) dx [])) (fun v H2 => v = .non ∧ Q (.ref x) H2) (WE wx σ) := by
  obtain ⟨R1, w1, e1⟩ := new_ins (c := c) R hx hd ne
  refine call_sp hf R1 (ds := .ref h.length :: ds) ⟨.ref x, vs, rfl, ⟨x, rfl, e1⟩, q.le w1⟩ ?_
  refine (RD.up w1 rd).bind.imp fun v H2 ⟨r, h2, W2, _, w2, R2, q2, rd2⟩ => ?_
  cases r with
  | non => exact ⟨q2, rd2 _ _ _ (.refl W2) R2 ⟨x, rfl, w2.get e1⟩⟩
  | _ => exact False.elim rd2
theorem se_make {c f : Nat} {n : Str} {p : Pos} (ok : XOk S sc N true X wx) (hg : glB sc n = true) (hn : S.G.cls c = some n) (hi : S.G.init c = some f) (hd : ndbg n = true) (ha : PA X (x :: es) (tA S wx m)) (hs : (x :: es).all notStar = true) : PE X (.Call (.Name n p) (x :: es) [] pos) (tE S wx (.make c f m)) := by
  obtain ⟨hm, _⟩ := ok.ft.cls c n hn
  obtain ⟨fa, M, F⟩ := ok.ft.init c f hi
  obtain ⟨d, fd, ps, h1, h2, h3, h4⟩ := F.ex
  have e1 := ok.K
  have e2 := ok.mg
  rw [← e1, ← e2] at h2
  rw [← e1] at h3 M
  rw [List.all_cons, Bool.and_eq_true] at hs
  refine ⟨fun pins s σ H Q I ⟨W, hh, σd, R, sr, rd⟩ => ?_⟩
  refine wpAny_Call_Name_kw (ld_glob I (glB_ok ok hg) (by rw [ok.mg]; exact hm) ?_ (ndbg_ok hd).1)
  have go : tA S wx m σ H fun vs H1 => ∀ x dx, H1 x = none → H1 dx = none → dx ≠ x → spD S f d.np (.ref x :: vs) (upd (upd H1 dx (.own x)) x (.ins (S.ca c) dx [])) (fun v H2 => v = .non ∧ Q (.ref x) H2) (WE wx σ) :=
    ⟨W, hh, σd, R, sr, rd.bind.imp fun vs H1 ⟨ds, h1', W1, _, w1, R1, q1, rd1⟩ => make_ok h1 R1 q1 rd1⟩
  refine PySem.W.callWith_K (h₀ := X.base) I.ok.mod.kin M.kp (thn (ha.run pos pins s σ H _ I go) fun us s1 ⟨vs, H1, I1, r, q⟩ => ⟨I1.kIn, ?_⟩) (star_cons hs.1) (back_plain hs.2)
  exact run_makeS (E := WE wx) M h2 (ok.cm rfl).2 h3 (ok.hx σ) I1 r q
theorem se_make0 {c f : Nat} {n : Str} {p : Pos} (ok : XOk S sc N true X wx) (hg : glB sc n = true) (hn : S.G.cls c = some n) (hi : S.G.init c = some f) (hd : ndbg n = true) : PE X (.Call (.Name n p) [] [] pos) (tE S wx (.make c f .nil)) := by
  obtain ⟨hm, _⟩ := ok.ft.cls c n hn
  obtain ⟨fa, M, F⟩ := ok.ft.init c f hi
  obtain ⟨d, fd, ps, h1, h2, h3, h4⟩ := F.ex
  have e1 := ok.K
  have e2 := ok.mg
  rw [← e1, ← e2] at h2
  rw [← e1] at h3 M
  refine ⟨fun pins s σ H Q I ⟨W, hh, σd, R, sr, rd⟩ => ?_⟩
  refine wpAny_Call_Name_kw (ld_glob I (glB_ok ok hg) (by rw [ok.mg]; exact hm) ?_ (ndbg_ok hd).1)
  exact PySem.W.callWith_K0 I.kIn M.kp (run_makeS (E := WE wx) (us := []) (vs := []) M h2 (ok.cm rfl).2 h3 (ok.hx σ) I .nil (make_ok h1 (ds := []) R rfl rd))

/-! ### o.m(..), an own method -/
theorem meth_line {o : Expr} {mn : Str} {apos : Pos} {env : Env} (hb : noSup o = true) (hs : es.all notStar = true) (hl : es.length < 29) (hp : (apos.endLine == pos.line) = true) : eval (.Call (.Attribute o mn apos) es [] pos) env = (do
      let ov ← eval o env
      standAt apos.atName
      let (f, first) ← holding [ov] (getMethod ov mn (plainOf o env))
      callWith pos f first (backTo pos (starEach es env)) (backToKw pos (keywordEach [] env))) := by
  rw [arm_eval_Call, sup_plain hb]
  have hf : methodCallForm (es.length + ([] : List Keyword).length) (backTo pos (starEach es env)) (backToKw pos (keywordEach [] env)) = true := back_few hs (by omega)
  have e : ∀ ov, methodCall o mn apos pos env ov (es.length + ([] : List Keyword).length) (backTo pos (starEach es env)) (backToKw pos (keywordEach [] env)) = (do
      let (f, first) ← holding [ov] (getMethod ov mn (plainOf o env))
      callWith pos f first (backTo pos (starEach es env)) (backToKw pos (keywordEach [] env))) := fun ov => mcall_line hf hp
  simp only [e]
theorem look_none : ∀ {fs : List (Str × V)} {f : Str}, f ∉ fs.map (·.1) → fs.lookup f = none
  | [], _, _ => rfl
  | (k, v) :: fs, f, h => by
    rw [List.map_cons, List.mem_cons, not_or] at h
    rw [List.lookup_cons, beq_eq_false_iff_ne.mpr h.1]
    exact look_none h.2
theorem meth_ok {c : Nat} {mn : Str} {f : Nat} {W1 : Wd} {h1 : Hq} {d : Dt} {H1 : Hp} {v : V} {σd : En} {Q : VK} {E : XK} (R1 : S.HR W1 h1 H1) (q1 : S.DV W1 d v)
    (rd1 : RD S S.DV W1 (match vw h1 d with | .ins c' ns _ => if decide (c' = c) && decide (mn ∉ ns) then (S.evs m σd h1).bind fun ds h2 => callK S.T S.k f S.b (d :: ds) h2 else .no | _ => .no) Q E) :
    ∃ a dx fs, v = .ref a ∧ H1 a = some (.ins (S.ca c) dx fs) ∧ fs.lookup mn = none ∧ RD S S.DV W1 ((S.evs m σd h1).bind fun ds h2 => callK S.T S.k f S.b (d :: ds) h2) Q E := by
  have q := vw_ok R1 q1
  cases hd : vw h1 d with
  | ins c' ns ds =>
    rw [hd] at rd1 q
    have rd3 : RD S S.DV W1 (if (decide (c' = c) && decide (mn ∉ ns)) = true then (S.evs m σd h1).bind fun ds h2 => callK S.T S.k f S.b (d :: ds) h2 else .no) Q E := rd1
    split at rd3
    · rename_i hc
      obtain ⟨hc1, hc2⟩ := and2 hc
      have hc1 := of_decide_eq_true hc1
      have hc2 := of_decide_eq_true hc2
      subst hc1
      obtain ⟨a, dx, fs, ea, ha2, hn2, dv⟩ := q
      exact ⟨a, dx, fs, ea, ha2, look_none (by rw [hn2]; exact hc2), rd3⟩
    · exact False.elim rd3
  | _ => rw [hd] at rd1; exact False.elim rd1
theorem se_mcall {o : Expr} {apos : Pos} {c f : Nat} {mn n : Str} (ok : XOk S sc N true X wx) (ho : PE X o (tE S wx m1)) (hb : noSup o = true) (hn : S.G.cls c = some n) (hm : S.G.meth c mn = some f) (ha : PA X (x :: es) (tA S wx m)) (hs : (x :: es).all notStar = true)
    (hl : (x :: es).length < 29) (hp : (apos.endLine == pos.line) = true) : PE X (.Call (.Attribute o mn apos) (x :: es) [] pos) (tE S wx (.mcall c mn f m1 m)) := by
  obtain ⟨_, hc⟩ := ok.ft.cls c n hn
  obtain ⟨fa, M, F⟩ := ok.ft.meth c mn f hm
  rw [← ok.K] at M hc
  have hs1 := hs
  rw [List.all_cons, Bool.and_eq_true] at hs1
  refine ⟨fun pins s σ H Q I ⟨W, hh, σd, R, sr, rd⟩ => ?_⟩
  have go : tE S wx m1 σ H fun v H1 => ∃ a dx fs, v = .ref a ∧ H1 a = some (.ins (S.ca c) dx fs) ∧ fs.lookup mn = none ∧ tA S wx m σ H1 fun vs H2 => ∃ d ds h2 W2, S.HR W2 h2 H2 ∧ S.DVs W2 (d :: ds) (.ref a :: vs) ∧ RD S S.DV W2 (callK S.T S.k f S.b (d :: ds) h2) Q (WE wx σ) :=
    ⟨W, hh, σd, R, sr, rd.bind.imp fun v H1 ⟨d, h1, W1, _, w1, R1, q1, rd1⟩ => by
      obtain ⟨a, dx, fs, ea, ha, hl, rd2⟩ := meth_ok R1 q1 rd1
      subst ea
      exact ⟨a, dx, fs, rfl, ha, hl, W1, h1, σd, R1, sr.le w1, rd2.bind.imp fun vs H2 ⟨ds, h2, W2, _, w2, R2, q2, rd3⟩ => ⟨d, ds, h2, W2, R2, ⟨.ref a, vs, rfl, q1.le w2, q2⟩, rd3⟩⟩⟩
  refine PySem.W.methodCall_KW (pl := plainOf o X.env) (thn (ho.run pins s σ H _ I go) fun u s1 ⟨v, H1, I1, rx, a, dx, fs, ex, ea, l, q⟩ => ?_) (meth_line hb hs hl hp)
  subst ex
  obtain rfl : u = Value.ref a := rx
  refine getmeth_ok I1 ea hc M l ?_
  refine PySem.W.callWith_K (first := [.ref a]) (h₀ := X.base) I.ok.mod.kin M.kp (thn (ha.run pos pins s1 σ H1 _ I1 q) fun us s2 ⟨vs, H2, I2, r, d, ds, h2, W2, R2, q2, rd2⟩ => ⟨I2.kIn, ?_⟩) (star_cons hs1.1) (back_plain hs1.2)
  exact run_sp ok F (us := .ref a :: us) (vs := .ref a :: vs) I2 (.cons rfl r) R2 q2 rd2
theorem se_mcall0 {o : Expr} {apos : Pos} {c f : Nat} {mn n : Str} (ok : XOk S sc N true X wx) (ho : PE X o (tE S wx m1)) (hb : noSup o = true) (hn : S.G.cls c = some n) (hm : S.G.meth c mn = some f)
    (hp : (apos.endLine == pos.line) = true) : PE X (.Call (.Attribute o mn apos) [] [] pos) (tE S wx (.mcall c mn f m1 .nil)) := by
  obtain ⟨_, hc⟩ := ok.ft.cls c n hn
  obtain ⟨fa, M, F⟩ := ok.ft.meth c mn f hm
  rw [← ok.K] at M hc
  refine ⟨fun pins s σ H Q I ⟨W, hh, σd, R, sr, rd⟩ => ?_⟩
  have go : tE S wx m1 σ H fun v H1 => ∃ a dx fs, v = .ref a ∧ H1 a = some (.ins (S.ca c) dx fs) ∧ fs.lookup mn = none ∧ ∃ d h2 W2, S.HR W2 h2 H1 ∧ S.DVs W2 [d] [.ref a] ∧ RD S S.DV W2 (callK S.T S.k f S.b [d] h2) Q (WE wx σ) :=
    ⟨W, hh, σd, R, sr, rd.bind.imp fun v H1 ⟨d, h1, W1, _, w1, R1, q1, rd1⟩ => by
      obtain ⟨a, dx, fs, ea, ha, hl, rd2⟩ := meth_ok R1 q1 rd1
      subst ea
      exact ⟨a, dx, fs, rfl, ha, hl, d, h1, W1, R1, ⟨.ref a, [], rfl, q1, rfl⟩, rd2⟩⟩
  refine PySem.W.methodCall_KW (pl := plainOf o X.env) (thn (ho.run pins s σ H _ I go) fun u s1 ⟨v, H1, I1, rx, a, dx, fs, ex, ea, l, d, h2, W2, R2, q2, rd2⟩ => ?_) (meth_line hb rfl (by show 0 < 29; decide) hp)
  subst ex
  obtain rfl : u = Value.ref a := rx
  refine getmeth_ok I1 ea hc M l ?_
  exact PySem.W.callWith_K0 (first := [.ref a]) I1.kIn M.kp (run_sp ok F (us := [.ref a]) (vs := [.ref a]) I1 (.cons rfl .nil) R2 q2 rd2)

/-! ### methods of the built-in types -/
theorem lcell_ok {h : Hq} {d : Dt} {n : Nat} (e : lcell h d = some n) : ∃ ds, d = .ref n ∧ h[n]? = some (.lst ds) := by
  unfold lcell at e
  split at e
  · split at e
    · rename_i ds hn
      cases e
      exact ⟨ds, rfl, hn⟩
    · cases e
  · cases e
theorem cell_lst {W : Wd} {h : Hq} {H : Hp} {n : Nat} {a : Addr} {ds : List Dt} (R : S.HR W h H) (hn : h[n]? = some (.lst ds)) (ha : W.ι[n]? = some a) : ∃ vs, H a = some (.lst vs) ∧ vs.length ≤ sizeLine ∧ S.DVs (W.at S.b S.ρ n) ds vs := by
  obtain ⟨_, o, hH, vs, rfl, z, dv⟩ := R.cell n _ a hn (by intro z; cases z) ha
  exact ⟨vs, hH, z, dv⟩
theorem stOks_at {W : Wd} {b : Nat} {ρ : Nat → Nat} {n : Nat} {ds : List Dt} {vs : List V} (hs : (decide (b ≤ n) || noRefs ds) = true) (q : S.DVs W ds vs) : S.DVs (W.at b ρ n) ds vs := by
  unfold Wd.at
  split
  · rename_i hb
    rcases Bool.or_eq_true_iff.mp hs with z | z
    · exact absurd (of_decide_eq_true z) (Nat.not_le.mpr hb)
    · exact DVs.mono' (W := W) (W' := ⟨W.F, W.ι.take (ρ n), W.A⟩) (fun _ _ e => e) ds vs (.inl z) q
  · exact q
theorem se_append {o : Expr} {apos : Pos} (ok : XOk S sc N cm X wx) (ho : PE X o (tE S wx m1)) (hb : noSup o = true) (ha : PE X x (tE S wx m2)) (hs : notStar x = true) (hp : (apos.endLine == pos.line) = true) :
    PE X (.Call (.Attribute o "append" apos) [x] [] pos) (tE S wx (.append m1 m2)) := by
  have hs1 : [x].all notStar = true := by rw [List.all_cons, hs]; rfl
  refine peImp (pe_bm PySem.F.plainAttrs_list PySem.F.slot_list_append PySem.F.type_list_append mt_append ho (pa_cons ha pa_nil (star_cons hs)) (sup_plain hb) (back_few hs1 (by show 1 < 30; decide)) hp (star_cons hs) rfl) fun σ H Q ⟨W, hh, s, R, sr, rd⟩ => ?_
  refine ⟨W, hh, s, R, sr, rd.bind.imp fun v H1 ⟨d, h1, W1, _, w1, R1, q1, rd1⟩ => ?_⟩
  obtain ⟨n, hn, rd2⟩ : ∃ n, lcell h1 d = some n ∧ RD S S.DV W1 ((S.ev m2 s h1).bind fun d h2 => (match h2[n]? with
      | some (.lst ds) => if decide (ds.length < sizeLine) && stOk S.b n d then .ok .non (h2.set n (.lst (ds ++ [d]))) else .no
      | _ => .no)) Q (fun C d H' => wx C d σ H') := by
    cases hc : lcell h1 d with
    | none => rw [hc] at rd1; exact False.elim rd1
    | some n => rw [hc] at rd1; exact ⟨n, rfl, rd1⟩
  obtain ⟨ds0, rfl, hn0⟩ := lcell_ok hn
  obtain ⟨a, rfl, ha1⟩ := q1
  obtain ⟨vs0, hH0, _, _⟩ := cell_lst R1 hn0 ha1
  refine ⟨.inl ⟨rfl, vs0, SqL.of hH0⟩, W1, h1, s, R1, sr.le w1, rd2.bind.imp fun u H2 ⟨e, h2, W2, _, w2, R2, q2, rd3⟩ => ?_⟩
  have ha2 := w2.get ha1
  cases hc : h2[n]? with
  | none => rw [hc] at rd3; exact False.elim rd3
  | some c =>
    rw [hc] at rd3
    cases c with
    | lst ds =>
      have rd4 : RD S S.DV W2 (if (decide (ds.length < sizeLine) && stOk S.b n e) = true then .ok .non (h2.set n (.lst (ds ++ [e]))) else .no) Q (fun C d H' => wx C d σ H') := rd3
      split at rd4
      · rename_i hz
        obtain ⟨hz1, hz2⟩ := and2 hz
        have hz1 := of_decide_eq_true hz1
        obtain ⟨vs, hH, z, dv⟩ := cell_lst R2 hc ha2
        have hl := dv.len
        refine ⟨a, vs, u, rfl, rfl, hH, by omega, ?_⟩
        have R3 := HR.put (c' := .lst (ds ++ [e])) (o' := .lst (vs ++ [u])) R2 hc (by intro z; cases z) ha2 ⟨_, rfl, by rw [List.length_append, List.length_singleton]; omega, dv.snoc (stOk_at hz2 q2)⟩
        exact rd4 _ _ _ (.refl W2) R3 rfl
      · exact False.elim rd4
    | _ => exact False.elim rd3
theorem se_extend {o : Expr} {apos : Pos} (ok : XOk S sc N cm X wx) (ho : PE X o (tE S wx m1)) (hb : noSup o = true) (ha : PE X x (tE S wx m2)) (hs : notStar x = true) (hp : (apos.endLine == pos.line) = true) :
    PE X (.Call (.Attribute o "extend" apos) [x] [] pos) (tE S wx (.extend m1 m2)) := by
  have hs1 : [x].all notStar = true := by rw [List.all_cons, hs]; rfl
  refine peImp (pe_bm PySem.F.plainAttrs_list PySem.F.slot_list_extend PySem.F.type_list_extend mt_extend ho (pa_cons ha pa_nil (star_cons hs)) (sup_plain hb) (back_few hs1 (by show 1 < 30; decide)) hp (star_cons hs) rfl) fun σ H Q ⟨W, hh, s, R, sr, rd⟩ => ?_
  refine ⟨W, hh, s, R, sr, rd.bind.imp fun v H1 ⟨d, h1, W1, _, w1, R1, q1, rd1⟩ => ?_⟩
  obtain ⟨n, hn, rd2⟩ : ∃ n, lcell h1 d = some n ∧ RD S S.DV W1 ((S.ev m2 s h1).bind fun d h2 => (match vw h2 d, h2[n]? with
      | .lst es, some (.lst ds) => if decide (ds.length + es.length ≤ sizeLine) && (decide (S.b ≤ n) || noRefs es) then .ok .non (h2.set n (.lst (ds ++ es))) else .no
      | _, _ => .no)) Q (fun C d H' => wx C d σ H') := by
    cases hc : lcell h1 d with
    | none => rw [hc] at rd1; exact False.elim rd1
    | some n => rw [hc] at rd1; exact ⟨n, rfl, rd1⟩
  obtain ⟨ds0, rfl, hn0⟩ := lcell_ok hn
  obtain ⟨a, rfl, ha1⟩ := q1
  obtain ⟨vs0, hH0, _, _⟩ := cell_lst R1 hn0 ha1
  refine ⟨.inl ⟨rfl, vs0, SqL.of hH0⟩, W1, h1, s, R1, sr.le w1, rd2.bind.imp fun u H2 ⟨e, h2, W2, _, w2, R2, q2, rd3⟩ => ?_⟩
  have ha2 := w2.get ha1
  have qv := vw_ok R2 q2
  cases hv : vw h2 e with
  | lst es =>
    rw [hv] at rd3 qv
    cases hc : h2[n]? with
    | none => rw [hc] at rd3; exact False.elim rd3
    | some c =>
      rw [hc] at rd3
      cases c with
      | lst ds =>
        have rd4 : RD S S.DV W2 (if (decide (ds.length + es.length ≤ sizeLine) && (decide (S.b ≤ n) || noRefs es)) = true then .ok .non (h2.set n (.lst (ds ++ es))) else .no) Q (fun C d H' => wx C d σ H') := rd3
        split at rd4
        · rename_i hz
          obtain ⟨hz1, hz2⟩ := and2 hz
          have hz1 := of_decide_eq_true hz1
          obtain ⟨vs, hH, z, dv⟩ := cell_lst R2 hc ha2
          obtain ⟨a2, us, eu, hH2, z2, dv2⟩ := qv
          have hl := dv.len
          have hl2 := dv2.len
          refine ⟨a, a2, vs, us, rfl, by rw [eu], hH, hH2, by omega, ?_⟩
          have R3 := HR.put (c' := .lst (ds ++ es)) (o' := .lst (vs ++ us)) R2 hc (by intro z; cases z) ha2 ⟨_, rfl, by rw [List.length_append]; omega, DVs.append dv (stOks_at hz2 dv2)⟩
          exact rd4 _ _ _ (.refl W2) R3 rfl
        · exact False.elim rd4
      | _ => exact False.elim rd3
  | _ => rw [hv] at rd3; exact False.elim rd3
end
end Vm

/-! Vm, part 9: get, isinstance, list(..), chains. Own text. -/
namespace Vm
open PySem L2 PySem.Spec PyProof.Rows

section
variable {S : Sc} {wx : WX} {X : Cx} {pos : Pos} {a c e x y o z : Expr} {es : List Expr} {m m1 m2 m3 : E} {sc : Scope} {N : List Str} {cm : Bool}
/-! ### o.get(k), o.get(k, d) -/
theorem isD_of {W : Wd} {h : Hq} {H : Hp} {d : Dt} {v : V} {p : List Key × List Dt} (R : S.HR W h H) (q : S.DV W d v) (e : asDic (vw h d) = some p) : ∃ a kvs, v = .ref a ∧ Rd H a (.dK kvs) ∧ kvs.map (·.1) = p.1 ∧ kvs.length ≤ sizeLine ∧ S.DVs W p.2 (kvs.map (·.2)) := by
  have q2 := vw_ok R q
  cases hd : vw h d with
  | dic ks vs =>
    rw [hd] at q2 e
    cases e
    exact q2
  | _ => rw [hd] at e; cases e
theorem get_fin {W : Wd} {h : Hq} {H : Hp} {E : XK} {Q : VK} {od kd dd : Dt} {xo y z : V} (R : S.HR W h H) (qo : S.DV W od xo) (qk : S.DV W kd y) (qd : S.DV W dd z)
    (rd : RD S S.DV W (match vw h od, keyOf kd with | .dic ks vs, some kk => Res.ok ((lookK ks vs kk).getD dd) h | _, _ => .no) Q E) : ∃ a, xo = .ref a ∧ ∃ o, DGet H a y o ∧ Q (o.getD z) H := by
  have q2 := vw_ok R qo
  cases hd : vw h od with
  | dic ks vs =>
    rw [hd] at rd q2
    cases hk : keyOf kd with
    | none => rw [hk] at rd; exact False.elim rd
    | some kk =>
      rw [hk] at rd
      obtain ⟨a, o, ea, g, h1, h2⟩ := dget_of hk (DV.dh R qk) q2
      refine ⟨a, ea, o, g, ?_⟩
      have rd2 : RD S S.DV W (Res.ok ((lookK ks vs kk).getD dd) h) Q E := rd
      cases hl : lookK ks vs kk with
      | none =>
        rw [hl] at rd2
        rw [h2 hl]
        exact rd2 _ _ _ (.refl W) R qd
      | some d =>
        rw [hl] at rd2
        obtain ⟨v, e1, q3⟩ := h1 d hl
        rw [e1]
        exact rd2 _ _ _ (.refl W) R q3
  | _ => rw [hd] at rd; exact False.elim rd
theorem opt_RD {α γ δ : Type} {rel : Wd → γ → δ → Prop} {W : Wd} {h : Hq} {o : Option α} {f : α → Hq → Res γ} {Q : δ → Hp → Prop} {E : XK} (rd : RD S rel W ((Res.opt h o).bind f) Q E) : ∃ n, o = some n ∧ RD S rel W (f n h) Q E := by
  cases o with
  | none => exact False.elim rd
  | some n => exact ⟨n, rfl, rd⟩
theorem one_all (h : notStar x = true) : [x].all notStar = true := by rw [List.all_cons, h]; rfl
theorem two_all (h : notStar x = true) (h2 : notStar y = true) : [x, y].all notStar = true := by rw [List.all_cons, List.all_cons, h, h2]; rfl
theorem m1_of {apos : Pos} {mn : Str} (hb : noSup o = true) (hs : notStar x = true) (hp : (apos.endLine == pos.line) = true) : M1 X o mn apos x pos :=
  ⟨sup_plain hb, back_few (one_all hs) (by show 1 < 30; decide), hp, by rw [star_cons hs]; rfl⟩
theorem m2_of {apos : Pos} {mn : Str} (hb : noSup o = true) (hs : notStar x = true) (hs2 : notStar y = true) (hp : (apos.endLine == pos.line) = true) : M2 X o mn apos x y pos :=
  ⟨sup_plain hb, back_few (two_all hs hs2) (by show 2 < 30; decide), hp, by rw [star_cons hs, star_cons hs2]; rfl⟩
theorem se_get1 {apos : Pos} (ok : XOk S sc N cm X wx) (ho : PE X o (tE S wx m1)) (hb : noSup o = true) (hk : PE X x (tE S wx m2)) (hs : notStar x = true) (hp : (apos.endLine == pos.line) = true) :
    PE X (.Call (.Attribute o "get" apos) [x] [] pos) (tE S wx (.get m1 m2 .nil)) := by
  have hu : X.A.units + 1 < cLine := by have := ok.un; omega
  refine peImp (pe_dget1 hu ho hk (m1_of hb hs hp)) fun σ H Q ⟨W, hh, s, R, sr, rd⟩ => ⟨W, hh, s, R, sr, rd.bind.imp fun v H1 ⟨d, h1, W1, _, w1, R1, q1, rd1⟩ => ?_⟩
  obtain ⟨p, hp, rd2⟩ := opt_RD rd1
  obtain ⟨a, kvs, rfl, hrd, _, _, _⟩ := isD_of R1 q1 hp
  refine ⟨a, rfl, .inl ⟨kvs, hrd⟩, W1, h1, s, R1, sr.le w1, rd2.bind.imp fun u H2 ⟨kd, h2, W2, _, w2, R2, q2, rd3⟩ => ?_⟩
  obtain ⟨a', e, r⟩ := get_fin (dd := .non) (z := .non) R2 (q1.le w2) q2 rfl rd3
  cases e
  exact r
theorem se_get2 {apos : Pos} (ok : XOk S sc N cm X wx) (ho : PE X o (tE S wx m1)) (hb : noSup o = true) (hk : PE X x (tE S wx m2)) (hy : PE X y (tE S wx m3)) (hs : notStar x = true) (hs2 : notStar y = true) (hp : (apos.endLine == pos.line) = true) :
    PE X (.Call (.Attribute o "get" apos) [x, y] [] pos) (tE S wx (.get m1 m2 (.one m3))) := by
  have hu : X.A.units + 1 < cLine := by have := ok.un; omega
  refine peImp (pe_dget2 hu ho hk hy (m2_of hb hs hs2 hp)) fun σ H Q ⟨W, hh, s, R, sr, rd⟩ => ⟨W, hh, s, R, sr, rd.bind.imp fun v H1 ⟨d, h1, W1, _, w1, R1, q1, rd1⟩ => ?_⟩
  obtain ⟨p, hp, rd2⟩ := opt_RD rd1
  obtain ⟨a, kvs, rfl, hrd, _, _, _⟩ := isD_of R1 q1 hp
  refine ⟨a, rfl, .inl ⟨kvs, hrd⟩, W1, h1, s, R1, sr.le w1, rd2.bind.imp fun u H2 ⟨kd, h2, W2, _, w2, R2, q2, rd3⟩ => ?_⟩
  refine ⟨W2, h2, s, R2, (sr.le w1).le w2, rd3.bind.imp fun z H3 ⟨dd, h3, W3, _, w3, R3, q3, rd4⟩ => ?_⟩
  obtain ⟨a', e, r⟩ := get_fin R3 ((q1.le w2).le w3) (q2.le w3) q3 rd4
  cases e
  exact r

/-! ### isinstance(x, T) -/
def Ty.name : Ty → String
  | .int => "int"
  | .bool => "bool"
  | .str => "str"
  | .tuple => "tuple"
  | .list => "list"
def Ty.text : Ty → Str
  | .int => "int"
  | .bool => "bool"
  | .str => "str"
  | .tuple => "tuple"
  | .list => "list"
theorem ty_boot (T : Ty) : bootBuiltins T.text = some (.type T.name) := by cases T <;> decide +kernel
theorem pe_tyn {T : Ty} {p : Pos} (hg : Gl X T.text) (hm : X.mg T.text = none) : PE X (.Name T.text p) (tC (.ty T.name)) :=
  ⟨fun pins s σ H Q I h => ld_blt I hg hm (ty_boot T) ⟨.ty T.name, H, I, rfl, h⟩ (by cases T <;> decide) (by cases T <;> decide)⟩
def tyOf : Dt → Option String
  | .non => some "NoneType"
  | .bl _ => some "bool"
  | .int _ => some "int"
  | .str _ => some "str"
  | .tup _ => some "tuple"
  | .lst _ => some "list"
  | .frl _ => some "list"
  | _ => none
theorem tyx_of {W : Wd} {h : Hq} {H : Hp} {d : Dt} {v : V} {t : String} (R : S.HR W h H) (q : DH S.K S.ca W H d v) (e : tyOf d = some t) : TyX S.K H v (.type t) := by
  cases d with
  | non => cases e; rw [show v = V.non from q]; exact .base .non
  | bl b => cases e; rw [show v = V.bl b from q]; exact .base (.bl b)
  | int b => cases e; rw [show v = V.int b from q]; exact .base (.int b)
  | str b => cases e; rw [show v = V.str b from q.1]; exact .base (.str b)
  | tup ds =>
    cases e
    obtain ⟨a, vs, rfl, sq, _, _⟩ := q
    rcases R.seqT sq with (z | ⟨o, z⟩) | ⟨o, its, n, z, z2, _⟩
    · exact .base (.tup z)
    · exact .fTuple z
    · exact .kTuple z z2
  | lst ds =>
    cases e
    obtain ⟨a, vs, rfl, sq, _, _⟩ := q
    exact .base (.lst sq)
  | frl ds =>
    cases e
    obtain ⟨a, vs, rfl, sq, _, _⟩ := q
    rcases sq with (z | ⟨o, z⟩) | ⟨o, its, n, z, z2, _⟩
    · exact .base (.lst z)
    · exact .base (.frz z)
    · exact .kList z z2
  | _ => cases e
theorem kit_is {d : Dt} {t : String} (T : Ty) (e : tyOf d = some t) : kitB t T.name = some (isTy d T) := by
  cases d <;> cases T <;> cases e <;> first | (show kitB _ _ = some true; decide +kernel) | (show kitB _ _ = some false; decide +kernel)
theorem se_isin {T : Ty} {p p2 : Pos} (ok : XOk S sc N true X wx) (hg : glB sc "isinstance" = true) (hf : ("isinstance" : Str) ∈ S.G.free) (hg2 : glB sc T.text = true) (hf2 : T.text ∈ S.G.free) (ha : PE X x (tE S wx m)) (hs : notStar x = true) :
    PE X (.Call (.Name "isinstance" p) [x, .Name T.text p2] [] pos) (tE S wx (.isin [T] m)) := by
  have hm : X.mg "isinstance" = none := by rw [ok.mg]; exact ok.ft.free _ hf
  have hm2 : X.mg T.text = none := by rw [ok.mg]; exact ok.ft.free _ hf2
  refine peImp (pe_callB call_isi (glB_ok ok hg) hm (by decide +kernel) (pa_cons ha (pa_cons (pe_tyn (p := p2) (glB_ok ok hg2) hm2) pa_nil (star_cons rfl)) (star_cons hs)) (by decide) (by decide) (star_cons hs) (back_plain (one_all rfl))) fun σ H Q ⟨W, hh, s, R, sr, rd⟩ => ?_
  refine ⟨W, hh, s, R, sr, rd.bind.imp fun v H1 ⟨d, h1, W1, _, w1, R1, q1, rd1⟩ => ?_⟩
  have q := vw_ok R1 q1
  have fin : ∀ {t : String}, tyOf (vw h1 d) = some t → RD S S.DV W1 (.ok (.bl ([T].any (isTy (vw h1 d)))) h1) Q (fun C d H' => wx C d σ H') → rIsi X.K [v, .ty T.name] H1 Q := fun {t} e rd2 => by
    rw [ok.K]
    refine ⟨v, .ty T.name, .type t, .type T.name, isTy (vw h1 d) T, rfl, .ty _, tyx_of R1 q e, kit_ty (kit_is T e), ?_⟩
    have := rd2 _ _ (.bl ([T].any (isTy (vw h1 d)))) (.refl W1) R1 rfl
    simpa using this
  cases hd : vw h1 d with
  | dic _ _ => rw [hd] at rd1; exact False.elim rd1
  | ins _ _ _ => rw [hd] at rd1; exact False.elim rd1
  | ref _ => rw [hd] at rd1; exact False.elim rd1
  | non => rw [hd] at rd1 fin; exact fin rfl rd1
  | bl _ => rw [hd] at rd1 fin; exact fin rfl rd1
  | int _ => rw [hd] at rd1 fin; exact fin rfl rd1
  | str _ => rw [hd] at rd1 fin; exact fin rfl rd1
  | tup _ => rw [hd] at rd1 fin; exact fin rfl rd1
  | lst _ => rw [hd] at rd1 fin; exact fin rfl rd1
  | frl _ => rw [hd] at rd1 fin; exact fin rfl rd1

/-! ### list(..) -/
theorem seq_up {W : Wd} {h : Hq} {H : Hp} {a : Addr} {vs : List V} (R : S.HR W h H) (q : SqL S.K H a vs ∨ SqT S.K W.F a vs) : SqL S.K H a vs ∨ SqT S.K H a vs := q.imp id R.seqT
def notRng : E → Bool
  | .rng _ => false
  | _ => true
theorem lo_ev {b : Bool} (hr : notRng m = true) (s : En) (h : Hq) : S.ev (.listOf b m) s h = (S.ev m s h).bind fun d h1 => (match sqOf (vw h1 d) with | some ds => newL b ds h1 | none => .no) := by
  cases m <;> first | rfl | cases hr
theorem se_listOf {b : Bool} {p : Pos} (ok : XOk S sc N true X wx) (hr : notRng m = true) (hg : glB sc "list" = true) (hf : ("list" : Str) ∈ S.G.free) (ha : PE X x (tE S wx m)) (hs : notStar x = true) : PE X (.Call (.Name "list" p) [x] [] pos) (tE S wx (.listOf b m)) := by
  have hm : X.mg "list" = none := by rw [ok.mg]; exact ok.ft.free _ hf
  refine peImp (pe_callTy call_list_of (glB_ok ok hg) hm (by decide +kernel) (pa_cons ha pa_nil (star_cons hs)) (by decide) (by decide) (star_cons hs) rfl) fun σ H Q ⟨W, hh, s, R, sr, rd⟩ => ?_
  rw [lo_ev hr] at rd
  refine ⟨W, hh, s, R, sr, rd.bind.imp fun v H1 ⟨d, h1, W1, _, w1, R1, q1, rd1⟩ => ?_⟩
  have q := vw_ok R1 q1
  cases hd : sqOf (vw h1 d) with
  | none => rw [hd] at rd1; exact False.elim rd1
  | some ds =>
    rw [hd] at rd1
    obtain ⟨a, vs, rfl, sq, z, dv⟩ := sqOf_ok R1 q hd
    exact ⟨a, vs, rfl, by rw [ok.K]; exact seq_up R1 sq, fun l hl => new_lstM R1 b dv z rd1 hl⟩
theorem rg_DV {W : Wd} : ∀ (l : List Nat) (a : Int), S.DVs W (l.map fun i => .int (a + (i : Nat))) (l.map fun i => V.int (a + (i : Nat)))
  | [], _ => rfl
  | i :: l, a => ⟨_, _, rfl, rfl, rg_DV l a⟩
theorem se_listRg {b : Bool} {p p2 p3 : Pos} (ok : XOk S sc N true X wx) (hg : glB sc "list" = true) (hf : ("list" : Str) ∈ S.G.free) (hg2 : glB sc "range" = true) (hf2 : ("range" : Str) ∈ S.G.free) (ha : PE X x (tE S wx m)) (hs : notStar x = true) :
    PE X (.Call (.Name "list" p) [.Call (.Name "range" p2) [x] [] p3] [] pos) (tE S wx (.listOf b (.rng (.cons m .nil)))) := by
  have hm : X.mg "list" = none := by rw [ok.mg]; exact ok.ft.free _ hf
  have hm2 : X.mg "range" = none := by rw [ok.mg]; exact ok.ft.free _ hf2
  refine peImp (pe_listRg (ok.cm rfl).1 (glB_ok ok hg) hm (prg_1 (glB_ok ok hg2) hm2 ha (star_cons hs))) fun σ H Q ⟨W, hh, s, R, sr, rd⟩ => ?_
  have rd : RD S S.DV W (((S.ev m s hh).bind fun d h1 => Res.ok [d] h1).bind fun ds h1 => (match ds with
        | [.int j] => if decide (-(2 ^ 62) ≤ j) && decide (j ≤ 16777216) then newL b (rangeD 0 j) h1 else .no
        | _ => .no)) Q (fun C d H' => wx C d σ H') := rd
  rw [bind_assoc'] at rd
  refine ⟨W, hh, s, R, sr, rd.bind.imp fun v H1 ⟨d, h1, W1, _, w1, R1, q1, rd1⟩ => ?_⟩
  cases d with
  | int j =>
    have rd2 : RD S S.DV W1 (if (decide (-(2 ^ 62) ≤ j) && decide (j ≤ 16777216)) = true then newL b (rangeD 0 j) h1 else .no) Q (fun C d H' => wx C d σ H') := rd1
    split at rd2
    · rename_i hc
      obtain ⟨c1, c2⟩ := and2 hc
      have c1 := of_decide_eq_true c1
      have c2 := of_decide_eq_true c2
      refine ⟨j, q1, ⟨by omega, by omega, by omega, by omega, by omega⟩, fun l hl => ?_⟩
      refine new_lstM (vs := rgV 0 j) R1 b (rg_DV _ 0) ?_ rd2 hl
      rw [rgV_length, sizeLine_eq]; omega
    · exact False.elim rd2
  | _ => exact False.elim rd1

/-! ### a < b < c -/
theorem marks_plain {op op' : CmpOp} (h : notSet y = true) (h2 : notSet z = true) : lastMarks [op, op'] [y, z] = false := by
  cases z <;> cases y <;> first | rfl | (cases h2; done) | (cases h; done)
theorem chain_RD {op op' : CmpOp} {σ : L2.St} {H : Hp} {W : Wd} {h : Hq} {s : En} {Q : VK} (ok : XOk S sc N cm X wx) (R : S.HR W h H) (sr : S.SR W s σ)
    (rd : RD S S.DV W (S.ev (.chain op op' m1 m2 m3) s h) Q (fun C d H' => wx C d σ H')) :
    tChain (rCmp X.K op) (rCmp X.K op') (tE S wx m1) (tE S wx m2) (tE S wx m3) σ H Q := by
  have rd : RD S S.DV W ((S.ev m1 s h).bind fun d h1 => (S.ev m2 s h1).bind fun e h2 => (Res.opt h2 (cmpD op (vw h2 d) (vw h2 e))).bind fun c h3 =>
      if c then (S.ev m3 s h3).bind fun g h4 => (Res.opt h4 (cmpD op' (vw h4 e) (vw h4 g))).bind fun c' h5 => .ok (.bl c') h5 else .ok (.bl false) h3) Q (fun C d H' => wx C d σ H') := rd
  refine ⟨W, h, s, R, sr, rd.bind.imp fun x H1 ⟨d, h1, W1, _, w1, R1, q1, rd1⟩ => ?_⟩
  refine ⟨W1, h1, s, R1, sr.le w1, rd1.bind.imp fun y H2 ⟨e, h2, W2, _, w2, R2, q2, rd2⟩ => ?_⟩
  obtain ⟨c, hc, rd3⟩ := opt_RD rd2
  rw [ok.K]
  refine cmp_ok R2 (vw_ok R2 (q1.le w2)) (vw_ok R2 q2) hc ⟨c, rfl, ?_⟩
  cases c with
  | false => exact rd3 _ _ _ (.refl W2) R2 rfl
  | true =>
    refine ⟨W2, h2, s, R2, (sr.le w1).le w2, ?_⟩
    refine (show RD S S.DV W2 ((S.ev m3 s h2).bind fun g h4 => (Res.opt h4 (cmpD op' (vw h4 e) (vw h4 g))).bind fun c' h5 => .ok (.bl c') h5) Q (fun C d H' => wx C d σ H') from rd3).bind.imp fun g' H4 ⟨g, h4, W4, _, w4, R4, q4, rd4⟩ => ?_
    obtain ⟨c', hc', rd5⟩ := opt_RD rd4
    exact cmp_ok R4 (vw_ok R4 (q2.le w4)) (vw_ok R4 q4) hc' (rd5 _ _ (.bl c') (.refl W4) R4 rfl)
theorem se_chain {op op' : CmpOp} (ok : XOk S sc N cm X wx) (ha : PE X x (tE S wx m1)) (hb : PE X y (tE S wx m2)) (hc : PE X z (tE S wx m3)) (hs : notSet y = true) (hs2 : notSet z = true) : PE X (.Compare x [op, op'] [y, z] pos) (tE S wx (.chain op op' m1 m2 m3)) :=
  peImp (pe_chain (op_cmp ok.un op) (op_cmp ok.un op') ha hb hc (marks_plain hs hs2)) fun σ H Q ⟨W, hh, s, R, sr, rd⟩ => chain_RD ok R sr rd
theorem st_chain {op op' : CmpOp} (ok : XOk S sc N cm X wx) (ha : PE X x (tE S wx m1)) (hb : PE X y (tE S wx m2)) (hc : PE X z (tE S wx m3)) (hs : notSet y = true) (hs2 : notSet z = true) : PT X (.Compare x [op, op'] [y, z] pos) (tT S wx (.chain op op' m1 m2 m3)) :=
  ptImp (pt_chain (op_cmp ok.un op) (op_cmp ok.un op') ha hb hc (marks_plain hs hs2)) fun σ H Q ⟨W, hh, s, R, sr, rd⟩ => chain_RD (Q := fun v H' => ∃ k, v = .bl k ∧ Q k H') ok R sr (asB_RD rd)
end
end Vm

/-! Vm, part 10: what is walked. Own text. -/
namespace Vm
open PySem L2 PySem.Spec PyProof.Rows

def Wd.sub (W W' : Wd) : Prop := (∀ a o, W.F a = some o → W'.F a = some o) ∧ ∃ l, W'.ι = W.ι ++ l
theorem Wd.le.sub {W W' : Wd} (w : W.le W') : W.sub W' := ⟨w.1, w.2.1⟩
theorem Wd.sub.trans {A B C : Wd} (x : A.sub B) (y : B.sub C) : A.sub C := by
  obtain ⟨x1, ⟨l, e⟩⟩ := x
  obtain ⟨y1, ⟨m, f⟩⟩ := y
  exact ⟨fun a o q => y1 a o (x1 a o q), ⟨l ++ m, by rw [f, e, List.append_assoc]⟩⟩
theorem Wd.sub.get {A B : Wd} (x : A.sub B) {n : Nat} {a : Addr} (e : A.ι[n]? = some a) : B.ι[n]? = some a := by
  obtain ⟨_, ⟨l, q⟩⟩ := x
  rw [q, List.getElem?_append_left (List.getElem?_eq_some_iff.mp e).1]
  exact e
section
variable {K : PySem.W.Frag} {ca : Nat → Addr}
theorem DV.sub {W W' : Wd} (w : W.sub W') {d : Dt} {v : V} (h : DV K ca W d v) : DV K ca W' d v := DV.mono' w.1 d v (.inr fun _ _ e => w.get e) h
theorem DVs.sub {W W' : Wd} (w : W.sub W') {d : List Dt} {v : List V} (h : DVs K ca W d v) : DVs K ca W' d v := DVs.mono' w.1 d v (.inr fun _ _ e => w.get e) h
theorem SR.sub {W W' : Wd} (w : W.sub W') {s : En} {σ : L2.St} (h : SR K ca W s σ) : SR K ca W' s σ := ⟨h.1, fun i d e => by
  obtain ⟨v, e1, q⟩ := h.2 i d e
  exact ⟨v, e1, q.sub w⟩⟩
end
/-- what J gives, nx gives -/
structure Walk0 (S : Sc) (J : It) (nx : Hq → Nat → Option (Option Dt)) (W0 : Wd) : Prop where
  go : ∀ (W : Wd) (h : Hq) (H : Hp) (i : Nat) (d : Dt), W0.sub W → S.HR W h H → nx h i = some (some d) → J.go i H ∧ ∀ x H', J.yld i H x H' → ∃ W', W.le W' ∧ S.HR W' h H' ∧ S.DV W' d x
  stop : ∀ (W : Wd) (h : Hq) (H : Hp) (i : Nat), W0.sub W → S.HR W h H → nx h i = some none → J.stop i H
/-- .. at turns that cl knows -/
structure Walk (S : Sc) (J : It) (nx : Hq → Nat → Option (Option Dt)) (cl : Nat → Prop) (W0 : Wd) : Prop where
  c0 : cl 0
  go : ∀ (W : Wd) (h : Hq) (H : Hp) (i : Nat) (d : Dt), cl i → W0.sub W → S.HR W h H → nx h i = some (some d) → cl (i + 1) ∧ J.go i H ∧ ∀ x H', J.yld i H x H' → ∃ W', W.le W' ∧ S.HR W' h H' ∧ S.DV W' d x
  stop : ∀ (W : Wd) (h : Hq) (H : Hp) (i : Nat), cl i → W0.sub W → S.HR W h H → nx h i = some none → J.stop i H
theorem Walk0.walk {S : Sc} {J : It} {nx : Hq → Nat → Option (Option Dt)} {W0 : Wd} (w : Walk0 S J nx W0) : ∃ cl, Walk S J nx cl W0 :=
  ⟨fun _ => True, trivial, fun W h H i d _ u R e => ⟨trivial, w.go W h H i d u R e⟩, fun W h H i _ u R e => w.stop W h H i u R e⟩
def rW (S : Sc) : Wd → Wk → It → Prop := fun W w J => ∃ cl, Walk S J w.nx cl W
section
variable (S : Sc) (wx : WX)
def tI (m : E) : TI := fun σ H R => ∃ W h s, S.HR W h H ∧ S.SR W s σ ∧ RD S (rW S) W (S.evi m s h) R (fun C d H' => wx C d σ H')
end
section
variable {S : Sc} {wx : WX} {X : Cx} {pos p : Pos} {a c e x y z tg iter : Expr} {es : List Expr} {m m1 m2 m3 : E} {sc : Scope} {N : List Str} {cm : Bool}
theorem piImp {t t' : TI} (h : PI X tg iter t) (k : ∀ σ H R, t' σ H R → t σ H R) : PI X tg iter t' := ⟨fun pins s σ H R I q => h.run pins s σ H R I (k σ H R q)⟩

theorem walk_rng {a : Int} {n : Nat} {W0 : Wd} : Walk0 S (Itr a n) (nxL ((List.range n).map fun (i : Nat) => .int (a + (i : Nat)))) W0 where
  go := fun W h H i d _ R e => by
    have e : ((List.range n).map fun (i : Nat) => Dt.int (a + (i : Nat)))[i]? = some d := Option.some.inj e
    rw [List.getElem?_map] at e
    have hi : i < n := by
      rcases Nat.lt_or_ge i n with z | z
      · exact z
      · rw [List.getElem?_eq_none (by rw [List.length_range]; exact z)] at e; cases e
    rw [List.getElem?_range hi] at e
    cases e
    exact ⟨hi, fun x H' ⟨e1, e2⟩ => by subst e1; exact ⟨W, .refl W, R, e2⟩⟩
  stop := fun W h H i _ R e => by
    have e : ((List.range n).map fun (i : Nat) => Dt.int (a + (i : Nat)))[i]? = none := Option.some.inj e
    rw [List.getElem?_eq_none_iff, List.length_map, List.length_range] at e
    exact e
theorem walk_rngC {a c : Int} {n : Nat} {W0 : Wd} : Walk0 S (Itc a c n) (nxL ((List.range n).map fun (i : Nat) => .int (a + (i : Int) * c))) W0 where
  go := fun W h H i d _ R e => by
    have e : ((List.range n).map fun (i : Nat) => Dt.int (a + (i : Int) * c))[i]? = some d := Option.some.inj e
    rw [List.getElem?_map] at e
    have hi : i < n := by
      rcases Nat.lt_or_ge i n with z | z
      · exact z
      · rw [List.getElem?_eq_none (by rw [List.length_range]; exact z)] at e; cases e
    rw [List.getElem?_range hi] at e
    cases e
    exact ⟨hi, fun x H' ⟨e1, e2⟩ => by subst e1; exact ⟨W, .refl W, R, e2⟩⟩
  stop := fun W h H i _ R e => by
    have e : ((List.range n).map fun (i : Nat) => Dt.int (a + (i : Int) * c))[i]? = none := Option.some.inj e
    rw [List.getElem?_eq_none_iff, List.length_map, List.length_range] at e
    exact e
theorem walk_seq {l : Addr} {ds : List Dt} {vs : List V} {W0 : Wd} (dv : S.DVs W0 ds vs) (q : ∀ (W : Wd) (h : Hq) (H : Hp), W0.sub W → S.HR W h H → SqL S.K H l vs) : Walk0 S (Itl S.K l) (nxL ds) W0 where
  go := fun W h H i d w R e => by
    have e : ds[i]? = some d := Option.some.inj e
    obtain ⟨v, e1, r⟩ := dv.get e
    exact ⟨⟨vs, v, q W h H w R, e1⟩, fun x H' ⟨e2, e3⟩ => by
      subst e2
      have := e3 vs (q W h _ w R)
      rw [e1] at this
      cases this
      exact ⟨W, .refl W, R, r.sub w⟩⟩
  stop := fun W h H i w R e => by
    have e : ds[i]? = none := Option.some.inj e
    exact ⟨vs, q W h H w R, by rw [← dv.len]; exact List.getElem?_eq_none_iff.mp e⟩
theorem walk_tup {l : Addr} {ds : List Dt} {vs : List V} {W0 : Wd} (dv : S.DVs W0 ds vs) (q : ∀ (W : Wd) (h : Hq) (H : Hp), W0.sub W → S.HR W h H → SqT S.K H l vs) : Walk0 S (Itt S.K l) (nxL ds) W0 where
  go := fun W h H i d w R e => by
    have e : ds[i]? = some d := Option.some.inj e
    obtain ⟨v, e1, r⟩ := dv.get e
    exact ⟨⟨vs, v, q W h H w R, e1⟩, fun x H' ⟨e2, e3⟩ => by
      subst e2
      have := e3 vs (q W h _ w R)
      rw [e1] at this
      cases this
      exact ⟨W, .refl W, R, r.sub w⟩⟩
  stop := fun W h H i w R e => by
    have e : ds[i]? = none := Option.some.inj e
    exact ⟨vs, q W h H w R, by rw [← dv.len]; exact List.getElem?_eq_none_iff.mp e⟩
theorem walk_str {x : Str} {W0 : Wd} : Walk0 S (Its x) (nxL (x.cps.toList.map fun c => .str ⟨#[c]⟩)) W0 where
  go := fun W h H i d w R e => by
    have e : (x.cps.toList.map fun c => Dt.str ⟨#[c]⟩)[i]? = some d := Option.some.inj e
    rw [List.getElem?_map, Array.getElem?_toList] at e
    cases hx : x.cps[i]? with
    | none => rw [hx] at e; cases e
    | some c =>
      rw [hx] at e
      cases e
      exact ⟨(Array.getElem?_eq_some_iff.mp hx).1, fun v H' ⟨e2, c', e3, e4⟩ => by
        subst e2
        rw [hx] at e3
        cases e3
        exact ⟨W, .refl W, R, e4, str1_len c⟩⟩
  stop := fun W h H i w R e => by
    have e : (x.cps.toList.map fun c => Dt.str ⟨#[c]⟩)[i]? = none := Option.some.inj e
    rw [List.getElem?_map, Array.getElem?_toList] at e
    cases hx : x.cps[i]? with
    | none => exact Array.getElem?_eq_none_iff.mp hx
    | some c => rw [hx] at e; cases e
theorem walk_cel {n : Nat} {a : Addr} {W0 : Wd} (ha : W0.ι[n]? = some a) : Walk0 S (Itl S.K a) (nxC n) W0 where
  go := fun W h H i d w R e => by
    unfold nxC at e
    split at e
    · rename_i ds hn
      have e : ds[i]? = some d := Option.some.inj e
      obtain ⟨vs, hH, z, dv⟩ := cell_lst R hn (w.get ha)
      obtain ⟨v, e1, r⟩ := (at_up dv).get e
      exact ⟨⟨vs, v, SqL.of hH, e1⟩, fun x H' ⟨e2, e3⟩ => by
        subst e2
        have := e3 vs (SqL.of hH)
        rw [e1] at this
        cases this
        exact ⟨W, .refl W, R, r⟩⟩
    · cases e
  stop := fun W h H i w R e => by
    unfold nxC at e
    split at e
    · rename_i ds hn
      have e : ds[i]? = none := Option.some.inj e
      obtain ⟨vs, hH, z, dv⟩ := cell_lst R hn (w.get ha)
      exact ⟨vs, SqL.of hH, by rw [← dv.len]; exact List.getElem?_eq_none_iff.mp e⟩
    · cases e

/-! ### range -/
theorem star_one (hs : notStar x = true) (env : Env) : starEach [x] env = [(false, eval x env)] := star_cons hs
theorem int_of {W : Wd} {d : Dt} {v : V} {i : Int} (e : d = .int i) (q : S.DV W d v) : v = .int i := by
  subst e
  exact q
theorem si_rng1 (ok : XOk S sc N cm X wx) (hg : glB sc "range" = true) (hf : ("range" : Str) ∈ S.G.free) (ha : PE X x (tE S wx m)) (hs : notStar x = true) : PI X tg (.Call (.Name "range" p) [x] [] pos) (tI S wx (.rng (.cons m .nil))) := by
  refine piImp (pi_range1 (glB_ok ok hg) (by rw [ok.mg]; exact ok.ft.free _ hf) (pa_cons ha pa_nil (star_cons hs)) (star_one hs _)) fun σ H R ⟨W, hh, s, hr, sr, rd⟩ => ⟨W, hh, s, hr, sr, ?_⟩
  have rd : RD S (rW S) W (((S.ev m s hh).bind fun d h1 => Res.ok [d] h1).bind fun ds h1 => (Res.opt h1 (rngD ds)).bind fun l h2 => .ok (.its l) h2) R (fun C d H' => wx C d σ H') := rd
  rw [bind_assoc'] at rd
  refine rd.bind.imp fun v H1 ⟨d, h1, W1, _, w1, R1, q1, rd1⟩ => ?_
  obtain ⟨l, hl, rd2⟩ := opt_RD (show RD S (rW S) W1 ((Res.opt h1 (rngD [d])).bind fun l h2 => .ok (.its l) h2) R (fun C d H' => wx C d σ H') from rd1)
  cases d with
  | int j =>
    obtain ⟨hb, rfl⟩ := ite_some hl
    obtain ⟨b1, b2⟩ := and2 hb
    have w : Walk0 S (Itr 0 j.toNat) (Wk.its (rangeD 0 j)).nx W1 := by
      show Walk0 S _ (nxL ((List.range (j - 0).toNat).map fun i => .int (0 + (i : Nat)))) W1
      rw [Int.sub_zero]
      exact walk_rng
    exact ⟨j, by rw [show v = V.int j from q1], of_decide_eq_true b1, of_decide_eq_true b2, rd2 W1 H1 _ (.refl W1) R1 w.walk⟩
  | _ => cases hl
theorem si_rng2 (ok : XOk S sc N cm X wx) (hg : glB sc "range" = true) (hf : ("range" : Str) ∈ S.G.free) (ha : PE X x (tE S wx m1)) (hb : PE X y (tE S wx m2)) (hs : notStar x = true) (hs2 : notStar y = true) : PI X tg (.Call (.Name "range" p) [x, y] [] pos) (tI S wx (.rng (.cons m1 (.cons m2 .nil)))) := by
  refine piImp (pi_range2 (glB_ok ok hg) (by rw [ok.mg]; exact ok.ft.free _ hf) (pa_cons ha (pa_cons hb pa_nil (star_cons hs2)) (star_cons hs)) (by rw [star_cons hs, star_one hs2]) (star_one hs2 _)) fun σ H R ⟨W, hh, s, hr, sr, rd⟩ => ⟨W, hh, s, hr, sr, ?_⟩
  have rd : RD S (rW S) W (((S.ev m1 s hh).bind fun d h1 => ((S.ev m2 s h1).bind fun e h2 => Res.ok [e] h2).bind fun ds h3 => Res.ok (d :: ds) h3).bind fun ds h1 => (Res.opt h1 (rngD ds)).bind fun l h2 => .ok (.its l) h2) R (fun C d H' => wx C d σ H') := rd
  rw [bind_assoc'] at rd
  refine rd.bind.imp fun v H1 ⟨d, h1, W1, _, w1, R1, q1, rd1⟩ => ?_
  rw [bind_assoc', bind_assoc'] at rd1
  refine ⟨W1, h1, s, R1, SR.le w1 sr, rd1.bind.imp fun v2 H2 ⟨e, h2, W2, _, w2, R2, q2, rd2⟩ => ?_⟩
  have q1 := DV.le w2 q1
  obtain ⟨l, hl, rd3⟩ := opt_RD (show RD S (rW S) W2 ((Res.opt h2 (rngD [d, e])).bind fun l h2 => .ok (.its l) h2) R (fun C d H' => wx C d σ H') from rd2)
  cases d with
  | int i =>
    cases e with
    | int j =>
      obtain ⟨hb, rfl⟩ := ite_some hl
      obtain ⟨b1, b2⟩ := and2 hb
      obtain ⟨b1, b3⟩ := and2 b1
      obtain ⟨b2, b4⟩ := and2 b2
      exact ⟨i, j, by rw [show v = V.int i from q1, show v2 = V.int j from q2], ⟨of_decide_eq_true b1, of_decide_eq_true b3, of_decide_eq_true b2, of_decide_eq_true b4⟩, rd3 W2 H2 _ (.refl W2) R2 walk_rng.walk⟩
    | _ => cases hl
  | _ => cases hl
theorem rgC_pos {i j c : Int} (h1 : 0 ≤ i) (h2 : i < 1000000) (h3 : 0 ≤ j) (h4 : j < 1000000) (h5 : 0 < c) (h6 : c < 1000000) : RgC i j c (cntC i j c) := by
  have hd : i < j → 0 ≤ (j - i - 1) / c ∧ (j - i - 1) / c ≤ 1000000 := fun z => ⟨Int.ediv_nonneg (by omega) (by omega), Int.le_trans (Int.ediv_le_self _ (by omega)) (by omega)⟩
  have hs : Builtin.Range.rangeSize i j c = (cntC i j c : Int) := by
    unfold Builtin.Range.rangeSize cntC
    rw [if_pos (by omega)]
    by_cases z : i < j
    · have := hd z
      rw [if_pos z, if_pos z]
      omega
    · rw [if_neg z, if_neg z]; rfl
  have hn : (cntC i j c : Int) ≤ 1000001 := by
    unfold cntC
    by_cases z : i < j
    · have := hd z
      rw [if_pos z]
      omega
    · rw [if_neg z]; decide
  refine ⟨by omega, by omega, ?_, hs⟩
  unfold Builtin.Range.small
  rw [hs]
  have hn0 : 0 ≤ (cntC i j c : Int) := by omega
  generalize (cntC i j c : Int) = n at *
  simp only [Builtin.Range.rangeFitsLong, Bool.and_eq_true, Bool.or_eq_true, decide_eq_true_eq, beq_iff_eq, if_pos (show c > 0 by omega)]
  omega
theorem si_rng3 (ok : XOk S sc N cm X wx) (hg : glB sc "range" = true) (hf : ("range" : Str) ∈ S.G.free) (ha : PE X x (tE S wx m1)) (hb : PE X y (tE S wx m2)) (hc : PE X z (tE S wx m3)) (hs : notStar x = true) (hs2 : notStar y = true) (hs3 : notStar z = true) :
    PI X tg (.Call (.Name "range" p) [x, y, z] [] pos) (tI S wx (.rng (.cons m1 (.cons m2 (.cons m3 .nil))))) := by
  refine piImp (pi_range3 (glB_ok ok hg) (by rw [ok.mg]; exact ok.ft.free _ hf) (pa_cons ha (pa_cons hb (pa_cons hc pa_nil (star_cons hs3)) (star_cons hs2)) (star_cons hs)) (star_cons hs) (back_plain (two_all hs2 hs3))) fun σ H R ⟨W, hh, s, hr, sr, rd⟩ => ⟨W, hh, s, hr, sr, ?_⟩
  have rd : RD S (rW S) W (((S.ev m1 s hh).bind fun d h1 => ((S.ev m2 s h1).bind fun e h2 => ((S.ev m3 s h2).bind fun g h3 => Res.ok [g] h3).bind fun ds h4 => Res.ok (e :: ds) h4).bind fun ds h3 => Res.ok (d :: ds) h3).bind fun ds h1 => (Res.opt h1 (rngD ds)).bind fun l h2 => .ok (.its l) h2) R (fun C d H' => wx C d σ H') := rd
  rw [bind_assoc'] at rd
  refine rd.bind.imp fun v H1 ⟨d, h1, W1, _, w1, R1, q1, rd1⟩ => ?_
  rw [bind_assoc', bind_assoc'] at rd1
  refine ⟨W1, h1, s, R1, SR.le w1 sr, rd1.bind.imp fun v2 H2 ⟨e, h2, W2, _, w2, R2, q2, rd2⟩ => ?_⟩
  rw [bind_assoc', bind_assoc'] at rd2
  refine ⟨W2, h2, s, R2, SR.le w2 (SR.le w1 sr), rd2.bind.imp fun v3 H3 ⟨g, h3, W3, _, w3, R3, q3, rd3⟩ => ?_⟩
  have q1 := DV.le w3 (DV.le w2 q1)
  have q2 := DV.le w3 q2
  obtain ⟨l, hl, rd4⟩ := opt_RD (show RD S (rW S) W3 ((Res.opt h3 (rngD [d, e, g])).bind fun l h2 => .ok (.its l) h2) R (fun C d H' => wx C d σ H') from rd3)
  cases d with
  | int i =>
    cases e with
    | int j =>
      cases g with
      | int c =>
        have hl : (if (bnd62 i && bnd62 j && decide (c = -1)) = true then some ((List.range (i - j).toNat).map fun (k : Nat) => Dt.int (i + (k : Int) * (-1))) else
          if ((decide (0 ≤ i) && decide (i < 1000000) && decide (0 ≤ j) && decide (j < 1000000)) && (decide (0 < c) && decide (c < 1000000))) = true then some ((List.range (cntC i j c)).map fun (k : Nat) => Dt.int (i + (k : Int) * c)) else none) = some l := hl
        split at hl
        · rename_i hb
          cases hl
          obtain ⟨b1, b5⟩ := and2 hb
          obtain ⟨b1, b2⟩ := and2 b1
          obtain ⟨b1, b3⟩ := and2 b1
          obtain ⟨b2, b4⟩ := and2 b2
          have b5 := of_decide_eq_true b5
          subst b5
          exact ⟨i, j, -1, (i - j).toNat, by rw [show v = V.int i from q1, show v2 = V.int j from q2, show v3 = V.int (-1) from q3], RgC.neg (of_decide_eq_true b1) (of_decide_eq_true b3) (of_decide_eq_true b2) (of_decide_eq_true b4), rd4 W3 H3 _ (.refl W3) R3 walk_rngC.walk⟩
        · obtain ⟨hb, rfl⟩ := ite_some hl
          obtain ⟨b1, b2⟩ := and2 hb
          obtain ⟨b1, b3⟩ := and2 b1
          obtain ⟨b1, b4⟩ := and2 b1
          obtain ⟨b1, b5⟩ := and2 b1
          obtain ⟨b2, b6⟩ := and2 b2
          exact ⟨i, j, c, cntC i j c, by rw [show v = V.int i from q1, show v2 = V.int j from q2, show v3 = V.int c from q3], rgC_pos (of_decide_eq_true b1) (of_decide_eq_true b5) (of_decide_eq_true b4) (of_decide_eq_true b3) (of_decide_eq_true b2) (of_decide_eq_true b6), rd4 W3 H3 _ (.refl W3) R3 walk_rngC.walk⟩
      | _ => cases hl
    | _ => cases hl
  | _ => cases hl

/-! ### a list, a tuple, a text -/
def iAny (K : PySem.W.Frag) (tl : TE) : TI := fun σ H R => tl σ H fun x H1 => (∃ a, x = .ref a ∧ (∃ xs, SqL K H1 a xs) ∧ R (Itl K a) H1) ∨ (∃ a, x = .ref a ∧ (∃ xs, SqT K H1 a xs) ∧ R (Itt K a) H1) ∨ ∃ s, x = .str s ∧ R (Its s) H1
/-- a value for an expression that has been evaluated: iter of it -/
theorem pi_any {l : Expr} {tl : TE} (hl : PE X l tl) : PI X tg l (iAny X.K tl) := by
  refine ⟨fun pins s σ H R I h => ?_⟩
  refine thn (hl.run pins s σ H _ I h) fun v s1 ⟨x, H1, I1, r1, q1⟩ => ?_
  rcases q1 with ⟨a, e, ⟨xs, hq⟩, q⟩ | ⟨a, e, ⟨xs, hq⟩, q⟩ | ⟨st, e, q⟩
  · subst e
    cases r1
    obtain ⟨its, rv, p, hz⟩ := I1.list hq
    refine wpAny_pyIter_list p.isList ?_
    exact pi_one (tk := s1.toks) I1 _ (turn_list a _) ⟨_, Heap.get?_push_size _ rfl, rfl, rfl⟩ q
  · subst e
    cases r1
    obtain ⟨its, rv, p, hz⟩ := I1.tuple hq
    refine wpAny_pyIter_tuple (show s1.heap.IsTuple a its.toArray from p) ?_
    exact pi_one (tk := s1.toks) I1 _ (turn_tuple a _) ⟨_, Heap.get?_push_size _ rfl, rfl, rfl⟩ q
  · subst e
    obtain ⟨t, rfl⟩ := r1
    cases ha : st.cps.all (· < 128)
    · exact wpAny_pyIter_wide ha (pi_one (tk := s1.toks) I1 _ (turn_str _ st t "str_iterator" (.inr rfl)) ⟨_, Heap.get?_push_size _ rfl, rfl, rfl⟩ q)
    · exact wpAny_pyIter_ascii ha (pi_one (tk := s1.toks) I1 _ (turn_str _ st t "str_ascii_iterator" (.inl rfl)) ⟨_, Heap.get?_push_size _ rfl, rfl, rfl⟩ q)
theorem si_any (ok : XOk S sc N cm X wx) (ha : PE X x (tE S wx m)) : PI X tg x (tI S wx (.one m)) := by
  refine piImp (pi_any ha) fun σ H R ⟨W, hh, s, hr, sr, rd⟩ => ⟨W, hh, s, hr, sr, ?_⟩
  have rd : RD S (rW S) W ((S.ev m s hh).bind fun d h1 => .opt h1 (walkD h1 d)) R (fun C d H' => wx C d σ H') := rd
  refine rd.bind.imp fun v H1 ⟨d, h1, W1, _, w1, R1, q1, rd1⟩ => ?_
  obtain ⟨w, hw, rd2⟩ := rd1.opt
  rw [ok.K]
  cases d with
  | tup ds =>
    cases hw
    obtain ⟨a, vs, rfl, sq, z, dv⟩ := q1
    exact .inr (.inl ⟨a, rfl, ⟨vs, R1.seqT sq⟩, rd2 W1 H1 _ (.refl W1) R1 (walk_tup dv fun W h H w R => R.seqT (SqT.le w.1 sq)).walk⟩)
  | lst ds =>
    cases hw
    obtain ⟨a, vs, rfl, sq, z, dv⟩ := q1
    exact .inl ⟨a, rfl, ⟨vs, SqL.of (R1.lstF sq)⟩, rd2 W1 H1 _ (.refl W1) R1 (walk_seq dv fun W h H w R => SqL.of (R.lstF (w.1 _ _ sq))).walk⟩
  | frl ds =>
    cases hw
    obtain ⟨a, vs, rfl, sq, z, dv⟩ := q1
    exact .inl ⟨a, rfl, ⟨vs, R1.seqL sq⟩, rd2 W1 H1 _ (.refl W1) R1 (walk_seq dv fun W h H w R => R.seqL (SqL.le w.1 sq)).walk⟩
  | str x =>
    cases hw
    exact .inr (.inr ⟨x, q1.1, rd2 W1 H1 _ (.refl W1) R1 walk_str.walk⟩)
  | ref n =>
    obtain ⟨a, rfl, ha⟩ := q1
    have hw : (match h1[n]? with | some (.lst _) => some (Wk.cel n) | _ => none) = some w := hw
    split at hw
    · rename_i ds hn
      cases hw
      obtain ⟨vs, hH, z, dv⟩ := cell_lst R1 hn ha
      exact .inl ⟨a, rfl, ⟨vs, SqL.of hH⟩, rd2 W1 H1 _ (.refl W1) R1 (walk_cel ha).walk⟩
    · cases hw
  | _ => cases hw

/-! ### enumerate, zip -/
theorem enumD_get : ∀ (ds : List Dt) (k i : Nat), (enumD k ds)[i]? = (ds[i]?).map fun d => .tup [.int ((k + i : Nat) : Int), d]
  | [], _, _ => by simp [enumD]
  | d :: ds, k, 0 => by simp [enumD]
  | d :: ds, k, i + 1 => by
    have := enumD_get ds (k + 1) i
    rw [show k + 1 + i = k + (i + 1) by omega] at this
    simpa [enumD] using this
theorem zipD_get : ∀ (ds es : List Dt) (i : Nat), (zipD ds es)[i]? = (match ds[i]?, es[i]? with | some d, some e => some (.tup [d, e]) | _, _ => none)
  | [], es, i => by simp [zipD]
  | d :: ds, [], i => by
    simp only [zipD, List.getElem?_nil]
    split
    · rename_i h; cases h
    · rfl
  | d :: ds, e :: es, 0 => by simp [zipD]
  | d :: ds, e :: es, i + 1 => by simpa [zipD] using zipD_get ds es i
theorem newT {W : Wd} {h : Hq} {H : Hp} {ds : List Dt} {vs : List V} {T : Addr} (R : S.HR W h H) (q : S.DVs W ds vs) (z : vs.length ≤ sizeLine) (hT : H T = none) : ∃ W', W.le W' ∧ S.HR W' h (upd H T (.tup vs)) ∧ S.DV W' (.tup ds) (.ref T) := by
  obtain ⟨R', w⟩ := R.newF (o := .tup vs) hT
  exact ⟨_, w, R', T, vs, rfl, SqT.of upd_same, z, q.le w⟩
end
end Vm

/-! Vm, part 10b: enumerate and zip of lists and tuples, in any mix. Own text. -/
namespace Vm
open PySem L2 PySem.Spec PyProof.Rows

/-- a list, or a tuple -/
inductive Kd where
  | l | t
def SqK (K : PySem.W.Frag) : Kd → Hp → Addr → List V → Prop
  | .l => SqL K
  | .t => SqT K
def SrcIs : Kd → Heap → Addr → Array Value → Prop
  | .l => fun h a its => h.IsList a its
  | .t => fun h a its => h.IsTuple a its
def IterIs : Kd → Heap → Addr → Addr → Nat → Prop
  | .l => fun h it a i => h.IsListIter it a i
  | .t => fun h it a i => h.IsTupleIter it a i
def iterOb : Kd → Addr → Obj
  | .l, a => { cls := .type "list_iterator", data := .fields #[.ref a, .int 0 0] }
  | .t, a => { cls := .type "tuple_iterator", data := .fields #[.ref a, .int 0 0] }
section
variable {X : Cx} {pins : List (Addr × Obj)} {σ : L2.St} {H : Hp} {s : Shared}
theorem src_of (I : Inv X pins σ H s) : ∀ {k : Kd} {a : Addr} {xs : List V}, SqK X.K k H a xs → ∃ its : List Value, Vals xs its ∧ SrcIs k s.heap a its.toArray
  | .l, a, xs, h => let ⟨its, rv, p, _⟩ := I.list h; ⟨its, rv, p.isList⟩
  | .t, a, xs, h => let ⟨its, rv, p, _⟩ := I.tuple h; ⟨its, rv, (show s.heap.IsTuple a its.toArray from p)⟩
theorem inj_of (I : Inv X pins σ H s) : ∀ {k : Kd} {a : Addr} {xs ys : List V}, SqK X.K k H a xs → SqK X.K k H a ys → xs = ys
  | .l, _, _, _, h, g => I.list_inj h g
  | .t, _, _, _, h, g => I.tuple_inj h g
theorem src_lt : ∀ {k : Kd} {h : Heap} {a : Addr} {its : Array Value}, SrcIs k h a its → a < h.objs.size
  | .l, _, _, _, ⟨_, e, _⟩ => Heap.lt_size e
  | .t, _, _, _, ⟨_, e, _⟩ => Heap.lt_size e
theorem src_keep : ∀ {k : Kd} {h h' : Heap} {a : Addr} {its : Array Value}, SrcIs k h a its → (∀ o, h.get? a = some o → h'.get? a = some o) → SrcIs k h' a its
  | .l, _, _, _, _, x, k => x.at fun o e => k o e
  | .t, _, _, _, _, x, k => x.at fun o e => k o e
theorem iter_obj : ∀ {k : Kd} {h : Heap} {it a : Addr} {i : Nat}, IterIs k h it a i → ∃ o, h.get? it = some o ∧ ∀ v, o.data ≠ .cell v
  | .l, _, _, _, _, ⟨o, e, _, d⟩ => ⟨o, e, fun v z => by rw [d] at z; cases z⟩
  | .t, _, _, _, _, ⟨o, e, _, d⟩ => ⟨o, e, fun v z => by rw [d] at z; cases z⟩
theorem iter_keep : ∀ {k : Kd} {h h' : Heap} {it a : Addr} {i : Nat}, IterIs k h it a i → (∀ o, h.get? it = some o → h'.get? it = some o) → IterIs k h' it a i
  | .l, _, _, _, _, _, st, k => st.at fun o e => k o e
  | .t, _, _, _, _, _, st, k => st.at fun o e => k o e
theorem iter_new : ∀ {k : Kd} {h : Heap} {it a : Addr}, h.get? it = some (iterOb k a) → IterIs k h it a 0
  | .l, _, _, _, e => ⟨_, e, rfl, rfl⟩
  | .t, _, _, _, e => ⟨_, e, rfl, rfl⟩
theorem begins_k (a : Addr) (its : Array Value) : ∀ k : Kd, Begins (.ref a) (iterOb k a) fun h => SrcIs k h a its
  | .l => begins_list a its
  | .t => begins_tuple a its
theorem draws_k {prog : Program} {w : World} {A : Around} (hh : A.handled = none) (it a : Addr) (hne : a ≠ it) (its : Array Value) : ∀ k : Kd, Draws prog w A it [it, a] its.size (fun i v => its[i]? = some v) (fun i h => IterIs k h it a i ∧ SrcIs k h a its)
  | .l => .list hh it a hne its
  | .t => .tuple hh it a hne its
end
/-! ### enumerate -/
/-- the sequence at a as it stands at each turn, each item in a new pair -/
def IteK (K : PySem.W.Frag) (k : Kd) (a : Addr) : It :=
  ⟨fun i H => ∃ (xs : List V) (x : V), SqK K k H a xs ∧ xs[i]? = some x, fun i H v H' => ∃ T x, v = .ref T ∧ H T = none ∧ H' = upd H T (.tup [.int (i : Nat), x]) ∧ ∀ xs, SqK K k H a xs → xs[i]? = some x, fun i H => ∃ xs : List V, SqK K k H a xs ∧ xs.length = i⟩
theorem turn_enumK {P : Program} {w : World} {K : PySem.W.Frag} {elts : List Expr} {kk : Nat} {tpos : Pos} (k : Kd) (a e it : Addr) (ha : a ≠ it) (hae : a ≠ e) :
    Turn P w K (.Tuple elts kk tpos) (IteK K k a) [e, it] e (fun i h => (∃ old, IsEnum h e it ((0 : Int) + (i : Nat)) old) ∧ IterIs k h it a i ∧ e ≠ it) where
  mem := by simp
  obj := fun i h st b hb => by
    obtain ⟨⟨old, he⟩, hi, _⟩ := st
    have e' : b = e ∨ b = it := by simpa using hb
    rcases e' with z | z
    · rw [z]; exact ⟨_, he, fun v q => nomatch q⟩
    · rw [z]; exact iter_obj hi
  keep := fun i h h' st kp => let ⟨⟨old, he⟩, hi, hne⟩ := st; ⟨⟨old, kp e (by simp) _ he⟩, iter_keep hi fun o q => kp it (by simp) o q, hne⟩
  item := by
    intro X hP hw hK hc i pins s σ H E I hf st hg
    subst hP hw hK
    obtain ⟨he, hit, hne⟩ := st
    obtain ⟨xs, x, hq, hx⟩ := hg
    obtain ⟨its, rv, p⟩ := src_of I hq
    obtain ⟨u, hu, ru⟩ := rv.get hx
    have hi : i < its.toArray.size := by
      have := (List.getElem?_eq_some_iff.mp hu).1
      simpa using this
    have W := GoesN.enumFrom (prog := X.prog) (w := X.w) (A := X.A) (elts := elts) (x1 := kk) (pos := tpos) 0 (draws_k (A := X.A.in1) (I.ok.hd hc) it a ha its.toArray k) e hne (by simp [hne, hae.symm]) (by simp)
    have hlt : ∀ b ∈ [e, it], b < s.heap.objs.size := fun b hb => by
      have e' : b = e ∨ b = it := by simpa using hb
      rcases e' with z | z
      · rw [z]; obtain ⟨old, he⟩ := he; exact Heap.lt_size he
      · rw [z]; obtain ⟨o, q, _⟩ := iter_obj hit; exact Heap.lt_size q
    refine W.goes i s _ _ hi ⟨he, hit, p⟩ fun v h' tk ⟨T, t, y, ev, hT, hy, hTt⟩ st' kp htk => ?_
    subst ev
    have hyu : y = u := by
      have : its.toArray[i]? = some u := by simpa using hu
      rw [this] at hy
      exact (Option.some.inj hy).symm
    subst hyu
    obtain ⟨he', hit', _⟩ := st'
    obtain ⟨oT, hT1, hT2, nT, hT3⟩ := hTt
    have new : ObjOk X.prog X.w (upd H T (.tup [.int (i : Nat), x])) h' T (.tup [.int (i : Nat), x]) :=
      ⟨by show 2 ≤ sizeLine; decide, [.int (0 + (i : Int)) t, y], .cons ⟨t, by rw [Int.zero_add]⟩ (.cons ru .nil), ⟨oT, hT1, hT2, nT, hT3⟩⟩
    have I1 : Inv X pins σ (upd H T (.tup [.int (i : Nat), x])) { s with heap := h', toks := tk } := I.turnedNew (ch := [e, it]) kp hf hT new
    refine ⟨.ref T, _, I1, rfl, ⟨T, x, rfl, I.hok.fresh hT, rfl, fun ys hy => by rw [inj_of I hy hq]; exact hx⟩, ⟨he', hit', hne⟩, fun b hb => ?_⟩
    rw [upd_ne (Nat.ne_of_lt (Nat.lt_of_lt_of_le (hlt b hb) hT))]
    exact (hf b hb).1
  done := by
    intro X hP hw hK hc i pins s σ H E I hf st hg
    subst hP hw hK
    obtain ⟨he, hit, hne⟩ := st
    obtain ⟨xs, hq, hx⟩ := hg
    obtain ⟨its, rv, p⟩ := src_of I hq
    have hl := rv.length
    have W := GoesN.enumFrom (prog := X.prog) (w := X.w) (A := X.A) (elts := elts) (x1 := kk) (pos := tpos) 0 (draws_k (A := X.A.in1) (I.ok.hd hc) it a ha its.toArray k) e hne (by simp [hne, hae.symm]) (by simp)
    have hn : its.toArray.size = i := by simp only [List.size_toArray]; omega
    exact W.stops s (fun s1 => Inv X pins σ H s1) E (by rw [hn]; exact ⟨he, hit, p⟩) fun h' tk kp htk => I.turnedL (ch := [e, it]) kp hf
  self := fun A i s Q E st h => let ⟨⟨_, he⟩, _⟩ := st; wpAny_pyIter_enum he h
/-! ### zip -/
/-- the sequences at a and b as they stand at each turn, the items in new pairs -/
def ItzK (K : PySem.W.Frag) (k1 k2 : Kd) (a b : Addr) : It :=
  ⟨fun i H => ∃ (xs ys : List V) (x y : V), SqK K k1 H a xs ∧ SqK K k2 H b ys ∧ xs[i]? = some x ∧ ys[i]? = some y,
    fun i H v H' => ∃ T x y, v = .ref T ∧ H T = none ∧ H' = upd H T (.tup [x, y]) ∧ (∀ xs, SqK K k1 H a xs → xs[i]? = some x) ∧ ∀ ys, SqK K k2 H b ys → ys[i]? = some y,
    fun i H => ∃ xs ys : List V, SqK K k1 H a xs ∧ SqK K k2 H b ys ∧ min xs.length ys.length = i⟩
theorem zmem {z TI TO i1 i2 c : Addr} (h : c ∈ [z, TO, i1, i2]) : c ∈ [z, TI, TO, i1, i2] := by
  rcases List.mem_cons.mp h with q | q
  · exact q ▸ List.mem_cons_self
  · exact List.mem_cons_of_mem _ (List.mem_cons_of_mem _ q)
/-- where a zip's cells lie -/
structure ZAp (z TI TO i1 i2 a b : Addr) : Prop where
  TIz : TI ≠ z
  TOz : TO ≠ z
  TITO : TI ≠ TO
  TIi1 : TI ≠ i1
  TIi2 : TI ≠ i2
  zi1 : z ≠ i1
  zi2 : z ≠ i2
  TOi1 : TO ≠ i1
  TOi2 : TO ≠ i2
  i12 : i1 ≠ i2
  la : a ≠ z ∧ a ≠ TO ∧ a ≠ i1 ∧ a ≠ i2
  lb : b ≠ z ∧ b ≠ TO ∧ b ≠ i1 ∧ b ≠ i2
theorem ZAp.sep {z TI TO i1 i2 a b : Addr} (D : ZAp z TI TO i1 i2 a b) : ZipSep2 z TI TO i1 i2 [i1, a] [i2, b] :=
  ⟨D.TIz, D.TOz, D.TITO, D.TIi1, by simp, by simp [D.zi1, D.la.1.symm], by simp [D.TOi1, D.la.2.1.symm], D.TIi2, by simp, by simp [D.zi2, D.lb.1.symm], by simp [D.TOi2, D.lb.2.1.symm], by simp [D.i12, D.lb.2.2.1.symm], by simp [D.i12.symm, D.la.2.2.2.symm]⟩
theorem turn_zipK {P : Program} {w : World} {K : PySem.W.Frag} {elts : List Expr} {kk : Nat} {tpos : Pos} (k1 k2 : Kd) {a b z TI TO i1 i2 : Addr} (D : ZAp z TI TO i1 i2 a b) :
    Turn P w K (.Tuple elts kk tpos) (ItzK K k1 k2 a b) [z, TI, TO, i1, i2] z (fun i h => IsZip h z TI TO .none ∧ IsTupOf2 h TI (.ref i1) (.ref i2) ∧ (∃ x y, IsTupOf2 h TO x y) ∧ IterIs k1 h i1 a i ∧ IterIs k2 h i2 b i) where
  mem := by simp
  obj := fun i h st c hc => by
    obtain ⟨hz, hTI, ⟨x, y, hTO⟩, h1, h2⟩ := st
    have e' : c = z ∨ c = TI ∨ c = TO ∨ c = i1 ∨ c = i2 := by simpa using hc
    rcases e' with q | q | q | q | q
    · rw [q]; exact ⟨_, hz, fun v q => nomatch q⟩
    · rw [q]; exact ⟨_, hTI, fun v q => nomatch q⟩
    · rw [q]; exact ⟨_, hTO, fun v q => nomatch q⟩
    · rw [q]; exact iter_obj h1
    · rw [q]; exact iter_obj h2
  keep := fun i h h' st kp => by
    obtain ⟨hz, hTI, ⟨x, y, hTO⟩, h1, h2⟩ := st
    exact ⟨kp z (by simp) _ hz, kp TI (by simp) _ hTI, ⟨x, y, kp TO (by simp) _ hTO⟩, iter_keep h1 fun o q => kp i1 (by simp) o q, iter_keep h2 fun o q => kp i2 (by simp) o q⟩
  item := by
    intro X hP hw hK hc i pins s σ H E I hf st hg
    subst hP hw hK
    obtain ⟨hz, hTI, hTO, h1, h2⟩ := st
    obtain ⟨xs, ys, x, y, hqx, hqy, hx, hy⟩ := hg
    obtain ⟨its, rv, p⟩ := src_of I hqx
    obtain ⟨its2, rv2, p2⟩ := src_of I hqy
    obtain ⟨u, hu, ru⟩ := rv.get hx
    obtain ⟨u2, hu2, ru2⟩ := rv2.get hy
    have hi : i < min its.toArray.size its2.toArray.size := by
      have h1 := (List.getElem?_eq_some_iff.mp hu).1
      have h2 := (List.getElem?_eq_some_iff.mp hu2).1
      simp only [List.size_toArray]
      omega
    have W := GoesN.zip2 (prog := X.prog) (w := X.w) (A := X.A) (elts := elts) (x1 := kk) (pos := tpos) D.sep (draws_k (A := X.A.in1) (I.ok.hd hc) i1 a D.la.2.2.1 its.toArray k1) (draws_k (A := X.A.in1) (I.ok.hd hc) i2 b D.lb.2.2.2 its2.toArray k2)
    have hlt : ∀ c ∈ [z, TI, TO, i1, i2], c < s.heap.objs.size := fun c hcm => by
      have e' : c = z ∨ c = TI ∨ c = TO ∨ c = i1 ∨ c = i2 := by simpa using hcm
      rcases e' with q | q | q | q | q
      · rw [q]; exact Heap.lt_size hz
      · rw [q]; exact Heap.lt_size hTI
      · rw [q]; obtain ⟨_, _, e⟩ := hTO; exact Heap.lt_size e
      · rw [q]; obtain ⟨_, e, _⟩ := iter_obj h1; exact Heap.lt_size e
      · rw [q]; obtain ⟨_, e, _⟩ := iter_obj h2; exact Heap.lt_size e
    refine W.goes i s _ _ hi ⟨hz, hTI, hTO, ⟨h1, p⟩, h2, p2⟩ fun v h' tk ⟨T, y1, y2, ev, hT, hy1, hy2, hTt⟩ st' kp htk => ?_
    subst ev
    have e1 : y1 = u := by
      have : its.toArray[i]? = some u := by simpa using hu
      rw [this] at hy1
      exact (Option.some.inj hy1).symm
    have e2 : y2 = u2 := by
      have : its2.toArray[i]? = some u2 := by simpa using hu2
      rw [this] at hy2
      exact (Option.some.inj hy2).symm
    subst e1 e2
    obtain ⟨hz', hTI', hTO', ⟨h1', _⟩, h2', _⟩ := st'
    obtain ⟨oT, hT1, hT2, nT, hT3⟩ := hTt
    have new : ObjOk X.prog X.w (upd H T (.tup [x, y])) h' T (.tup [x, y]) := ⟨by show 2 ≤ sizeLine; decide, [y1, y2], .cons ru (.cons ru2 .nil), ⟨oT, hT1, hT2, nT, hT3⟩⟩
    have I1 : Inv X pins σ (upd H T (.tup [x, y])) { s with heap := h', toks := tk } := I.turnedNew (ch := [z, TI, TO, i1, i2]) (fun c o hb q => kp c o (fun q' => hb (zmem q')) q) hf hT new
    refine ⟨.ref T, _, I1, rfl, ⟨T, x, y, rfl, I.hok.fresh hT, rfl, fun l hl => by rw [inj_of I hl hqx]; exact hx, fun l hl => by rw [inj_of I hl hqy]; exact hy⟩, ⟨hz', hTI', hTO', h1', h2'⟩, fun c hcm => ?_⟩
    rw [upd_ne (Nat.ne_of_lt (Nat.lt_of_lt_of_le (hlt c hcm) hT))]
    exact (hf c hcm).1
  done := by
    intro X hP hw hK hc i pins s σ H E I hf st hg
    subst hP hw hK
    obtain ⟨hz, hTI, hTO, h1, h2⟩ := st
    obtain ⟨xs, ys, hqx, hqy, hend⟩ := hg
    obtain ⟨its, rv, p⟩ := src_of I hqx
    obtain ⟨its2, rv2, p2⟩ := src_of I hqy
    have l1 := rv.length
    have l2 := rv2.length
    have W := GoesN.zip2 (prog := X.prog) (w := X.w) (A := X.A) (elts := elts) (x1 := kk) (pos := tpos) D.sep (draws_k (A := X.A.in1) (I.ok.hd hc) i1 a D.la.2.2.1 its.toArray k1) (draws_k (A := X.A.in1) (I.ok.hd hc) i2 b D.lb.2.2.2 its2.toArray k2)
    have hn : min its.toArray.size its2.toArray.size = i := by simp only [List.size_toArray]; omega
    exact W.stops s (fun s1 => Inv X pins σ H s1) E (by rw [hn]; exact ⟨hz, hTI, hTO, ⟨h1, p⟩, h2, p2⟩) fun h' tk kp htk => I.turnedL (ch := [z, TI, TO, i1, i2]) (fun c o hb q => kp c o (fun q' => hb (zmem q')) q) hf
  self := fun A i s Q E st h => wpAny_pyIter_zip st.1 h

/-! ### enumerate(v): its start -/
theorem meets_enumerate_newB1 {v : Value} {o : Obj} {H : Heap → Prop} (B : Begins v o H) :
    Meets (Builtin.«enumerate.__new__» ⟨[.type "enumerate", v], []⟩) (fun _ R s => H s.heap ∧
      R (.ok (.ret (.ref (s.heap.push o).objs.size))) { s with heap := (s.heap.push o).push { cls := .type "enumerate", data := .fields #[.none, .bool false, .ref s.heap.objs.size, rawInt 0, .none, .none] } }) :=
  .of_wp fun prog w A R s h => by
    obtain ⟨hp, g, d, tk, os⟩ := s; obtain ⟨h1, h⟩ := h
    have hsub := sub_enumerate
    have q1 : ∀ {A' : Around} {E : Value → Shared → Prop} {Q : Value → Shared → Prop}, Q (.ref hp.objs.size) ⟨hp.push o, g, d, tk, os⟩ → wpAny (model prog w) A' (pyIter v) Q E ⟨hp, g, d, tk, os⟩ :=
      fun q => B.iter prog w _ _ ⟨hp, g, d, tk, os⟩ _ h1 q
    wp_walk using q1
    refine wpAny_stack_any fun st => wpAny_pure ?_
    split
    · rename_i c _ _ _ _ _
      cases (c == Value.type "enumerate")
      · wp_walk using q1
        exact ⟨_, rfl, h⟩
      · wp_walk using q1
        exact ⟨_, rfl, h⟩
    · wp_walk using q1
      exact ⟨_, rfl, h⟩
section
variable {prog : Program} {w : World} {A : Around} {E : Value → Shared → Prop} {s : Shared}
theorem enum_begins1 {v : Value} {o : Obj} {H : Heap → Prop} {Q : Value → Shared → Prop} (B : Begins v o H) (h1 : H s.heap)
    (h : ∀ h', IsEnum h' (s.heap.objs.size + 1) s.heap.objs.size 0 .none → h'.get? s.heap.objs.size = some o → h'.objs.size = s.heap.objs.size + 2 →
      (∀ b o, s.heap.get? b = some o → h'.get? b = some o) → Q (.ref (s.heap.objs.size + 1)) { s with heap := h' }) :
    wpAny (model prog w) A (call (.type "enumerate") [v]) Q E s := by
  refine callType_new F.called_enumerate (by decide) (F.typeCall_enumerate_1 _) (F.newCall_enumerate_1 _) (fun obj => F.args_object_init_2 obj _) F.entry_enumerate_new
    (meets_enumerate_newB1 B) ⟨h1, ?_⟩
  have hz : (s.heap.push o).objs.size = s.heap.objs.size + 1 := Heap.size_push ..
  show _ ∧ _
  rw [hz]
  have he : IsEnum ((s.heap.push o).push { cls := .type "enumerate", data := .fields #[.none, .bool false, .ref s.heap.objs.size, rawInt 0, .none, .none] }) (s.heap.objs.size + 1) s.heap.objs.size 0 .none := by
    have := Heap.get?_push_size (s.heap.push o) (o := { cls := .type "enumerate", data := .fields #[.none, .bool false, .ref s.heap.objs.size, rawInt 0, .none, .none] }) rfl
    rw [hz] at this; exact this
  refine ⟨⟨_, he, rfl⟩, h _ he (Heap.get?_push_of_some _ (Heap.get?_push_size _ B.free)) (by rw [Heap.size_push, hz]) fun b o x => Heap.get?_push_of_some _ (Heap.get?_push_of_some _ x)⟩
end
theorem apN {n a k : Nat} (h : a < n) : a ≠ n + k := by omega
theorem ap2N {n i j : Nat} (h : i ≠ j) : n + i ≠ n + j := by omega
theorem zapN {n a b : Nat} (h1 : a < n) (h2 : b < n) : ZAp (n + 4) (n + 2) (n + 3) n (n + 1) a b :=
  ⟨ap2N (by decide), ap2N (by decide), ap2N (by decide), ap2N (j := 0) (by decide), ap2N (by decide), ap2N (j := 0) (by decide), ap2N (by decide), ap2N (j := 0) (by decide), ap2N (by decide), ap2N (i := 0) (by decide),
    ⟨apN h1, apN h1, apN (k := 0) h1, apN h1⟩, ⟨apN h2, apN h2, apN (k := 0) h2, apN h2⟩⟩
def iEnumK (K : PySem.W.Frag) (ta : TA) : TI := fun σ H R => ta σ H fun vs H1 => ∃ a k xs, vs = [.ref a] ∧ SqK K k H1 a xs ∧ R (IteK K k a) H1
theorem pi_enumK {X : Cx} {e : Expr} {ta : TA} {p pos tpos : Pos} {elts : List Expr} {kk : Nat} (hg : Gl X "enumerate") (hm : X.mg "enumerate" = none) (ha : PA X [e] ta) (hs : starEach [e] X.env = [(false, eval e X.env)]) :
    PI X (.Tuple elts kk tpos) (.Call (.Name "enumerate" p) [e] [] pos) (iEnumK X.K ta) := by
  refine ⟨fun pins s σ H R I h => ?_⟩
  refine Call_ (ld_blt I hg hm PyProof.Rows.boot_enumerate (PyProof.Rows.callWith_type1 (thn (ha.run pos pins s σ H _ I h) fun us s1 ⟨vs, H1, I1, r1, q1⟩ => ?_) hs rfl))
  obtain ⟨a, k, xs, ex, hq, q⟩ := q1
  subst ex
  cases r1 with
  | cons r rr =>
    cases rr
    cases r
    obtain ⟨its, rv, p'⟩ := src_of I1 hq
    refine enum_begins1 (begins_k a its.toArray k) p' fun h' he hit hsz hk => wpAny_pyIter_enum he ?_
    have I2 : Inv X pins σ H1 { s1 with heap := h' } := I1.kept (t' := s1.toks) hk
    have hlt := src_lt p'
    refine ⟨s1.heap.objs.size + 1, [s1.heap.objs.size + 1, s1.heap.objs.size], _, _, H1, rfl, I2, turn_enumK k a (s1.heap.objs.size + 1) s1.heap.objs.size (Nat.ne_of_lt hlt) (apN (k := 1) hlt), ⟨⟨.none, he⟩, iter_new hit, Nat.succ_ne_self _⟩, fun b hb => ?_, q⟩
    have e' : b = s1.heap.objs.size + 1 ∨ b = s1.heap.objs.size := by simpa using hb
    have hle : s1.heap.objs.size ≤ b := by
      rcases e' with z | z
      · rw [z]; exact Nat.le_add_right _ _
      · rw [z]; exact Nat.le_refl _
    exact I1.fpOk hle (I1.hok.fresh hle)
def iZipK (K : PySem.W.Frag) (ta : TA) : TI := fun σ H R => ta σ H fun vs H1 => ∃ a b k1 k2 xs ys, vs = [.ref a, .ref b] ∧ SqK K k1 H1 a xs ∧ SqK K k2 H1 b ys ∧ R (ItzK K k1 k2 a b) H1
theorem pi_zipK {X : Cx} {e e2 : Expr} {ta : TA} {p pos tpos : Pos} {elts : List Expr} {kk : Nat} (hg : Gl X "zip") (hm : X.mg "zip" = none) (ha : PA X [e, e2] ta)
    (hs : starEach [e, e2] X.env = (false, eval e X.env) :: starEach [e2] X.env) (hpl : (backTo pos (starEach [e2] X.env)).any (·.1) = false) :
    PI X (.Tuple elts kk tpos) (.Call (.Name "zip" p) [e, e2] [] pos) (iZipK X.K ta) := by
  refine ⟨fun pins s σ H R I h => ?_⟩
  refine Call_ (ld_blt I hg hm PyProof.Rows.boot_zip (PyProof.Rows.callWith_type1 (thn (ha.run pos pins s σ H _ I h) fun us s1 ⟨vs, H1, I1, r1, q1⟩ => ?_) hs hpl))
  obtain ⟨a, b, k1, k2, xs, ys, ex, hqx, hqy, q⟩ := q1
  subst ex
  cases r1 with
  | cons r rr =>
    cases rr with
    | cons r' rr =>
      cases rr
      cases r
      cases r'
      obtain ⟨its, rv, p1⟩ := src_of I1 hqx
      obtain ⟨its2, rv2, p2⟩ := src_of I1 hqy
      have hlt1 := src_lt p1
      have hlt2 := src_lt p2
      refine zip_begins2 (begins_k a its.toArray k1) (begins_k b its2.toArray k2) p1 p2 fun h' hz hTI hTO h1 h2 hsz hk => wpAny_pyIter_zip hz ?_
      have I2 : Inv X pins σ H1 { s1 with heap := h' } := I1.kept (t' := s1.toks) hk
      have D : ZAp (s1.heap.objs.size + 4) (s1.heap.objs.size + 2) (s1.heap.objs.size + 3) s1.heap.objs.size (s1.heap.objs.size + 1) a b := zapN hlt1 hlt2
      refine ⟨s1.heap.objs.size + 4, [s1.heap.objs.size + 4, s1.heap.objs.size + 2, s1.heap.objs.size + 3, s1.heap.objs.size, s1.heap.objs.size + 1], _, _, H1, rfl, I2, turn_zipK k1 k2 D, ⟨hz, hTI, ⟨_, _, hTO⟩, iter_new h1, iter_new h2⟩, fun c hcm => ?_, q⟩
      have e' : c = s1.heap.objs.size + 4 ∨ c = s1.heap.objs.size + 2 ∨ c = s1.heap.objs.size + 3 ∨ c = s1.heap.objs.size ∨ c = s1.heap.objs.size + 1 := by simpa using hcm
      have hle : s1.heap.objs.size ≤ c := by
        rcases e' with z | z | z | z | z
        · rw [z]; exact Nat.le_add_right _ _
        · rw [z]; exact Nat.le_add_right _ _
        · rw [z]; exact Nat.le_add_right _ _
        · rw [z]; exact Nat.le_refl _
        · rw [z]; exact Nat.le_add_right _ _
      exact I1.fpOk hle (I1.hok.fresh hle)
/-! ### what they give -/
section
variable {S : Sc}
theorem walk_enumK {k : Kd} {l : Addr} {ds : List Dt} {vs : List V} {W0 : Wd} (dv : S.DVs W0 ds vs) (q : ∀ (W : Wd) (h : Hq) (H : Hp), W0.sub W → S.HR W h H → SqK S.K k H l vs) : Walk S (IteK S.K k l) (nxL (enumD 0 ds)) (fun i => i ≤ ds.length) W0 where
  c0 := Nat.zero_le _
  go := fun W h H i d hi w R e => by
    have e : (enumD 0 ds)[i]? = some d := Option.some.inj e
    rw [enumD_get] at e
    cases hd : ds[i]? with
    | none => rw [hd] at e; cases e
    | some d0 =>
      rw [hd] at e
      have e := Option.some.inj e
      subst e
      obtain ⟨v, e1, r⟩ := dv.get hd
      have hlt := (List.getElem?_eq_some_iff.mp hd).1
      refine ⟨hlt, ⟨vs, v, q W h H w R, e1⟩, fun x H' ⟨T, y, ex, hT, eH, hy⟩ => ?_⟩
      subst ex
      subst eH
      have hy := hy vs (q W h H w R)
      rw [e1] at hy
      cases hy
      exact newT R (ds := [.int ((0 + i : Nat) : Int), d0]) (vs := [.int (i : Nat), v]) ⟨.int (i : Nat), [v], rfl, (by rw [Nat.zero_add]; rfl), v, [], rfl, r.sub w, rfl⟩ (by show 2 ≤ sizeLine; decide) hT
  stop := fun W h H i hi w R e => by
    have e : (enumD 0 ds)[i]? = none := Option.some.inj e
    rw [enumD_get] at e
    have e : ds[i]? = none := by
      cases hd : ds[i]? with
      | none => rfl
      | some d0 => rw [hd] at e; cases e
    have := List.getElem?_eq_none_iff.mp e
    exact ⟨vs, q W h H w R, by rw [← dv.len]; omega⟩
theorem walk_zipK {k1 k2 : Kd} {a b : Addr} {ds es : List Dt} {vs us : List V} {W0 : Wd} (dv : S.DVs W0 ds vs) (du : S.DVs W0 es us) (q : ∀ (W : Wd) (h : Hq) (H : Hp), W0.sub W → S.HR W h H → SqK S.K k1 H a vs ∧ SqK S.K k2 H b us) : Walk S (ItzK S.K k1 k2 a b) (nxL (zipD ds es)) (fun i => i ≤ min ds.length es.length) W0 where
  c0 := Nat.zero_le _
  go := fun W h H i d hi w R e => by
    have e : (zipD ds es)[i]? = some d := Option.some.inj e
    rw [zipD_get] at e
    cases hd : ds[i]? with
    | none => rw [hd] at e; cases e
    | some d0 =>
      cases he : es[i]? with
      | none => rw [hd, he] at e; cases e
      | some e0 =>
        rw [hd, he] at e
        have e := Option.some.inj e
        subst e
        obtain ⟨v, e1, r1⟩ := dv.get hd
        obtain ⟨u, e2, r2⟩ := du.get he
        have hlt1 := (List.getElem?_eq_some_iff.mp hd).1
        have hlt2 := (List.getElem?_eq_some_iff.mp he).1
        obtain ⟨q1, q2⟩ := q W h H w R
        refine ⟨by omega, ⟨vs, us, v, u, q1, q2, e1, e2⟩, fun x H' ⟨T, y1, y2, ex, hT, eH, hy1, hy2⟩ => ?_⟩
        subst ex
        subst eH
        have hy1 := hy1 vs q1
        have hy2 := hy2 us q2
        rw [e1] at hy1
        rw [e2] at hy2
        cases hy1
        cases hy2
        exact newT R (ds := [d0, e0]) (vs := [v, u]) ⟨v, [u], rfl, r1.sub w, u, [], rfl, r2.sub w, rfl⟩ (by show 2 ≤ sizeLine; decide) hT
  stop := fun W h H i hi w R e => by
    have e : (zipD ds es)[i]? = none := Option.some.inj e
    rw [zipD_get] at e
    obtain ⟨q1, q2⟩ := q W h H w R
    have e : ds.length ≤ i ∨ es.length ≤ i := by
      cases hd : ds[i]? with
      | none => exact .inl (List.getElem?_eq_none_iff.mp hd)
      | some d0 => cases he : es[i]? with
        | none => exact .inr (List.getElem?_eq_none_iff.mp he)
        | some e0 => rw [hd, he] at e; cases e
    exact ⟨vs, us, q1, q2, by rw [← dv.len, ← du.len]; omega⟩
theorem sqK_of {W0 : Wd} {H0 : Hp} {d : Dt} {v : V} {ds : List Dt} (q : S.DV W0 d v) (e : sqOf d = some ds) : ∃ a vs k, v = .ref a ∧ S.DVs W0 ds vs ∧ ∀ (W : Wd) (h : Hq) (H : Hp), W0.sub W → S.HR W h H → SqK S.K k H a vs := by
  cases d with
  | tup l =>
    cases e
    obtain ⟨a, vs, rfl, sq, z, dv⟩ := q
    exact ⟨a, vs, .t, rfl, dv, fun W h H w R => R.seqT (SqT.le w.1 sq)⟩
  | lst l =>
    cases e
    obtain ⟨a, vs, rfl, sq, z, dv⟩ := q
    exact ⟨a, vs, .l, rfl, dv, fun W h H w R => SqL.of (R.lstF (w.1 _ _ sq))⟩
  | frl l =>
    cases e
    obtain ⟨a, vs, rfl, sq, z, dv⟩ := q
    exact ⟨a, vs, .l, rfl, dv, fun W h H w R => R.seqL (SqL.le w.1 sq)⟩
  | _ => cases e
end
section
variable {S : Sc} {wx : WX} {X : Cx} {pos p tpos : Pos} {x y : Expr} {elts : List Expr} {kk : Nat} {m m1 m2 : E} {sc : Scope} {N : List Str} {cm : Bool}
theorem si_enum (ok : XOk S sc N cm X wx) (hg : glB sc "enumerate" = true) (hf : ("enumerate" : Str) ∈ S.G.free) (ha : PE X x (tE S wx m)) (hs : notStar x = true) : PI X (.Tuple elts kk tpos) (.Call (.Name "enumerate" p) [x] [] pos) (tI S wx (.enum m)) := by
  refine piImp (pi_enumK (glB_ok ok hg) (by rw [ok.mg]; exact ok.ft.free _ hf) (pa_cons ha pa_nil (star_cons hs)) (star_one hs _)) fun σ H R ⟨W, hh, s, hr, sr, rd⟩ => ⟨W, hh, s, hr, sr, ?_⟩
  have rd : RD S (rW S) W ((S.ev m s hh).bind fun d h1 => (match sqOf d with
    | some ds => Res.ok (Wk.its (enumD 0 ds)) h1
    | none => .no)) R (fun C d H' => wx C d σ H') := rd
  refine rd.bind.imp fun v H1 ⟨d, h1, W1, _, w1, R1, q1, rd1⟩ => ?_
  cases hd : sqOf d with
  | none => rw [hd] at rd1; cases rd1
  | some ds =>
    rw [hd] at rd1
    obtain ⟨a, vs, k, ev, dv, q⟩ := sqK_of (H0 := H1) q1 hd
    subst ev
    rw [ok.K]
    exact ⟨a, k, vs, rfl, q W1 h1 H1 ⟨fun _ _ e => e, [], by simp⟩ R1, rd1 W1 H1 _ (.refl W1) R1 ⟨_, walk_enumK dv q⟩⟩
theorem si_zip (ok : XOk S sc N cm X wx) (hg : glB sc "zip" = true) (hf : ("zip" : Str) ∈ S.G.free) (ha : PE X x (tE S wx m1)) (hb : PE X y (tE S wx m2)) (hs : notStar x = true) (hs2 : notStar y = true) : PI X (.Tuple elts kk tpos) (.Call (.Name "zip" p) [x, y] [] pos) (tI S wx (.zip m1 m2)) := by
  refine piImp (pi_zipK (glB_ok ok hg) (by rw [ok.mg]; exact ok.ft.free _ hf) (pa_cons ha (pa_cons hb pa_nil (star_cons hs2)) (star_cons hs)) (star_cons hs) (back_plain (by simp [hs2]))) fun σ H R ⟨W, hh, s, hr, sr, rd⟩ => ⟨W, hh, s, hr, sr, ?_⟩
  have rd : RD S (rW S) W ((S.ev m1 s hh).bind fun d h1 => (S.ev m2 s h1).bind fun e h2 => (match sqOf d, sqOf e with
    | some ds, some es => Res.ok (Wk.its (zipD ds es)) h2
    | _, _ => .no)) R (fun C d H' => wx C d σ H') := rd
  refine rd.bind.imp fun v H1 ⟨d, h1, W1, _, w1, R1, q1, rd1⟩ => ?_
  refine ⟨W1, h1, s, R1, SR.le w1 sr, rd1.bind.imp fun v2 H2 ⟨e, h2, W2, _, w2, R2, q2, rd2⟩ => ?_⟩
  have q1 := DV.le w2 q1
  cases hd : sqOf d with
  | none => rw [hd] at rd2; cases rd2
  | some ds =>
    cases he : sqOf e with
    | none => rw [hd, he] at rd2; cases rd2
    | some es =>
      rw [hd, he] at rd2
      obtain ⟨a, vs, k1, ev, dv, qa⟩ := sqK_of (H0 := H2) q1 hd
      obtain ⟨b, us, k2, eu, du, qb⟩ := sqK_of (H0 := H2) q2 he
      subst ev
      subst eu
      rw [ok.K]
      exact ⟨a, b, k1, k2, vs, us, rfl, qa W2 h2 H2 ⟨fun _ _ e => e, [], by simp⟩ R2, qb W2 h2 H2 ⟨fun _ _ e => e, [], by simp⟩ R2, rd2 W2 H2 _ (.refl W2) R2 ⟨_, walk_zipK dv du fun W h H w R => ⟨qa W h H w R, qb W h H w R⟩⟩⟩
end
end Vm

/-! Vm, part 11: comprehensions, dict displays. Own text. -/
namespace Vm
open PySem L2 PySem.Spec PyProof.Rows

/-- the world with other private objects -/
def Wd.wA (W : Wd) (A : Hp) : Wd := ⟨W.F, W.ι, A⟩
/-- the private object at D is o, the others are A0's -/
structure Ac (A0 : Hp) (D : Addr) (o : HO) (W : Wd) : Prop where
  at_ : W.A D = some o
  out : ∀ a, a ≠ D → W.A a = A0 a
  no : A0 D = none
theorem Ac.back {A0 : Hp} {D : Addr} {o : HO} {W : Wd} (h : Ac A0 D o W) : ∀ a u, A0 a = some u → W.A a = some u := fun a u e => by
  have : a ≠ D := fun z => by subst z; rw [h.no] at e; cases e
  rw [h.out a this]; exact e
theorem Ac.le {A0 : Hp} {D : Addr} {o : HO} {W W' : Wd} (h : Ac A0 D o W) (w : W.le W') : Ac A0 D o W' := by
  obtain ⟨_, _, e⟩ := w
  exact ⟨by rw [e]; exact h.at_, fun a q => by rw [e]; exact h.out a q, h.no⟩
theorem Ac.put {A0 : Hp} {D : Addr} {o o' : HO} {W : Wd} (h : Ac A0 D o W) : Ac A0 D o' ⟨W.F, W.ι, upd W.A D o'⟩ := ⟨upd_same, fun a q => (upd_ne q).trans (h.out a q), h.no⟩
theorem wA_le {W W' : Wd} {A : Hp} (w : W.le W') : (W.wA A).le (W'.wA A) := ⟨w.1, w.2.1, rfl⟩
theorem wA_sub {W : Wd} {A : Hp} : W.sub (W.wA A) := ⟨fun _ _ e => e, [], (List.append_nil _).symm⟩
theorem sub_wA {W : Wd} {A : Hp} : (W.wA A).sub W := ⟨fun _ _ e => e, [], (List.append_nil _).symm⟩
theorem put_sub {W : Wd} {A : Hp} : W.sub ⟨W.F, W.ι, A⟩ := ⟨fun _ _ e => e, [], (List.append_nil _).symm⟩

section
variable {S : Sc} {α β γ δ : Type} {rel : Wd → α → β → Prop} {rel2 : Wd → γ → δ → Prop} {W : Wd} {E : XK}
/-- a part of what raises nothing, run in a world with other private objects -/
theorem RD.nx {A : Hp} {r : Res α} {k : α → Hq → Res γ} {ε : Type} {g : γ → Hq → Res ε} {ζ : Type} {rel3 : Wd → ε → ζ → Prop} {Q : ζ → Hp → Prop} (h : RD S rel3 (W.wA A) ((noExc (r.bind k)).bind g) Q E) :
    RD S rel W r (fun v H => ∃ a h1 W1, r = .ok a h1 ∧ W.le W1 ∧ S.HR W1 h1 H ∧ rel W1 a v ∧ RD S rel3 (W1.wA A) ((noExc (k a h1)).bind g) Q E) (fun _ _ _ => False) := by
  cases r with
  | ok a h1 => exact fun W1 H v w R q => ⟨a, h1, W1, rfl, w, R, q, RD.up (wA_le w) h⟩
  | exc x hh => exact False.elim h
  | no => exact h
end

/-! ### targets -/
theorem PG.or' {X : Cx} {tg : Expr} {t t' : TG} (h : PG X tg t) (h' : PG X tg t') : PG X tg (fun v σ H Q => t v σ H Q ∨ t' v σ H Q) :=
  ⟨fun pins s σ H v u Q I r q => q.elim (h.run pins s σ H v u Q I r) (h'.run pins s σ H v u Q I r)⟩
theorem pgImp {X : Cx} {tg : Expr} {t t' : TG} (h : PG X tg t) (k : ∀ v σ H Q, t' v σ H Q → t v σ H Q) : PG X tg t' := ⟨fun pins s σ H v u Q I r q => h.run pins s σ H v u Q I r (k v σ H Q q)⟩
theorem pgsImp {X : Cx} {tg : List Expr} {t t' : TGs} (h : PGs X tg t) (k : ∀ v σ H Q, t' v σ H Q → t v σ H Q) : PGs X tg t' := ⟨fun pins s σ H v u Q I r q => h.run pins s σ H v u Q I r (k v σ H Q q)⟩
def tGL (S : Sc) (l : List Nat) : TGs := fun vs σ H Q => ∃ W s s' ds, S.SR W s σ ∧ S.DVs W ds vs ∧ setSlots l ds s = some s' ∧ ∀ σ', S.SR W s' σ' → (∀ l', L2.wipe σ' (l ++ l') = L2.wipe σ (l ++ l')) → Q σ' H
def tG (S : Sc) (t : Tg) : TG := fun v σ H Q => ∃ W h s s' d, S.HR W h H ∧ S.SR W s σ ∧ S.DV W d v ∧ t.set d s = some s' ∧ ∀ σ', S.SR W s' σ' → L2.wipe σ' t.slots = L2.wipe σ t.slots → Q σ' H
def okT (sc scr : Scope) (x : Str) : Bool := (match sc.names.lookup x with
  | some .local => true
  | some .cell => (match scr.names.lookup x with | some .cell => true | _ => false)
  | _ => false)
def nmB (N : List Str) (sc scr : Scope) (i : Nat) : Expr → Bool
  | .Name x _ => decide (N[i]? = some x) && okT sc scr x
  | _ => false
def nmsB (N : List Str) (sc scr : Scope) : List Nat → List Expr → Bool
  | [], [] => true
  | i :: is, e :: es => nmB N sc scr i e && nmsB N sc scr is es
  | _, _ => false
def tgB (N : List Str) (sc scr : Scope) : Tg → Expr → Bool
  | .nm i, e => nmB N sc scr i e
  | .tu l, .Tuple es _ _ => nmsB N sc scr l es
  | _, _ => false
theorem wipe_comm (σ : L2.St) (i : Nat) : ∀ l : List Nat, L2.wipe (σ.set i none) l = (L2.wipe σ l).set i none
  | [] => rfl
  | j :: l => by
    show (L2.wipe (σ.set i none) l).set j none = ((L2.wipe σ l).set j none).set i none
    rw [wipe_comm σ i l]
    by_cases h : i = j
    · subst h; rfl
    · rw [List.set_comm none none h]
theorem wipe_idem (σ : L2.St) : ∀ l : List Nat, L2.wipe (L2.wipe σ l) l = L2.wipe σ l
  | [] => rfl
  | i :: l => by
    show (L2.wipe ((L2.wipe σ l).set i none) l).set i none = (L2.wipe σ l).set i none
    rw [wipe_comm, wipe_idem σ l, List.set_set]
theorem wipe_set (σ : L2.St) (i : Nat) (v : Option V) : ∀ l : List Nat, L2.wipe (σ.set i v) (i :: l) = L2.wipe σ (i :: l)
  | [] => by show (σ.set i v).set i none = σ.set i none; rw [List.set_set]
  | j :: l => by
    have := wipe_set σ i v l
    have this : (L2.wipe (σ.set i v) l).set i none = (L2.wipe σ l).set i none := this
    show ((L2.wipe (σ.set i v) l).set j none).set i none = ((L2.wipe σ l).set j none).set i none
    by_cases h : i = j
    · subst h; rw [List.set_set, List.set_set]; exact this
    · rw [List.set_comm none none (Ne.symm h), List.set_comm none none (Ne.symm h), this]
theorem wipe_app (σ : L2.St) : ∀ l l' : List Nat, L2.wipe σ (l ++ l') = L2.wipe (L2.wipe σ l') l
  | [], _ => rfl
  | i :: l, l' => by
    show (L2.wipe σ (l ++ l')).set i none = _
    rw [wipe_app σ l l']; rfl
theorem wipe_mid (σ : L2.St) (i : Nat) : ∀ l l' : List Nat, L2.wipe σ (l ++ i :: l') = L2.wipe σ (i :: (l ++ l'))
  | [], _ => rfl
  | j :: l, l' => by
    show (L2.wipe σ (l ++ i :: l')).set j none = ((L2.wipe σ (l ++ l')).set j none).set i none
    rw [wipe_mid σ i l l']
    show ((L2.wipe σ (l ++ l')).set i none).set j none = _
    by_cases h : i = j
    · subst h; rfl
    · rw [List.set_comm none none h]
section
variable {S : Sc} {X : Cx} {sc scr : Scope} {N : List Str}
/-- names that may be assigned -/
structure TOk (X : Cx) (N : List Str) (sc scr : Scope) : Prop where
  nm : X.N = N
  sc : X.env.scope = sc
  nd : N.Nodup
  fn : ∀ x, scr.names.lookup x = some .cell → X.fn x = true
theorem pg_nm {i : Nat} {e : Expr} (T : TOk X N sc scr) (h : nmB N sc scr i e = true) : PG X e (gName i) := by
  unfold nmB at h
  split at h
  · rename_i x p
    obtain ⟨h1, h2⟩ := and2 h
    have h1 := of_decide_eq_true h1
    rw [← T.nm] at h1
    unfold okT at h2
    have e := T.sc
    split at h2
    · rename_i q
      rw [← e] at q
      exact pg_name (by rw [T.nm]; exact T.nd) h1 (.inl q) (.inr q)
    · rename_i q
      split at h2
      · rename_i q2
        rw [← e] at q
        exact pg_name (by rw [T.nm]; exact T.nd) h1 (.inr q) (.inl (T.fn x q2))
      · cases h2
    · cases h2
  · cases h
theorem aE_name {x : Str} {p : Pos} {es : List Expr} {env : Env} : assignEach (.Name x p :: es) env = (false, assign (.Name x p) env) :: assignEach es env := rfl
theorem nms_len {env : Env} : ∀ {l : List Nat} {es : List Expr}, nmsB N sc scr l es = true → (assignEach es env).length = l.length ∧ (assignEach es env).findIdx? (·.1) = none
  | [], [], _ => ⟨rfl, rfl⟩
  | i :: is, e :: es, h => by
    obtain ⟨h1, h2⟩ := and2 (show (nmB N sc scr i e && nmsB N sc scr is es) = true from h)
    obtain ⟨q1, q2⟩ := nms_len (env := env) h2
    unfold nmB at h1
    split at h1
    · rw [aE_name, List.length_cons, List.length_cons, q1, List.findIdx?_cons, q2]
      exact ⟨rfl, rfl⟩
    · cases h1
  | [], _ :: _, h => by cases h
  | _ :: _, [], h => by cases h
theorem pgs_nms (T : TOk X N sc scr) : ∀ {l : List Nat} {es : List Expr}, nmsB N sc scr l es = true → PGs X es (tGL S l)
  | [], [], _ => pgsImp pgs_nil fun vs σ H Q ⟨W, s, s', ds, sr, q, e, k⟩ => by
    cases ds with
    | nil => cases e; exact ⟨q, k σ sr fun _ => rfl⟩
    | cons d ds => cases e
  | i :: is, e :: es, h => by
    obtain ⟨h1, h2⟩ := and2 (show (nmB N sc scr i e && nmsB N sc scr is es) = true from h)
    have hs : (assignEach (e :: es) X.env).map (·.2) = assign e X.env :: (assignEach es X.env).map (·.2) := by
      have h1' := h1
      unfold nmB at h1'
      split at h1'
      · rfl
      · cases h1'
    refine pgsImp (pgs_cons (pg_nm T h1) (pgs_nms T h2) hs) fun vs σ H Q ⟨W, s, s', ds, sr, q, e, k⟩ => ?_
    cases ds with
    | nil => cases e
    | cons d ds =>
      obtain ⟨v, r, rfl, q1, q2⟩ := q
      refine ⟨v, r, rfl, W, s.set i (some d), s', ds, sr.set q1, q2, e, fun σ' sr' hw => k σ' sr' fun l' => ?_⟩
      have := hw (i :: l')
      rw [wipe_mid, wipe_mid, wipe_set] at this
      exact this
  | [], _ :: _, h => by cases h
  | _ :: _, [], h => by cases h
theorem setSlots_len : ∀ {l : List Nat} {ds : List Dt} {s s' : En}, setSlots l ds s = some s' → ds.length = l.length
  | [], [], _, _, _ => rfl
  | i :: is, d :: ds, s, s', h => by
    rw [List.length_cons, List.length_cons, setSlots_len (l := is) (ds := ds) h]
  | [], _ :: _, _, _, h => by cases h
  | _ :: _, [], _, _, h => by cases h
/-- a target takes a value -/
theorem sg_tg {t : Tg} {e : Expr} (hK : X.K = S.K) (hc : X.calm = true) (T : TOk X N sc scr) (h : tgB N sc scr t e = true) : PG X e (tG S t) := by
  cases t with
  | nm i =>
    refine pgImp (pg_nm T h) fun v σ H Q ⟨W, hh, s, s', d, R, sr, q, e, k⟩ => ?_
    cases e
    exact k _ (sr.set q) (by show (σ.set i (some v)).set i none = σ.set i none; rw [List.set_set])
  | tu l =>
    unfold tgB at h
    split at h
    · rename_i hh; cases hh
    · rename_i l' es x1 x2 hh
      cases hh
      obtain ⟨q1, q2⟩ := nms_len (env := X.env) h
      refine pgImp (PG.or' (pg_tup hc (pgs_nms (S := S) T h) q1 q2) (pg_unl hc (pgs_nms (S := S) T h) q1 q2)) fun v σ H Q ⟨W, hh, s, s', d, R, sr, q, e, k⟩ => ?_
      rw [hK]
      cases d with
      | tup ds =>
        obtain ⟨a, vs, rfl, sq, z, dv⟩ := q
        have e : setSlots l ds s = some s' := e
        refine .inl ⟨a, vs, rfl, R.seqT sq, by rw [← dv.len]; exact setSlots_len e, W, s, s', ds, sr, dv, e, fun σ' sr' hw => k σ' sr' ?_⟩
        have := hw []
        rw [List.append_nil] at this
        exact this
      | lst ds =>
        obtain ⟨a, vs, rfl, sq, z, dv⟩ := q
        have e : setSlots l ds s = some s' := e
        refine .inr ⟨a, vs, rfl, SqL.of (R.lstF sq), by rw [← dv.len]; exact setSlots_len e, W, s, s', ds, sr, dv, e, fun σ' sr' hw => k σ' sr' ?_⟩
        have := hw []
        rw [List.append_nil] at this
        exact this
      | _ => cases e
    · cases h
end

/-! ### the loop -/
def restN (f : Dt → Hq → Res (List Dt)) (nx : Hq → Nat → Option (Option Dt)) (m i : Nat) (h : Hq) (acc : List Dt) : Res (List Dt) := (compN f nx m i h).bind fun xs h1 => .ok (acc ++ xs) h1
theorem compN_eq {f : Dt → Hq → Res (List Dt)} {nx : Hq → Nat → Option (Option Dt)} {m i : Nat} {h : Hq} : compN f nx m i h = (match nx h i with
    | none => .no
    | some none => .ok [] h
    | some (some d) => (match m with
      | 0 => .no
      | m + 1 => (f d h).bind fun x h1 => (compN f nx m (i + 1) h1).bind fun xs h2 => .ok (x ++ xs) h2)) := by
  cases m <;> (conv => lhs; unfold compN) <;> (cases nx h i with | none => rfl | some o => cases o <;> rfl)
theorem restN_stop {f : Dt → Hq → Res (List Dt)} {nx : Hq → Nat → Option (Option Dt)} {m i : Nat} {h : Hq} {acc : List Dt} (e : nx h i = some none) : restN f nx m i h acc = .ok acc h := by
  unfold restN
  have : compN f nx m i h = .ok [] h := by rw [compN_eq, e]
  rw [this]
  show Res.ok (acc ++ []) h = _
  rw [List.append_nil]
theorem restN_none {f : Dt → Hq → Res (List Dt)} {nx : Hq → Nat → Option (Option Dt)} {m i : Nat} {h : Hq} {acc : List Dt} (e : nx h i = none) : restN f nx m i h acc = .no := by
  unfold restN
  have : compN f nx m i h = .no := by rw [compN_eq, e]
  rw [this]; rfl
theorem restN_zero {f : Dt → Hq → Res (List Dt)} {nx : Hq → Nat → Option (Option Dt)} {i : Nat} {h : Hq} {acc : List Dt} {d : Dt} (e : nx h i = some (some d)) : restN f nx 0 i h acc = .no := by
  unfold restN
  have : compN f nx 0 i h = .no := by rw [compN_eq, e]
  rw [this]; rfl
theorem restN_go {f : Dt → Hq → Res (List Dt)} {nx : Hq → Nat → Option (Option Dt)} {m i : Nat} {h : Hq} {acc : List Dt} {d : Dt} (e : nx h i = some (some d)) : restN f nx (m + 1) i h acc = (f d h).bind fun x h1 => restN f nx m (i + 1) h1 (acc ++ x) := by
  unfold restN
  have : compN f nx (m + 1) i h = (f d h).bind fun x h1 => (compN f nx m (i + 1) h1).bind fun xs h2 => .ok (x ++ xs) h2 := by rw [compN_eq, e]
  rw [this, bind_assoc']
  congr 1
  funext x h1
  rw [bind_assoc']
  congr 1
  funext xs h2
  show Res.ok (acc ++ (x ++ xs)) h2 = .ok (acc ++ x ++ xs) h2
  rw [List.append_assoc]
theorem restN_len {f : Dt → Hq → Res (List Dt)} {nx : Hq → Nat → Option (Option Dt)} {m i : Nat} {h h1 : Hq} {acc xs : List Dt} (e : restN f nx m i h acc = .ok xs h1) : acc.length ≤ xs.length := by
  unfold restN at e
  cases q : compN f nx m i h with
  | ok ys h2 =>
    rw [q] at e
    have e : Res.ok (acc ++ ys) h2 = .ok xs h1 := e
    cases e
    rw [List.length_append]; omega
  | exc x hh => rw [q] at e; cases e
  | no => rw [q] at e; cases e
theorem compL_N {f : Dt → Hq → Res (List Dt)} : ∀ (ds pre : List Dt) (h : Hq), compN f (nxL (pre ++ ds)) ds.length pre.length h = compL f ds h
  | [], pre, h => by
    have e : nxL (pre ++ []) h pre.length = some none := by
      show some ((pre ++ [])[pre.length]?) = some none
      rw [List.append_nil, List.getElem?_eq_none (Nat.le_refl _)]
    rw [show compN f (nxL (pre ++ [])) ([] : List Dt).length pre.length h = .ok [] h by rw [compN_eq, e]]
    rfl
  | d :: ds, pre, h => by
    have e : nxL (pre ++ d :: ds) h pre.length = some (some d) := by
      show some ((pre ++ d :: ds)[pre.length]?) = _
      rw [List.getElem?_append_right (Nat.le_refl _), Nat.sub_self]; rfl
    rw [List.length_cons]
    rw [show compN f (nxL (pre ++ d :: ds)) (ds.length + 1) pre.length h = (f d h).bind fun x h1 => (compN f (nxL (pre ++ d :: ds)) ds.length (pre.length + 1) h1).bind fun xs h2 => .ok (x ++ xs) h2 by rw [compN_eq, e]]
    show _ = (f d h).bind fun x h1 => (compL f ds h1).bind fun xs h2 => .ok (x ++ xs) h2
    congr 1
    funext x h1
    have := compL_N (f := f) ds (pre ++ [d]) h1
    rw [List.append_assoc, List.length_append, List.length_singleton] at this
    rw [← this]; rfl
def Wk.fuel (w : Wk) (h : Hq) : Nat := match w with
  | .its ds => ds.length
  | .cel n => cellLen h n
theorem compW_N {f : Dt → Hq → Res (List Dt)} {w : Wk} {h : Hq} : compW f w h = restN f w.nx (w.fuel h) 0 h [] := by
  have e : ∀ r : Res (List Dt), r = r.bind fun xs h1 => .ok ([] ++ xs) h1 := fun r => by cases r <;> rfl
  cases w with
  | its ds =>
    show compL f ds h = (compN f (nxL ds) ds.length 0 h).bind _
    rw [← compL_N ds [] h]
    exact e _
  | cel n => exact e _

section
variable {S : Sc} {wx : WX} {X : Cx} {pos : Pos} {x y z tg iter elt : Expr} {ifs : List Expr} {m it c el : E} {sc : Scope} {N : List Str} {cm b : Bool} {t : Tg}
abbrev wF : WX := fun _ _ _ _ => False
def tTs (S : Sc) (c : E) : TT := tC' S wF c
theorem sts_nil : PTs X [] (tTs S .nil) := ⟨fun pins s σ H Q I ⟨W, hh, sd, R, sr, rd⟩ => pts_nil.run pins s σ H Q I (rd _ _ _ (.refl W) R rfl)⟩
theorem sts_one {e : Expr} (h : PT X e (tT S wF m)) : PTs X [e] (tTs S (.cons m .nil)) := ⟨fun pins s σ H Q I q => (pts_one h).run pins s σ H Q I q⟩
/-- what a comprehension's block does to one item -/
def oneC (S : Sc) (t : Tg) (c el : E) (s : En) (d : Dt) (hh : Hq) : Res (List Dt) := match t.set d (wipeE s t.slots) with
  | none => .no
  | some σ' => (S.evc c σ' hh).bind fun ok h2 => if ok then (S.ev el σ' h2).bind fun y h3 => .ok [y] h3 else .ok [] h2
def newLc (b : Bool) (ds : List Dt) (h : Hq) : Res Dt := if decide (ds.length ≤ sizeLine) then newL b ds h else .no
theorem newLc_len {W : Wd} {ds : List Dt} {h : Hq} {Q : VK} {E : XK} (rd : RD S S.DV W (newLc b ds h) Q E) : ds.length ≤ sizeLine ∧ RD S S.DV W (newL b ds h) Q E := by
  unfold newLc at rd
  split at rd
  · rename_i hl; exact ⟨of_decide_eq_true hl, rd⟩
  · exact False.elim rd
/-- the new list is handed over -/
theorem acc_end {A0 : Hp} {D : Addr} {W : Wd} {h : Hq} {H : Hp} {acc : List V} {ds : List Dt} {Q : VK} {E : XK} (R : S.HR W h H) (ac : Ac A0 D (.lst acc) W) (dv : S.DVs W ds acc) (rd : RD S S.DV (W.wA A0) (newLc b ds h) Q E) : Q (.ref D) H := by
  obtain ⟨hl, rd⟩ := newLc_len rd
  obtain ⟨h1, h2, h3⟩ := R.acc D _ ac.at_
  have R2 : S.HR (W.wA A0) h H := HR.accDrop R ac.back
  have dv2 : S.DVs (W.wA A0) ds acc := dv.sub wA_sub
  rw [dv.len] at hl
  cases b with
  | false =>
    obtain ⟨R3, w⟩ := R2.takeF h1 h2 h3 ac.no
    exact rd _ _ _ w R3 ⟨D, acc, rfl, upd_same, hl, dv2.le w⟩
  | true =>
    obtain ⟨R3, w, e⟩ := R2.takeC (c := .lst ds) h1 h2 h3 ac.no ⟨acc, rfl, hl, dv2⟩
    exact rd _ _ _ w R3 ⟨D, rfl, e⟩
theorem lc_red {own : List (Str × Nat)} {σ : L2.St} {H : Hp} {Q : VK} (ho : own.map (·.2) = t.slots) (h : tE S wx (.comp b t it c el) σ H Q) : tLc (tI S wx it) (tG S t) (tTs S c) (tE S wF el) (own.map (·.2)) σ H Q := by
  obtain ⟨W, hh, s, R, sr, rd⟩ := h
  rw [ho]
  have rd : RD S S.DV W ((S.evi it s hh).bind fun w h1 => (noExc (compW (oneC S t c el s) w h1)).bind fun ds h2 => newLc b ds h2) Q (fun C d H' => wx C d σ H') := rd
  refine ⟨W, hh, s, R, sr, rd.bind.imp fun J H1 ⟨w, h1, W1, _, w1, R1, ⟨cl, wk⟩, rd1⟩ D hD => ?_⟩
  rw [compW_N] at rd1
  have A0 : W1.A D = none := by
    cases q : W1.A D with
    | none => rfl
    | some o => have := (R1.acc D o q).1; rw [hD] at this; cases this
  have sr1 := sr.le w1
  refine ⟨fun i m H => ∃ W2 h2 acc ds, cl i ∧ S.HR W2 h2 H ∧ W1.sub W2 ∧ Ac W1.A D (.lst acc) W2 ∧ S.DVs W2 ds acc ∧
    RD S S.DV (W2.wA W1.A) ((noExc (restN (oneC S t c el s) w.nx m i h2 ds)).bind fun ds h2 => newLc b ds h2) Q (fun C d H' => wx C d σ H'), ⟨w.fuel h1, ⟨W1.F, W1.ι, upd W1.A D (.lst [])⟩, h1, [], [], wk.c0, HR.accNew R1 hD, put_sub, ⟨upd_same, fun a q => upd_ne q, A0⟩, rfl, rd1⟩, ?_⟩
  rintro i m H2 ⟨W2, h2, acc, ds, hcl, R2, u2, ac, dv, rd2⟩
  cases hn : w.nx h2 i with
  | none =>
    rw [restN_none hn] at rd2
    exact False.elim rd2
  | some o =>
    cases o with
    | none =>
      refine .inl ⟨wk.stop W2 h2 H2 i hcl u2 R2 hn, ?_⟩
      rw [restN_stop hn] at rd2
      exact acc_end R2 ac dv rd2
    | some d =>
      obtain ⟨g0, g1, g2⟩ := wk.go W2 h2 H2 i d hcl u2 R2 hn
      cases m with
      | zero =>
        rw [restN_zero hn] at rd2
        exact False.elim rd2
      | succ m =>
        rw [restN_go hn] at rd2
        refine .inr ⟨g1, fun H' => ∃ W2 h2 acc ds, cl (i + 1) ∧ S.HR W2 h2 H' ∧ W1.sub W2 ∧ Ac W1.A D (.lst acc) W2 ∧ S.DVs W2 ds acc ∧
          RD S S.DV (W2.wA W1.A) ((noExc (restN (oneC S t c el s) w.nx m (i + 1) h2 ds)).bind fun ds h2 => newLc b ds h2) Q (fun C d H' => wx C d σ H'), fun H' q => ⟨m, Nat.lt_succ_self m, q⟩, fun x H' y => ?_⟩
        obtain ⟨W3, w3, R3, q3⟩ := g2 x H' y
        have rd3 := RD.up (wA_le (A := W1.A) w3) rd2
        have ac3 := ac.le w3
        have dv3 := dv.le w3
        have u3 := u2.trans w3.sub
        have sr3 : S.SR W3 (wipeE s t.slots) (L2.wipe σ t.slots) := SR.wipe (sr1.sub u3) t.slots
        unfold oneC at rd3
        cases ht : t.set d (wipeE s t.slots) with
        | none => rw [ht] at rd3; exact False.elim rd3
        | some s' =>
          rw [ht] at rd3
          have rd3 : RD S S.DV (W3.wA W1.A) ((noExc (((S.evc c s' h2).bind fun ok h2 => if ok then (S.ev el s' h2).bind fun y h3 => .ok [y] h3 else .ok [] h2).bind fun x h1 => restN (oneC S t c el s) w.nx m (i + 1) h1 (ds ++ x))).bind fun ds h2 => newLc b ds h2) Q (fun C d H' => wx C d σ H') := rd3
          refine ⟨W3, h2, _, s', d, R3, sr3, q3, ht, fun σ2 sr4 hw => ⟨hw.trans (wipe_idem σ _), ?_⟩⟩
          rw [bind_assoc'] at rd3
          refine ⟨W3, h2, s', R3, sr4, (RD.nx rd3).imp fun k H3 ⟨k', h3, W4, _, w4, R4, q4, rd4⟩ => ?_⟩
          subst q4
          cases k with
          | false =>
            have rd4 : RD S S.DV (W4.wA W1.A) ((noExc (restN (oneC S t c el s) w.nx m (i + 1) h3 (ds ++ []))).bind fun ds h2 => newLc b ds h2) Q (fun C d H' => wx C d σ H') := rd4
            rw [List.append_nil] at rd4
            exact ⟨W4, h3, acc, ds, g0, R4, u3.trans w4.sub, ac3.le w4, dv3.le w4, rd4⟩
          | true =>
            have rd4 : RD S S.DV (W4.wA W1.A) ((noExc (((S.ev el s' h3).bind fun y h3 => .ok [y] h3).bind fun x h1 => restN (oneC S t c el s) w.nx m (i + 1) h1 (ds ++ x))).bind fun ds h2 => newLc b ds h2) Q (fun C d H' => wx C d σ H') := rd4
            rw [bind_assoc'] at rd4
            refine ⟨W4, h3, s', R4, sr4.le w4, (RD.nx rd4).imp fun v H5 ⟨e, h5, W5, _, w5, R5, q5, rd5⟩ => ?_⟩
            have ac5 := (ac3.le w4).le w5
            have dv5 := (dv3.le w4).le w5
            have rd5 : RD S S.DV (W5.wA W1.A) ((noExc (restN (oneC S t c el s) w.nx m (i + 1) h5 (ds ++ [e]))).bind fun ds h2 => newLc b ds h2) Q (fun C d H' => wx C d σ H') := rd5
            have hlen : acc.length < sizeLine := by
              have rd6 := rd5
              cases hr : restN (oneC S t c el s) w.nx m (i + 1) h5 (ds ++ [e]) with
              | ok xs h6 =>
                rw [hr] at rd6
                have l1 := (newLc_len (W := W5.wA W1.A) rd6).1
                have l2 := restN_len hr
                rw [List.length_append, List.length_singleton] at l2
                have l3 := dv5.len
                omega
              | exc x hh => rw [hr] at rd6; exact False.elim rd6
              | no => rw [hr] at rd6; exact False.elim rd6
            refine ⟨acc, (R5.acc D _ ac5.at_).1, hlen, ⟨W5.F, W5.ι, upd W5.A D (.lst (acc ++ [v]))⟩, h5, acc ++ [v], ds ++ [e], g0, HR.accPut R5 ac5.at_, ((u3.trans w4.sub).trans w5.sub).trans put_sub, ac5.put, DVs.sub put_sub (dv5.snoc q5), rd5⟩
end
end Vm

/-! Vm, part 12: comprehensions as expressions; dicts. Own text. -/
namespace Vm
open PySem L2 PySem.Spec PyProof.Rows

section
variable {S : Sc} {wx : WX} {X : Cx} {pos : Pos} {x y z tg iter elt : Expr} {ifs : List Expr} {m it c el : E} {sc scope : Scope} {N : List Str} {cm b : Bool} {t : Tg} {own : List (Str × Nat)}
/-- a block inside -/
theorem XOk.blk (ok : XOk S sc N cm X wx) (s : Shared) (H : Hp) (scope : Scope) (C : Addr) (cl : List (Str × Addr)) (fp : List Addr) : XOk S (relS scope sc) N cm (X.blk s H scope (compEnvC scope cl C X.env) fp) wF :=
  ⟨ok.K, ok.mg, ok.nm, by rw [← ok.sc]; rfl, ok.nd, ok.cm, ok.un, fun u s' ⟨_, _, _, _, _, _, _, _, _, _, _, _, _, _, _, _, w⟩ => w, ok.ft⟩
theorem XOk.tok (ok : XOk S sc N cm X wx) (s : Shared) (H : Hp) (scope : Scope) (C : Addr) (cl : List (Str × Addr)) (fp : List Addr) : TOk (X.blk s H scope (compEnvC scope cl C X.env) fp) N (relS scope sc) scope :=
  ⟨ok.nm, by rw [← ok.sc]; rfl, ok.nd, fun x h => by show (scope.names.lookup x == some .cell) = true; rw [h]; rfl⟩
theorem se_comp (ok : XOk S sc N true X wx) (hi : PI X tg iter (tI S wx it)) (hb : blkC N sc scope own = true) (ho : own.map (·.2) = t.slots) (ht : tgB N (relS scope sc) scope t tg = true)
    (hc : ∀ X', XOk S (relS scope sc) N true X' wF → PTs X' ifs (tTs S c)) (he : ∀ X', XOk S (relS scope sc) N true X' wF → PE X' elt (tE S wF el)) (hs : notSet iter = true) :
    PE X (.ListComp elt [⟨tg, iter, ifs, 0⟩] scope pos) (tE S wx (.comp b t it c el)) := by
  refine peImp (pe_lc (ok.cm rfl).1 (by rw [ok.nm]; exact ok.nd) hi (by rw [ok.nm, ok.sc]; exact blkOk_by hb) (fun s H C cl fp => sg_tg ok.K (ok.cm rfl).1 (ok.tok s H scope C cl fp) ht) (fun s H C cl fp => hc _ (ok.blk s H scope C cl fp)) (fun s H C cl fp => he _ (ok.blk s H scope C cl fp)) fun v => fold_plain hs) fun σ H Q q => lc_red ho q
/-- name = [..], where the text makes the list at the name -/
theorem sp_comp {i : Nat} {n : Str} {py spos : Pos} (ok : XOk S sc N true X wx) (hn : N[i]? = some n) (hl : (match sc.names.lookup n with | some .local => true | _ => false) = true) (hk : (match sc.kind with | .function => true | _ => false) = true) (hln : (py.line == pos.line) = true)
    (ha : (scope.names.any fun (n', k) => n' == n && (k == .local || k == .cell)) = false) (hi : PI X tg iter (tI S wx it)) (hb : blkC N sc scope own = true) (ho : own.map (·.2) = t.slots) (ht : tgB N (relS scope sc) scope t tg = true)
    (hc : ∀ X', XOk S (relS scope sc) N true X' wF → PTs X' ifs (tTs S c)) (he : ∀ X', XOk S (relS scope sc) N true X' wF → PE X' elt (tE S wF el)) (hs : notSet iter = true) :
    PS X (.Assign [.Name n py] (.ListComp elt [⟨tg, iter, ifs, 0⟩] scope pos) spos) (tAsg (tE S wx (.comp b t it c el)) (gName i)) := by
  have hl : X.env.scope.names.lookup n = some .local := by
    rw [ok.sc]
    split at hl
    · assumption
    · cases hl
  have hk : X.env.scope.kind = .function := by
    rw [ok.sc]
    split at hk
    · assumption
    · cases hk
  have h := ps_setLc (i := i) (spos := spos) (elt := elt) (ifs := ifs) (pos := pos) (py := py) (ok.cm rfl).1 (by rw [ok.nm]; exact ok.nd) (by rw [ok.nm]; exact hn) hl (sw_true hk hl hln ha) hi (by rw [ok.nm, ok.sc]; exact blkOk_by hb) (fun s H C cl fp => sg_tg (S := S) ok.K (ok.cm rfl).1 (ok.tok s H scope C cl fp) ht) (fun s H C cl fp => hc _ (ok.blk s H scope C cl fp)) (fun s H C cl fp => he _ (ok.blk s H scope C cl fp)) fun v => fold_plain hs
  exact ⟨fun pins s σ H D I q => h.run pins s σ H D I (lc_red (own := own) ho q)⟩

/-! ### dicts -/
theorem replK_val {W : Wd} {d : Dt} {v : V} (q : S.DV W d v) (k : Key) : ∀ {ks : List Key} {ds : List Dt} {kvs : List (Key × V)}, kvs.map (·.1) = ks → S.DVs W ds (kvs.map (·.2)) →
    S.DVs W (replK ks ds k d) ((kvs.map fun kv => if kv.1 = k then (kv.1, v) else kv).map (·.2)) ∧ ((kvs.map fun kv => if kv.1 = k then (kv.1, v) else kv).map (·.1)) = ks
  | [], ds, [], _, r => ⟨by cases ds <;> exact rfl, rfl⟩
  | j :: ks, [], [], hk, _ => by cases hk
  | j :: ks, d :: ds, [], hk, _ => by cases hk
  | [], ds, p :: kvs, hk, _ => by cases hk
  | j :: ks, [], p :: kvs, hk, r => by cases r
  | j :: ks, e :: ds, p :: kvs, hk, ⟨u, r, e1, q1, q2⟩ => by
    rw [List.map_cons] at hk e1
    injection hk with hk1 hk2
    injection e1 with e2 e3
    obtain ⟨i1, i2⟩ := replK_val q k hk2 (by rw [e3]; exact q2)
    subst hk1
    rw [List.map_cons, List.map_cons, List.map_cons]
    unfold replK
    by_cases c : p.1 = k
    · rw [if_pos c, if_pos c]
      exact ⟨⟨v, _, rfl, q, i1⟩, by rw [i2]⟩
    · rw [if_neg c, if_neg c]
      exact ⟨⟨p.2, _, rfl, by rw [e2]; exact q1, i1⟩, by rw [i2]⟩
theorem putK_val {W : Wd} {d : Dt} {v : V} (q : S.DV W d v) (k : Key) {ks : List Key} {ds : List Dt} {kvs : List (Key × V)} (hk : kvs.map (·.1) = ks) (r : S.DVs W ds (kvs.map (·.2))) :
    (L2.putK kvs k v).map (·.1) = (Vm.putK ks ds k d).1 ∧ S.DVs W (Vm.putK ks ds k d).2 ((L2.putK kvs k v).map (·.2)) := by
  unfold L2.putK Vm.putK
  have e : (kvs.any fun kv => decide (kv.1 = k)) = ks.any fun j => decide (j = k) := by rw [← hk, List.any_map]; rfl
  rw [e]
  by_cases c : (ks.any fun j => decide (j = k)) = true
  · rw [if_pos c, if_pos c]
    obtain ⟨i1, i2⟩ := replK_val q k hk r
    exact ⟨i2, i1⟩
  · rw [if_neg c, if_neg c, List.map_append, List.map_append, hk]
    exact ⟨rfl, r.snoc q⟩
theorem putK_len {W : Wd} {d : Dt} (k : Key) (kvs : List (Key × V)) (v : V) : (L2.putK kvs k v).length ≤ kvs.length + 1 := length_putK kvs k v
/-- a new dict is handed over -/
theorem accD_end {A0 : Hp} {D : Addr} {W : Wd} {h : Hq} {H : Hp} {kvs : List (Key × V)} {ks : List Key} {ds : List Dt} {Q : VK} {E : XK} (R : S.HR W h H) (ac : Ac A0 D (.dK kvs) W) (hk : kvs.map (·.1) = ks) (dv : S.DVs W ds (kvs.map (·.2))) (hl : kvs.length ≤ sizeLine) (rd : RD S S.DV (W.wA A0) (newD b ks ds h) Q E) : Q (.ref D) H := by
  obtain ⟨h1, h2, h3⟩ := R.acc D _ ac.at_
  have R2 : S.HR (W.wA A0) h H := HR.accDrop R ac.back
  have dv2 : S.DVs (W.wA A0) ds (kvs.map (·.2)) := dv.sub wA_sub
  cases b with
  | false =>
    obtain ⟨R3, w⟩ := R2.takeF h1 h2 h3 ac.no
    exact rd _ _ _ w R3 ⟨D, kvs, rfl, upd_same, hk, hl, dv2.le w⟩
  | true =>
    obtain ⟨R3, w, e⟩ := R2.takeC (c := .dic ks ds) h1 h2 h3 ac.no ⟨kvs, rfl, hk, hl, dv2⟩
    exact rd _ _ _ w R3 ⟨D, rfl, e⟩
/-! a display -/
theorem RD.noE {α β : Type} {rel : Wd → α → β → Prop} {W : Wd} {r : Res α} {Q : β → Hp → Prop} {E : XK} (h : RD S rel W r Q (fun _ _ _ => False)) : RD S rel W r Q E := by
  cases r with
  | ok a hh => exact h
  | exc x hh => exact fun W' H C d w R q => False.elim (h W' H C d w R q)
  | no => exact h
theorem RD.impE {α β : Type} {rel : Wd → α → β → Prop} {W : Wd} {r : Res α} {Q : β → Hp → Prop} {E E' : XK} (h : RD S rel W r Q E) (k : ∀ C d H, E C d H → E' C d H) : RD S rel W r Q E' := by
  cases r with
  | ok a hh => exact h
  | exc x hh => exact fun W' H C d w R q => k C d H (h W' H C d w R q)
  | no => exact h
def flatP : List (V × V) → List V
  | [] => []
  | p :: r => p.1 :: p.2 :: flatP r
/-- the pairs of a display: keys and values by turns -/
inductive Pairs (S : Sc) (wx : WX) (X : Cx) : List (Option Expr) → List Expr → E → Prop where
  | nil : Pairs S wx X [] [] .nil
  | cons {k v : Expr} {ks : List (Option Expr)} {vs : List Expr} {mk mv me : E} (hk : PE X k (tE S wx mk)) (hv : PE X v (tE S wx mv)) (h : Pairs S wx X ks vs me) : Pairs S wx X (some k :: ks) (v :: vs) (.cons mk (.cons mv me))
theorem Pairs.pps {ks : List (Option Expr)} {vs : List Expr} {me : E} (h : Pairs S wx X ks vs me) : ks.all (·.isSome) = true ∧ ks.length = vs.length ∧ ∃ trs, PPs X pos ks vs trs ∧
    ∀ {σ : L2.St} {s : En} {W : Wd} {h : Hq} {H : Hp} {Q : List (V × V) → Hp → Prop}, S.HR W h H → S.SR W s σ → RD S (fun W ds ps => S.DVs W ds (flatP ps)) W (S.evs me s h) Q (fun C d H' => wx C d σ H') → tPairs trs σ H Q := by
  induction h with
  | nil => exact ⟨rfl, rfl, [], pps_nil, fun R sr rd => rd _ _ [] (.refl _) R rfl⟩
  | @cons k v ks vs mk mv me hk hv _ ih =>
    obtain ⟨i1, i2, trs, i3, i4⟩ := ih
    refine ⟨by rw [List.all_cons, i1]; rfl, by rw [List.length_cons, List.length_cons, i2], _, pps_cons hk hv i3, fun {σ s W h H Q} R sr rd => ?_⟩
    have rd : RD S (fun W ds ps => S.DVs W ds (flatP ps)) W ((S.ev mk s h).bind fun d h1 => ((S.ev mv s h1).bind fun e h2 => (S.evs me s h2).bind fun ds h3 => .ok (e :: ds) h3).bind fun ds h2 => .ok (d :: ds) h2) Q (fun C d H' => wx C d σ H') := rd
    refine ⟨W, h, s, R, sr, rd.bind.imp fun x H1 ⟨d, h1, W1, _, w1, R1, q1, rd1⟩ => ?_⟩
    rw [bind_assoc'] at rd1
    refine ⟨W1, h1, s, R1, sr.le w1, rd1.bind.imp fun y H2 ⟨e, h2, W2, _, w2, R2, q2, rd2⟩ => ?_⟩
    rw [bind_assoc'] at rd2
    refine i4 R2 ((sr.le w1).le w2) (rd2.bind.imp fun ps H3 ⟨ds, h3, W3, _, w3, R3, q3, rd3⟩ => ?_)
    exact (show RD S (fun W ds ps => S.DVs W ds (flatP ps)) W3 (.ok (d :: e :: ds) h3) Q (fun C d H' => wx C d σ H') from rd3) W3 H3 ((x, y) :: ps) (.refl W3) R3 ⟨x, _, rfl, (q1.le w2).le w3, y, _, rfl, q2.le w3, q3⟩
theorem pairs_val {W : Wd} : ∀ {ds : List Dt} {ps : List (V × V)} {l : List (Key × Dt)}, S.DVs W ds (flatP ps) → pairsD ds = some l → ∃ kvs : List (Key × V), ps = kvs.map (fun kv => (kV kv.1, kv.2)) ∧ kvs.map (·.1) = l.map (·.1) ∧ S.DVs W (l.map (·.2)) (kvs.map (·.2))
  | [], [], l, _, e => by cases e; exact ⟨[], rfl, rfl, rfl⟩
  | [], p :: ps, l, r, _ => by cases r
  | [d], [], l, r, _ => by obtain ⟨_, _, r, _⟩ := r; cases r
  | [d], p :: ps, l, _, e => by cases e
  | k :: d :: ds, [], l, r, _ => by obtain ⟨_, _, r, _⟩ := r; cases r
  | k :: d :: ds, p :: ps, l, ⟨v1, r1, e1, q1, v2, r2, e2, q2, q3⟩, e => by
    have e1 : p.1 :: p.2 :: flatP ps = v1 :: r1 := e1
    cases e1
    cases e2
    have e : ((keyOf k).bind fun kk => (pairsD ds).map ((kk, d) :: ·)) = some l := e
    cases hk : keyOf k with
    | none => rw [hk] at e; cases e
    | some kk =>
      rw [hk] at e
      cases hp : pairsD ds with
      | none => rw [hp] at e; cases e
      | some l' =>
        rw [hp] at e
        cases e
        obtain ⟨kvs, i1, i2, i3⟩ := pairs_val q3 hp
        have hv : p.1 = kV kk := by
          cases k with
          | int i => cases hk; exact q1
          | str x => cases hk; exact q1.1
          | _ => cases hk
        refine ⟨(kk, p.2) :: kvs, ?_, by rw [List.map_cons, List.map_cons, i2], ⟨_, _, rfl, q2, i3⟩⟩
        rw [List.map_cons, ← i1, ← hv]
theorem merge_val {W : Wd} : ∀ {l : List (Key × Dt)} {kvs : List (Key × V)} {ks0 : List Key} {ds0 : List Dt} {kv0 : List (Key × V)}, kvs.map (·.1) = l.map (·.1) → S.DVs W (l.map (·.2)) (kvs.map (·.2)) → kv0.map (·.1) = ks0 → S.DVs W ds0 (kv0.map (·.2)) →
    (mergeK kv0 kvs).map (·.1) = (mergeD l ks0 ds0).1 ∧ S.DVs W (mergeD l ks0 ds0).2 ((mergeK kv0 kvs).map (·.2))
  | [], [], ks0, ds0, kv0, _, _, h1, h2 => ⟨h1, h2⟩
  | [], _ :: _, _, _, _, h, _, _, _ => by cases h
  | _ :: _, [], _, _, _, h, _, _, _ => by cases h
  | p :: l, q :: kvs, ks0, ds0, kv0, h, ⟨v, r, e, q1, q2⟩, h1, h2 => by
    rw [List.map_cons, List.map_cons] at h
    injection h with e1 e2
    rw [List.map_cons] at e
    injection e with e3 e4
    have := putK_val (d := p.2) (v := q.2) (by rw [e3]; exact q1) p.1 h1 h2
    rw [← e1] at this
    obtain ⟨i1, i2⟩ := merge_val (l := l) (kvs := kvs) (kv0 := L2.putK kv0 q.1 q.2) e2 (by rw [e4]; exact q2) this.1 this.2
    rw [e1] at i1 i2
    have m1 : mergeK kv0 (q :: kvs) = mergeK (L2.putK kv0 q.1 q.2) kvs := rfl
    have m2 : mergeD (p :: l) ks0 ds0 = mergeD l (Vm.putK ks0 ds0 p.1 p.2).1 (Vm.putK ks0 ds0 p.1 p.2).2 := rfl
    rw [m1, m2]
    rw [e1]
    exact ⟨i1, i2⟩
theorem noExc_bind {α : Type} {r : Res α} : noExc r = noExc (r.bind fun a h => .ok a h) := by cases r <;> rfl
theorem A_none {W : Wd} {h : Hq} {H : Hp} {p : Addr} (R : S.HR W h H) (hp : H p = none) : W.A p = none := by
  cases q : W.A p with
  | none => rfl
  | some o => have := (R.acc p o q).1; rw [hp] at this; cases this
theorem se_disp {ks : List (Option Expr)} {vs : List Expr} {me : E} (h : Pairs S wx X ks vs me) (h0 : ks ≠ []) (h15 : ks.length ≤ 15) : PE X (.Dict ks vs pos) (tE S wx (.disp b me)) := by
  obtain ⟨i1, i2, trs, i3, i4⟩ := h.pps (pos := pos)
  refine peImp (pe_disp i3 i1 i2 h0 h15) fun σ H Q ⟨W, hh, s, R, sr, rd⟩ p hp => ?_
  have rd : RD S S.DV W ((noExc (S.evs me s hh)).bind fun ds h1 => (match pairsD ds with
      | some l => if decide (l.length ≤ 15) then newD b (mergeD l [] []).1 (mergeD l [] []).2 h1 else .no
      | none => .no)) Q (fun C d H' => wx C d σ H') := rd
  rw [noExc_bind] at rd
  have A0 := A_none R hp
  have R2 := HR.accNew (o := .dK []) R hp
  have rd2 := RD.nx (S := S) (W := ⟨W.F, W.ι, upd W.A p (.dK [])⟩) (A := W.A) (rel := fun W ds ps => S.DVs W ds (flatP ps)) rd
  have ac : Ac W.A p (.dK []) ⟨W.F, W.ι, upd W.A p (.dK [])⟩ := ⟨upd_same, fun a q => upd_ne q, A0⟩
  refine i4 R2 (sr.sub put_sub) ((RD.noE rd2).imp fun ps H2 ⟨ds, h2, W2, _, w2, R3, q3, rd3⟩ => ?_)
  have ac2 := ac.le w2
  refine ⟨(R3.acc p _ ac2.at_).1, ?_⟩
  have rd3 : RD S S.DV (W2.wA W.A) (match pairsD ds with
      | some l => if decide (l.length ≤ 15) then newD b (mergeD l [] []).1 (mergeD l [] []).2 h2 else .no
      | none => .no) Q (fun C d H' => wx C d σ H') := rd3
  cases hl : pairsD ds with
  | none => rw [hl] at rd3; exact False.elim rd3
  | some l =>
    rw [hl] at rd3
    have rd4 : RD S S.DV (W2.wA W.A) (if decide (l.length ≤ 15) then newD b (mergeD l [] []).1 (mergeD l [] []).2 h2 else .no) Q (fun C d H' => wx C d σ H') := rd3
    split at rd4
    · rename_i hz
      have hz := of_decide_eq_true hz
      obtain ⟨kvs, e1, e2, e3⟩ := pairs_val q3 hl
      have hlen : kvs.length = l.length := by
        have := congrArg List.length e2
        rwa [List.length_map, List.length_map] at this
      refine ⟨kvs, e1, by omega, ?_⟩
      obtain ⟨m1, m2⟩ := merge_val (kv0 := []) (ks0 := []) (ds0 := []) e2 e3 rfl rfl
      have hml : (mergeK [] kvs).length ≤ sizeLine := by
        have := length_mergeK kvs []
        rw [List.length_nil] at this
        rw [sizeLine_eq]; omega
      exact accD_end (HR.accPut R3 ac2.at_) ac2.put m1 (DVs.sub put_sub m2) hml rd4
    · exact False.elim rd4
/-! a dict comprehension -/
def oneD (S : Sc) (t : Tg) (k el : E) (s : En) (d : Dt) (hh : Hq) : Res (Key × Dt) := match t.set d (wipeE s t.slots) with
  | none => .no
  | some σ' => (S.ev k σ' hh).bind fun kd h2 => (S.ev el σ' h2).bind fun y h3 => (Res.opt h3 (keyOf kd)).bind fun kk h4 => .ok (kk, y) h4
theorem drop_some {α : Type} : ∀ {l : List α} {i : Nat} {d : α}, l[i]? = some d → l.drop i = d :: l.drop (i + 1)
  | [], i, d, e => by simp at e
  | x :: l, 0, d, e => by simp at e; subst e; rfl
  | x :: l, i + 1, d, e => by
    have := drop_some (l := l) (i := i) (d := d) (by simpa using e)
    simpa using this
theorem dc_red {mk : E} {σ : L2.St} {H : Hp} {Q : VK} (ho : own.map (·.2) = t.slots) (h : tE S wx (.dcomp b t it mk el) σ H Q) : tDc (tI S wx it) (tG S t) tYes (tE S wF mk) (tE S wF el) (own.map (·.2)) σ H Q := by
  obtain ⟨W, hh, s, R, sr, rd⟩ := h
  rw [ho]
  have rd : RD S S.DV W ((S.evi it s hh).bind fun w h1 => (match w with
      | .its ds => (noExc (dcompL (oneD S t mk el s) ds [] [] h1)).bind fun p h2 => if decide (ds.length ≤ sizeLine) then newD b p.1 p.2 h2 else .no
      | _ => .no)) Q (fun C d H' => wx C d σ H') := rd
  refine ⟨W, hh, s, R, sr, rd.bind.imp fun J H1 ⟨w, h1, W1, _, w1, R1, ⟨cl, wk⟩, rd1⟩ D hD => ?_⟩
  cases w with
  | cel n => exact False.elim rd1
  | its ds =>
    have rd1 : RD S S.DV W1 ((noExc (dcompL (oneD S t mk el s) ds [] [] h1)).bind fun p h2 => if decide (ds.length ≤ sizeLine) then newD b p.1 p.2 h2 else .no) Q (fun C d H' => wx C d σ H') := rd1
    have A0 := A_none R1 hD
    have sr1 := sr.le w1
    refine ⟨fun i m H => ∃ W2 h2 kvs ks vs, cl i ∧ m = ds.length - i ∧ S.HR W2 h2 H ∧ W1.sub W2 ∧ Ac W1.A D (.dK kvs) W2 ∧ kvs.map (·.1) = ks ∧ S.DVs W2 vs (kvs.map (·.2)) ∧ kvs.length ≤ i ∧ i ≤ ds.length ∧
      RD S S.DV (W2.wA W1.A) ((noExc (dcompL (oneD S t mk el s) (ds.drop i) ks vs h2)).bind fun p h2 => if decide (ds.length ≤ sizeLine) then newD b p.1 p.2 h2 else .no) Q (fun C d H' => wx C d σ H'),
      ⟨ds.length, ⟨W1.F, W1.ι, upd W1.A D (.dK [])⟩, h1, [], [], [], wk.c0, by omega, HR.accNew R1 hD, put_sub, ⟨upd_same, fun a q => upd_ne q, A0⟩, rfl, rfl, Nat.zero_le _, Nat.zero_le _, rd1⟩, ?_⟩
    rintro i m H2 ⟨W2, h2, kvs, ks, vs, hcl, rfl, R2, u2, ac, hk, dv, hl, hi, rd2⟩
    cases hn : ds[i]? with
    | none =>
      refine .inl ⟨wk.stop W2 h2 H2 i hcl u2 R2 (by show some ds[i]? = _; rw [hn]), ?_⟩
      rw [List.drop_of_length_le (List.getElem?_eq_none_iff.mp hn)] at rd2
      have rd3 : RD S S.DV (W2.wA W1.A) (if decide (ds.length ≤ sizeLine) then newD b ks vs h2 else .no) Q (fun C d H' => wx C d σ H') := rd2
      split at rd3
      · rename_i hz
        have hz := of_decide_eq_true hz
        exact accD_end R2 ac hk dv (by omega) rd3
      · exact False.elim rd3
    | some d =>
      obtain ⟨g0, g1, g2⟩ := wk.go W2 h2 H2 i d hcl u2 R2 (by show some ds[i]? = _; rw [hn])
      have hi2 : i < ds.length := (List.getElem?_eq_some_iff.mp hn).1
      rw [drop_some hn] at rd2
      have rd2 : RD S S.DV (W2.wA W1.A) ((noExc ((oneD S t mk el s d h2).bind fun x h1 => dcompL (oneD S t mk el s) (ds.drop (i + 1)) (putK ks vs x.1 x.2).1 (putK ks vs x.1 x.2).2 h1)).bind fun p h2 => if decide (ds.length ≤ sizeLine) then newD b p.1 p.2 h2 else .no) Q (fun C d H' => wx C d σ H') := rd2
      refine .inr ⟨g1, fun H' => ∃ W2 h2 kvs ks vs, cl (i + 1) ∧ ds.length - (i + 1) = ds.length - (i + 1) ∧ S.HR W2 h2 H' ∧ W1.sub W2 ∧ Ac W1.A D (.dK kvs) W2 ∧ kvs.map (·.1) = ks ∧ S.DVs W2 vs (kvs.map (·.2)) ∧ kvs.length ≤ i + 1 ∧ i + 1 ≤ ds.length ∧
        RD S S.DV (W2.wA W1.A) ((noExc (dcompL (oneD S t mk el s) (ds.drop (i + 1)) ks vs h2)).bind fun p h2 => if decide (ds.length ≤ sizeLine) then newD b p.1 p.2 h2 else .no) Q (fun C d H' => wx C d σ H'), fun H' q => ⟨ds.length - (i + 1), by omega, q⟩, fun x H' y => ?_⟩
      obtain ⟨W3, w3, R3, q3⟩ := g2 x H' y
      have rd3 := RD.up (wA_le (A := W1.A) w3) rd2
      have ac3 := ac.le w3
      have dv3 := dv.le w3
      have u3 := u2.trans w3.sub
      have sr3 : S.SR W3 (wipeE s t.slots) (L2.wipe σ t.slots) := SR.wipe (sr1.sub u3) t.slots
      unfold oneD at rd3
      cases ht : t.set d (wipeE s t.slots) with
      | none => rw [ht] at rd3; exact False.elim rd3
      | some s' =>
        rw [ht] at rd3
        have rd3 : RD S S.DV (W3.wA W1.A) ((noExc (((S.ev mk s' h2).bind fun kd h2 => (S.ev el s' h2).bind fun y h3 => (Res.opt h3 (keyOf kd)).bind fun kk h4 => .ok (kk, y) h4).bind fun x h1 => dcompL (oneD S t mk el s) (ds.drop (i + 1)) (putK ks vs x.1 x.2).1 (putK ks vs x.1 x.2).2 h1)).bind fun p h2 => if decide (ds.length ≤ sizeLine) then newD b p.1 p.2 h2 else .no) Q (fun C d H' => wx C d σ H') := rd3
        refine ⟨W3, h2, _, s', d, R3, sr3, q3, ht, fun σ2 sr4 hw => ⟨hw.trans (wipe_idem σ _), ?_⟩⟩
        rw [bind_assoc'] at rd3
        refine ⟨W3, h2, s', R3, sr4, (RD.nx rd3).imp fun kv H3 ⟨kd, h3, W4, _, w4, R4, q4, rd4⟩ => ?_⟩
        rw [bind_assoc'] at rd4
        refine ⟨W4, h3, s', R4, sr4.le w4, (RD.nx rd4).imp fun v H5 ⟨e, h5, W5, _, w5, R5, q5, rd5⟩ => ?_⟩
        have ac5 := (ac3.le w4).le w5
        have dv5 := (dv3.le w4).le w5
        cases hkk : keyOf kd with
        | none => rw [hkk] at rd5; exact False.elim rd5
        | some kk =>
          rw [hkk] at rd5
          have rd5 : RD S S.DV (W5.wA W1.A) ((noExc (dcompL (oneD S t mk el s) (ds.drop (i + 1)) (putK ks vs kk e).1 (putK ks vs kk e).2 h5)).bind fun p h2 => if decide (ds.length ≤ sizeLine) then newD b p.1 p.2 h2 else .no) Q (fun C d H' => wx C d σ H') := rd5
          have hz : ds.length ≤ sizeLine := by
            have rd6 := rd5
            cases hr : dcompL (oneD S t mk el s) (ds.drop (i + 1)) (putK ks vs kk e).1 (putK ks vs kk e).2 h5 with
            | ok xs h6 =>
              rw [hr] at rd6
              have rd6 : RD S S.DV (W5.wA W1.A) (if decide (ds.length ≤ sizeLine) then newD b xs.1 xs.2 h6 else .no) Q (fun C d H' => wx C d σ H') := rd6
              split at rd6
              · rename_i hz; exact of_decide_eq_true hz
              · exact False.elim rd6
            | exc x hh => rw [hr] at rd6; exact False.elim rd6
            | no => rw [hr] at rd6; exact False.elim rd6
          obtain ⟨p1, p2⟩ := putK_val q5 kk hk dv5
          have hl2 := length_putK kvs kk v
          have hkv : kv = kV kk := keyOf_v hkk (DV.dh R4 q4)
          exact ⟨kvs, kk, hkv, (R5.acc D _ ac5.at_).1, by omega, ⟨W5.F, W5.ι, upd W5.A D (.dK (L2.putK kvs kk v))⟩, h5, L2.putK kvs kk v, _, _, g0, rfl, HR.accPut R5 ac5.at_, ((u3.trans w4.sub).trans w5.sub).trans put_sub, ac5.put, p1, DVs.sub put_sub p2, by omega, by omega, rd5⟩
theorem se_dcomp {kx : Expr} {mk : E} (ok : XOk S sc N true X wx) (hi : PI X tg iter (tI S wx it)) (hb : blkC N sc scope own = true) (ho : own.map (·.2) = t.slots) (ht : tgB N (relS scope sc) scope t tg = true)
    (hc : ∀ X', XOk S (relS scope sc) N true X' wF → PE X' kx (tE S wF mk)) (he : ∀ X', XOk S (relS scope sc) N true X' wF → PE X' elt (tE S wF el)) (hs : notSet iter = true) :
    PE X (.DictComp kx elt [⟨tg, iter, [], 0⟩] scope pos) (tE S wx (.dcomp b t it mk el)) := by
  refine peImp (pe_dc (tt := tYes) (ok.cm rfl).1 (by rw [ok.nm]; exact ok.nd) hi (by rw [ok.nm, ok.sc]; exact blkOk_by hb) (fun s H C cl fp => sg_tg ok.K (ok.cm rfl).1 (ok.tok s H scope C cl fp) ht) (fun s H C cl fp => pts_nil) (fun s H C cl fp => hc _ (ok.blk s H scope C cl fp)) (fun s H C cl fp => he _ (ok.blk s H scope C cl fp)) fun v => fold_plain hs) fun σ H Q q => dc_red ho q
end
end Vm

/-! Vm, part 13: statements. Own text. -/
namespace Vm
open PySem L2 PySem.Spec PyProof.Rows

section
variable (S : Sc)
abbrev Sc.exS (m : Vm.S) (s : En) (h : Hq) : Rs := Vm.exS (callK S.T S.k) S.T.gl S.T.sub S.b m s h
def RS (wx : WX) (W : Wd) (r : Rs) (D : Ends) : Prop :=
  match r with
  | .nx s h => ∀ W' H σ, W.le W' → S.HR W' h H → S.SR W' s σ → D.nx σ H
  | .rt d h => ∀ W' H v, W.le W' → S.HR W' h H → S.DV W' d v → D.rt v H
  | .bk s h => ∀ W' H σ, W.le W' → S.HR W' h H → S.SR W' s σ → D.bk σ H
  | .ct s h => ∀ W' H σ, W.le W' → S.HR W' h H → S.SR W' s σ → D.ct σ H
  | .ex x s h => ∀ W' H C d σ, W.le W' → S.HR W' h H → S.SR W' s σ → XV S.K S.ca S.xa W' x C d H → wx C d σ H
  | .no => False
def tS (wx : WX) (m : Vm.S) : TS := fun D σ H => ∃ W h s, S.HR W h H ∧ S.SR W s σ ∧ RS S wx W (S.exS m s h) D
end
section
variable {S : Sc} {wx : WX} {X : Cx} {W W1 : Wd} {D : Ends}
theorem RS.up (w : W.le W1) {r : Rs} (h : RS S wx W r D) : RS S wx W1 r D := by
  cases r with
  | nx s hh => exact fun W' H σ w' => h W' H σ (w.trans w')
  | rt d hh => exact fun W' H v w' => h W' H v (w.trans w')
  | bk s hh => exact fun W' H σ w' => h W' H σ (w.trans w')
  | ct s hh => exact fun W' H σ w' => h W' H σ (w.trans w')
  | ex x s hh => exact fun W' H C d σ w' => h W' H C d σ (w.trans w')
  | no => exact h
/-- an expression within a statement -/
theorem RS.of {α β : Type} {rel : Wd → α → β → Prop} {s : En} {σ : L2.St} {r : Res α} {f : α → Hq → Rs} (sr : S.SR W s σ) (h : RS S wx W (Rs.of s r f) D) :
    RD S rel W r (fun v H => ∃ a h1 W1, r = .ok a h1 ∧ W.le W1 ∧ S.HR W1 h1 H ∧ rel W1 a v ∧ RS S wx W1 (f a h1) D) (fun C d H' => wx C d σ H') := by
  cases r with
  | ok a h1 => exact fun W1 H v w R q => ⟨a, h1, W1, rfl, w, R, q, RS.up w h⟩
  | exc x hh => exact fun W' H C d w R q => h W' H C d σ w R (sr.le w) q
  | no => exact h
theorem psImp {st : Stmt} {t t' : TS} (h : PS X st t) (k : ∀ D σ H, t' D σ H → t D σ H) : PS X st t' := ⟨fun pins s σ H D I q => h.run pins s σ H D I (k D σ H q)⟩
theorem pssImp {st : List Stmt} {t t' : TS} (h : PSs X st t) (k : ∀ D σ H, t' D σ H → t D σ H) : PSs X st t' := ⟨fun pins s σ H D I q => h.run pins s σ H D I (k D σ H q)⟩
end

/-! ### what the text must be -/
def notComp : Expr → Bool
  | .ListComp _ _ _ _ => false
  | .SetComp _ _ _ _ => false
  | .DictComp _ _ _ _ _ => false
  | _ => true
theorem swaps_plain {e : Expr} (h : notComp e = true) (t : Option Expr) (l : Nat) (env : Env) : swapsWith e t l env = pure false := by
  cases e <;> first | rfl | cases h
def notTupE : Expr → Bool
  | .Tuple _ _ _ => false
  | _ => true
theorem stores_plain {e : Expr} (h : notTupE e = true) (t : Expr) (env : Env) : swappedStores [t] e env = pure none := by
  cases e <;> cases t <;> first | rfl | cases h
theorem stores_name {e : Expr} {n : Str} {p : Pos} (env : Env) : swappedStores [.Name n p] e env = pure none := by
  cases e <;> rfl
theorem stores_sub {e a b : Expr} {p : Pos} (env : Env) : swappedStores [.Subscript a b p] e env = pure none := by
  cases e <;> rfl
theorem swaps_sub {e a b : Expr} {p : Pos} {l : Nat} (env : Env) : swapsWith e (some (.Subscript a b p)) l env = pure false := by
  cases e <;> rfl
theorem swaps_attr {e a : Expr} {f : Str} {p : Pos} {l : Nat} (env : Env) : swapsWith e (some (.Attribute a f p)) l env = pure false := by
  cases e <;> rfl
theorem swaps_tup {e : Expr} {ts : List Expr} {k : Nat} {p : Pos} {l : Nat} (env : Env) : swapsWith e (some (.Tuple ts k p)) l env = pure false := by
  cases e <;> rfl
/-- a comprehension that is not made at the name: the name is a cell, or stands on another line -/
def noSwap (sc : Scope) (n : Str) (line : Nat) : Expr → Bool
  | .ListComp _ _ s p => (match sc.names.lookup n with | some .local => false | _ => true) || !(line == p.line)
  | .DictComp _ _ _ s p => (match sc.names.lookup n with | some .local => false | _ => true) || !(line == p.line)
  | .SetComp _ _ _ _ => false
  | _ => true
theorem noSwap_ok {sc : Scope} {n : Str} {e : Expr} {py : Pos} {l : Nat} {env : Env} (he : env.scope = sc) (h : noSwap sc n py.line e = true) : swapsWith e (some (.Name n py)) l env = pure false := by
  have key : ∀ (s : Scope) (p : Pos), ((match sc.names.lookup n with | some .local => false | _ => true) || !(py.line == p.line)) = true →
      (env.blockKind == .function && env.kindOf n == some .local && py.line == p.line && !(s.names.any fun (m, k) => m == n && (k == .local || k == .cell))) = false := fun s p h => by
    rcases Bool.or_eq_true_iff.mp h with z | z
    · have : (env.kindOf n == some NameKind.local) = false := by
        show (env.scope.names.lookup n == some NameKind.local) = false
        rw [he]
        split at z
        · cases z
        · rename_i q
          cases hq : sc.names.lookup n with
          | none => rfl
          | some k =>
            cases k with
            | «local» => exact absurd hq q
            | _ => rfl
      rw [this, Bool.and_false, Bool.false_and, Bool.false_and]
    · have : (py.line == p.line) = false := by simpa using z
      rw [this, Bool.and_false, Bool.false_and]
  cases e with
  | ListComp a b s p => show (pure _ : Sem Bool) = _; rw [show (Expr.ListComp a b s p).pos = p from rfl, key s p h]
  | DictComp a b c s p => show (pure _ : Sem Bool) = _; rw [show (Expr.DictComp a b c s p).pos = p from rfl, key s p h]
  | SetComp a b s p => cases h
  | _ => rfl
theorem sub_asg {o i : Expr} {pos : Pos} {env : Env} (h : notSlice i = true) (v : Value) : assign (.Subscript o i pos) env v = (do
      let ov ← holding [v] (eval o env)
      let iv ← holding [v, ov] (eval i env)
      standAt pos
      holding [v, ov, iv] (setItem ov iv v)
      release [v, ov, iv] []) := by
  cases i <;> first | rfl | cases h
theorem PSet.or {X : Cx} {t t' : TSet} (h : PSet X t) (h' : PSet X t') : PSet X (fun o i v H Q => t o i v H Q ∨ t' o i v H Q) :=
  fun pins s σ H o i v ov iv u Q I r1 r2 r3 q => q.elim (h pins s σ H o i v ov iv u Q I r1 r2 r3) (h' pins s σ H o i v ov iv u Q I r1 r2 r3)

section
variable {S : Sc} {wx : WX} {X : Cx} {pos p p2 : Pos} {x y z o e tg iter : Expr} {es : List Expr} {st : Stmt} {rest body : List Stmt} {m m1 m2 m3 : E} {b b1 b2 : Vm.S} {sc : Scope} {N : List Str} {cm : Bool}
theorem ss_nil : PSs X [] (tS S wx .nil) := pssImp pss_nil fun D σ H ⟨W, h, s, R, sr, rs⟩ => rs _ _ _ (.refl W) R sr
theorem ss_cons (h1 : PS X st (tS S wx b1)) (h2 : PSs X rest (tS S wx b2)) : PSs X (st :: rest) (tS S wx (.seq b1 b2)) := by
  refine pssImp (pss_cons h1 h2) fun D σ H ⟨W, h, s, R, sr, rs⟩ => ⟨W, h, s, R, sr, ?_⟩
  have rs : RS S wx W (match S.exS b1 s h with | .nx σ' h' => S.exS b2 σ' h' | q => q) D := rs
  cases q : S.exS b1 s h with
  | nx s' h' => rw [q] at rs; exact fun W' H' σ' w R' sr' => ⟨W', h', s', R', sr', RS.up w rs⟩
  | rt d h' => rw [q] at rs; exact rs
  | bk s' h' => rw [q] at rs; exact rs
  | ct s' h' => rw [q] at rs; exact rs
  | ex x s' h' => rw [q] at rs; exact rs
  | no => rw [q] at rs; exact rs
theorem sp_pass : PS X (.Pass pos) (tS S wx .pass) := psImp ps_pass fun D σ H ⟨W, h, s, R, sr, rs⟩ => rs _ _ _ (.refl W) R sr
theorem sp_brk : PS X (.Break pos) (tS S wx .brk) := psImp ps_break fun D σ H ⟨W, h, s, R, sr, rs⟩ => rs _ _ _ (.refl W) R sr
theorem sp_cont : PS X (.Continue pos) (tS S wx .cont) := psImp ps_continue fun D σ H ⟨W, h, s, R, sr, rs⟩ => rs _ _ _ (.refl W) R sr
theorem sp_doc {j : Nat} {t : Str} : PS X (.Expr (.Constant (.str t) j p) pos) (tS S wx .pass) := psImp ps_doc fun D σ H ⟨W, h, s, R, sr, rs⟩ => rs _ _ _ (.refl W) R sr
theorem sp_never : PS X st (tS S wx .never) := psImp ps_never fun D σ H ⟨W, h, s, R, sr, rs⟩ => rs
theorem asg_red {i : Nat} {D : Ends} {σ : L2.St} {H : Hp} (h : tS S wx (.set i m) D σ H) : tAsg (tE S wx m) (gName i) D σ H := by
  obtain ⟨W, h, s, R, sr, rs⟩ := h
  have rs : RS S wx W (Rs.of s (S.ev m s h) fun d h1 => .nx (s.set i (some d)) h1) D := rs
  exact ⟨W, h, s, R, sr, (RS.of sr rs).imp fun v H1 ⟨d, h1, W1, _, w1, R1, q1, rs1⟩ => rs1 _ _ _ (.refl W1) R1 ((sr.le w1).set q1)⟩
theorem sp_set {i : Nat} {n : Str} {scr : Scope} (T : TOk X N sc scr) (hn : nmB N sc scr i (.Name n p) = true) (hw : noSwap sc n p.line e = true) (he : PE X e (tE S wx m)) : PS X (.Assign [.Name n p] e pos) (tS S wx (.set i m)) :=
  psImp (ps_asg he (pg_nm T hn) (noSwap_ok (l := pos.line) T.sc hw) (stores_name _)) fun D σ H q => asg_red q
theorem sp_setT {t : Tg} {ts : List Expr} {k : Nat} {scr : Scope} (hc : X.calm = true) (hK : X.K = S.K) (T : TOk X N sc scr) (ht : tgB N sc scr t (.Tuple ts k p) = true) (hw : notTupE e = true) (he : PE X e (tE S wx m)) : PS X (.Assign [.Tuple ts k p] e pos) (tS S wx (.setT t m)) := by
  refine psImp (ps_asg he (sg_tg (S := S) hK hc T ht) (show swapsWith e (some (.Tuple ts k p)) pos.line X.env = pure false from swaps_tup _) (stores_plain hw _ _)) fun D σ H ⟨W, h, s, R, sr, rs⟩ => ?_
  have rs : RS S wx W (Rs.of s (S.ev m s h) fun d h1 => (match t.set d s with | some σ' => .nx σ' h1 | none => .no)) D := rs
  refine ⟨W, h, s, R, sr, (RS.of sr rs).imp fun v H1 ⟨d, h1, W1, _, w1, R1, q1, rs1⟩ => ?_⟩
  cases ht : t.set d s with
  | none => rw [ht] at rs1; exact False.elim rs1
  | some s' => rw [ht] at rs1; exact ⟨W1, h1, s, s', d, R1, sr.le w1, q1, ht, fun σ' sr' _ => rs1 _ _ _ (.refl W1) R1 sr'⟩
theorem sp_exp (hw : notComp e = true) (he : PE X e (tE S wx m)) : PS X (.Expr e pos) (tS S wx (.exp m)) := by
  refine psImp (ps_expr he (swaps_plain hw _ _ _)) fun D σ H ⟨W, h, s, R, sr, rs⟩ => ?_
  have rs : RS S wx W (Rs.of s (S.ev m s h) fun _ h1 => .nx s h1) D := rs
  exact ⟨W, h, s, R, sr, (RS.of sr rs).imp fun v H1 ⟨d, h1, W1, _, w1, R1, q1, rs1⟩ => rs1 _ _ _ (.refl W1) R1 (sr.le w1)⟩
theorem sp_ret (he : PE X e (tE S wx m)) : PS X (.Return (some e) pos) (tS S wx (.ret m)) := by
  refine psImp (ps_ret he) fun D σ H ⟨W, h, s, R, sr, rs⟩ => ?_
  have rs : RS S wx W (Rs.of s (S.ev m s h) fun d h1 => .rt d h1) D := rs
  exact ⟨W, h, s, R, sr, (RS.of sr rs).imp fun v H1 ⟨d, h1, W1, _, w1, R1, q1, rs1⟩ => rs1 _ _ _ (.refl W1) R1 q1⟩
theorem sp_retN : PS X (.Return none pos) (tS S wx .retN) := psImp ps_retN fun D σ H ⟨W, h, s, R, sr, rs⟩ => rs _ _ _ (.refl W) R rfl
theorem sp_if {c : Expr} {l1 l2 : List Stmt} (hc : PT X c (tT S wx m)) (h1 : PSs X l1 (tS S wx b1)) (h2 : PSs X l2 (tS S wx b2)) : PS X (.If c l1 l2 pos) (tS S wx (.ife m b1 b2)) := by
  refine psImp (ps_if hc h1 h2) fun D σ H ⟨W, h, s, R, sr, rs⟩ => ?_
  have rs : RS S wx W (Rs.of s (asB (S.ev m s h)) fun c h1 => if c then S.exS b1 s h1 else S.exS b2 s h1) D := rs
  refine ⟨W, h, s, R, sr, (RS.of (rel := rB) sr rs).imp fun c H1 ⟨c', h1, W1, _, w1, R1, q1, rs1⟩ => ?_⟩
  subst q1
  cases c with
  | true => exact ⟨W1, h1, s, R1, sr.le w1, rs1⟩
  | false => exact ⟨W1, h1, s, R1, sr.le w1, rs1⟩
theorem putFd_val {W : Wd} {d : Dt} {v : V} (q : S.DV W d v) (f : Str) : ∀ {ns : List Str} {ds : List Dt} {fs : List (Str × V)}, fs.map (·.1) = ns → S.DVs W ds (fs.map (·.2)) →
    (putF f v fs).map (·.1) = (putFd ns ds f d).1 ∧ S.DVs W (putFd ns ds f d).2 ((putF f v fs).map (·.2))
  | [], [], [], _, _ => ⟨rfl, v, [], rfl, q, rfl⟩
  | [], _ :: _, [], _, r => by obtain ⟨_, _, r, _⟩ := r; cases r
  | j :: ns, [], [], hk, _ => by cases hk
  | j :: ns, d :: ds, [], hk, _ => by cases hk
  | [], ds, p :: fs, hk, _ => by cases hk
  | j :: ns, [], p :: fs, hk, r => by cases r
  | j :: ns, e :: ds, p :: fs, hk, ⟨u, r, e1, q1, q2⟩ => by
    rw [List.map_cons] at hk e1
    injection hk with hk1 hk2
    injection e1 with e2 e3
    obtain ⟨i1, i2⟩ := putFd_val q f hk2 (by rw [e3]; exact q2)
    subst hk1
    obtain ⟨pn, pv⟩ := p
    show ((if pn = f then (pn, v) :: fs else (pn, pv) :: putF f v fs).map (·.1)) = (if pn = f then (pn :: ns, d :: ds) else ((pn :: (putFd ns ds f d).1), (e :: (putFd ns ds f d).2))).1 ∧ S.DVs W (if pn = f then (pn :: ns, d :: ds) else ((pn :: (putFd ns ds f d).1), (e :: (putFd ns ds f d).2))).2 ((if pn = f then (pn, v) :: fs else (pn, pv) :: putF f v fs).map (·.2))
    by_cases c : pn = f
    · rw [if_pos c, if_pos c]
      exact ⟨by rw [List.map_cons, hk2], v, r, by rw [List.map_cons, e3], q, q2⟩
    · rw [if_neg c, if_neg c]
      exact ⟨by rw [List.map_cons, i1], u, _, by rw [List.map_cons, show pv = u from e2], q1, i2⟩
theorem sp_setF {f n : Str} {c : Nat} (ok : XOk S sc N cm X wx) (ho : PE X o (tE S wx m1)) (he : PE X e (tE S wx m2)) (hn : S.G.cls c = some n) (hf : S.G.attr c f = true) : PS X (.Assign [.Attribute o f p] e pos) (tS S wx (.setF c m1 f m2)) := by
  refine psImp (ps_fld ho he (swaps_attr _)) fun D σ H ⟨W, h, s, R, sr, rs⟩ => ?_
  have rs : RS S wx W (Rs.of s (S.ev m2 s h) fun d h1 => .of s (S.ev m1 s h1) fun od h2 => .opt s (storeF S.b c od f d h2)) D := rs
  refine ⟨W, h, s, R, sr, (RS.of sr rs).imp fun v H1 ⟨d, h1, W1, _, w1, R1, q1, rs1⟩ => ?_⟩
  refine ⟨W1, h1, s, R1, sr.le w1, (RS.of (sr.le w1) rs1).imp fun u H2 ⟨od, h2, W2, _, w2, R2, q2, rs2⟩ => ?_⟩
  cases od with
  | ref n' =>
    obtain ⟨a, rfl, ha⟩ := q2
    have rs2 : RS S wx W2 (.opt s (if stOk S.b n' d then (match h2[n']? with
      | some (.ins c' ns ds) => if decide (c' = c) && decide (ns.length < 1000) then some (h2.set n' (.ins c' (putFd ns ds f d).1 (putFd ns ds f d).2)) else none
      | _ => none) else none)) D := rs2
    cases hs : stOk S.b n' d with
    | false => rw [hs] at rs2; exact False.elim rs2
    | true =>
      rw [hs] at rs2
      cases hn' : h2[n']? with
      | none => rw [hn'] at rs2; exact False.elim rs2
      | some cc =>
        rw [hn'] at rs2
        cases cc with
        | ins c' ns ds =>
          have rs5 : RS S wx W2 (.opt s (if decide (c' = c) && decide (ns.length < 1000) then some (h2.set n' (.ins c' (putFd ns ds f d).1 (putFd ns ds f d).2)) else none)) D := rs2
          obtain ⟨_, o', hH, dx, fs, rfl, hk, dv⟩ := R2.cell n' _ a hn' (by intro z; cases z) ha
          split at rs5
          · rename_i hc
            obtain ⟨hc1, hc2⟩ := and2 hc
            have hc1 := of_decide_eq_true hc1
            have hc2 := of_decide_eq_true hc2
            subst hc1
            have hlen : fs.length = ns.length := by rw [← hk, List.length_map]
            obtain ⟨p1, p2⟩ := putFd_val (stOk_at hs (q1.le w2)) f hk dv
            rw [ok.K]
            refine ⟨a, S.ca c', dx, fs, rfl, hH, (ok.ft.cls c' n hn).2, ok.ft.attr c' f hf, by omega, ?_⟩
            exact rs5 _ _ _ (.refl W2) (HR.put R2 hn' (by intro z; cases z) ha ⟨dx, _, rfl, p1, p2⟩) ((sr.le w1).le w2)
          · exact False.elim rs5
        | _ => exact False.elim rs2
  | _ => exact False.elim rs2
theorem store_red {W3 : Wd} {h3 : Hq} {H3 : Hp} {s : En} {σ : L2.St} {d od kd : Dt} {v u kv : V} {D : Ends} {Q : Hp → Prop} (hQ : ∀ H, D.nx σ H → Q H) (R3 : S.HR W3 h3 H3) (sr3 : S.SR W3 s σ) (q1 : S.DV W3 d v) (q2 : S.DV W3 od u) (q3 : S.DV W3 kd kv) (rs : RS S wx W3 (.opt s (storeX S.b od kd d h3)) D) :
    rSetL u kv v H3 Q ∨ rSetD u kv v H3 Q := by
  cases od with
  | ref n' =>
    obtain ⟨a, rfl, ha⟩ := q2
    have rs3 : RS S wx W3 (.opt s (if stOk S.b n' d then (match (generalizing := false) h3[n']? with
      | some (.lst ds) => (match (generalizing := false) kd with
        | .int i => (ixN ds.length i).map fun j => h3.set n' (.lst (ds.set j d))
        | _ => none)
      | some (.dic ks vs) => (keyOf kd).bind fun kk => if decide (ks.length < sizeLine) then some (h3.set n' (.dic (putK ks vs kk d).1 (putK ks vs kk d).2)) else none
      | _ => none) else none)) D := rs
    cases hs : stOk S.b n' d with
    | false => rw [hs] at rs3; exact False.elim rs3
    | true =>
      rw [hs] at rs3
      cases hn' : h3[n']? with
      | none => rw [hn'] at rs3; exact False.elim rs3
      | some cc =>
        rw [hn'] at rs3
        cases cc with
        | lst ds =>
          obtain ⟨vs, hH, z, dv⟩ := cell_lst R3 hn' ha
          cases kd with
          | int i =>
            have rs3 : RS S wx W3 (.opt s ((ixN ds.length i).map fun j => h3.set n' (.lst (ds.set j d)))) D := rs3
            cases hj : ixN ds.length i with
            | none => rw [hj] at rs3; exact False.elim rs3
            | some j =>
              rw [hj] at rs3
              have hlen := dv.len
              refine .inl ⟨a, vs, i, j, rfl, q3, hH, by rw [← hlen]; exact hj, ?_⟩
              exact hQ _ <| rs3 _ _ _ (.refl W3) (HR.put R3 hn' (by intro z; cases z) ha ⟨_, rfl, by rw [List.length_set]; exact z, dv.set (stOk_at hs q1) j⟩) sr3
          | _ => exact False.elim rs3
        | dic ks vs =>
          obtain ⟨_, o', hH, kvs, rfl, hkk, z, dv⟩ := R3.cell n' _ a hn' (by intro z; cases z) ha
          have rs3 : RS S wx W3 (.opt s ((keyOf kd).bind fun kk => if decide (ks.length < sizeLine) then some (h3.set n' (.dic (putK ks vs kk d).1 (putK ks vs kk d).2)) else none)) D := rs3
          cases hkd : keyOf kd with
          | none => rw [hkd] at rs3; exact False.elim rs3
          | some kk =>
            rw [hkd] at rs3
            have rs3 : RS S wx W3 (.opt s (if decide (ks.length < sizeLine) then some (h3.set n' (.dic (Vm.putK ks vs kk d).1 (Vm.putK ks vs kk d).2)) else none)) D := rs3
            split at rs3
            · rename_i hz
              have hz := of_decide_eq_true hz
              have hlen : kvs.length = ks.length := by rw [← hkk, List.length_map]
              have hkv : kv = kV kk := keyOf_v hkd (DV.dh R3 q3)
              subst hkv
              obtain ⟨p1, p2⟩ := putK_val (stOk_at hs q1) kk hkk dv
              have hl2 := length_putK kvs kk v
              refine .inr ⟨a, _, rfl, DPut.k hH (by omega), ?_⟩
              exact hQ _ <| rs3 _ _ _ (.refl W3) (HR.put R3 hn' (by intro z; cases z) ha ⟨_, rfl, p1, by omega, p2⟩) sr3
            · exact False.elim rs3
        | _ => exact False.elim rs3
  | _ => exact False.elim rs
theorem sp_setX {k : Expr} (ok : XOk S sc N cm X wx) (ho : PE X o (tE S wx m1)) (hk : PE X k (tE S wx m3)) (he : PE X e (tE S wx m2)) (hs : notSlice k = true) : PS X (.Assign [.Subscript o k p] e pos) (tS S wx (.setX m1 m3 m2)) := by
  have hu : X.A.units + 1 < cLine := by have := ok.un; omega
  refine psImp (ps_asg he (pg_sub ho hk (PSet.or set_list (set_dict hu)) (sub_asg hs)) (show swapsWith e (some (.Subscript o k p)) pos.line X.env = pure false from swaps_sub _) (stores_sub _)) fun D σ H ⟨W, h, s, R, sr, rs⟩ => ?_
  have rs : RS S wx W (Rs.of s (S.ev m2 s h) fun d h1 => .of s (S.ev m1 s h1) fun od h2 => .of s (S.ev m3 s h2) fun kd h3 => .opt s (storeX S.b od kd d h3)) D := rs
  refine ⟨W, h, s, R, sr, (RS.of sr rs).imp fun v H1 ⟨d, h1, W1, _, w1, R1, q1, rs1⟩ => ?_⟩
  refine ⟨W1, h1, s, R1, sr.le w1, (RS.of (sr.le w1) rs1).imp fun u H2 ⟨od, h2, W2, _, w2, R2, q2, rs2⟩ => ?_⟩
  refine ⟨W2, h2, s, R2, (sr.le w1).le w2, (RS.of ((sr.le w1).le w2) rs2).imp fun kv H3 ⟨kd, h3, W3, _, w3, R3, q3, rs3⟩ => ?_⟩
  exact store_red (fun _ z => z) R3 (((sr.le w1).le w2).le w3) ((q1.le w2).le w3) (q2.le w3) q3 rs3
theorem swaps_two {x : Str} {px p1 pt : Pos} {o i : Expr} {kt : Nat} {e : Expr} (env : Env) : swappedStores [.Tuple [.Name x px, .Subscript o i p1] kt pt] e env = pure none := by
  cases e with
  | Tuple vs k2 p2 =>
    unfold swappedStores
    have hn : ∀ line, ([Expr.Name x px, Expr.Subscript o i p1].filterMap fun
      | .Name id pos => if env.kindOf id == some .local && pos.line == line then some id else none
      | _ => none).length ≤ 1 := fun line => by
      rw [List.filterMap_cons]
      split <;> exact Nat.le_of_ble_eq_true rfl
    simp only []
    split
    · rfl
    · split
      · rfl
      · split
        · rfl
        · rename_i hq
          exfalso
          apply hq
          rw [Bool.or_eq_true]
          refine .inl ?_
          have := hn ((Option.map (fun x => x.pos.line) [Expr.Name x px, Expr.Subscript o i p1].head?).getD 0)
          rw [bne_iff_ne]
          intro z
          exact absurd (show 2 ≤ _ from Nat.le_of_eq z.symm) (Nat.not_le.mpr (Nat.lt_succ_of_le (hn _)))
  | _ => rfl
theorem sp_parX {i : Nat} {n : Str} {k : Expr} {kt : Nat} {pt px : Pos} {scr : Scope} (ok : XOk S sc N cm X wx) (hc : X.calm = true) (T : TOk X N sc scr) (hn : nmB N sc scr i (.Name n px) = true) (ho : PE X o (tE S wx m1)) (hk : PE X k (tE S wx m3)) (he : PE X e (tE S wx m2)) (hs : notSlice k = true) : PS X (.Assign [.Tuple [.Name n px, .Subscript o k p] kt pt] e pos) (tS S wx (.parX i m1 m3 m2)) := by
  have hu : X.A.units + 1 < cLine := by have := ok.un; omega
  refine psImp (ps_asg he (pg_tup hc (pgs_cons (pg_nm T hn) (pgs_cons (pg_sub ho hk (PSet.or set_list (set_dict hu)) (sub_asg hs)) pgs_nil))) (show swapsWith e (some (.Tuple [.Name n px, .Subscript o k p] kt pt)) pos.line X.env = pure false from swaps_tup _) (swaps_two _)) fun D σ H ⟨W, h, s, R, sr, rs⟩ => ?_
  have rs : RS S wx W (Rs.of s (S.ev m2 s h) fun d h1 => (match d with
    | .tup [x, y] => .of (s.set i (some x)) (S.ev m1 (s.set i (some x)) h1) fun od h2 => .of (s.set i (some x)) (S.ev m3 (s.set i (some x)) h2) fun kd h3 => .opt (s.set i (some x)) (storeX S.b od kd y h3)
    | _ => .no)) D := rs
  refine ⟨W, h, s, R, sr, (RS.of sr rs).imp fun v H1 ⟨d, h1, W1, _, w1, R1, q1, rs1⟩ => ?_⟩
  cases d with
  | tup ds =>
    cases ds with
    | nil => exact False.elim rs1
    | cons x ds =>
      cases ds with
      | nil => exact False.elim rs1
      | cons y ds =>
        cases ds with
        | cons z ds => exact False.elim rs1
        | nil =>
          have rs1 : RS S wx W1 (.of (s.set i (some x)) (S.ev m1 (s.set i (some x)) h1) fun od h2 => .of (s.set i (some x)) (S.ev m3 (s.set i (some x)) h2) fun kd h3 => .opt (s.set i (some x)) (storeX S.b od kd y h3)) D := rs1
          obtain ⟨a, vs, rfl, sq, z, dv⟩ := q1
          obtain ⟨v1, r1, rfl, qx, dv⟩ := dv
          obtain ⟨v2, r2, rfl, qy, dv⟩ := dv
          cases (show r2 = [] from dv)
          refine ⟨a, [v1, v2], rfl, ok.K ▸ R1.seqT sq, rfl, v1, [v2], rfl, ?_⟩
          have sr1 := (sr.le w1).set (i := i) qx
          refine ⟨v2, [], rfl, ?_⟩
          refine ⟨W1, h1, _, R1, sr1, (RS.of sr1 rs1).imp fun u H2 ⟨od, h2, W2, _, w2, R2, q2, rs2⟩ => ?_⟩
          refine ⟨W2, h2, _, R2, sr1.le w2, (RS.of (sr1.le w2) rs2).imp fun kv H3 ⟨kd, h3, W3, _, w3, R3, q3, rs3⟩ => ?_⟩
          exact store_red (fun _ z => ⟨rfl, z⟩) R3 ((sr1.le w2).le w3) ((qy.le w2).le w3) (q2.le w3) q3 rs3
  | _ => exact False.elim rs1

/-! ### name op= e -/
def rAug : Operator → R2
  | .Add => rI0 fun i j => .int (i + j)
  | .Sub => rI0 fun i j => .int (i - j)
  | .BitAnd => rI0 fun i j => .int (Builtin.bitAnd i j)
  | .BitOr => rI0 fun i j => .int (Builtin.bitOr i j)
  | .BitXor => rI0 fun i j => .int (Builtin.bitXor i j)
  | _ => rNo
theorem pip_aug (op : Operator) : PIp X op (rAug op) := by
  cases op with
  | Add => exact iop_add
  | Sub => exact iop_sub
  | BitAnd => exact iop_and
  | BitOr => exact iop_or
  | BitXor => exact iop_xor
  | _ => exact op_no _
theorem aug_ok {op : Operator} {d e r : Dt} {W : Wd} {h : Hq} {H : Hp} {x y : V} {Q : VK} (qd : S.DV W d x) (qe : S.DV W e y) (hr : augD op d e = some r) (k : ∀ v, S.DV W r v → Q v H) : rAug op x y H Q := by
  unfold augD at hr
  split at hr <;> first | (cases hr; exact ⟨_, _, qd, qe, k _ rfl⟩) | cases hr
theorem sp_aug {op : Operator} {i : Nat} {n : Str} {scr : Scope} (T : TOk X N sc scr) (hn : nmB N sc scr i (.Name n p) = true) (he : PE X e (tE S wx m)) : PS X (.AugAssign (.Name n p) op e pos) (tS S wx (.aug i op m)) := by
  obtain ⟨h1, h2⟩ := and2 (show (decide (N[i]? = some n) && okT sc scr n) = true from hn)
  have h1 := of_decide_eq_true h1
  rw [← T.nm] at h1
  have hx : Loc X.env.scope n ∧ (X.fn n = true ∨ X.env.scope.names.lookup n = some .local) := by
    unfold okT at h2
    have e := T.sc
    split at h2
    · rename_i q
      rw [← e] at q
      exact ⟨.inl q, .inr q⟩
    · rename_i q
      split at h2
      · rename_i q2
        rw [← e] at q
        exact ⟨.inr q, .inl (T.fn n q2)⟩
      · cases h2
    · cases h2
  refine psImp (ps_aug (by rw [T.nm]; exact T.nd) h1 hx.1 he (pip_aug op) hx.2) fun D σ H ⟨W, h, s, R, sr, rs⟩ => ?_
  have rs : RS S wx W (match s[i]? with
    | some (some d) => .of s (S.ev m s h) fun e h1 => (match augD op d e with
      | some r => .nx (s.set i (some r)) h1
      | none => .no)
    | _ => .no) D := rs
  cases hs : s[i]? with
  | none => rw [hs] at rs; exact False.elim rs
  | some od =>
    cases od with
    | none => rw [hs] at rs; exact False.elim rs
    | some d =>
      rw [hs] at rs
      obtain ⟨v, e1, qv⟩ := sr.2 i d hs
      have rs : RS S wx W (.of s (S.ev m s h) fun e h1 => (match augD op d e with
        | some r => .nx (s.set i (some r)) h1
        | none => .no)) D := rs
      refine ⟨v, e1, W, h, s, R, sr, (RS.of sr rs).imp fun y H1 ⟨e, h1, W1, _, w1, R1, q1, rs1⟩ => ?_⟩
      cases hr : augD op d e with
      | none => rw [hr] at rs1; exact False.elim rs1
      | some r =>
        rw [hr] at rs1
        exact aug_ok (h := h1) (qv.le w1) q1 hr fun u qu => rs1 _ _ _ (.refl W1) R1 ((sr.le w1).set qu)

/-! ### for -/
theorem forN_eq {f : Dt → En → Hq → Rs} {nx : Hq → Nat → Option (Option Dt)} {m i : Nat} {s : En} {h : Hq} : forN f nx m i s h = (match nx h i with
    | none => .no
    | some none => .nx s h
    | some (some d) => (match m with
      | 0 => .no
      | m + 1 => (match f d s h with
        | .nx s' h' => forN f nx m (i + 1) s' h'
        | .ct s' h' => forN f nx m (i + 1) s' h'
        | .bk s' h' => .nx s' h'
        | r => r))) := by
  cases m <;> (conv => lhs; unfold forN) <;> (cases nx h i with | none => rfl | some o => cases o <;> rfl)
theorem forL_N {f : Dt → En → Hq → Rs} : ∀ (ds pre : List Dt) (s : En) (h : Hq), forN f (nxL (pre ++ ds)) ds.length pre.length s h = forL f ds s h
  | [], pre, s, h => by
    have e : nxL (pre ++ []) h pre.length = some none := by
      show some ((pre ++ [])[pre.length]?) = some none
      rw [List.append_nil, List.getElem?_eq_none (Nat.le_refl _)]
    rw [forN_eq, e]
    rfl
  | d :: ds, pre, s, h => by
    have e : nxL (pre ++ d :: ds) h pre.length = some (some d) := by
      show some ((pre ++ d :: ds)[pre.length]?) = _
      rw [List.getElem?_append_right (Nat.le_refl _), Nat.sub_self]; rfl
    have ih := fun s' h' => forL_N (f := f) ds (pre ++ [d]) s' h'
    rw [List.length_cons, forN_eq, e]
    show (match f d s h with
        | .nx s' h' => forN f (nxL (pre ++ d :: ds)) ds.length (pre.length + 1) s' h'
        | .ct s' h' => forN f (nxL (pre ++ d :: ds)) ds.length (pre.length + 1) s' h'
        | .bk s' h' => .nx s' h'
        | r => r) = (match f d s h with
        | .nx s' h' => forL f ds s' h'
        | .ct s' h' => forL f ds s' h'
        | .bk s' h' => .nx s' h'
        | r => r)
    have ih : ∀ s' h', forN f (nxL (pre ++ d :: ds)) ds.length (pre.length + 1) s' h' = forL f ds s' h' := fun s' h' => by
      have := ih s' h'
      rw [List.append_assoc, List.length_append, List.length_singleton] at this
      exact this
    cases f d s h <;> first | exact ih _ _ | rfl
def Wk.fuelF (w : Wk) (h : Hq) : Nat := match w with
  | .its ds => ds.length
  | .cel n => cellLen h n + 4096
theorem forW_N {f : Dt → En → Hq → Rs} {w : Wk} {s : En} {h : Hq} : forW f w s h = forN f w.nx (w.fuelF h) 0 s h := by
  cases w with
  | its ds => exact (forL_N ds [] s h).symm
  | cel n => rfl
def oneF (S : Sc) (t : Tg) (b : Vm.S) (d : Dt) (s : En) (hh : Hq) : Rs := match t.set d s with
  | none => .no
  | some s' => S.exS b s' hh
theorem sp_for {t : Tg} {it : E} {scr : Scope} (ok : XOk S sc N true X wx) (T : TOk X N sc scr) (hp : PassesOwn (model X.prog X.w) X.A X.env X.xe) (hi : PI X tg iter (tI S wx it)) (ht : tgB N sc scr t tg = true) (hb : PSs X body (tS S wx b)) (hs : notSet iter = true) :
    PS X (.For tg iter body [] pos) (tS S wx (.forS t it b)) := by
  refine psImp (ps_for hp (ok.cm rfl).1 hi (sg_tg (S := S) ok.K (ok.cm rfl).1 T ht) hb (fun v => fold_plain hs)) fun D σ H ⟨W, h, s, R, sr, rs⟩ => ?_
  have rs : RS S wx W (Rs.of s (S.evi it s h) fun w h1 => forW (oneF S t b) w s h1) D := rs
  refine ⟨W, h, s, R, sr, (RS.of (rel := rW S) sr rs).imp fun J H1 ⟨w, h1, W1, _, w1, R1, ⟨cl, wk⟩, rs1⟩ => ?_⟩
  rw [forW_N] at rs1
  refine ⟨fun i m σ H => ∃ W2 h2 s2, cl i ∧ S.HR W2 h2 H ∧ W1.le W2 ∧ S.SR W2 s2 σ ∧ RS S wx W2 (forN (oneF S t b) w.nx m i s2 h2) D, ⟨w.fuelF h1, W1, h1, s, wk.c0, R1, .refl W1, sr.le w1, rs1⟩, ?_⟩
  rintro i m σ2 H2 ⟨W2, h2, s2, hcl, R2, u2, sr2, rs2⟩
  rw [forN_eq] at rs2
  cases hn : w.nx h2 i with
  | none => rw [hn] at rs2; exact False.elim rs2
  | some o =>
    cases o with
    | none =>
      rw [hn] at rs2
      exact .inl ⟨wk.stop W2 h2 H2 i hcl u2.sub R2 hn, rs2 _ _ _ (.refl W2) R2 sr2⟩
    | some d =>
      rw [hn] at rs2
      obtain ⟨g0, g1, g2⟩ := wk.go W2 h2 H2 i d hcl u2.sub R2 hn
      cases m with
      | zero => exact False.elim rs2
      | succ m =>
        have rs2 : RS S wx W2 (match oneF S t b d s2 h2 with
          | .nx s' h' => forN (oneF S t b) w.nx m (i + 1) s' h'
          | .ct s' h' => forN (oneF S t b) w.nx m (i + 1) s' h'
          | .bk s' h' => .nx s' h'
          | r => r) D := rs2
        refine .inr ⟨g1, fun σ' H' => ∃ W2 h2 s2, cl (i + 1) ∧ S.HR W2 h2 H' ∧ W1.le W2 ∧ S.SR W2 s2 σ' ∧ RS S wx W2 (forN (oneF S t b) w.nx m (i + 1) s2 h2) D, fun σ' H' q => ⟨m, Nat.lt_succ_self m, q⟩, fun x H' y => ?_⟩
        obtain ⟨W3, w3, R3, q3⟩ := g2 x H' y
        have rs3 := RS.up w3 rs2
        have sr3 := sr2.le w3
        have u3 := u2.trans w3
        unfold oneF at rs3
        cases hts : t.set d s2 with
        | none => rw [hts] at rs3; exact False.elim rs3
        | some s' =>
          rw [hts] at rs3
          refine ⟨W3, h2, s2, s', d, R3, sr3, q3, hts, fun σ4 sr4 _ => ⟨W3, h2, s', R3, sr4, ?_⟩⟩
          have rs3 : RS S wx W3 (match S.exS b s' h2 with
            | .nx s' h' => forN (oneF S t b) w.nx m (i + 1) s' h'
            | .ct s' h' => forN (oneF S t b) w.nx m (i + 1) s' h'
            | .bk s' h' => .nx s' h'
            | r => r) D := rs3
          cases q : S.exS b s' h2 with
          | nx s5 h5 => rw [q] at rs3; exact fun W5 H5 σ5 w5 R5 sr5 => ⟨W5, h5, s5, g0, R5, u3.trans w5, sr5, RS.up w5 rs3⟩
          | rt d5 h5 => rw [q] at rs3; exact rs3
          | bk s5 h5 => rw [q] at rs3; exact rs3
          | ct s5 h5 => rw [q] at rs3; exact fun W5 H5 σ5 w5 R5 sr5 => ⟨W5, h5, s5, g0, R5, u3.trans w5, sr5, RS.up w5 rs3⟩
          | ex x5 s5 h5 => rw [q] at rs3; exact rs3
          | no => rw [q] at rs3; exact rs3

/-! ### while -/
theorem sp_whl {n : Nat} {c : Expr} (hp : PassesOwn (model X.prog X.w) X.A X.env X.xe) (hc : PT X c (tT S wx m)) (hb : PSs X body (tS S wx b)) : PS X (.While c body [] pos) (tS S wx (.whl n m b)) := by
  refine psImp (ps_while hp hc hb) fun D σ H ⟨W, h, s, R, sr, rs⟩ => ?_
  have rs : RS S wx W (whlN (fun s hh => asB (S.ev m s hh)) (fun s hh => S.exS b s hh) n s h) D := rs
  refine ⟨fun n σ H => ∃ W2 h2 s2, S.HR W2 h2 H ∧ S.SR W2 s2 σ ∧ RS S wx W2 (whlN (fun s hh => asB (S.ev m s hh)) (fun s hh => S.exS b s hh) n s2 h2) D, ⟨n, W, h, s, R, sr, rs⟩, ?_⟩
  rintro n σ2 H2 ⟨W2, h2, s2, R2, sr2, rs2⟩
  cases n with
  | zero => exact False.elim rs2
  | succ n =>
    have rs2 : RS S wx W2 (Rs.of s2 (asB (S.ev m s2 h2)) fun c h1 => if c then (match S.exS b s2 h1 with
      | .nx s' h' => whlN (fun s hh => asB (S.ev m s hh)) (fun s hh => S.exS b s hh) n s' h'
      | .ct s' h' => whlN (fun s hh => asB (S.ev m s hh)) (fun s hh => S.exS b s hh) n s' h'
      | .bk s' h' => .nx s' h'
      | r => r) else .nx s2 h1) D := rs2
    refine ⟨W2, h2, s2, R2, sr2, (RS.of (rel := rB) sr2 rs2).imp fun c H3 ⟨c', h3, W3, _, w3, R3, q3, rs3⟩ => ?_⟩
    subst q3
    cases c with
    | false => exact rs3 _ _ _ (.refl W3) R3 (sr2.le w3)
    | true =>
      refine ⟨fun σ' H' => ∃ W2 h2 s2, S.HR W2 h2 H' ∧ S.SR W2 s2 σ' ∧ RS S wx W2 (whlN (fun s hh => asB (S.ev m s hh)) (fun s hh => S.exS b s hh) n s2 h2) D, fun σ' H' q => ⟨n, Nat.lt_succ_self n, q⟩, W3, h3, s2, R3, sr2.le w3, ?_⟩
      have rs3 : RS S wx W3 (match S.exS b s2 h3 with
        | .nx s' h' => whlN (fun s hh => asB (S.ev m s hh)) (fun s hh => S.exS b s hh) n s' h'
        | .ct s' h' => whlN (fun s hh => asB (S.ev m s hh)) (fun s hh => S.exS b s hh) n s' h'
        | .bk s' h' => .nx s' h'
        | r => r) D := rs3
      cases q : S.exS b s2 h3 with
      | nx s5 h5 => rw [q] at rs3; exact fun W5 H5 σ5 w5 R5 sr5 => ⟨W5, h5, s5, R5, sr5, RS.up w5 rs3⟩
      | rt d5 h5 => rw [q] at rs3; exact rs3
      | bk s5 h5 => rw [q] at rs3; exact rs3
      | ct s5 h5 => rw [q] at rs3; exact fun W5 H5 σ5 w5 R5 sr5 => ⟨W5, h5, s5, R5, sr5, RS.up w5 rs3⟩
      | ex x5 s5 h5 => rw [q] at rs3; exact rs3
      | no => rw [q] at rs3; exact rs3
end
end Vm

/-! Vm, part 13b: raise, try. Own text. -/
namespace Vm
open PySem L2 PySem.Spec PyProof.Rows

section
variable {S : Sc} {wx : WX} {X : Cx} {pos p p2 : Pos} {x : Str} {body suite : List Stmt} {b₀ : Stmt} {m : E} {b b1 b2 : Vm.S} {sc : Scope} {N : List Str} {cm : Bool}
theorem pmk_own0 {C : Addr} {bmB : List Value} {B newId initId : String} (F : ExcBaseFacts B newId initId bmB) (q : PySem.W.excIn X.K C bmB newId = true) (gC : X.mg x = some (.ref C))
    (kC : PySem.W.keepIn X.K (.ref C) = true) (r : Raises X (.ref C)) (hg : Gl X x) (hdb : (x == ("__debug__" : Str)) = false) :
    PMk X (.Call (.Name x p) [] [] pos) (fun σ H Q => Q (.ref C) none H) := by
  intro pins s σ H Q I h
  refine wpAny_Call_Name_kw (ld_glob I hg gC ?_ hdb)
  refine PySem.W.callWith_K0 I.kIn kC ?_
  show wpAny _ _ (call (.ref C) []) _ _ _
  obtain ⟨bm, N, nm, qn, bs, hdct, sn, sub, ab, col, dd, k0, k1, k2, k3, k5, mN, hC, hN, hni, T⟩ := exc_obj I.kIn q
  refine wpAny_call_exc_subT F T hC hN hni (fun h' e hm => ?_) (Nat.zero_le _)
  exact mk_of I hm r h (I.hok.gone hm.new)
theorem sp_raise {c : Nat} (ok : XOk S sc N cm X wx) (hc : X.calm = true) (hg : glB sc x = true) (hn : S.G.xc c = some x) (hr : S.G.xr c = true) (hd : ndbg x = true) : PS X (.Raise (some (.Call (.Name x p) [] [] p2)) none pos) (tS S wx (.raise c)) := by
  obtain ⟨h1, h2, h3, h4⟩ := ok.ft.xr c hr
  have hm := ok.ft.xc c x hn
  rw [← ok.K] at h1 h2 h3 h4
  rw [← ok.mg] at hm
  refine psImp (ps_raise hc ok.tk (pmk_own0 PySem.F.excBase_ValueError h1 hm h2 (raises_own h3 h4) (glB_ok ok hg) (ndbg_ok hd).1)) fun D σ H ⟨W, h, s, R, sr, rs⟩ => ?_
  exact rs W H (.ref (S.xa c)) none σ (.refl W) R sr ⟨rfl, .inl ⟨rfl, rfl, rfl⟩⟩
/-- try: .. except X: .. -/
theorem RS.noX {W : Wd} {r : Rs} {D : Ends} (h : RS S wx W (match r with | .ex _ _ _ => .no | r => r) D) : RS S (fun _ _ _ _ => False) W r D := by
  cases r with
  | ex x s hh => exact False.elim h
  | nx s hh => exact h
  | rt d hh => exact h
  | bk s hh => exact h
  | ct s hh => exact h
  | no => exact h
theorem XOk.suiteOk (ok : XOk S sc N cm X wx) (a : Addr) (pn : List (Addr × Obj)) : XOk S sc N false (X.suite a pn) (fun _ _ _ _ => False) :=
  ⟨ok.K, ok.mg, ok.nm, ok.sc, ok.nd, fun z => (by cases z), ok.un, fun u s' ⟨_, _, _, _, _, _, _, _, _, _, _, _, _, _, _, _, w⟩ => w, ok.ft⟩
theorem sp_try1 {c : Nat} (ok : XOk S sc N cm X wx) (hs : X.stack = X.env :: X.outer) (hf : X.env.frame = some X.env.locals) (hg : glB sc x = true) (hn : S.G.xc c = some x) (hd : ndbg x = true)
    (hb : ∀ (W : WX) (pn : List (Addr × Obj)) (xe : Value → Shared → Prop), Takes (X.tr pn xe) W → PassesOwn (model X.prog X.w) X.A X.env xe → PSs (X.tr pn xe) body (tS S W b1))
    (hsu : ∀ (a : Addr) (pn : List (Addr × Obj)), PSs (X.suite a pn) (b₀ :: suite) (tS S (fun _ _ _ _ => False) b2)) :
    PS X (.Try body [.ExceptHandler (some (.Name x p)) none (b₀ :: suite) p2] [] [] pos) (tS S wx (.try1 c b1 b2)) := by
  have hm := ok.ft.xc c x hn
  rw [← ok.mg] at hm
  refine psImp (ps_try_only (c := .ref (S.xa c)) (tb := fun W => tS S W b1) (ts := fun _ _ _ => tS S (fun _ _ _ _ => False) b2) hs hf ⟨glB_ok ok hg, (ndbg_ok hd).1, .inl hm⟩ ok.tk hb (fun a oe cls d pn _ _ => hsu a ((a, oe) :: pn))) fun D σ H ⟨W, h, s, R, sr, rs⟩ => ⟨W, h, s, R, sr, ?_⟩
  have rs : RS S wx W (match S.exS b1 s h with
    | .ex x σ' h' => (match S.T.sub x.c c with
      | some true => (match S.exS b2 σ' h' with
        | .ex _ _ _ => .no
        | r => r)
      | some false => .ex x σ' h'
      | none => .no)
    | r => r) D := rs
  cases q : S.exS b1 s h with
  | nx s' h' => rw [q] at rs; exact rs
  | rt d h' => rw [q] at rs; exact rs
  | bk s' h' => rw [q] at rs; exact rs
  | ct s' h' => rw [q] at rs; exact rs
  | no => rw [q] at rs; exact rs
  | ex e s' h' =>
    rw [q] at rs
    have rs : RS S wx W (match S.T.sub e.c c with
      | some true => (match S.exS b2 s' h' with
        | .ex _ _ _ => .no
        | r => r)
      | some false => .ex e s' h'
      | none => .no) D := rs
    intro W1 H1 C d σ1 w R1 sr1 xv
    obtain ⟨rfl, xv2⟩ := id xv
    cases hsb : S.T.sub e.c c with
    | none => rw [hsb] at rs; exact False.elim rs
    | some bb =>
      rw [hsb] at rs
      refine ⟨bb, by rw [ok.K]; exact ok.ft.xm _ _ _ hsb, fun hb a ha => ?_, fun hb => ?_⟩
      · subst hb
        exact ⟨W1, h', s', R1, sr1, RS.noX (RS.up w rs)⟩
      · subst hb
        exact rs W1 H1 _ d σ1 w R1 sr1 xv

/-! ### try: .. except X as e: return .. -/
theorem SR.unset {W : Wd} {s : En} {σ : L2.St} {i : Nat} {v : Option V} (h : S.SR W s σ) : S.SR W (s.set i none) (σ.set i v) := by
  refine ⟨by rw [List.length_set, List.length_set]; exact h.1, fun j d e => ?_⟩
  by_cases hj : i = j
  · subst hj
    by_cases hl : i < s.length
    · rw [List.getElem?_set_self hl] at e; cases e
    · rw [List.getElem?_eq_none (by rw [List.length_set]; omega)] at e; cases e
  · rw [List.getElem?_set_ne hj] at e
    rw [List.getElem?_set_ne hj]
    exact h.2 j d e
def tIs (S : Sc) (i : Nat) (a : Addr) (cls : Value) (d : Option Addr) (dd : Nat) : TE := fun σ H Q => σ[i]? = some (some (.ref a)) ∧ ∃ ec k, cls = .ref (S.xa ec) ∧ d = none ∧ S.T.sub ec dd = some k ∧ Q (.bl k) H
def tU (S : Sc) (i : Nat) (u : U) (a : Addr) (cls : Value) (d : Option Addr) : TE := fun σ H Q => ∃ W h s ec dv, S.HR W h H ∧ S.SR W s σ ∧ σ[i]? = some (some (.ref a)) ∧ cls = .ref (S.xa ec) ∧ d = none ∧ u.val S.T.sub ec = some dv ∧ ∀ W' H' v, W.le W' → S.HR W' h H' → S.DV W' dv v → Q v H'
def isxB (G : Gm) (N : List Str) (sc : Scope) (i d : Nat) : Expr → Bool
  | .Call (.Name f _) [.Name n _, .Name y _] [] _ => decide (f = "isinstance") && (glB sc f && decide (f ∈ G.free)) && decide (N[i]? = some n) && visB sc n && ndbg n && glB sc y && decide (G.xc d = some y) && ndbg y
  | _ => false
def ckUx (G : Gm) (N : List Str) (sc : Scope) (i : Nat) : U → Expr → Bool
  | .lit d, e => (match e with
    | .Constant k _ _ => litB d k
    | _ => false)
  | .isx d, e => isxB G N sc i d e
  | .ife d a b, e => (match e with
    | .IfExp c x y _ => isxB G N sc i d c && ckUx G N sc i a x && ckUx G N sc i b y
    | _ => false)
  | .two d d', e => (match e with
    | .List [x, y] _ => isxB G N sc i d x && isxB G N sc i d' y
    | _ => false)
variable {a : Addr} {oe : Obj} {pn : List (Addr × Obj)} {cls : Value} {dx : Option Addr} {i : Nat}
theorem isx_pl {G : Gm} {N : List Str} {sc : Scope} {i d : Nat} {e : Expr} (h : isxB G N sc i d e = true) : tstPlain e = true ∧ notStar e = true := by
  unfold isxB at h
  split at h
  · exact ⟨rfl, rfl⟩
  · cases h
theorem su_is {e : Expr} {dd : Nat} (ok : XOk S sc N cm X wx) (hz : Zc cls dx oe) (hf : ∃ vs, oe.data = .fields vs) (h : isxB S.G N sc i dd e = true) : PE (X.suite a ((a, oe) :: pn)) e (tIs S i a cls dx dd) := by
  unfold isxB at h
  split at h
  · rename_i f p1 n p2 y p3 p4
    obtain ⟨h, h8⟩ := and2 h
    obtain ⟨h, h7⟩ := and2 h
    obtain ⟨h, h6⟩ := and2 h
    obtain ⟨h, h5⟩ := and2 h
    obtain ⟨h, h4⟩ := and2 h
    obtain ⟨h, h3⟩ := and2 h
    obtain ⟨h1, h2⟩ := and2 h
    obtain ⟨g1, g2⟩ := and2 h2
    have h1 := of_decide_eq_true h1
    subst h1
    have ok' := ok.suiteOk a ((a, oe) :: pn)
    have hm : (X.suite a ((a, oe) :: pn)).mg "isinstance" = none := by
      show X.mg "isinstance" = none
      rw [ok.mg]; exact ok.ft.free _ (of_decide_eq_true g2)
    have hy : (X.suite a ((a, oe) :: pn)).mg y = some (.ref (S.xa dd)) := by
      show X.mg y = _
      rw [ok.mg]; exact ok.ft.xc _ _ (of_decide_eq_true h7)
    refine ⟨fun pins s σ H Q I q => ?_⟩
    obtain ⟨q1, ec, k, q2, q3, q4, q5⟩ := q
    subst q2 q3
    obtain ⟨EC, kk⟩ := ok.ft.xk _ _ _ q4
    rw [← ok.K] at EC kk
    have r := pe_callB (X := X.suite a ((a, oe) :: pn)) (pos := p4) (p := p1) (call_isE (X := X) (pn := pn) EC hz hf) (glB_ok ok' g1) hm (by decide +kernel)
      (pa_cons (pe_var (i := i) (pos := p2) (by rw [ok'.nm]; exact of_decide_eq_true h3) (by rw [ok'.sc]; exact visB_ok h4) (ndbg_ok h5).1 (ndbg_ok h5).2) (pa_cons (pe_glob (v := .ref (S.xa dd)) (pos := p3) (glB_ok ok' h6) hy rfl (ndbg_ok h8).1) pa_nil))
    exact r.run pins s σ H Q I ⟨.ref a, q1, .ref (S.xa dd), .ref (S.xa dd), k, rfl, fun u e => e, kk, q5⟩
  · cases h
theorem su_U (ok : XOk S sc N cm X wx) (hz : Zc cls dx oe) (hf : ∃ vs, oe.data = .fields vs) : ∀ (u : U) (e : Expr), ckUx S.G N sc i u e = true → PE (X.suite a ((a, oe) :: pn)) e (tU S i u a cls dx)
  | .lit d, e, h => by
    unfold ckUx at h
    split at h
    · exact peImp (se_lit (S := S) (wx := fun _ _ _ _ => False) h) fun σ H Q ⟨W, hh, s, ec, dv, R, sr, _, _, _, hv, k⟩ => by
        cases hv
        exact ⟨W, hh, s, R, sr, fun W' H' v w R' q => k W' H' v w R' q⟩
    · cases h
  | .isx d, e, h => by
    refine peImp (su_is (a := a) (pn := pn) ok hz hf h) fun σ H Q ⟨W, hh, s, ec, dv, R, sr, q1, q2, q3, hv, k⟩ => ?_
    cases hs : S.T.sub ec d with
    | none => rw [U.val, hs] at hv; cases hv
    | some b =>
      rw [U.val, hs] at hv
      cases hv
      exact ⟨q1, ec, b, q2, q3, hs, k W H _ (.refl W) R rfl⟩
  | .ife d ua ub, e, h => by
    unfold ckUx at h
    split at h
    · obtain ⟨h, h3⟩ := and2 h
      obtain ⟨h1, h2⟩ := and2 h
      refine peImp (pe_ifExp (pt_val (su_is (a := a) (pn := pn) ok hz hf h1) (tst_dflt (isx_pl h1).1)) (su_U ok hz hf ua _ h2) (su_U ok hz hf ub _ h3)) fun σ H Q ⟨W, hh, s, ec, dv, R, sr, q1, q2, q3, hv, k⟩ => ?_
      cases hs : S.T.sub ec d with
      | none => rw [U.val, hs] at hv; cases hv
      | some b =>
        rw [U.val, hs] at hv
        refine ⟨q1, ec, b, q2, q3, hs, b, rfl, ?_⟩
        cases b with
        | true =>
          rw [if_pos rfl]
          exact ⟨W, hh, s, ec, dv, R, sr, q1, q2, q3, hv, k⟩
        | false =>
          rw [if_neg (by decide)]
          exact ⟨W, hh, s, ec, dv, R, sr, q1, q2, q3, hv, k⟩
    · cases h
  | .two d d', e, h => by
    unfold ckUx at h
    split at h
    · obtain ⟨h1, h2⟩ := and2 h
      refine peImp (pe_lst (pa_cons (su_is (a := a) (pn := pn) ok hz hf h1) (pa_cons (su_is (a := a) (pn := pn) ok hz hf h2) pa_nil (star_cons (isx_pl h2).2)) (star_cons (isx_pl h1).2))) fun σ H Q ⟨W, hh, s, ec, dv, R, sr, q1, q2, q3, hv, k⟩ => ?_
      cases hs : S.T.sub ec d with
      | none => rw [U.val, hs] at hv; cases hv
      | some b =>
        cases hs2 : S.T.sub ec d' with
        | none => rw [U.val, hs, hs2] at hv; cases hv
        | some b2 =>
          rw [U.val, hs, hs2] at hv
          cases hv
          refine ⟨q1, ec, b, q2, q3, hs, q1, ec, b2, q2, q3, hs2, by rw [sizeLine_eq]; show 2 ≤ 16777216; decide, fun p hp => ?_⟩
          exact new_lst (E := fun _ _ _ => False) (ds := [.bl b, .bl b2]) R ⟨_, _, rfl, rfl, _, _, rfl, rfl, rfl⟩ (by rw [sizeLine_eq]; show 2 ≤ 16777216; decide) (fun W' H' v w R' q => k W' H' v w R' q) hp
    · cases h
theorem sp_tryU {c : Nat} {n : Str} {e : Expr} {p3 : Pos} {u : U} (ok : XOk S sc N cm X wx) (hs : X.stack = X.env :: X.outer) (hf : X.env.frame = some X.env.locals) (hi : N[i]? = some n) (hl : (match sc.names.lookup n with | some .local => true | _ => false) = true) (hg : glB sc x = true) (hn : S.G.xc c = some x) (hd : ndbg x = true)
    (hb : ∀ (W : WX) (pn : List (Addr × Obj)) (xe : Value → Shared → Prop), Takes (X.tr pn xe) W → PassesOwn (model X.prog X.w) X.A X.env xe → PSs (X.tr pn xe) body (tS S W b1)) (hu : ckUx S.G N sc i u e = true) :
    PS X (.Try body [.ExceptHandler (some (.Name x p)) (some n) [.Return (some e) p3] p2] [] [] pos) (tS S wx (.tryU c i b1 u)) := by
  have hm := ok.ft.xc c x hn
  rw [← ok.mg] at hm
  have hl : X.env.kindOf n = some .local := by
    show X.env.scope.names.lookup n = _
    rw [ok.sc]
    split at hl
    · assumption
    · cases hl
  refine psImp (ps_try_as (c := .ref (S.xa c)) (i := i) (tb := fun W => tS S W b1) (ts := fun a cls d D σ H => tU S i u a cls d σ H D.rt) hs hf (by rw [ok.nm]; exact ok.nd) (by rw [ok.nm]; exact hi) hl ⟨glB_ok ok hg, (ndbg_ok hd).1, .inl hm⟩ ok.tk hb
    (fun a oe cls d pn hz hf => pssImp (pss_cons (ps_ret (su_U (a := a) (pn := pn) ok hz hf u e hu)) pss_nil) fun D σ H q => q)) fun D σ H ⟨W, h, s, R, sr, rs⟩ => ⟨W, h, s, R, sr, ?_⟩
  have rs : RS S wx W (match S.exS b1 s h with
    | .ex x σ' h' => (match S.T.sub x.c c with
      | some true => (match x.ns with
        | [] => if decide (i < σ'.length) then (match u.val S.T.sub x.c with
          | some d => .rt d h'
          | none => .no) else .no
        | _ => .no)
      | some false => .ex x σ' h'
      | none => .no)
    | r => r) D := rs
  cases q : S.exS b1 s h with
  | nx s' h' => rw [q] at rs; exact rs
  | rt d h' => rw [q] at rs; exact rs
  | bk s' h' => rw [q] at rs; exact rs
  | ct s' h' => rw [q] at rs; exact rs
  | no => rw [q] at rs; exact rs
  | ex e s' h' =>
    rw [q] at rs
    have rs : RS S wx W (match S.T.sub e.c c with
      | some true => (match e.ns with
        | [] => if decide (i < s'.length) then (match u.val S.T.sub e.c with
          | some d => .rt d h'
          | none => .no) else .no
        | _ => .no)
      | some false => .ex e s' h'
      | none => .no) D := rs
    intro W1 H1 C d σ1 w R1 sr1 xv
    obtain ⟨rfl, xv2⟩ := id xv
    cases hsb : S.T.sub e.c c with
    | none => rw [hsb] at rs; exact False.elim rs
    | some bb =>
      rw [hsb] at rs
      refine ⟨bb, by rw [ok.K]; exact ok.ft.xm _ _ _ hsb, fun hb a ha => ?_, fun hb => ?_⟩
      · subst hb
        have rs : RS S wx W (match e.ns with
          | [] => if decide (i < s'.length) then (match u.val S.T.sub e.c with
            | some d => .rt d h'
            | none => .no) else .no
          | _ => .no) D := rs
        cases hns : e.ns with
        | cons z zs => rw [hns] at rs; exact False.elim rs
        | nil =>
          rw [hns] at rs
          have rs : RS S wx W (if decide (i < s'.length) then (match u.val S.T.sub e.c with
            | some d => .rt d h'
            | none => .no) else .no) D := rs
          have hdn : d = none := by
            rcases xv2 with ⟨_, _, z⟩ | ⟨_, _, z, _⟩
            · exact z
            · exact absurd hns z
          split at rs
          · rename_i hlt
            have hlt := of_decide_eq_true hlt
            cases hv : u.val S.T.sub e.c with
            | none => rw [hv] at rs; exact False.elim rs
            | some dv =>
              rw [hv] at rs
              refine ⟨W1, h', s'.set i none, e.c, dv, R1, SR.unset sr1, ?_, rfl, hdn, hv, fun W' H' v w' R' q => rs W' H' v (w.trans w') R' q⟩
              rw [List.getElem?_set_self (by rw [← sr1.1]; exact hlt)]
          · exact False.elim rs
      · subst hb
        exact rs W1 H1 _ d σ1 w R1 sr1 xv
end
end Vm

/-! Vm, more forms: two clauses, ranges as tuples and lists, sorted downwards, lists backwards, list + list in a cell. Own text. -/
namespace Vm
open PySem L2 PySem.Spec PyProof.Rows
/-! ### t[::-1] -/
section
variable {prog : Program} {w : World} {A : Around} {E : Value → Shared → Prop} {s : Shared}
theorem adjust_rev (n : Nat) : Builtin.Slice.sliceAdjust none none (-1) (n : Int) = ((n : Int) - 1, -1) := by
  unfold Builtin.Slice.sliceAdjust
  simp
theorem places_rev (n : Nat) : Builtin.Slice.slicePlaces ((n : Int) - 1) (-1) (-1) = n := by
  unfold Builtin.Slice.slicePlaces
  have h1 : ¬ ((-1 : Int) > 0) := by omega
  simp only [h1, if_false, Int.neg_neg, Int.ediv_one]
  split <;> omega
theorem range_getD {α : Type} (l : List α) (d : α) : ((List.range l.length).map fun k => l.getD k d) = l := by
  refine List.ext_getElem? fun i => ?_
  rw [List.getElem?_map]
  by_cases hi : i < l.length
  · rw [List.getElem?_range hi]
    show some (l.getD i d) = _
    rw [List.getD_eq_getElem?_getD, List.getElem?_eq_getElem hi]; rfl
  · rw [List.getElem?_eq_none (by rw [List.length_range]; omega), List.getElem?_eq_none (show l.length ≤ i by omega)]; rfl
theorem fm_congr {α β : Type} {f g : α → Option β} : ∀ {l : List α}, (∀ x ∈ l, f x = g x) → l.filterMap f = l.filterMap g
  | [], _ => rfl
  | x :: l, h => by
    rw [List.filterMap_cons, List.filterMap_cons, h x List.mem_cons_self, fm_congr fun y hy => h y (List.mem_cons_of_mem _ hy)]
theorem pick_rev (xs : Array Value) : ((List.range xs.size).filterMap fun (m : Nat) => xs[(((xs.size : Int) - 1) + (m : Int) * (-1)).toNat]?).toArray = xs.toList.reverse.toArray := by
  have hl : xs.toList.reverse.length = xs.size := by rw [List.length_reverse, Array.length_toList]
  refine congrArg List.toArray ?_
  have e : ((List.range xs.size).filterMap fun (m : Nat) => xs[(((xs.size : Int) - 1) + (m : Int) * (-1)).toNat]?) = (List.range xs.size).filterMap fun m => some (xs.toList.reverse.getD m .none) := by
    refine fm_congr fun m hm => ?_
    have hm := List.mem_range.mp hm
    have h1 : (((xs.size : Int) - 1) + (m : Int) * (-1)).toNat = xs.size - 1 - m := by omega
    rw [h1, List.getD_eq_getElem?_getD, List.getElem?_reverse (by rw [Array.length_toList]; exact hm), Array.length_toList, Array.getElem?_toList, Array.getElem?_eq_getElem (by omega)]
    rfl
  rw [e, List.filterMap_eq_map', ← hl]
  exact range_getD _ _
theorem sliceApplied_rev {sl : Addr} {vl vu vs : Value} {n : Nat} {Q : Int × Int × Nat → Shared → Prop} (hs : s.heap.IsSliceOf sl vl vu vs) (pl : IsPart vl none) (pu : IsPart vu none) (ps : IsPart vs (some (-1)))
    (h : Q ((n : Int) - 1, -1, n) s) : wpAny (model prog w) A (Builtin.Slice.sliceApplied (.ref sl) (pure (n : Int))) Q E s := by
  obtain ⟨os, hos, hcs, hds⟩ := id hs
  unfold Builtin.Slice.sliceApplied Builtin.Slice.sliceFields
  refine wpAny_bind (wpAny_bind (wpAny_field hos hds (x := vl) rfl (wpAny_bind (wpAny_field hos hds (x := vu) rfl (wpAny_bind (wpAny_field hos hds (x := vs) rfl (wpAny_pure ?_)))))))
  refine wpAny_bind (HT.slicePart_ ps ?_)
  show wpAny _ _ (if ((-1 : Int) == 0) = true then _ else _) _ _ s
  rw [if_neg (by decide)]
  refine wpAny_bind (HT.slicePart_ pl (wpAny_bind (HT.slicePart_ pu (wpAny_bind (wpAny_pure ?_)))))
  show wpAny _ _ (match Builtin.Slice.sliceAdjust none none (-1) (n : Int) with | (lo, hi) => pure (lo, (-1 : Int), Builtin.Slice.slicePlaces lo hi (-1))) _ _ s
  rw [adjust_rev n]
  show wpAny _ _ (pure ((n : Int) - 1, (-1 : Int), Builtin.Slice.slicePlaces ((n : Int) - 1) (-1) (-1))) _ _ s
  rw [places_rev]
  exact wpAny_pure h
theorem getItem_tuple_rev {t sl : Addr} {items : Array Value} {vl vu vs : Value} {Q : Value → Shared → Prop} (ht : IsTup s.heap t items) (hs : s.heap.IsSliceOf sl vl vu vs) (pl : IsPart vl none) (pu : IsPart vu none) (ps : IsPart vs (some (-1)))
    (h : Q (.ref s.heap.objs.size) { s with heap := s.heap.push { cls := .type "tuple", data := .seq items.toList.reverse.toArray } })
    (hsz : items.size ≤ sizeLine) : wpAny (model prog w) A (getItem (.ref t) (.ref sl)) Q E s := by
  have htake : sizeOk (.seq items.toList.reverse.toArray) := by
    show items.toList.reverse.toArray.size ≤ sizeLine
    rw [List.size_toArray, List.length_reverse, Array.length_toList]
    exact hsz
  obtain ⟨os, hos, hcs, hds⟩ := id hs
  have hTs : s.TypeIs (.ref sl) "slice" := ⟨os, hos, hcs⟩
  unfold getItem
  try with_reducible refine wpAny_holding ?_
  first | refine wpAny_bind (wpAny_pure ?_) | skip
  refine wpAny_bind (wpAny_sequenceKey ht.typeIs (by decide) ?_)
  refine wpAny_bind (wpAny_callSpecial?_slot (name := Str.ofString "__getitem__") ht.typeIs PyProof.Rows.slot_tuple_getitem
    (wpAny_call_entry PyProof.Rows.slot_tuple_getitem ht.typeIs entry_tuple_getitem ?_ (args_tuple_getitem _ _)))
  show wpAny _ _ (Builtin.Tuple.tupleItemsOf (.ref t) >>= _) _ _ s
  refine wpAny_bind (tupleItemsOf_ ht ?_)
  refine wpAny_bind (wpAny_typeOf hTs ?_)
  rw [if_pos (by decide)]
  refine wpAny_bind (sliceApplied_rev hs pl pu ps ?_)
  have hno : ¬ ((((items.size : Int) - 1) == 0 && (-1 : Int) == 1 && items.size == items.size) = true) := by
    rw [show ((-1 : Int) == 1) = false by decide, Bool.and_false, Bool.false_and]
    exact Bool.false_ne_true
  show wpAny _ _ (if (((items.size : Int) - 1) == 0 && (-1 : Int) == 1 && items.size == items.size) = true then _ else _) _ _ s
  rw [if_neg hno, pick_rev]
  first
    | exact wpAny_bind (m := Builtin.Tuple.tupleExact _) (wpAny_newObj_type (wpAny_pure ⟨_, rfl, wpAny_pure h⟩) htake)
    | exact wpAny_bind (m := Builtin.Tuple.tupleExact _) (wpAny_newObj_type (wpAny_bind (wpAny_pure (wpAny_pure ⟨_, rfl, wpAny_pure h⟩))) htake)
    | exact wpAny_bind (wpAny_bind (m := Builtin.Tuple.tupleExact _) (wpAny_newObj_type (wpAny_pure (wpAny_pure ⟨_, rfl, wpAny_pure h⟩)) htake))
    | exact wpAny_bind (wpAny_bind (m := Builtin.Tuple.tupleExact _) (wpAny_newObj_type (wpAny_pure ⟨_, rfl, wpAny_pure h⟩) htake))
end
def tRevA (K : PySem.W.Frag) (te : TE) : TE := fun σ H Q => te σ H fun x H1 => ∃ a xs, x = .ref a ∧ ((SqL K H1 a xs ∧ ∀ p, H1 p = none → Q (.ref p) (upd H1 p (.lst xs.reverse))) ∨ (SqT K H1 a xs ∧ ∀ p, H1 p = none → Q (.ref p) (upd H1 p (.tup xs.reverse))))
theorem pe_revA {X : Cx} {e : Expr} {te : TE} {k : Nat} {p1 p2 p3 pos : Pos} (he : PE X e te) : PE X (.Subscript e (.Slice none none (some (.UnaryOp .USub (.Constant (.int 1) k p1) p2)) p3) pos) (tRevA X.K te) := by
  refine ⟨fun pins s σ H Q I h => ?_⟩
  refine Subscript_ (thn (he.run pins s σ H _ I h) fun v s1 ⟨x, H1, I1, r1, q1⟩ => ?_)
  obtain ⟨a, xs, ex, q⟩ := q1
  subst ex
  cases r1
  have hst : PO X (some (.UnaryOp .USub (.Constant (.int 1) k p1) p2)) (tPart (tUn (rU fun i => .int (-i)) (tC (.int 1)))) := po_some (pe_un un_neg pe_int)
  refine wpAny_Slice (thn (po_none.run pins s1 σ H1 (fun o H2 => o = none ∧ H2 = H1) I1 ⟨rfl, rfl⟩) fun vl s2 ⟨l, H2, I2, pl, el, e2⟩ => ?_)
  subst el e2
  refine thn (po_none.run pins s2 σ H2 (fun o H3 => o = none ∧ H3 = H2) I2 ⟨rfl, rfl⟩) fun vu s3 ⟨u, H3, I3, pu, eu, e3⟩ => ?_
  subst eu e3
  refine thn (hst.run pins s3 σ H3 (fun o H4 => o = some (-1) ∧ H4 = H3) I3 ⟨1, rfl, -1, rfl, rfl, rfl⟩) fun vs s4 ⟨o, H4, I4, ps, eo, e4⟩ => ?_
  subst eo e4
  have I5 : Inv X pins σ H4 { s4 with heap := s4.heap.push { cls := .type "slice", data := .fields #[vl, vu, vs] } } := I4.kept (t' := s4.toks) fun b ob q => Heap.get?_push_of_some _ q
  show wpAny (model X.prog X.w) X.A (subscriptTail e (.Slice none none (some (.UnaryOp .USub (.Constant (.int 1) k p1) p2)) p3) (.ref a) (.ref s4.heap.objs.size)) (EP X pins σ Q) X.xe { s4 with heap := s4.heap.push { cls := .type "slice", data := .fields #[vl, vu, vs] } }
  rcases q with ⟨hx, q⟩ | ⟨hx, q⟩
  · obtain ⟨its, r, ht, hz⟩ := I5.list hx
    have hlen := r.length
    refine tail_any (ops := [.ref a, .ref s4.heap.objs.size]) ht.isList.typeIs (PySem.slot_list_getitem.lookup) ?_ (by with_unfolding_all rfl)
    refine wpAny_getItem_list_slice ht.isList (Heap.IsSliceOf.new _ vl vu vs) pl pu ps (by decide) ?_ (by rw [List.size_toArray]; omega)
    rw [PySem.W.krv_pick]
    refine ⟨.ref _, _, I5.laid (t' := s4.toks) (o := .lst xs.reverse) (fun b ob q => Heap.get?_push_of_some _ q) (Nat.le_refl _) ?_, rfl, q _ (I5.hok.fresh (Nat.le_refl _))⟩
    exact ⟨by rw [List.length_reverse]; exact hz, _, 0, r.reverse, Heap.get?_push_size _ rfl⟩
  · obtain ⟨its, r, ht, hz⟩ := I5.tuple hx
    have hlen : its.toArray.size = xs.length := by rw [List.size_toArray]; exact r.length.symm
    refine tail_any (ops := [.ref a, .ref s4.heap.objs.size]) ht.typeIs PyProof.Rows.slot_tuple_getitem.lookup ?_ (by with_unfolding_all rfl)
    refine getItem_tuple_rev ht (Heap.IsSliceOf.new _ vl vu vs) pl pu ps ?_ (by rw [hlen]; exact hz)
    refine ⟨.ref _, _, I5.laid (t' := s4.toks) (o := .tup xs.reverse) (fun b ob q => Heap.get?_push_of_some _ q) (Nat.le_refl _) ?_, rfl, q _ (I5.hok.fresh (Nat.le_refl _))⟩
    exact ⟨by rw [List.length_reverse]; exact hz, _, r.reverse, PyProof.Rows.IsTup.new _ _⟩

section
variable {S : Sc} {W : Wd} {h : Hq} {H : Hp} {E : XK} {Q : VK}
theorem bin_okM {op : Operator} {d e : Dt} {ds : List Dt} {x y : V} (R : S.HR W h H) (qd : DH S.K S.ca W H d x) (qe : DH S.K S.ca W H e y) (hr : binD op d e = some (.lst ds)) (k : RD S S.DV W (newL true ds h) Q E) : rBin S.K op x y H Q := by
  unfold binD at hr
  split at hr
  · cases hr
  · cases hr
  · obtain ⟨c, hr⟩ := ite_some hr; cases hr
  · obtain ⟨c, hr⟩ := ite_some hr; cases hr
  · obtain ⟨c, hr⟩ := ite_some hr; cases hr
  · obtain ⟨c, hr⟩ := ite_some hr; cases hr
  · obtain ⟨c, hr⟩ := ite_some hr; cases hr
  · obtain ⟨c, hr⟩ := ite_some hr; cases hr
  · cases hr
  · cases hr
  · cases hr
  · obtain ⟨c, hr⟩ := ite_some hr; cases hr
  · obtain ⟨c, hr⟩ := ite_some hr; cases hr
  · obtain ⟨c, hr⟩ := ite_some hr
    cases hr
    have c := of_decide_eq_true c
    obtain ⟨a, vs, ea, sa, za, ra⟩ := qd
    obtain ⟨a2, us, eb, sb, zb, rb⟩ := qe
    have l1 := ra.len
    have l2 := rb.len
    exact .inr (.inr (.inr ⟨a, a2, vs, us, ea, eb, sa, sb, by omega, fun p hp => new_lstM R true (DVs.append ra rb) (by rw [List.length_append]; omega) k hp⟩))
  · obtain ⟨c, hr⟩ := ite_some hr
    cases hr
    obtain ⟨c1, c3⟩ := and2 c
    obtain ⟨c1, c2⟩ := and2 c1
    obtain ⟨a, vs, ea, sa, za, ra⟩ := qd
    have l1 := ra.len
    have c3 := of_decide_eq_true c3
    refine .inr (.inl ⟨a, _, vs, ea, qe, sa, of_decide_eq_true c1, of_decide_eq_true c2, by rw [← l1]; exact c3, fun p hp => new_lstM R true (DVs.flatRep ra _) ?_ k hp⟩)
    rw [List.length_flatten, List.map_replicate, List.sum_replicate_nat, ← l1, Nat.mul_comm]; exact c3
  · split at hr
    · cases hr
    · split at hr
      · cases hr
      · obtain ⟨c, hr⟩ := ite_some hr; cases hr
  · cases hr
end
section
variable {S : Sc} {wx : WX} {X : Cx} {pos p p2 p3 : Pos} {x y z tg iter elt tg1 iter1 : Expr} {ifs : List Expr} {m m1 m2 it c el it1 : E} {sc scope : Scope} {N : List Str} {cm b : Bool} {t t1 : Tg} {own : List (Str × Nat)}
theorem se_addM {op : Operator} (ok : XOk S sc N cm X wx) (ha : PE X x (tE S wx m1)) (hb : PE X y (tE S wx m2)) : PE X (.BinOp x op y pos) (tE S wx (.addM op m1 m2)) := by
  refine peImp (pe_op (op_bin op) ha hb) fun σ H Q ⟨W, hh, s, R, sr, rd⟩ => ?_
  refine two_RD (f := fun d e h2 => match binD op (vw h2 d) (vw h2 e) with
      | some (.lst ds) => newL true ds h2
      | _ => .no) R sr rd fun W2 h2 H2 d e x y w R2 q1 q2 rd2 => ?_
  rw [ok.K]
  cases hr : binD op (vw h2 d) (vw h2 e) with
  | none => rw [hr] at rd2; exact False.elim rd2
  | some r =>
    rw [hr] at rd2
    cases r with
    | lst ds => exact bin_okM R2 (vw_ok R2 q1) (vw_ok R2 q2) hr rd2
    | _ => exact False.elim rd2
/-! ### ranges -/
theorem rg_ok {i j : Int} (h : (bnd62 i && bnd62 j && decide ((j - i).toNat ≤ 16777216)) = true) : RgOk i j := by
  obtain ⟨h, h3⟩ := and2 h
  obtain ⟨h1, h2⟩ := and2 h
  have h3 := of_decide_eq_true h3
  unfold bnd62 at h1 h2
  obtain ⟨a1, a2⟩ := and2 h1
  obtain ⟨b1, b2⟩ := and2 h2
  exact ⟨of_decide_eq_true a1, of_decide_eq_true a2, of_decide_eq_true b1, of_decide_eq_true b2, h3⟩
theorem rg_new {W : Wd} {h : Hq} {H : Hp} {E : XK} {Q : VK} {i j : Int} (R : S.HR W h H) (ok : RgOk i j) (k : RD S S.DV W (.ok (.tup (rangeD i j)) h) Q E) {q : Addr} (hq : H q = none) : Q (.ref q) (upd H q (.tup (rgV i j))) :=
  new_tup (vs := rgV i j) R (rg_DV _ i) (by rw [rgV_length, sizeLine_eq]; have := ok.2.2.2.2; omega) k hq
theorem rg_newL {W : Wd} {h : Hq} {H : Hp} {E : XK} {Q : VK} {i j : Int} (R : S.HR W h H) (ok : RgOk i j) (k : RD S S.DV W (newL b (rangeD i j) h) Q E) {q : Addr} (hq : H q = none) : Q (.ref q) (upd H q (.lst (rgV i j))) :=
  new_lstM (vs := rgV i j) R b (rg_DV _ i) (by rw [rgV_length, sizeLine_eq]; have := ok.2.2.2.2; omega) k hq
theorem rgI2 {d e : Dt} {l : List Dt} (h : rgI [d, e] = some l) : ∃ i j, d = .int i ∧ e = .int j ∧ RgOk i j ∧ l = rangeD i j := by
  cases d with
  | int i =>
    cases e with
    | int j =>
      obtain ⟨c, e⟩ := ite_some (show (if (bnd62 i && bnd62 j && decide ((j - i).toNat ≤ 16777216)) = true then some (rangeD i j) else none) = some l from h)
      exact ⟨i, j, rfl, rfl, rg_ok c, e.symm⟩
    | _ => cases h
  | _ => cases h
theorem rgI1 {d : Dt} {l : List Dt} (h : rgI [d] = some l) : ∃ j, d = .int j ∧ RgOk 0 j ∧ l = rangeD 0 j := by
  cases d with
  | int j =>
    obtain ⟨c, e⟩ := ite_some (show (if (bnd62 0 && bnd62 j && decide ((j - 0).toNat ≤ 16777216)) = true then some (rangeD 0 j) else none) = some l from h)
    exact ⟨j, rfl, rg_ok c, e.symm⟩
  | _ => cases h
theorem se_tupR2 (ok : XOk S sc N true X wx) (hg : glB sc "tuple" = true) (hf : ("tuple" : Str) ∈ S.G.free) (hg2 : glB sc "range" = true) (hf2 : ("range" : Str) ∈ S.G.free) (ha : PE X x (tE S wx m1)) (hb : PE X y (tE S wx m2)) (h1 : notStar x = true) (h2 : notStar y = true) :
    PE X (.Call (.Name "tuple" p) [.Call (.Name "range" p2) [x, y] [] p3] [] pos) (tE S wx (.rgT (.cons m1 (.cons m2 .nil)))) := by
  have hm : X.mg "tuple" = none := by rw [ok.mg]; exact ok.ft.free _ hf
  have hm2 : X.mg "range" = none := by rw [ok.mg]; exact ok.ft.free _ hf2
  refine peImp (pe_tupRg (ok.cm rfl).1 (glB_ok ok hg) hm (prg_2 (glB_ok ok hg2) hm2 ha hb (star_cons h1) (star_cons h2) (by cases y <;> first | rfl | cases h2))) fun σ H Q ⟨W, hh, s, R, sr, rd⟩ => ?_
  have rd : RD S S.DV W (((S.ev m1 s hh).bind fun d h1 => ((S.ev m2 s h1).bind fun e h2 => Res.ok [e] h2).bind fun ds h2 => Res.ok (d :: ds) h2).bind fun ds h1 => (Res.opt h1 (rgI ds)).bind fun l h2 => .ok (.tup l) h2) Q (fun C d H' => wx C d σ H') := rd
  rw [bind_assoc'] at rd
  refine ⟨W, hh, s, R, sr, rd.bind.imp fun v H1 ⟨d, h1, W1, _, w1, R1, q1, rd1⟩ => ?_⟩
  rw [bind_assoc', bind_assoc'] at rd1
  refine ⟨W1, h1, s, R1, sr.le w1, rd1.bind.imp fun u H2 ⟨e, h2, W2, _, w2, R2, q2, rd2⟩ => ?_⟩
  have rd2 : RD S S.DV W2 ((Res.opt h2 (rgI [d, e])).bind fun l h2 => .ok (.tup l) h2) Q (fun C d H' => wx C d σ H') := rd2
  cases hl : rgI [d, e] with
  | none => rw [hl] at rd2; exact False.elim rd2
  | some l =>
    rw [hl] at rd2
    obtain ⟨i, j, rfl, rfl, ro, rfl⟩ := rgI2 hl
    exact ⟨i, j, q1, q2, ro, fun q hq => rg_new R2 ro rd2 hq⟩
theorem se_tupR1 (ok : XOk S sc N true X wx) (hg : glB sc "tuple" = true) (hf : ("tuple" : Str) ∈ S.G.free) (hg2 : glB sc "range" = true) (hf2 : ("range" : Str) ∈ S.G.free) (ha : PE X x (tE S wx m1)) (h1 : notStar x = true) :
    PE X (.Call (.Name "tuple" p) [.Call (.Name "range" p2) [x] [] p3] [] pos) (tE S wx (.rgT (.cons m1 .nil))) := by
  have hm : X.mg "tuple" = none := by rw [ok.mg]; exact ok.ft.free _ hf
  have hm2 : X.mg "range" = none := by rw [ok.mg]; exact ok.ft.free _ hf2
  refine peImp (pe_tupRg (ok.cm rfl).1 (glB_ok ok hg) hm (prg_1 (glB_ok ok hg2) hm2 ha (star_cons h1))) fun σ H Q ⟨W, hh, s, R, sr, rd⟩ => ?_
  have rd : RD S S.DV W (((S.ev m1 s hh).bind fun d h1 => Res.ok [d] h1).bind fun ds h1 => (Res.opt h1 (rgI ds)).bind fun l h2 => .ok (.tup l) h2) Q (fun C d H' => wx C d σ H') := rd
  rw [bind_assoc'] at rd
  refine ⟨W, hh, s, R, sr, rd.bind.imp fun v H1 ⟨d, h1, W1, _, w1, R1, q1, rd1⟩ => ?_⟩
  have rd1 : RD S S.DV W1 ((Res.opt h1 (rgI [d])).bind fun l h2 => .ok (.tup l) h2) Q (fun C d H' => wx C d σ H') := rd1
  cases hl : rgI [d] with
  | none => rw [hl] at rd1; exact False.elim rd1
  | some l =>
    rw [hl] at rd1
    obtain ⟨j, rfl, ro, rfl⟩ := rgI1 hl
    exact ⟨j, q1, ro, fun q hq => rg_new R1 ro rd1 hq⟩
theorem se_lstR2 (ok : XOk S sc N true X wx) (hg : glB sc "list" = true) (hf : ("list" : Str) ∈ S.G.free) (hg2 : glB sc "range" = true) (hf2 : ("range" : Str) ∈ S.G.free) (ha : PE X x (tE S wx m1)) (hb : PE X y (tE S wx m2)) (h1 : notStar x = true) (h2 : notStar y = true) :
    PE X (.Call (.Name "list" p) [.Call (.Name "range" p2) [x, y] [] p3] [] pos) (tE S wx (.rgL b (.cons m1 (.cons m2 .nil)))) := by
  have hm : X.mg "list" = none := by rw [ok.mg]; exact ok.ft.free _ hf
  have hm2 : X.mg "range" = none := by rw [ok.mg]; exact ok.ft.free _ hf2
  refine peImp (pe_listRg (ok.cm rfl).1 (glB_ok ok hg) hm (prg_2 (glB_ok ok hg2) hm2 ha hb (star_cons h1) (star_cons h2) (by cases y <;> first | rfl | cases h2))) fun σ H Q ⟨W, hh, s, R, sr, rd⟩ => ?_
  have rd : RD S S.DV W (((S.ev m1 s hh).bind fun d h1 => ((S.ev m2 s h1).bind fun e h2 => Res.ok [e] h2).bind fun ds h2 => Res.ok (d :: ds) h2).bind fun ds h1 => (Res.opt h1 (rgI ds)).bind fun l h2 => newL b l h2) Q (fun C d H' => wx C d σ H') := rd
  rw [bind_assoc'] at rd
  refine ⟨W, hh, s, R, sr, rd.bind.imp fun v H1 ⟨d, h1, W1, _, w1, R1, q1, rd1⟩ => ?_⟩
  rw [bind_assoc', bind_assoc'] at rd1
  refine ⟨W1, h1, s, R1, sr.le w1, rd1.bind.imp fun u H2 ⟨e, h2, W2, _, w2, R2, q2, rd2⟩ => ?_⟩
  have rd2 : RD S S.DV W2 ((Res.opt h2 (rgI [d, e])).bind fun l h2 => newL b l h2) Q (fun C d H' => wx C d σ H') := rd2
  cases hl : rgI [d, e] with
  | none => rw [hl] at rd2; exact False.elim rd2
  | some l =>
    rw [hl] at rd2
    obtain ⟨i, j, rfl, rfl, ro, rfl⟩ := rgI2 hl
    exact ⟨i, j, q1, q2, ro, fun q hq => rg_newL R2 ro rd2 hq⟩
/-! ### sorted(.., reverse=True), backwards -/
theorem ints_DV {W : Wd} : ∀ l : List Int, S.DVs W (l.map Dt.int) (l.map V.int)
  | [] => rfl
  | i :: l => ⟨_, _, rfl, rfl, ints_DV l⟩
theorem dn_eq {ns ns' : List Int} (h : ns'.Perm ns) (o : OrdB true ns') : ns' = sortDn ns := by
  refine List.Perm.eq_of_pairwise (le := fun a b => b ≤ a) (fun a b _ _ h1 h2 => by omega) o ?_ (h.trans (List.mergeSort_perm _ _).symm)
  have := List.pairwise_mergeSort (le := fun a b : Int => decide (b ≤ a)) (fun a b c h1 h2 => decide_eq_true (by have := of_decide_eq_true h1; have := of_decide_eq_true h2; omega)) (fun a b => by
    rcases Int.le_total b a with z | z
    · rw [decide_eq_true z]; rfl
    · rw [decide_eq_true z, Bool.or_true]) ns
  exact List.Pairwise.imp (fun h => of_decide_eq_true h) this
theorem se_sortR {j : Nat} {kp kp2 : Pos} (ok : XOk S sc N true X wx) (hg : glB sc "sorted" = true) (hf : ("sorted" : Str) ∈ S.G.free) (ha : PE X x (tE S wx m)) (hs : notStar x = true) :
    PE X (.Call (.Name "sorted" p) [x] [⟨some "reverse", .Constant (.bool true) j kp, kp2⟩] pos) (tE S wx (.sortR m)) := by
  have hm : X.mg "sorted" = none := by rw [ok.mg]; exact ok.ft.free _ hf
  refine peImp (pe_callBK (cr_sortedRev (b := true)) (glB_ok ok hg) hm (by decide +kernel) (pa_cons ha pa_nil (star_cons hs)) (pk_cons pe_bl pk_nil) (by decide) (by decide) (by cases x <;> first | rfl | cases hs) (by cases x <;> first | rfl | cases hs)) fun σ H Q ⟨W, hh, s, R, sr, rd⟩ => ?_
  refine ⟨W, hh, s, R, sr, rd.bind.imp fun v H1 ⟨d, h1, W1, _, w1, R1, q1, rd1⟩ => ?_⟩
  have q := vw_ok R1 q1
  cases hl : listView (vw h1 d) with
  | none => rw [hl] at rd1; exact False.elim rd1
  | some ds =>
    cases hi : intsOf ds with
    | none =>
      rw [hl] at rd1
      have rd1 : RD S S.DV W1 (match intsOf ds with
        | some ns => Res.ok (Dt.lst ((sortDn ns).map .int)) h1
        | none => .no) Q (fun C d H' => wx C d σ H') := rd1
      rw [hi] at rd1; exact False.elim rd1
    | some ns =>
      rw [hl] at rd1
      have rd1 : RD S S.DV W1 (match intsOf ds with
        | some ns => Res.ok (Dt.lst ((sortDn ns).map .int)) h1
        | none => .no) Q (fun C d H' => wx C d σ H') := rd1
      rw [hi] at rd1
      obtain ⟨a, vs, rfl, sq, z, dv⟩ := listView_ok R1 q hl
      have ev := ints_ok dv hi
      subst ev
      refine ⟨a, ns, rfl, rfl, by rw [ok.K]; exact sq, fun ns' q' hp ho hq => ?_⟩
      have e := dn_eq hp ho
      subst e
      refine new_lst R1 (ints_DV (sortDn ns)) ?_ rd1 hq
      rw [List.length_map, hp.length_eq]
      rw [List.length_map] at z
      exact z
theorem DVs.rev {W : Wd} : ∀ {ds : List Dt} {vs : List V}, S.DVs W ds vs → S.DVs W ds.reverse vs.reverse
  | [], vs, h => by cases h; rfl
  | d :: ds, vs, ⟨v, r, e, q1, q2⟩ => by
    subst e
    rw [List.reverse_cons, List.reverse_cons]
    exact (DVs.rev q2).snoc q1
theorem se_rev {k : Nat} {p1 : Pos} (ok : XOk S sc N cm X wx) (ha : PE X x (tE S wx m)) : PE X (.Subscript x (.Slice none none (some (.UnaryOp .USub (.Constant (.int 1) k p1) p2)) p3) pos) (tE S wx (.rev b m)) := by
  refine peImp (pe_revA ha) fun σ H Q ⟨W, hh, s, R, sr, rd⟩ => ?_
  refine ⟨W, hh, s, R, sr, rd.bind.imp fun v H1 ⟨d, h1, W1, _, w1, R1, q1, rd1⟩ => ?_⟩
  have q := vw_ok R1 q1
  have rd1 : RD S S.DV W1 (match vw h1 d with
      | .tup ds => .ok (.tup ds.reverse) h1
      | d' => (match listView d' with
        | some ds => newL b ds.reverse h1
        | none => .no)) Q (fun C d H' => wx C d σ H') := rd1
  generalize vw h1 d = e at q rd1
  have key : ∀ ds, listView e = some ds → RD S S.DV W1 (newL b ds.reverse h1) Q (fun C d H' => wx C d σ H') → ∃ a xs, v = .ref a ∧ ((SqL X.K H1 a xs ∧ ∀ p, H1 p = none → Q (.ref p) (upd H1 p (.lst xs.reverse))) ∨ (SqT X.K H1 a xs ∧ ∀ p, H1 p = none → Q (.ref p) (upd H1 p (.tup xs.reverse)))) := fun ds hl rd1 => by
    obtain ⟨a, vs, rfl, sq, z, dv⟩ := listView_ok R1 q hl
    exact ⟨a, vs, rfl, .inl ⟨by rw [ok.K]; exact sq, fun q' hq => new_lstM R1 b (DVs.rev dv) (by rw [List.length_reverse]; exact z) rd1 hq⟩⟩
  cases e with
  | tup ds =>
    obtain ⟨a, vs, rfl, sq, z, dv⟩ := q
    exact ⟨a, vs, rfl, .inr ⟨by rw [ok.K]; exact R1.seqT sq, fun q' hq => new_tup R1 (DVs.rev dv) (by rw [List.length_reverse]; exact z) rd1 hq⟩⟩
  | lst ds => exact key ds rfl rd1
  | frl ds => exact key ds rfl rd1
  | _ => exact False.elim rd1
end
end Vm

/-! Vm, comprehensions of two clauses. Own text. -/
namespace Vm
open PySem L2 PySem.Spec PyProof.Rows

section
variable {S : Sc} {wx : WX} {X : Cx} {pos : Pos} {tg iter elt tg1 iter1 : Expr} {it el it1 : E} {sc scope : Scope} {N : List Str} {cm b : Bool} {t t1 : Tg} {own : List (Str × Nat)}
def oneI (S : Sc) (t1 : Tg) (el : E) (s : En) (d : Dt) (h : Hq) : Res (List Dt) := match t1.set d (wipeE s t1.slots) with
  | none => .no
  | some σ'' => (S.ev el σ'' h).bind fun y h4 => .ok [y] h4
def oneO (S : Sc) (t : Tg) (t1 : Tg) (it1 el : E) (s : En) (d : Dt) (hh : Hq) : Res (List Dt) := match t.set d (wipeE s (t1.slots ++ t.slots)) with
  | none => .no
  | some σ' => (S.evi it1 σ' hh).bind fun w1 h2 => compW (oneI S t1 el σ') w1 h2
theorem yes_if {σ : L2.St} {H : Hp} {A B : Hp → Prop} (h : A H) : tYes σ H fun b H3 => if b = true then A H3 else B H3 := by
  show (if true = true then A H else B H)
  rw [if_pos rfl]; exact h
theorem wipe_two {σ σ2 : L2.St} {l l1 : List Nat} (h : L2.wipe σ2 l = L2.wipe (L2.wipe σ (l1 ++ l)) l) : L2.wipe σ2 (l1 ++ l) = L2.wipe σ (l1 ++ l) := by
  rw [wipe_app σ2, h, ← wipe_app, wipe_idem]
theorem lc2_red {σ : L2.St} {H : Hp} {Q : VK} (ho : own.map (·.2) = t1.slots ++ t.slots) (h : tE S wx (.comp2 b t it t1 it1 el) σ H Q) : tLc2 (tI S wx it) (tG S t) tYes (tI S wF it1) (tG S t1) tYes (tE S wF el) (own.map (·.2)) t1.slots σ H Q := by
  obtain ⟨W, hh, s, R, sr, rd⟩ := h
  rw [ho]
  have rd : RD S S.DV W ((S.evi it s hh).bind fun w h1 => (noExc (compW (oneO S t t1 it1 el s) w h1)).bind fun ds h2 => newLc b ds h2) Q (fun C d H' => wx C d σ H') := rd
  refine ⟨W, hh, s, R, sr, rd.bind.imp fun J H1 ⟨w, h1, W1, _, w1, R1, ⟨cl, wk⟩, rd1⟩ D hD => ?_⟩
  rw [compW_N] at rd1
  have A0 : W1.A D = none := A_none R1 hD
  have sr1 := sr.le w1
  refine ⟨fun i m H => ∃ W2 h2 acc ds, cl i ∧ S.HR W2 h2 H ∧ W1.sub W2 ∧ Ac W1.A D (.lst acc) W2 ∧ S.DVs W2 ds acc ∧
    RD S S.DV (W2.wA W1.A) ((noExc (restN (oneO S t t1 it1 el s) w.nx m i h2 ds)).bind fun ds h2 => newLc b ds h2) Q (fun C d H' => wx C d σ H'), ⟨w.fuel h1, ⟨W1.F, W1.ι, upd W1.A D (.lst [])⟩, h1, [], [], wk.c0, HR.accNew R1 hD, put_sub, ⟨upd_same, fun a q => upd_ne q, A0⟩, rfl, rd1⟩, ?_⟩
  rintro i m H2 ⟨W2, h2, acc, ds, hcl, R2, u2, ac, dv, rd2⟩
  cases hn : w.nx h2 i with
  | none =>
    rw [restN_none hn] at rd2
    exact False.elim rd2
  | some o =>
    cases o with
    | none =>
      refine .inl ⟨wk.stop W2 h2 H2 i hcl u2 R2 hn, ?_⟩
      rw [restN_stop hn] at rd2
      exact acc_end R2 ac dv rd2
    | some d =>
      obtain ⟨g0, g1, g2⟩ := wk.go W2 h2 H2 i d hcl u2 R2 hn
      cases m with
      | zero =>
        rw [restN_zero hn] at rd2
        exact False.elim rd2
      | succ m =>
        rw [restN_go hn] at rd2
        refine .inr ⟨g1, fun H' => ∃ W2 h2 acc ds, cl (i + 1) ∧ S.HR W2 h2 H' ∧ W1.sub W2 ∧ Ac W1.A D (.lst acc) W2 ∧ S.DVs W2 ds acc ∧
          RD S S.DV (W2.wA W1.A) ((noExc (restN (oneO S t t1 it1 el s) w.nx m (i + 1) h2 ds)).bind fun ds h2 => newLc b ds h2) Q (fun C d H' => wx C d σ H'), fun H' q => ⟨m, Nat.lt_succ_self m, q⟩, fun x H' y => ?_⟩
        obtain ⟨W3, w3, R3, q3⟩ := g2 x H' y
        have rd3 := RD.up (wA_le (A := W1.A) w3) rd2
        have ac3 := ac.le w3
        have dv3 := dv.le w3
        have u3 := u2.trans w3.sub
        have sr3 : S.SR W3 (wipeE s (t1.slots ++ t.slots)) (L2.wipe σ (t1.slots ++ t.slots)) := SR.wipe (sr1.sub u3) _
        unfold oneO at rd3
        cases ht : t.set d (wipeE s (t1.slots ++ t.slots)) with
        | none => rw [ht] at rd3; exact False.elim rd3
        | some s' =>
          rw [ht] at rd3
          have rd3 : RD S S.DV (W3.wA W1.A) ((noExc (((S.evi it1 s' h2).bind fun w1 h3 => compW (oneI S t1 el s') w1 h3).bind fun x h1 => restN (oneO S t t1 it1 el s) w.nx m (i + 1) h1 (ds ++ x))).bind fun ds h2 => newLc b ds h2) Q (fun C d H' => wx C d σ H') := rd3
          refine ⟨W3, h2, _, s', d, R3, sr3, q3, ht, fun σ2 sr4 hw => ⟨wipe_two hw, ?_⟩⟩
          refine yes_if ?_
          rw [bind_assoc'] at rd3
          refine ⟨W3, h2, s', R3, sr4, (RD.nx (rel := rW S) rd3).imp fun J1 H4 ⟨v1, h3, W4, _, w4, R4, ⟨cl1, wk1⟩, rd4⟩ => ?_⟩
          rw [compW_N] at rd4
          have u4 := u3.trans w4.sub
          have sr5 := sr4.le w4
          refine ⟨fun j k H => ∃ W5 h5 acc ys, cl1 j ∧ S.HR W5 h5 H ∧ W4.sub W5 ∧ Ac W1.A D (.lst acc) W5 ∧ S.DVs W5 (ds ++ ys) acc ∧
            RD S S.DV (W5.wA W1.A) ((noExc ((restN (oneI S t1 el s') v1.nx k j h5 ys).bind fun x h1 => restN (oneO S t t1 it1 el s) w.nx m (i + 1) h1 (ds ++ x))).bind fun ds h2 => newLc b ds h2) Q (fun C d H' => wx C d σ H'),
            ⟨v1.fuel h3, W4, h3, acc, [], wk1.c0, R4, ⟨fun _ _ e => e, [], (List.append_nil _).symm⟩, ac3.le w4, by rw [List.append_nil]; exact dv3.le w4, rd4⟩, ?_⟩
          rintro j k H5 ⟨W5, h5, acc5, ys, hcl5, R5, u5, ac5, dv5, rd5⟩
          cases hn1 : v1.nx h5 j with
          | none =>
            rw [restN_none hn1] at rd5
            exact False.elim rd5
          | some o1 =>
            cases o1 with
            | none =>
              refine .inl ⟨wk1.stop W5 h5 H5 j hcl5 u5 R5 hn1, ?_⟩
              rw [restN_stop hn1] at rd5
              exact ⟨W5, h5, acc5, ds ++ ys, g0, R5, u4.trans u5, ac5, dv5, rd5⟩
            | some d1 =>
              obtain ⟨k0, k1, k2⟩ := wk1.go W5 h5 H5 j d1 hcl5 u5 R5 hn1
              cases k with
              | zero =>
                rw [restN_zero hn1] at rd5
                exact False.elim rd5
              | succ k =>
                rw [restN_go hn1] at rd5
                refine .inr ⟨k1, fun H' => ∃ W5 h5 acc ys, cl1 (j + 1) ∧ S.HR W5 h5 H' ∧ W4.sub W5 ∧ Ac W1.A D (.lst acc) W5 ∧ S.DVs W5 (ds ++ ys) acc ∧
                  RD S S.DV (W5.wA W1.A) ((noExc ((restN (oneI S t1 el s') v1.nx k (j + 1) h5 ys).bind fun x h1 => restN (oneO S t t1 it1 el s) w.nx m (i + 1) h1 (ds ++ x))).bind fun ds h2 => newLc b ds h2) Q (fun C d H' => wx C d σ H'), fun H' q => ⟨k, Nat.lt_succ_self k, q⟩, fun x1 H6 y1 => ?_⟩
                obtain ⟨W6, w6, R6, q6⟩ := k2 x1 H6 y1
                have rd6 := RD.up (wA_le (A := W1.A) w6) rd5
                have ac6 := ac5.le w6
                have dv6 := dv5.le w6
                have u6 := u5.trans w6.sub
                have sr6 : S.SR W6 (wipeE s' t1.slots) (L2.wipe σ2 t1.slots) := SR.wipe (sr5.sub u6) _
                unfold oneI at rd6
                cases ht1 : t1.set d1 (wipeE s' t1.slots) with
                | none => rw [ht1] at rd6; exact False.elim rd6
                | some s'' =>
                  rw [ht1] at rd6
                  have rd6 : RD S S.DV (W6.wA W1.A) ((noExc ((((S.ev el s'' h5).bind fun y h4 => .ok [y] h4).bind fun x h1 => restN (oneI S t1 el s') v1.nx k (j + 1) h1 (ys ++ x)).bind fun x h1 => restN (oneO S t t1 it1 el s) w.nx m (i + 1) h1 (ds ++ x))).bind fun ds h2 => newLc b ds h2) Q (fun C d H' => wx C d σ H') := rd6
                  refine ⟨W6, h5, _, s'', d1, R6, sr6, q6, ht1, fun σ3 sr7 hw1 => ⟨hw1.trans (wipe_idem σ2 _), ?_⟩⟩
                  refine yes_if ?_
                  rw [bind_assoc', bind_assoc'] at rd6
                  refine ⟨W6, h5, s'', R6, sr7, (RD.nx rd6).imp fun v H7 ⟨e, h7, W7, _, w7, R7, q7, rd7⟩ => ?_⟩
                  have ac7 := ac6.le w7
                  have dv7 := dv6.le w7
                  have rd7 : RD S S.DV (W7.wA W1.A) ((noExc ((restN (oneI S t1 el s') v1.nx k (j + 1) h7 (ys ++ [e])).bind fun x h1 => restN (oneO S t t1 it1 el s) w.nx m (i + 1) h1 (ds ++ x))).bind fun ds h2 => newLc b ds h2) Q (fun C d H' => wx C d σ H') := rd7
                  have hlen : acc5.length < sizeLine := by
                    have rd8 := rd7
                    cases hr : restN (oneI S t1 el s') v1.nx k (j + 1) h7 (ys ++ [e]) with
                    | ok xs h8 =>
                      rw [hr] at rd8
                      have rd8 : RD S S.DV (W7.wA W1.A) ((noExc (restN (oneO S t t1 it1 el s) w.nx m (i + 1) h8 (ds ++ xs))).bind fun ds h2 => newLc b ds h2) Q (fun C d H' => wx C d σ H') := rd8
                      cases hr2 : restN (oneO S t t1 it1 el s) w.nx m (i + 1) h8 (ds ++ xs) with
                      | ok zs h9 =>
                        rw [hr2] at rd8
                        have l1 := (newLc_len (W := W7.wA W1.A) rd8).1
                        have l2 := restN_len hr
                        have l3 := restN_len hr2
                        rw [List.length_append, List.length_singleton] at l2
                        rw [List.length_append] at l3
                        have l4 := dv7.len
                        rw [List.length_append] at l4
                        omega
                      | exc x hh => rw [hr2] at rd8; exact False.elim rd8
                      | no => rw [hr2] at rd8; exact False.elim rd8
                    | exc x hh => rw [hr] at rd8; exact False.elim rd8
                    | no => rw [hr] at rd8; exact False.elim rd8
                  refine ⟨acc5, (R7.acc D _ ac7.at_).1, hlen, ⟨W7.F, W7.ι, upd W7.A D (.lst (acc5 ++ [v]))⟩, h7, acc5 ++ [v], ys ++ [e], k0, HR.accPut R7 ac7.at_, (u6.trans w7.sub).trans put_sub, ac7.put, ?_, rd7⟩
                  rw [← List.append_assoc]
                  exact DVs.sub put_sub (dv7.snoc q7)
theorem hv_own (ho : own.map (·.2) = t1.slots ++ t.slots) : ∀ i ∈ t1.slots, i ∈ own.map (·.2) := fun i h => by rw [ho]; exact List.mem_append_left _ h
theorem se_comp2 (ok : XOk S sc N true X wx) (hi : PI X tg iter (tI S wx it)) (hb : blkC N sc scope own = true) (ho : own.map (·.2) = t1.slots ++ t.slots) (ht : tgB N (relS scope sc) scope t tg = true) (ht1 : tgB N (relS scope sc) scope t1 tg1 = true)
    (hi1 : ∀ X', XOk S (relS scope sc) N true X' wF → PI X' tg1 iter1 (tI S wF it1)) (he : ∀ X', XOk S (relS scope sc) N true X' wF → PE X' elt (tE S wF el)) (hs : notSet iter = true) (hs1 : notSet iter1 = true) :
    PE X (.ListComp elt [⟨tg, iter, [], 0⟩, ⟨tg1, iter1, [], 0⟩] scope pos) (tE S wx (.comp2 b t it t1 it1 el)) := by
  refine peImp (pe_lc2 (own := own) (vs1 := t1.slots) (ok.cm rfl).1 (by rw [ok.nm]; exact ok.nd) hi (by rw [ok.nm, ok.sc]; exact blkOk_by hb) (hv_own ho) (fun s H C cl fp => sg_tg ok.K (ok.cm rfl).1 (ok.tok s H scope C cl fp) ht) (fun s H C cl fp => pts_nil)
    (fun s H C cl fp => hi1 _ (ok.blk s H scope C cl fp)) (fun s H C cl fp => sg_tg ok.K (ok.cm rfl).1 (ok.tok s H scope C cl fp) ht1) (fun s H C cl fp => pts_nil) (fun s H C cl fp => he _ (ok.blk s H scope C cl fp)) (fun v => fold_plain hs) (fun _ v => fold_plain hs1)) fun σ H Q q => lc2_red ho q
theorem sp_comp2 {i : Nat} {n : Str} {py spos : Pos} (ok : XOk S sc N true X wx) (hn : N[i]? = some n) (hl : (match sc.names.lookup n with | some .local => true | _ => false) = true) (hk : (match sc.kind with | .function => true | _ => false) = true) (hln : (py.line == pos.line) = true)
    (ha : (scope.names.any fun (n', k) => n' == n && (k == .local || k == .cell)) = false) (hi : PI X tg iter (tI S wx it)) (hb : blkC N sc scope own = true) (ho : own.map (·.2) = t1.slots ++ t.slots) (ht : tgB N (relS scope sc) scope t tg = true) (ht1 : tgB N (relS scope sc) scope t1 tg1 = true)
    (hi1 : ∀ X', XOk S (relS scope sc) N true X' wF → PI X' tg1 iter1 (tI S wF it1)) (he : ∀ X', XOk S (relS scope sc) N true X' wF → PE X' elt (tE S wF el)) (hs : notSet iter = true) (hs1 : notSet iter1 = true) :
    PS X (.Assign [.Name n py] (.ListComp elt [⟨tg, iter, [], 0⟩, ⟨tg1, iter1, [], 0⟩] scope pos) spos) (tAsg (tE S wx (.comp2 b t it t1 it1 el)) (gName i)) := by
  have hl : X.env.scope.names.lookup n = some .local := by
    rw [ok.sc]
    split at hl
    · assumption
    · cases hl
  have hk : X.env.scope.kind = .function := by
    rw [ok.sc]
    split at hk
    · assumption
    · cases hk
  have h := ps_setLc2 (i := i) (spos := spos) (elt := elt) (pos := pos) (py := py) (own := own) (vs1 := t1.slots) (ok.cm rfl).1 (by rw [ok.nm]; exact ok.nd) (by rw [ok.nm]; exact hn) hl (sw_true hk hl hln ha) hi (by rw [ok.nm, ok.sc]; exact blkOk_by hb) (hv_own ho) (fun s H C cl fp => sg_tg (S := S) ok.K (ok.cm rfl).1 (ok.tok s H scope C cl fp) ht) (fun s H C cl fp => pts_nil)
    (fun s H C cl fp => hi1 _ (ok.blk s H scope C cl fp)) (fun s H C cl fp => sg_tg (S := S) ok.K (ok.cm rfl).1 (ok.tok s H scope C cl fp) ht1) (fun s H C cl fp => pts_nil) (fun s H C cl fp => he _ (ok.blk s H scope C cl fp)) (fun v => fold_plain hs) (fun _ v => fold_plain hs1)
  exact ⟨fun pins s σ H D I q => h.run pins s σ H D I (lc2_red (own := own) ho q)⟩
end
end Vm

/-! Vm, part 14: the check of a text, and that it suffices. Own text. -/
namespace Vm
open PySem L2 PySem.Spec PyProof.Rows

def ownOf (N : List Str) (l : List Nat) : List (Str × Nat) := l.filterMap fun i => N[i]?.map fun n => (n, i)
def isTupE : Expr → Bool
  | .Tuple _ _ _ => true
  | _ => false
section
variable (G : Gm) (N : List Str)
def gOk (sc : Scope) (n : Str) : Bool := glB sc n && decide (n ∈ G.free)
mutual
def ckE : E → Bool → Expr → Scope → Bool
  | .lit d, tt, e, sc => (!tt || tstPlain e) && (match e with
    | .Constant k _ _ => litB d k
    | _ => false)
  | .gl i, tt, e, sc => (!tt || tstPlain e) && (match e with
    | .Name n _ => glB sc n && decide (G.gl[i]? = some n) && ndbg n
    | _ => false)
  | .v i, tt, e, sc => (!tt || tstPlain e) && (match e with
    | .Name n _ => decide (N[i]? = some n) && visB sc n && ndbg n
    | _ => false)
  | .bin op a b, tt, e, sc => (!tt || tstPlain e) && (match e with
    | .BinOp x op' y _ => decide (op = op') && ckE a false x sc && ckE b false y sc
    | _ => false)
  | .neg a, tt, e, sc => (!tt || tstPlain e) && (match e with
    | .UnaryOp .USub x _ => ckE a false x sc
    | _ => false)
  | .nt a, tt, e, sc => (match e with
    | .UnaryOp .Not x _ => ckE a tt x sc
    | _ => false)
  | .and a b, tt, e, sc => (match e with
    | .BoolOp .And (x :: y :: es) p => ckE a tt x sc && ckE b tt (.BoolOp .And (y :: es) p) sc
    | _ => false)
  | .or a b, tt, e, sc => (match e with
    | .BoolOp .Or (x :: y :: es) p => ckE a tt x sc && ckE b tt (.BoolOp .Or (y :: es) p) sc
    | _ => false)
  | .one a, tt, e, sc => (match e with
    | .BoolOp _ [x] _ => ckE a tt x sc
    | _ => false)
  | .cmp op a b, tt, e, sc => (match e with
    | .Compare x [op'] [y] _ => decide (op = op') && ckE a false x sc && ckE b false y sc && notSet y
    | _ => false)
  | .chain op1 op2 a b c, tt, e, sc => (match e with
    | .Compare x [o1, o2] [y, z] _ => decide (op1 = o1) && decide (op2 = o2) && ckE a false x sc && ckE b false y sc && ckE c false z sc && notSet y && notSet z
    | _ => false)
  | .ife c a b, tt, e, sc => (!tt || tstPlain e) && (match e with
    | .IfExp t x y _ => ckE c true t sc && ckE a false x sc && ckE b false y sc
    | _ => false)
  | .tup es, tt, e, sc => (!tt || tstPlain e) && (match e with
    | .Tuple l _ _ => ckA es l sc
    | _ => false)
  | .lst _ es, tt, e, sc => (!tt || tstPlain e) && (match e with
    | .List l _ => ckA es l sc
    | _ => false)
  | .comp _ t it c el, tt, e, sc => (!tt || tstPlain e) && (match e with
    | .ListComp elt [⟨tg, iter, ifs, as⟩] scope _ => decide (as = 0) && blkC N sc scope (ownOf N t.slots) && decide ((ownOf N t.slots).map (·.2) = t.slots) && tgB N (relS scope sc) scope t tg && ckC c ifs (relS scope sc) && ckE el false elt (relS scope sc) && notSet iter && ckI it iter (isTupE tg) sc
    | _ => false)
  | .dnew, tt, e, _ => (!tt || tstPlain e) && (match e with
    | .Dict [] [] _ => true
    | _ => false)
  | .disp _ es, tt, e, sc => (!tt || tstPlain e) && (match e with
    | .Dict (k :: ks) vs _ => ckP es (k :: ks) vs sc && decide ((k :: ks).length ≤ 15)
    | _ => false)
  | .dcomp _ t it k el, tt, e, sc => (!tt || tstPlain e) && (match e with
    | .DictComp kx elt [⟨tg, iter, [], as⟩] scope _ => decide (as = 0) && blkC N sc scope (ownOf N t.slots) && decide ((ownOf N t.slots).map (·.2) = t.slots) && tgB N (relS scope sc) scope t tg && ckE k false kx (relS scope sc) && ckE el false elt (relS scope sc) && notSet iter && ckI it iter (isTupE tg) sc
    | _ => false)
  | .ix a b, tt, e, sc => (!tt || tstPlain e) && (match e with
    | .Subscript x y _ => notSlice y && ckE a false x sc && ckE b false y sc
    | _ => false)
  | .sl a lo hi, tt, e, sc => (!tt || tstPlain e) && (match e with
    | .Subscript x (.Slice l h none _) _ => ckE a false x sc && ckO lo l sc && ckO hi h sc
    | _ => false)
  | .call f es, tt, e, sc => (!tt || tstPlain e) && (match e with
    | .Call (.Name n _) l [] _ => glB sc n && decide (G.fn f = some n) && ndbg n && ckA es l sc && l.all notStar
    | _ => false)
  | .make c f es, tt, e, sc => (!tt || tstPlain e) && (match e with
    | .Call (.Name n _) l [] _ => glB sc n && decide (G.cls c = some n) && decide (G.init c = some f) && ndbg n && ckA es l sc && l.all notStar
    | _ => false)
  | .mcall c mn f o es, tt, e, sc => (!tt || tstPlain e) && (match e with
    | .Call (.Attribute x mn' p) l [] pos => decide (mn = mn') && noSup x && (G.cls c).isSome && decide (G.meth c mn = some f) && ckE o false x sc && ckA es l sc && l.all notStar && decide (l.length < 29) && (p.endLine == pos.line)
    | _ => false)
  | .bf f es, tt, e, sc => (!tt || tstPlain e) && (match e with
    | .Call (.Name n _) (x :: l) [] _ => decide (n = bfName f) && gOk G sc n && ckA es (x :: l) sc && (x :: l).all notStar
    | _ => false)
  | .isin T a, tt, e, sc => (!tt || tstPlain e) && (match T, e with
    | [t], .Call (.Name n _) [x, .Name tn _] [] _ => decide (n = "isinstance") && decide (tn = t.text) && gOk G sc n && gOk G sc tn && ckE a false x sc && notStar x
    | _, _ => false)
  | .listOf _ a, tt, e, sc => (!tt || tstPlain e) && (match e with
    | .Call (.Name n _) [x] [] _ => decide (n = "list") && gOk G sc n && ((notRng a && ckE a false x sc && notStar x) || ckR a x sc)
    | _ => false)
  | .get o k d, tt, e, sc => (!tt || tstPlain e) && (match e with
    | .Call (.Attribute x mn p) [y] [] pos => decide (mn = "get") && noSup x && ckE o false x sc && ckE k false y sc && notStar y && (p.endLine == pos.line) && ckN d
    | .Call (.Attribute x mn p) [y, z] [] pos => decide (mn = "get") && noSup x && ckE o false x sc && ckE k false y sc && notStar y && (p.endLine == pos.line) && ckO d (some z) sc && notStar z
    | _ => false)
  | .append o a, tt, e, sc => (!tt || tstPlain e) && (match e with
    | .Call (.Attribute x mn p) [y] [] pos => decide (mn = "append") && noSup x && ckE o false x sc && ckE a false y sc && notStar y && (p.endLine == pos.line)
    | _ => false)
  | .extend o a, tt, e, sc => (!tt || tstPlain e) && (match e with
    | .Call (.Attribute x mn p) [y] [] pos => decide (mn = "extend") && noSup x && ckE o false x sc && ckE a false y sc && notStar y && (p.endLine == pos.line)
    | _ => false)
  | .fld c o f, tt, e, sc => (!tt || tstPlain e) && (match e with
    | .Attribute x f' _ => decide (f = f') && noSup x && (G.cls c).isSome && G.attr c f && ckE o false x sc
    | _ => false)
  | .addM op a b, tt, e, sc => (!tt || tstPlain e) && (match e with
    | .BinOp x op' y _ => decide (op = op') && ckE a false x sc && ckE b false y sc
    | _ => false)
  | .comp2 _ t it t1 it1 el, tt, e, sc => (!tt || tstPlain e) && (match e with
    | .ListComp elt [⟨tg, iter, [], as⟩, ⟨tg1, iter1, [], as1⟩] scope _ => decide (as = 0) && decide (as1 = 0) && blkC N sc scope (ownOf N (t1.slots ++ t.slots)) && decide ((ownOf N (t1.slots ++ t.slots)).map (·.2) = t1.slots ++ t.slots) && tgB N (relS scope sc) scope t tg && tgB N (relS scope sc) scope t1 tg1 && ckE el false elt (relS scope sc) && notSet iter && notSet iter1 && ckI it1 iter1 (isTupE tg1) (relS scope sc) && ckI it iter (isTupE tg) sc
    | _ => false)
  | .rgT es, tt, e, sc => (!tt || tstPlain e) && (match e with
    | .Call (.Name n _) [.Call (.Name n2 _) [x] [] _] [] _ => decide (n = "tuple") && decide (n2 = "range") && gOk G sc n && gOk G sc n2 && ckA es [x] sc
    | .Call (.Name n _) [.Call (.Name n2 _) [x, y] [] _] [] _ => decide (n = "tuple") && decide (n2 = "range") && gOk G sc n && gOk G sc n2 && ckA es [x, y] sc
    | _ => false)
  | .rgL _ es, tt, e, sc => (!tt || tstPlain e) && (match e with
    | .Call (.Name n _) [.Call (.Name n2 _) [x, y] [] _] [] _ => decide (n = "list") && decide (n2 = "range") && gOk G sc n && gOk G sc n2 && ckA es [x, y] sc
    | _ => false)
  | .sortR a, tt, e, sc => (!tt || tstPlain e) && (match e with
    | .Call (.Name n _) [x] [⟨some k, .Constant (.bool true) _ _, _⟩] _ => decide (n = "sorted") && decide (k = "reverse") && gOk G sc n && ckE a false x sc && notStar x
    | _ => false)
  | .rev _ a, tt, e, sc => (!tt || tstPlain e) && (match e with
    | .Subscript x (.Slice none none (some (.UnaryOp .USub (.Constant (.int i) _ _) _)) _) _ => decide (i = 1) && ckE a false x sc
    | _ => false)
  | .fz a, tt, e, sc => (!tt || tstPlain e) && ckE a false e sc
  | _, _, _, _ => false
def ckA : E → List Expr → Scope → Bool
  | .nil, l, _ => (match l with
    | [] => true
    | _ => false)
  | .cons a es, l, sc => (match l with
    | x :: l => notStar x && ckE a false x sc && ckA es l sc
    | _ => false)
  | _, _, _ => false
def ckC : E → List Expr → Scope → Bool
  | .nil, l, _ => (match l with
    | [] => true
    | _ => false)
  | .cons a es, l, sc => (match l with
    | [x] => ckE a true x sc && ckN es
    | _ => false)
  | _, _, _ => false
def ckN : E → Bool
  | .nil => true
  | _ => false
/-- pairs of a display: the value's turn comes in ckV -/
def ckP : E → List (Option Expr) → List Expr → Scope → Bool
  | .nil, ks, vs, _ => (match ks, vs with
    | [], [] => true
    | _, _ => false)
  | .cons a es, ks, vs, sc => (match ks with
    | some k :: ks => ckE a false k sc && ckV es ks vs sc
    | _ => false)
  | _, _, _, _ => false
def ckV : E → List (Option Expr) → List Expr → Scope → Bool
  | .cons a es, ks, vs, sc => (match vs with
    | v :: vs => ckE a false v sc && ckP es ks vs sc
    | _ => false)
  | _, _, _, _ => false
def ckO : E → Option Expr → Scope → Bool
  | .nil, o, _ => (match o with
    | none => true
    | _ => false)
  | .one a, o, sc => (match o with
    | some x => ckE a false x sc
    | _ => false)
  | _, _, _ => false
/-- range(x) -/
def ckR : E → Expr → Scope → Bool
  | .rng es, e, sc => (match e with
    | .Call (.Name n _) [x] [] _ => decide (n = "range") && gOk G sc n && ckA es [x] sc
    | _ => false)
  | _, _, _ => false
/-- what is walked; tt: the target is a tuple -/
def ckI : E → Expr → Bool → Scope → Bool
  | .rng es, e, _, sc => (match e with
    | .Call (.Name n _) [x] [] _ => decide (n = "range") && gOk G sc n && ckA es [x] sc
    | .Call (.Name n _) [x, y] [] _ => decide (n = "range") && gOk G sc n && ckA es [x, y] sc
    | .Call (.Name n _) [x, y, z] [] _ => decide (n = "range") && gOk G sc n && ckA es [x, y, z] sc
    | _ => false)
  | .one a, e, _, sc => ckE a false e sc
  | .enum a, e, tt, sc => tt && (match e with
    | .Call (.Name n _) [x] [] _ => decide (n = "enumerate") && gOk G sc n && ckE a false x sc && notStar x
    | _ => false)
  | .zip a b, e, tt, sc => tt && (match e with
    | .Call (.Name n _) [x, y] [] _ => decide (n = "zip") && gOk G sc n && ckE a false x sc && ckE b false y sc && notStar x && notStar y
    | _ => false)
  | _, _, _, _ => false
end
end
end Vm

/-! Vm, part 15: the check of an expression suffices. Own text. -/
namespace Vm
open PySem L2 PySem.Spec PyProof.Rows

inductive Args (S : Sc) (wx : WX) (X : Cx) : List Expr → E → Prop where
  | nil : Args S wx X [] .nil
  | cons {x : Expr} {l : List Expr} {m me : E} (hs : notStar x = true) (h : PE X x (tE S wx m)) (r : Args S wx X l me) : Args S wx X (x :: l) (.cons m me)
theorem Args.pa {S : Sc} {wx : WX} {X : Cx} {l : List Expr} {m : E} (h : Args S wx X l m) : PA X l (tA S wx m) := by
  induction h with
  | nil => exact sa_nil
  | cons hs h _ ih => exact sa_cons h ih hs
structure Snd (S : Sc) (N : List Str) (m : E) : Prop where
  pe : ∀ X wx sc e, XOk S sc N true X wx → ckE S.G N m false e sc = true → PE X e (tE S wx m)
  pt : ∀ X wx sc e, XOk S sc N true X wx → ckE S.G N m true e sc = true → PT X e (tT S wx m)
  pw : ∀ X wx sc op es p, XOk S sc N true X wx → ckE S.G N m true (.BoolOp op es p) sc = true → PW X (.BoolOp op es p) (tT S wx m)
  pa : ∀ X wx sc l, XOk S sc N true X wx → ckA S.G N m l sc = true → Args S wx X l m
  pc : ∀ X sc l, XOk S sc N true X wF → ckC S.G N m l sc = true → PTs X l (tTs S m)
  pn : ckN S.G N m = true → m = .nil
  pp : ∀ X wx sc ks vs, XOk S sc N true X wx → ckP S.G N m ks vs sc = true → Pairs S wx X ks vs m
  pv : ∀ X wx sc ks vs, XOk S sc N true X wx → ckV S.G N m ks vs sc = true → ∃ v vs' mv me, vs = v :: vs' ∧ m = .cons mv me ∧ PE X v (tE S wx mv) ∧ Pairs S wx X ks vs' me
  po : ∀ X wx sc o, XOk S sc N true X wx → ckO S.G N m o sc = true → PO X o (tO S wx m)
  pg : ∀ X wx sc x, XOk S sc N true X wx → ckO S.G N m (some x) sc = true → ∃ m1, m = .one m1 ∧ PE X x (tE S wx m1)
  pr : ∀ X wx sc e, XOk S sc N true X wx → ckR S.G N m e sc = true → ∃ m1 x p p2 p3, m = .rng (.cons m1 .nil) ∧ e = .Call (.Name "range" p) [x] [] p2 ∧ glB sc "range" = true ∧ ("range" : Str) ∈ S.G.free ∧ PE X x (tE S wx m1) ∧ notStar x = true ∧ p3 = p2
  pi : ∀ X wx sc e tg tt, XOk S sc N true X wx → (tt = true → isTupE tg = true) → ckI S.G N m e tt sc = true → PI X tg e (tI S wx m)
section
variable {S : Sc} {N : List Str} {m : E}
theorem no_of {b : Bool} (e : b = false) {α : Prop} (h : b = true) : α := by rw [e] at h; cases h
theorem Snd.val (pe : ∀ X wx sc e, XOk S sc N true X wx → ckE S.G N m false e sc = true → PE X e (tE S wx m)) (ht : ∀ e sc, ckE S.G N m true e sc = (tstPlain e && ckE S.G N m false e sc)) (v1 : ∀ l sc, ckA S.G N m l sc = false) (v2 : ∀ l sc, ckC S.G N m l sc = false)
    (v3 : ckN S.G N m = false) (v4 : ∀ ks vs sc, ckP S.G N m ks vs sc = false) (v5 : ∀ ks vs sc, ckV S.G N m ks vs sc = false) (v6 : ∀ o sc, ckO S.G N m o sc = false) (v7 : ∀ e sc, ckR S.G N m e sc = false) (v8 : ∀ e tt sc, ckI S.G N m e tt sc = false) : Snd S N m where
  pe := pe
  pt := fun X wx sc e ok h => by
    rw [ht] at h
    obtain ⟨h1, h2⟩ := and2 h
    exact st_val (pe X wx sc e ok h2) h1
  pw := fun X wx sc op es p ok h => by
    rw [ht] at h
    exact no_of rfl (and2 h).1
  pa := fun X wx sc l ok h => no_of (v1 l sc) h
  pc := fun X sc l ok h => no_of (v2 l sc) h
  pn := fun h => no_of v3 h
  pp := fun X wx sc ks vs ok h => no_of (v4 ks vs sc) h
  pv := fun X wx sc ks vs ok h => no_of (v5 ks vs sc) h
  po := fun X wx sc o ok h => no_of (v6 o sc) h
  pg := fun X wx sc x ok h => no_of (v6 (some x) sc) h
  pr := fun X wx sc e ok h => no_of (v7 e sc) h
  pi := fun X wx sc e tg tt ok _ h => no_of (v8 e tt sc) h
theorem Snd.tst (pe : ∀ X wx sc e, XOk S sc N true X wx → ckE S.G N m false e sc = true → PE X e (tE S wx m)) (pt : ∀ X wx sc e, XOk S sc N true X wx → ckE S.G N m true e sc = true → PT X e (tT S wx m))
    (pw : ∀ X wx sc op es p, XOk S sc N true X wx → ckE S.G N m true (.BoolOp op es p) sc = true → PW X (.BoolOp op es p) (tT S wx m)) (v1 : ∀ l sc, ckA S.G N m l sc = false) (v2 : ∀ l sc, ckC S.G N m l sc = false)
    (v3 : ckN S.G N m = false) (v4 : ∀ ks vs sc, ckP S.G N m ks vs sc = false) (v5 : ∀ ks vs sc, ckV S.G N m ks vs sc = false) (v6 : ∀ o sc, ckO S.G N m o sc = false) (v7 : ∀ e sc, ckR S.G N m e sc = false) (v8 : ∀ e tt sc, ckI S.G N m e tt sc = false) : Snd S N m where
  pe := pe
  pt := pt
  pw := pw
  pa := fun X wx sc l ok h => no_of (v1 l sc) h
  pc := fun X sc l ok h => no_of (v2 l sc) h
  pn := fun h => no_of v3 h
  pp := fun X wx sc ks vs ok h => no_of (v4 ks vs sc) h
  pv := fun X wx sc ks vs ok h => no_of (v5 ks vs sc) h
  po := fun X wx sc o ok h => no_of (v6 o sc) h
  pg := fun X wx sc x ok h => no_of (v6 (some x) sc) h
  pr := fun X wx sc e ok h => no_of (v7 e sc) h
  pi := fun X wx sc e tg tt ok _ h => no_of (v8 e tt sc) h
theorem gOk_ok {X : Cx} {wx : WX} {sc : Scope} {cm : Bool} {n : Str} (h : gOk S.G sc n = true) : glB sc n = true ∧ n ∈ S.G.free := by
  obtain ⟨h1, h2⟩ := and2 h
  exact ⟨h1, of_decide_eq_true h2⟩
theorem tupE_of {tg : Expr} (h : isTupE tg = true) : ∃ elts kk tpos, tg = .Tuple elts kk tpos := by
  cases tg with
  | Tuple a b c => exact ⟨a, b, c, rfl⟩
  | _ => cases h
theorem snd_E (S : Sc) (N : List Str) (m : E) : Snd S N m := by
  induction m with
  | nil => exact {
      pe := fun X wx sc e ok h => by cases h
      pt := fun X wx sc e ok h => by cases h
      pw := fun X wx sc op es p ok h => by cases h
      pa := fun X wx sc l ok h => by
        cases l with
        | nil => exact .nil
        | cons x l => cases h
      pc := fun X sc l ok h => by
        cases l with
        | nil => exact sts_nil
        | cons x l => cases h
      pn := fun h => rfl
      pp := fun X wx sc ks vs ok h => by
        cases ks with
        | nil =>
          cases vs with
          | nil => exact .nil
          | cons x l => cases h
        | cons x l => cases h
      pv := fun X wx sc ks vs ok h => by cases h
      po := fun X wx sc o ok h => by
        cases o with
        | none => exact so_nil
        | some x => cases h
      pg := fun X wx sc o ok h => by cases h
      pr := fun X wx sc e ok h => by cases h
      pi := fun X wx sc e tg tt ok _ h => by cases h }
  | cons a es iha ihs => exact {
      pe := fun X wx sc e ok h => by cases h
      pt := fun X wx sc e ok h => by cases h
      pw := fun X wx sc op es p ok h => by cases h
      pa := fun X wx sc l ok h => by
        cases l with
        | nil => cases h
        | cons x l =>
          obtain ⟨h, h3⟩ := and2 (show (notStar x && ckE S.G N a false x sc && ckA S.G N es l sc) = true from h)
          obtain ⟨h1, h2⟩ := and2 h
          exact .cons h1 (iha.pe X wx sc x ok h2) (ihs.pa X wx sc l ok h3)
      pc := fun X sc l ok h => by
        cases l with
        | nil => cases h
        | cons x l =>
          cases l with
          | cons y l => cases h
          | nil =>
            obtain ⟨h1, h2⟩ := and2 (show (ckE S.G N a true x sc && ckN S.G N es) = true from h)
            have e := ihs.pn h2
            subst e
            exact sts_one (iha.pt X wF sc x ok h1)
      pn := fun h => by cases h
      pp := fun X wx sc ks vs ok h => by
        cases ks with
        | nil => cases h
        | cons k ks =>
          cases k with
          | none => cases h
          | some k =>
            obtain ⟨h1, h2⟩ := and2 (show (ckE S.G N a false k sc && ckV S.G N es ks vs sc) = true from h)
            obtain ⟨v, vs', mv, me, e1, e2, h3, h4⟩ := ihs.pv X wx sc ks vs ok h2
            subst e1 e2
            exact .cons (iha.pe X wx sc k ok h1) h3 h4
      pv := fun X wx sc ks vs ok h => by
        cases vs with
        | nil => cases h
        | cons v vs =>
          obtain ⟨h1, h2⟩ := and2 (show (ckE S.G N a false v sc && ckP S.G N es ks vs sc) = true from h)
          exact ⟨v, vs, a, es, rfl, rfl, iha.pe X wx sc v ok h1, ihs.pp X wx sc ks vs ok h2⟩
      po := fun X wx sc o ok h => by cases h
      pg := fun X wx sc o ok h => by cases h
      pr := fun X wx sc e ok h => by cases h
      pi := fun X wx sc e tg tt ok _ h => by cases h }
  | lit d =>
    refine .val (fun X wx sc e ok h => ?_) (fun _ _ => rfl) (fun _ _ => rfl) (fun _ _ => rfl) rfl (fun _ _ _ => rfl) (fun _ _ _ => rfl) (fun _ _ => rfl) (fun _ _ => rfl) (fun _ _ _ => rfl)
    have h : (match (generalizing := false) e with | .Constant k _ _ => litB d k | _ => false) = true := h
    split at h
    · exact se_lit h
    · cases h
  | gl i =>
    refine .val (fun X wx sc e ok h => ?_) (fun _ _ => rfl) (fun _ _ => rfl) (fun _ _ => rfl) rfl (fun _ _ _ => rfl) (fun _ _ _ => rfl) (fun _ _ => rfl) (fun _ _ => rfl) (fun _ _ _ => rfl)
    have h : (match (generalizing := false) e with | .Name n _ => glB sc n && decide (S.G.gl[i]? = some n) && ndbg n | _ => false) = true := h
    split at h
    · obtain ⟨h, h3⟩ := and2 h
      obtain ⟨h1, h2⟩ := and2 h
      exact se_gl ok h1 (of_decide_eq_true h2) h3
    · cases h
  | v i =>
    refine .val (fun X wx sc e ok h => ?_) (fun _ _ => rfl) (fun _ _ => rfl) (fun _ _ => rfl) rfl (fun _ _ _ => rfl) (fun _ _ _ => rfl) (fun _ _ => rfl) (fun _ _ => rfl) (fun _ _ _ => rfl)
    have h : (match (generalizing := false) e with | .Name n _ => decide (N[i]? = some n) && visB sc n && ndbg n | _ => false) = true := h
    split at h
    · obtain ⟨h, h3⟩ := and2 h
      obtain ⟨h1, h2⟩ := and2 h
      exact se_v ok (of_decide_eq_true h1) h2 h3
    · cases h
  | bin op a b iha ihb =>
    refine .val (fun X wx sc e ok h => ?_) (fun _ _ => rfl) (fun _ _ => rfl) (fun _ _ => rfl) rfl (fun _ _ _ => rfl) (fun _ _ _ => rfl) (fun _ _ => rfl) (fun _ _ => rfl) (fun _ _ _ => rfl)
    have h : (match (generalizing := false) e with | .BinOp x op' y _ => decide (op = op') && ckE S.G N a false x sc && ckE S.G N b false y sc | _ => false) = true := h
    split at h
    · obtain ⟨h, h3⟩ := and2 h
      obtain ⟨h1, h2⟩ := and2 h
      have e := of_decide_eq_true h1
      subst e
      exact se_bin ok (iha.pe X wx sc _ ok h2) (ihb.pe X wx sc _ ok h3)
    · cases h
  | neg a iha =>
    refine .val (fun X wx sc e ok h => ?_) (fun _ _ => rfl) (fun _ _ => rfl) (fun _ _ => rfl) rfl (fun _ _ _ => rfl) (fun _ _ _ => rfl) (fun _ _ => rfl) (fun _ _ => rfl) (fun _ _ _ => rfl)
    have h : (match (generalizing := false) e with | .UnaryOp .USub x _ => ckE S.G N a false x sc | _ => false) = true := h
    split at h
    · exact se_neg (iha.pe X wx sc _ ok h)
    · cases h
  | nt a iha =>
    refine .tst (fun X wx sc e ok h => ?_) (fun X wx sc e ok h => ?_) (fun X wx sc op es p ok h => ?_) (fun _ _ => rfl) (fun _ _ => rfl) rfl (fun _ _ _ => rfl) (fun _ _ _ => rfl) (fun _ _ => rfl) (fun _ _ => rfl) (fun _ _ _ => rfl)
    · have h : (match (generalizing := false) e with | .UnaryOp .Not x _ => ckE S.G N a false x sc | _ => false) = true := h
      split at h
      · exact se_nt (iha.pe X wx sc _ ok h)
      · cases h
    · have h : (match (generalizing := false) e with | .UnaryOp .Not x _ => ckE S.G N a true x sc | _ => false) = true := h
      split at h
      · exact st_nt (iha.pt X wx sc _ ok h)
      · cases h
    · cases h
  | and a b iha ihb =>
    have key : ∀ X wx sc op es p, XOk S sc N true X wx → ckE S.G N (.and a b) true (.BoolOp op es p) sc = true → PW X (.BoolOp op es p) (tT S wx (.and a b)) := fun X wx sc op es p ok h => by
      have h : (match (generalizing := false) (.BoolOp op es p : Expr) with | .BoolOp .And (x :: y :: es) p => ckE S.G N a true x sc && ckE S.G N b true (.BoolOp .And (y :: es) p) sc | _ => false) = true := h
      split at h
      · rename_i e2
        cases e2
        obtain ⟨h1, h2⟩ := and2 h
        exact sw_and (iha.pt X wx sc _ ok h1) (ihb.pw X wx sc _ _ _ ok h2)
      · cases h
    refine .tst (fun X wx sc e ok h => ?_) (fun X wx sc e ok h => ?_) key (fun _ _ => rfl) (fun _ _ => rfl) rfl (fun _ _ _ => rfl) (fun _ _ _ => rfl) (fun _ _ => rfl) (fun _ _ => rfl) (fun _ _ _ => rfl)
    · have h : (match (generalizing := false) e with | .BoolOp .And (x :: y :: es) p => ckE S.G N a false x sc && ckE S.G N b false (.BoolOp .And (y :: es) p) sc | _ => false) = true := h
      split at h
      · obtain ⟨h1, h2⟩ := and2 h
        exact se_and (iha.pe X wx sc _ ok h1) (ihb.pe X wx sc _ ok h2)
      · cases h
    · cases e with
      | BoolOp op es p => exact (key X wx sc op es p ok h).pt
      | _ => cases h
  | or a b iha ihb =>
    have key : ∀ X wx sc op es p, XOk S sc N true X wx → ckE S.G N (.or a b) true (.BoolOp op es p) sc = true → PW X (.BoolOp op es p) (tT S wx (.or a b)) := fun X wx sc op es p ok h => by
      have h : (match (generalizing := false) (.BoolOp op es p : Expr) with | .BoolOp .Or (x :: y :: es) p => ckE S.G N a true x sc && ckE S.G N b true (.BoolOp .Or (y :: es) p) sc | _ => false) = true := h
      split at h
      · rename_i e2
        cases e2
        obtain ⟨h1, h2⟩ := and2 h
        exact sw_or (iha.pt X wx sc _ ok h1) (ihb.pw X wx sc _ _ _ ok h2)
      · cases h
    refine .tst (fun X wx sc e ok h => ?_) (fun X wx sc e ok h => ?_) key (fun _ _ => rfl) (fun _ _ => rfl) rfl (fun _ _ _ => rfl) (fun _ _ _ => rfl) (fun _ _ => rfl) (fun _ _ => rfl) (fun _ _ _ => rfl)
    · have h : (match (generalizing := false) e with | .BoolOp .Or (x :: y :: es) p => ckE S.G N a false x sc && ckE S.G N b false (.BoolOp .Or (y :: es) p) sc | _ => false) = true := h
      split at h
      · obtain ⟨h1, h2⟩ := and2 h
        exact se_or (iha.pe X wx sc _ ok h1) (ihb.pe X wx sc _ ok h2)
      · cases h
    · cases e with
      | BoolOp op es p => exact (key X wx sc op es p ok h).pt
      | _ => cases h
  | one a iha => 
    have key : ∀ X wx sc op es p, XOk S sc N true X wx → ckE S.G N (.one a) true (.BoolOp op es p) sc = true → PW X (.BoolOp op es p) (tT S wx (.one a)) := fun X wx sc op es p ok h => by
      have h : (match (generalizing := false) (.BoolOp op es p : Expr) with | .BoolOp _ [x] _ => ckE S.G N a true x sc | _ => false) = true := h
      split at h
      · rename_i e2
        cases e2
        exact sw_one (iha.pt X wx sc _ ok h)
      · cases h
    exact {
      pe := fun X wx sc e ok h => by
        have h : (match (generalizing := false) e with | .BoolOp _ [x] _ => ckE S.G N a false x sc | _ => false) = true := h
        split at h
        · exact se_one (iha.pe X wx sc _ ok h)
        · cases h
      pt := fun X wx sc e ok h => by
        cases e with
        | BoolOp op es p => exact (key X wx sc op es p ok h).pt
        | _ => cases h
      pw := key
      pa := fun X wx sc l ok h => by cases h
      pc := fun X sc l ok h => by cases h
      pn := fun h => by cases h
      pp := fun X wx sc ks vs ok h => by cases h
      pv := fun X wx sc ks vs ok h => by cases h
      po := fun X wx sc o ok h => by
        cases o with
        | none => cases h
        | some x => exact so_some (iha.pe X wx sc x ok h)
      pg := fun X wx sc x ok h => ⟨a, rfl, iha.pe X wx sc x ok h⟩
      pr := fun X wx sc e ok h => by cases h
      pi := fun X wx sc e tg tt ok _ h => si_any ok (iha.pe X wx sc e ok h) }
  | cmp op a b iha ihb =>
    refine .tst (fun X wx sc e ok h => ?_) (fun X wx sc e ok h => ?_) (fun X wx sc op es p ok h => ?_) (fun _ _ => rfl) (fun _ _ => rfl) rfl (fun _ _ _ => rfl) (fun _ _ _ => rfl) (fun _ _ => rfl) (fun _ _ => rfl) (fun _ _ _ => rfl)
    · have h : (match (generalizing := false) e with | .Compare x [op'] [y] _ => decide (op = op') && ckE S.G N a false x sc && ckE S.G N b false y sc && notSet y | _ => false) = true := h
      split at h
      · obtain ⟨h, h4⟩ := and2 h
        obtain ⟨h, h3⟩ := and2 h
        obtain ⟨h1, h2⟩ := and2 h
        have e := of_decide_eq_true h1
        subst e
        exact se_cmp ok (iha.pe X wx sc _ ok h2) (ihb.pe X wx sc _ ok h3) h4
      · cases h
    · have h : (match (generalizing := false) e with | .Compare x [op'] [y] _ => decide (op = op') && ckE S.G N a false x sc && ckE S.G N b false y sc && notSet y | _ => false) = true := h
      split at h
      · obtain ⟨h, h4⟩ := and2 h
        obtain ⟨h, h3⟩ := and2 h
        obtain ⟨h1, h2⟩ := and2 h
        have e := of_decide_eq_true h1
        subst e
        exact st_cmp ok (iha.pe X wx sc _ ok h2) (ihb.pe X wx sc _ ok h3) h4
      · cases h
    · cases h
  | chain op1 op2 a b c iha ihb ihc =>
    refine .tst (fun X wx sc e ok h => ?_) (fun X wx sc e ok h => ?_) (fun X wx sc op es p ok h => ?_) (fun _ _ => rfl) (fun _ _ => rfl) rfl (fun _ _ _ => rfl) (fun _ _ _ => rfl) (fun _ _ => rfl) (fun _ _ => rfl) (fun _ _ _ => rfl)
    · have h : (match (generalizing := false) e with | .Compare x [o1, o2] [y, z] _ => decide (op1 = o1) && decide (op2 = o2) && ckE S.G N a false x sc && ckE S.G N b false y sc && ckE S.G N c false z sc && notSet y && notSet z | _ => false) = true := h
      split at h
      · obtain ⟨h, h7⟩ := and2 h
        obtain ⟨h, h6⟩ := and2 h
        obtain ⟨h, h5⟩ := and2 h
        obtain ⟨h, h4⟩ := and2 h
        obtain ⟨h, h3⟩ := and2 h
        obtain ⟨h1, h2⟩ := and2 h
        have e1 := of_decide_eq_true h1
        have e2 := of_decide_eq_true h2
        subst e1 e2
        exact se_chain ok (iha.pe X wx sc _ ok h3) (ihb.pe X wx sc _ ok h4) (ihc.pe X wx sc _ ok h5) h6 h7
      · cases h
    · have h : (match (generalizing := false) e with | .Compare x [o1, o2] [y, z] _ => decide (op1 = o1) && decide (op2 = o2) && ckE S.G N a false x sc && ckE S.G N b false y sc && ckE S.G N c false z sc && notSet y && notSet z | _ => false) = true := h
      split at h
      · obtain ⟨h, h7⟩ := and2 h
        obtain ⟨h, h6⟩ := and2 h
        obtain ⟨h, h5⟩ := and2 h
        obtain ⟨h, h4⟩ := and2 h
        obtain ⟨h, h3⟩ := and2 h
        obtain ⟨h1, h2⟩ := and2 h
        have e1 := of_decide_eq_true h1
        have e2 := of_decide_eq_true h2
        subst e1 e2
        exact st_chain ok (iha.pe X wx sc _ ok h3) (ihb.pe X wx sc _ ok h4) (ihc.pe X wx sc _ ok h5) h6 h7
      · cases h
    · cases h
  | ife c a b ihc iha ihb =>
    refine .val (fun X wx sc e ok h => ?_) (fun _ _ => rfl) (fun _ _ => rfl) (fun _ _ => rfl) rfl (fun _ _ _ => rfl) (fun _ _ _ => rfl) (fun _ _ => rfl) (fun _ _ => rfl) (fun _ _ _ => rfl)
    have h : (match (generalizing := false) e with | .IfExp t x y _ => ckE S.G N c true t sc && ckE S.G N a false x sc && ckE S.G N b false y sc | _ => false) = true := h
    split at h
    · obtain ⟨h, h3⟩ := and2 h
      obtain ⟨h1, h2⟩ := and2 h
      exact se_ife (ihc.pt X wx sc _ ok h1) (iha.pe X wx sc _ ok h2) (ihb.pe X wx sc _ ok h3)
    · cases h
  | tup es ih =>
    refine .val (fun X wx sc e ok h => ?_) (fun _ _ => rfl) (fun _ _ => rfl) (fun _ _ => rfl) rfl (fun _ _ _ => rfl) (fun _ _ _ => rfl) (fun _ _ => rfl) (fun _ _ => rfl) (fun _ _ _ => rfl)
    have h : (match (generalizing := false) e with | .Tuple l _ _ => ckA S.G N es l sc | _ => false) = true := h
    split at h
    · exact se_tup (ih.pa X wx sc _ ok h).pa
    · cases h
  | lst b es ih =>
    refine .val (fun X wx sc e ok h => ?_) (fun _ _ => rfl) (fun _ _ => rfl) (fun _ _ => rfl) rfl (fun _ _ _ => rfl) (fun _ _ _ => rfl) (fun _ _ => rfl) (fun _ _ => rfl) (fun _ _ _ => rfl)
    have h : (match (generalizing := false) e with | .List l _ => ckA S.G N es l sc | _ => false) = true := h
    split at h
    · exact se_lst (ih.pa X wx sc _ ok h).pa
    · cases h
  | comp b t it c el ihi ihc ihe =>
    refine .val (fun X wx sc e ok h => ?_) (fun _ _ => rfl) (fun _ _ => rfl) (fun _ _ => rfl) rfl (fun _ _ _ => rfl) (fun _ _ _ => rfl) (fun _ _ => rfl) (fun _ _ => rfl) (fun _ _ _ => rfl)
    have h : (match (generalizing := false) e with | .ListComp elt [⟨tg, iter, ifs, as⟩] scope _ => decide (as = 0) && blkC N sc scope (ownOf N t.slots) && decide ((ownOf N t.slots).map (·.2) = t.slots) && tgB N (relS scope sc) scope t tg && ckC S.G N c ifs (relS scope sc) && ckE S.G N el false elt (relS scope sc) && notSet iter && ckI S.G N it iter (isTupE tg) sc | _ => false) = true := h
    split at h
    · obtain ⟨h, h8⟩ := and2 h
      obtain ⟨h, h7⟩ := and2 h
      obtain ⟨h, h6⟩ := and2 h
      obtain ⟨h, h5⟩ := and2 h
      obtain ⟨h, h4⟩ := and2 h
      obtain ⟨h, h3⟩ := and2 h
      obtain ⟨h1, h2⟩ := and2 h
      have e := of_decide_eq_true h1
      subst e
      exact se_comp ok (ihi.pi X wx sc _ _ _ ok (fun z => z) h8) h2 (of_decide_eq_true h3) h4 (fun X' ok' => ihc.pc X' _ _ ok' h5) (fun X' ok' => ihe.pe X' _ _ _ ok' h6) h7
    · cases h
  | dnew =>
    refine .val (fun X wx sc e ok h => ?_) (fun _ _ => rfl) (fun _ _ => rfl) (fun _ _ => rfl) rfl (fun _ _ _ => rfl) (fun _ _ _ => rfl) (fun _ _ => rfl) (fun _ _ => rfl) (fun _ _ _ => rfl)
    have h : (match (generalizing := false) e with | .Dict [] [] _ => true | _ => false) = true := h
    split at h
    · exact se_dnew
    · cases h
  | disp b es ih =>
    refine .val (fun X wx sc e ok h => ?_) (fun _ _ => rfl) (fun _ _ => rfl) (fun _ _ => rfl) rfl (fun _ _ _ => rfl) (fun _ _ _ => rfl) (fun _ _ => rfl) (fun _ _ => rfl) (fun _ _ _ => rfl)
    have h : (match (generalizing := false) e with | .Dict (k :: ks) vs _ => ckP S.G N es (k :: ks) vs sc && decide ((k :: ks).length ≤ 15) | _ => false) = true := h
    split at h
    · obtain ⟨h1, h2⟩ := and2 h
      exact se_disp (ih.pp X wx sc _ _ ok h1) (by intro z; cases z) (of_decide_eq_true h2)
    · cases h
  | dcomp b t it k el ihi ihk ihe =>
    refine .val (fun X wx sc e ok h => ?_) (fun _ _ => rfl) (fun _ _ => rfl) (fun _ _ => rfl) rfl (fun _ _ _ => rfl) (fun _ _ _ => rfl) (fun _ _ => rfl) (fun _ _ => rfl) (fun _ _ _ => rfl)
    have h : (match (generalizing := false) e with | .DictComp kx elt [⟨tg, iter, [], as⟩] scope _ => decide (as = 0) && blkC N sc scope (ownOf N t.slots) && decide ((ownOf N t.slots).map (·.2) = t.slots) && tgB N (relS scope sc) scope t tg && ckE S.G N k false kx (relS scope sc) && ckE S.G N el false elt (relS scope sc) && notSet iter && ckI S.G N it iter (isTupE tg) sc | _ => false) = true := h
    split at h
    · obtain ⟨h, h8⟩ := and2 h
      obtain ⟨h, h7⟩ := and2 h
      obtain ⟨h, h6⟩ := and2 h
      obtain ⟨h, h5⟩ := and2 h
      obtain ⟨h, h4⟩ := and2 h
      obtain ⟨h, h3⟩ := and2 h
      obtain ⟨h1, h2⟩ := and2 h
      have e := of_decide_eq_true h1
      subst e
      exact se_dcomp ok (ihi.pi X wx sc _ _ _ ok (fun z => z) h8) h2 (of_decide_eq_true h3) h4 (fun X' ok' => ihk.pe X' _ _ _ ok' h5) (fun X' ok' => ihe.pe X' _ _ _ ok' h6) h7
    · cases h
  | ix a b iha ihb =>
    refine .val (fun X wx sc e ok h => ?_) (fun _ _ => rfl) (fun _ _ => rfl) (fun _ _ => rfl) rfl (fun _ _ _ => rfl) (fun _ _ _ => rfl) (fun _ _ => rfl) (fun _ _ => rfl) (fun _ _ _ => rfl)
    have h : (match (generalizing := false) e with | .Subscript x y _ => notSlice y && ckE S.G N a false x sc && ckE S.G N b false y sc | _ => false) = true := h
    split at h
    · obtain ⟨h, h3⟩ := and2 h
      obtain ⟨h1, h2⟩ := and2 h
      exact se_ix ok (iha.pe X wx sc _ ok h2) (ihb.pe X wx sc _ ok h3) h1
    · cases h
  | sl a lo hi iha ihl ihh =>
    refine .val (fun X wx sc e ok h => ?_) (fun _ _ => rfl) (fun _ _ => rfl) (fun _ _ => rfl) rfl (fun _ _ _ => rfl) (fun _ _ _ => rfl) (fun _ _ => rfl) (fun _ _ => rfl) (fun _ _ _ => rfl)
    have h : (match (generalizing := false) e with | .Subscript x (.Slice l h none _) _ => ckE S.G N a false x sc && ckO S.G N lo l sc && ckO S.G N hi h sc | _ => false) = true := h
    split at h
    · obtain ⟨h, h3⟩ := and2 h
      obtain ⟨h1, h2⟩ := and2 h
      exact se_sl ok (iha.pe X wx sc _ ok h1) (ihl.po X wx sc _ ok h2) (ihh.po X wx sc _ ok h3)
    · cases h
  | call f es ih =>
    refine .val (fun X wx sc e ok h => ?_) (fun _ _ => rfl) (fun _ _ => rfl) (fun _ _ => rfl) rfl (fun _ _ _ => rfl) (fun _ _ _ => rfl) (fun _ _ => rfl) (fun _ _ => rfl) (fun _ _ _ => rfl)
    have h : (match (generalizing := false) e with | .Call (.Name n _) l [] _ => glB sc n && decide (S.G.fn f = some n) && ndbg n && ckA S.G N es l sc && l.all notStar | _ => false) = true := h
    split at h
    · rename_i n p l pos hh
      obtain ⟨h, h5⟩ := and2 h
      obtain ⟨h, h4⟩ := and2 h
      obtain ⟨h, h3⟩ := and2 h
      obtain ⟨h1, h2⟩ := and2 h
      cases l with
      | nil =>
        have a := ih.pa X wx sc _ ok h4
        cases a
        exact se_call0 ok h1 (of_decide_eq_true h2) h3
      | cons x l => exact se_call ok h1 (of_decide_eq_true h2) h3 (ih.pa X wx sc _ ok h4).pa h5
    · cases h
  | make c f es ih =>
    refine .val (fun X wx sc e ok h => ?_) (fun _ _ => rfl) (fun _ _ => rfl) (fun _ _ => rfl) rfl (fun _ _ _ => rfl) (fun _ _ _ => rfl) (fun _ _ => rfl) (fun _ _ => rfl) (fun _ _ _ => rfl)
    have h : (match (generalizing := false) e with | .Call (.Name n _) l [] _ => glB sc n && decide (S.G.cls c = some n) && decide (S.G.init c = some f) && ndbg n && ckA S.G N es l sc && l.all notStar | _ => false) = true := h
    split at h
    · rename_i n p l pos hh
      obtain ⟨h, h6⟩ := and2 h
      obtain ⟨h, h5⟩ := and2 h
      obtain ⟨h, h4⟩ := and2 h
      obtain ⟨h, h3⟩ := and2 h
      obtain ⟨h1, h2⟩ := and2 h
      cases l with
      | nil =>
        have a := ih.pa X wx sc _ ok h5
        cases a
        exact se_make0 ok h1 (of_decide_eq_true h2) (of_decide_eq_true h3) h4
      | cons x l => exact se_make ok h1 (of_decide_eq_true h2) (of_decide_eq_true h3) h4 (ih.pa X wx sc _ ok h5).pa h6
    · cases h
  | mcall c mn f o es iho ih =>
    refine .val (fun X wx sc e ok h => ?_) (fun _ _ => rfl) (fun _ _ => rfl) (fun _ _ => rfl) rfl (fun _ _ _ => rfl) (fun _ _ _ => rfl) (fun _ _ => rfl) (fun _ _ => rfl) (fun _ _ _ => rfl)
    have h : (match (generalizing := false) e with | .Call (.Attribute x mn' p) l [] pos => decide (mn = mn') && noSup x && (S.G.cls c).isSome && decide (S.G.meth c mn = some f) && ckE S.G N o false x sc && ckA S.G N es l sc && l.all notStar && decide (l.length < 29) && (p.endLine == pos.line) | _ => false) = true := h
    split at h
    · rename_i x mn1 p l pos hh
      obtain ⟨h, h9⟩ := and2 h
      obtain ⟨h, h8⟩ := and2 h
      obtain ⟨h, h7⟩ := and2 h
      obtain ⟨h, h6⟩ := and2 h
      obtain ⟨h, h5⟩ := and2 h
      obtain ⟨h, h4⟩ := and2 h
      obtain ⟨h, h3⟩ := and2 h
      obtain ⟨h1, h2⟩ := and2 h
      have e := of_decide_eq_true h1
      subst e
      obtain ⟨n, hn⟩ := Option.isSome_iff_exists.mp h3
      cases l with
      | nil =>
        have a := ih.pa X wx sc _ ok h6
        cases a
        exact se_mcall0 ok (iho.pe X wx sc _ ok h5) h2 hn (of_decide_eq_true h4) h9
      | cons x l => exact se_mcall ok (iho.pe X wx sc _ ok h5) h2 hn (of_decide_eq_true h4) (ih.pa X wx sc _ ok h6).pa h7 (of_decide_eq_true h8) h9
    · cases h
  | bf f es ih =>
    refine .val (fun X wx sc e ok h => ?_) (fun _ _ => rfl) (fun _ _ => rfl) (fun _ _ => rfl) rfl (fun _ _ _ => rfl) (fun _ _ _ => rfl) (fun _ _ => rfl) (fun _ _ => rfl) (fun _ _ _ => rfl)
    have h : (match (generalizing := false) e with | .Call (.Name n _) (x :: l) [] _ => decide (n = bfName f) && gOk S.G sc n && ckA S.G N es (x :: l) sc && (x :: l).all notStar | _ => false) = true := h
    split at h
    · obtain ⟨h, h4⟩ := and2 h
      obtain ⟨h, h3⟩ := and2 h
      obtain ⟨h1, h2⟩ := and2 h
      have e := of_decide_eq_true h1
      subst e
      obtain ⟨g1, g2⟩ := gOk_ok (X := X) (wx := wx) (cm := true) h2
      exact se_bf ok g1 g2 (ih.pa X wx sc _ ok h3).pa h4
    · cases h
  | isin T a ih =>
    refine .val (fun X wx sc e ok h => ?_) (fun _ _ => rfl) (fun _ _ => rfl) (fun _ _ => rfl) rfl (fun _ _ _ => rfl) (fun _ _ _ => rfl) (fun _ _ => rfl) (fun _ _ => rfl) (fun _ _ _ => rfl)
    have h : (match (generalizing := false) T, e with | [t], .Call (.Name n _) [x, .Name tn _] [] _ => decide (n = "isinstance") && decide (tn = t.text) && gOk S.G sc n && gOk S.G sc tn && ckE S.G N a false x sc && notStar x | _, _ => false) = true := h
    split at h
    · obtain ⟨h, h6⟩ := and2 h
      obtain ⟨h, h5⟩ := and2 h
      obtain ⟨h, h4⟩ := and2 h
      obtain ⟨h, h3⟩ := and2 h
      obtain ⟨h1, h2⟩ := and2 h
      have e1 := of_decide_eq_true h1
      have e2 := of_decide_eq_true h2
      subst e1 e2
      obtain ⟨g1, g2⟩ := gOk_ok (X := X) (wx := wx) (cm := true) h3
      obtain ⟨g3, g4⟩ := gOk_ok (X := X) (wx := wx) (cm := true) h4
      exact se_isin ok g1 g2 g3 g4 (ih.pe X wx sc _ ok h5) h6
    · cases h
  | listOf b a ih =>
    refine .val (fun X wx sc e ok h => ?_) (fun _ _ => rfl) (fun _ _ => rfl) (fun _ _ => rfl) rfl (fun _ _ _ => rfl) (fun _ _ _ => rfl) (fun _ _ => rfl) (fun _ _ => rfl) (fun _ _ _ => rfl)
    have h : (match (generalizing := false) e with | .Call (.Name n _) [x] [] _ => decide (n = "list") && gOk S.G sc n && ((notRng a && ckE S.G N a false x sc && notStar x) || ckR S.G N a x sc) | _ => false) = true := h
    split at h
    · obtain ⟨h, h3⟩ := and2 h
      obtain ⟨h1, h2⟩ := and2 h
      have e := of_decide_eq_true h1
      subst e
      obtain ⟨g1, g2⟩ := gOk_ok (X := X) (wx := wx) (cm := true) h2
      rcases Bool.or_eq_true_iff.mp h3 with h | h
      · obtain ⟨h, h6⟩ := and2 h
        obtain ⟨h4, h5⟩ := and2 h
        exact se_listOf ok h4 g1 g2 (ih.pe X wx sc _ ok h5) h6
      · obtain ⟨m1, x1, p1, p2, p3, rfl, rfl, g3, g4, hx, hs, _⟩ := ih.pr X wx sc _ ok h
        exact se_listRg ok g1 g2 g3 g4 hx hs
    · cases h
  | get o k d iho ihk ihd =>
    refine .val (fun X wx sc e ok h => ?_) (fun _ _ => rfl) (fun _ _ => rfl) (fun _ _ => rfl) rfl (fun _ _ _ => rfl) (fun _ _ _ => rfl) (fun _ _ => rfl) (fun _ _ => rfl) (fun _ _ _ => rfl)
    have h : (match (generalizing := false) e with
      | .Call (.Attribute x mn p) [y] [] pos => decide (mn = "get") && noSup x && ckE S.G N o false x sc && ckE S.G N k false y sc && notStar y && (p.endLine == pos.line) && ckN S.G N d
      | .Call (.Attribute x mn p) [y, z] [] pos => decide (mn = "get") && noSup x && ckE S.G N o false x sc && ckE S.G N k false y sc && notStar y && (p.endLine == pos.line) && ckO S.G N d (some z) sc && notStar z
      | _ => false) = true := h
    split at h
    · obtain ⟨h, h7⟩ := and2 h
      obtain ⟨h, h6⟩ := and2 h
      obtain ⟨h, h5⟩ := and2 h
      obtain ⟨h, h4⟩ := and2 h
      obtain ⟨h, h3⟩ := and2 h
      obtain ⟨h1, h2⟩ := and2 h
      have e := of_decide_eq_true h1
      subst e
      have e2 := ihd.pn h7
      subst e2
      exact se_get1 ok (iho.pe X wx sc _ ok h3) h2 (ihk.pe X wx sc _ ok h4) h5 h6
    · rename_i z pos
      obtain ⟨h, h8⟩ := and2 h
      obtain ⟨h, h7⟩ := and2 h
      obtain ⟨h, h6⟩ := and2 h
      obtain ⟨h, h5⟩ := and2 h
      obtain ⟨h, h4⟩ := and2 h
      obtain ⟨h, h3⟩ := and2 h
      obtain ⟨h1, h2⟩ := and2 h
      have e := of_decide_eq_true h1
      subst e
      have hd := ihd.pg X wx sc _ ok h7
      obtain ⟨m1, e2, hz⟩ := hd
      subst e2
      exact se_get2 ok (iho.pe X wx sc _ ok h3) h2 (ihk.pe X wx sc _ ok h4) hz h5 h8 h6
    · cases h
  | append o a iho iha =>
    refine .val (fun X wx sc e ok h => ?_) (fun _ _ => rfl) (fun _ _ => rfl) (fun _ _ => rfl) rfl (fun _ _ _ => rfl) (fun _ _ _ => rfl) (fun _ _ => rfl) (fun _ _ => rfl) (fun _ _ _ => rfl)
    have h : (match (generalizing := false) e with | .Call (.Attribute x mn p) [y] [] pos => decide (mn = "append") && noSup x && ckE S.G N o false x sc && ckE S.G N a false y sc && notStar y && (p.endLine == pos.line) | _ => false) = true := h
    split at h
    · obtain ⟨h, h6⟩ := and2 h
      obtain ⟨h, h5⟩ := and2 h
      obtain ⟨h, h4⟩ := and2 h
      obtain ⟨h, h3⟩ := and2 h
      obtain ⟨h1, h2⟩ := and2 h
      have e := of_decide_eq_true h1
      subst e
      exact se_append ok (iho.pe X wx sc _ ok h3) h2 (iha.pe X wx sc _ ok h4) h5 h6
    · cases h
  | extend o a iho iha =>
    refine .val (fun X wx sc e ok h => ?_) (fun _ _ => rfl) (fun _ _ => rfl) (fun _ _ => rfl) rfl (fun _ _ _ => rfl) (fun _ _ _ => rfl) (fun _ _ => rfl) (fun _ _ => rfl) (fun _ _ _ => rfl)
    have h : (match (generalizing := false) e with | .Call (.Attribute x mn p) [y] [] pos => decide (mn = "extend") && noSup x && ckE S.G N o false x sc && ckE S.G N a false y sc && notStar y && (p.endLine == pos.line) | _ => false) = true := h
    split at h
    · obtain ⟨h, h6⟩ := and2 h
      obtain ⟨h, h5⟩ := and2 h
      obtain ⟨h, h4⟩ := and2 h
      obtain ⟨h, h3⟩ := and2 h
      obtain ⟨h1, h2⟩ := and2 h
      have e := of_decide_eq_true h1
      subst e
      exact se_extend ok (iho.pe X wx sc _ ok h3) h2 (iha.pe X wx sc _ ok h4) h5 h6
    · cases h
  | fld c o f ih =>
    refine .val (fun X wx sc e ok h => ?_) (fun _ _ => rfl) (fun _ _ => rfl) (fun _ _ => rfl) rfl (fun _ _ _ => rfl) (fun _ _ _ => rfl) (fun _ _ => rfl) (fun _ _ => rfl) (fun _ _ _ => rfl)
    have h : (match (generalizing := false) e with | .Attribute x f' _ => decide (f = f') && noSup x && (S.G.cls c).isSome && S.G.attr c f && ckE S.G N o false x sc | _ => false) = true := h
    split at h
    · obtain ⟨h, h5⟩ := and2 h
      obtain ⟨h, h4⟩ := and2 h
      obtain ⟨h, h3⟩ := and2 h
      obtain ⟨h1, h2⟩ := and2 h
      have e := of_decide_eq_true h1
      subst e
      obtain ⟨n, hn⟩ := Option.isSome_iff_exists.mp h3
      exact se_fld ok (ih.pe X wx sc _ ok h5) h2 hn h4
    · cases h
  | fz a ih =>
    refine .val (fun X wx sc e ok h => ?_) (fun _ _ => rfl) (fun _ _ => rfl) (fun _ _ => rfl) rfl (fun _ _ _ => rfl) (fun _ _ _ => rfl) (fun _ _ => rfl) (fun _ _ => rfl) (fun _ _ _ => rfl)
    exact se_fz (ih.pe X wx sc e ok h)
  | rng es ih => exact {
      pe := fun X wx sc e ok h => by cases h
      pt := fun X wx sc e ok h => by cases h
      pw := fun X wx sc op es p ok h => by cases h
      pa := fun X wx sc l ok h => by cases h
      pc := fun X sc l ok h => by cases h
      pn := fun h => by cases h
      pp := fun X wx sc ks vs ok h => by cases h
      pv := fun X wx sc ks vs ok h => by cases h
      po := fun X wx sc o ok h => by cases h
      pg := fun X wx sc o ok h => by cases h
      pr := fun X wx sc e ok h => by
        have h : (match (generalizing := false) e with | .Call (.Name n _) [x] [] _ => decide (n = "range") && gOk S.G sc n && ckA S.G N es [x] sc | _ => false) = true := h
        split at h
        · obtain ⟨h, h3⟩ := and2 h
          obtain ⟨h1, h2⟩ := and2 h
          have e := of_decide_eq_true h1
          subst e
          obtain ⟨g1, g2⟩ := gOk_ok (X := X) (wx := wx) (cm := true) h2
          have a := ih.pa X wx sc _ ok h3
          cases a with
          | cons hs hx r =>
            cases r
            exact ⟨_, _, _, _, _, rfl, rfl, g1, g2, hx, hs, rfl⟩
        · cases h
      pi := fun X wx sc e tg tt ok _ h => by
        have h : (match (generalizing := false) e with
          | .Call (.Name n _) [x] [] _ => decide (n = "range") && gOk S.G sc n && ckA S.G N es [x] sc
          | .Call (.Name n _) [x, y] [] _ => decide (n = "range") && gOk S.G sc n && ckA S.G N es [x, y] sc
          | .Call (.Name n _) [x, y, z] [] _ => decide (n = "range") && gOk S.G sc n && ckA S.G N es [x, y, z] sc
          | _ => false) = true := h
        split at h
        · obtain ⟨h, h3⟩ := and2 h
          obtain ⟨h1, h2⟩ := and2 h
          have e := of_decide_eq_true h1
          subst e
          obtain ⟨g1, g2⟩ := gOk_ok (X := X) (wx := wx) (cm := true) h2
          have a := ih.pa X wx sc _ ok h3
          cases a with
          | cons hs hx r =>
            cases r
            exact si_rng1 ok g1 g2 hx hs
        · obtain ⟨h, h3⟩ := and2 h
          obtain ⟨h1, h2⟩ := and2 h
          have e := of_decide_eq_true h1
          subst e
          obtain ⟨g1, g2⟩ := gOk_ok (X := X) (wx := wx) (cm := true) h2
          have a := ih.pa X wx sc _ ok h3
          cases a with
          | cons hs hx r =>
            cases r with
            | cons hs2 hy r =>
              cases r
              exact si_rng2 ok g1 g2 hx hy hs hs2
        · obtain ⟨h, h3⟩ := and2 h
          obtain ⟨h1, h2⟩ := and2 h
          have e := of_decide_eq_true h1
          subst e
          obtain ⟨g1, g2⟩ := gOk_ok (X := X) (wx := wx) (cm := true) h2
          have a := ih.pa X wx sc _ ok h3
          cases a with
          | cons hs hx r =>
            cases r with
            | cons hs2 hy r =>
              cases r with
              | cons hs3 hz r =>
                cases r
                exact si_rng3 ok g1 g2 hx hy hz hs hs2 hs3
        · cases h }
  | enum a ih => exact {
      pe := fun X wx sc e ok h => by cases h
      pt := fun X wx sc e ok h => by cases h
      pw := fun X wx sc op es p ok h => by cases h
      pa := fun X wx sc l ok h => by cases h
      pc := fun X sc l ok h => by cases h
      pn := fun h => by cases h
      pp := fun X wx sc ks vs ok h => by cases h
      pv := fun X wx sc ks vs ok h => by cases h
      po := fun X wx sc o ok h => by cases h
      pg := fun X wx sc o ok h => by cases h
      pr := fun X wx sc e ok h => by cases h
      pi := fun X wx sc e tg tt ok ht h => by
        have h : (tt && (match (generalizing := false) e with
          | .Call (.Name n _) [x] [] _ => decide (n = "enumerate") && gOk S.G sc n && ckE S.G N a false x sc && notStar x
          | _ => false)) = true := h
        obtain ⟨h0, h⟩ := and2 h
        have ht := ht h0
        split at h
        · obtain ⟨h, h4⟩ := and2 h
          obtain ⟨h, h3⟩ := and2 h
          obtain ⟨h1, h2⟩ := and2 h
          have e := of_decide_eq_true h1
          subst e
          obtain ⟨g1, g2⟩ := gOk_ok (X := X) (wx := wx) (cm := true) h2
          obtain ⟨elts, kk, tpos, rfl⟩ := tupE_of ht
          exact si_enum ok g1 g2 (ih.pe X wx sc _ ok h3) h4
        · cases h }
  | zip a b iha ihb => exact {
      pe := fun X wx sc e ok h => by cases h
      pt := fun X wx sc e ok h => by cases h
      pw := fun X wx sc op es p ok h => by cases h
      pa := fun X wx sc l ok h => by cases h
      pc := fun X sc l ok h => by cases h
      pn := fun h => by cases h
      pp := fun X wx sc ks vs ok h => by cases h
      pv := fun X wx sc ks vs ok h => by cases h
      po := fun X wx sc o ok h => by cases h
      pg := fun X wx sc o ok h => by cases h
      pr := fun X wx sc e ok h => by cases h
      pi := fun X wx sc e tg tt ok ht h => by
        have h : (tt && (match (generalizing := false) e with
          | .Call (.Name n _) [x, y] [] _ => decide (n = "zip") && gOk S.G sc n && ckE S.G N a false x sc && ckE S.G N b false y sc && notStar x && notStar y
          | _ => false)) = true := h
        obtain ⟨h0, h⟩ := and2 h
        have ht := ht h0
        split at h
        · obtain ⟨h, h6⟩ := and2 h
          obtain ⟨h, h5⟩ := and2 h
          obtain ⟨h, h4⟩ := and2 h
          obtain ⟨h, h3⟩ := and2 h
          obtain ⟨h1, h2⟩ := and2 h
          have e := of_decide_eq_true h1
          subst e
          obtain ⟨g1, g2⟩ := gOk_ok (X := X) (wx := wx) (cm := true) h2
          obtain ⟨elts, kk, tpos, rfl⟩ := tupE_of ht
          exact si_zip ok g1 g2 (iha.pe X wx sc _ ok h3) (ihb.pe X wx sc _ ok h4) h5 h6
        · cases h }
  | items a ih =>
    exact .val (fun X wx sc e ok h => by cases h) (fun e sc => (Bool.and_false (tstPlain e)).symm) (fun _ _ => rfl) (fun _ _ => rfl) rfl (fun _ _ _ => rfl) (fun _ _ _ => rfl) (fun _ _ => rfl) (fun _ _ => rfl) (fun _ _ _ => rfl)
  | addM op a b iha ihb =>
    refine .val (fun X wx sc e ok h => ?_) (fun _ _ => rfl) (fun _ _ => rfl) (fun _ _ => rfl) rfl (fun _ _ _ => rfl) (fun _ _ _ => rfl) (fun _ _ => rfl) (fun _ _ => rfl) (fun _ _ _ => rfl)
    have h : (match (generalizing := false) e with | .BinOp x op' y _ => decide (op = op') && ckE S.G N a false x sc && ckE S.G N b false y sc | _ => false) = true := h
    split at h
    · obtain ⟨h, h3⟩ := and2 h
      obtain ⟨h1, h2⟩ := and2 h
      have e := of_decide_eq_true h1
      subst e
      exact se_addM ok (iha.pe X wx sc _ ok h2) (ihb.pe X wx sc _ ok h3)
    · cases h
  | comp2 b t it t1 it1 el ihi ihi1 ihe =>
    refine .val (fun X wx sc e ok h => ?_) (fun _ _ => rfl) (fun _ _ => rfl) (fun _ _ => rfl) rfl (fun _ _ _ => rfl) (fun _ _ _ => rfl) (fun _ _ => rfl) (fun _ _ => rfl) (fun _ _ _ => rfl)
    have h : (match (generalizing := false) e with | .ListComp elt [⟨tg, iter, [], as⟩, ⟨tg1, iter1, [], as1⟩] scope _ => decide (as = 0) && decide (as1 = 0) && blkC N sc scope (ownOf N (t1.slots ++ t.slots)) && decide ((ownOf N (t1.slots ++ t.slots)).map (·.2) = t1.slots ++ t.slots) && tgB N (relS scope sc) scope t tg && tgB N (relS scope sc) scope t1 tg1 && ckE S.G N el false elt (relS scope sc) && notSet iter && notSet iter1 && ckI S.G N it1 iter1 (isTupE tg1) (relS scope sc) && ckI S.G N it iter (isTupE tg) sc | _ => false) = true := h
    split at h
    · obtain ⟨h, h11⟩ := and2 h
      obtain ⟨h, h10⟩ := and2 h
      obtain ⟨h, h9⟩ := and2 h
      obtain ⟨h, h8⟩ := and2 h
      obtain ⟨h, h7⟩ := and2 h
      obtain ⟨h, h6⟩ := and2 h
      obtain ⟨h, h5⟩ := and2 h
      obtain ⟨h, h4⟩ := and2 h
      obtain ⟨h, h3⟩ := and2 h
      obtain ⟨h1, h2⟩ := and2 h
      have e1 := of_decide_eq_true h1
      have e2 := of_decide_eq_true h2
      subst e1 e2
      exact se_comp2 ok (ihi.pi X wx sc _ _ _ ok (fun z => z) h11) h3 (of_decide_eq_true h4) h5 h6 (fun X' ok' => ihi1.pi X' wF _ _ _ _ ok' (fun z => z) h10) (fun X' ok' => ihe.pe X' _ _ _ ok' h7) h8 h9
    · cases h
  | rgT es ih =>
    refine .val (fun X wx sc e ok h => ?_) (fun _ _ => rfl) (fun _ _ => rfl) (fun _ _ => rfl) rfl (fun _ _ _ => rfl) (fun _ _ _ => rfl) (fun _ _ => rfl) (fun _ _ => rfl) (fun _ _ _ => rfl)
    have h : (match (generalizing := false) e with
      | .Call (.Name n _) [.Call (.Name n2 _) [x] [] _] [] _ => decide (n = "tuple") && decide (n2 = "range") && gOk S.G sc n && gOk S.G sc n2 && ckA S.G N es [x] sc
      | .Call (.Name n _) [.Call (.Name n2 _) [x, y] [] _] [] _ => decide (n = "tuple") && decide (n2 = "range") && gOk S.G sc n && gOk S.G sc n2 && ckA S.G N es [x, y] sc
      | _ => false) = true := h
    split at h
    · obtain ⟨h, h5⟩ := and2 h
      obtain ⟨h, h4⟩ := and2 h
      obtain ⟨h, h3⟩ := and2 h
      obtain ⟨h1, h2⟩ := and2 h
      have e1 := of_decide_eq_true h1
      have e2 := of_decide_eq_true h2
      subst e1 e2
      obtain ⟨g1, g2⟩ := gOk_ok (X := X) (wx := wx) (cm := true) h3
      obtain ⟨g3, g4⟩ := gOk_ok (X := X) (wx := wx) (cm := true) h4
      have ar := ih.pa X wx sc _ ok h5
      cases ar with
      | cons hs hx r =>
        cases r
        exact se_tupR1 ok g1 g2 g3 g4 hx hs
    · obtain ⟨h, h5⟩ := and2 h
      obtain ⟨h, h4⟩ := and2 h
      obtain ⟨h, h3⟩ := and2 h
      obtain ⟨h1, h2⟩ := and2 h
      have e1 := of_decide_eq_true h1
      have e2 := of_decide_eq_true h2
      subst e1 e2
      obtain ⟨g1, g2⟩ := gOk_ok (X := X) (wx := wx) (cm := true) h3
      obtain ⟨g3, g4⟩ := gOk_ok (X := X) (wx := wx) (cm := true) h4
      have ar := ih.pa X wx sc _ ok h5
      cases ar with
      | cons hs hx r =>
        cases r with
        | cons hs2 hy r =>
          cases r
          exact se_tupR2 ok g1 g2 g3 g4 hx hy hs hs2
    · cases h
  | rgL b es ih =>
    refine .val (fun X wx sc e ok h => ?_) (fun _ _ => rfl) (fun _ _ => rfl) (fun _ _ => rfl) rfl (fun _ _ _ => rfl) (fun _ _ _ => rfl) (fun _ _ => rfl) (fun _ _ => rfl) (fun _ _ _ => rfl)
    have h : (match (generalizing := false) e with
      | .Call (.Name n _) [.Call (.Name n2 _) [x, y] [] _] [] _ => decide (n = "list") && decide (n2 = "range") && gOk S.G sc n && gOk S.G sc n2 && ckA S.G N es [x, y] sc
      | _ => false) = true := h
    split at h
    · obtain ⟨h, h5⟩ := and2 h
      obtain ⟨h, h4⟩ := and2 h
      obtain ⟨h, h3⟩ := and2 h
      obtain ⟨h1, h2⟩ := and2 h
      have e1 := of_decide_eq_true h1
      have e2 := of_decide_eq_true h2
      subst e1 e2
      obtain ⟨g1, g2⟩ := gOk_ok (X := X) (wx := wx) (cm := true) h3
      obtain ⟨g3, g4⟩ := gOk_ok (X := X) (wx := wx) (cm := true) h4
      have ar := ih.pa X wx sc _ ok h5
      cases ar with
      | cons hs hx r =>
        cases r with
        | cons hs2 hy r =>
          cases r
          exact se_lstR2 ok g1 g2 g3 g4 hx hy hs hs2
    · cases h
  | sortR a ih =>
    refine .val (fun X wx sc e ok h => ?_) (fun _ _ => rfl) (fun _ _ => rfl) (fun _ _ => rfl) rfl (fun _ _ _ => rfl) (fun _ _ _ => rfl) (fun _ _ => rfl) (fun _ _ => rfl) (fun _ _ _ => rfl)
    have h : (match (generalizing := false) e with
      | .Call (.Name n _) [x] [⟨some k, .Constant (.bool true) _ _, _⟩] _ => decide (n = "sorted") && decide (k = "reverse") && gOk S.G sc n && ckE S.G N a false x sc && notStar x
      | _ => false) = true := h
    split at h
    · obtain ⟨h, h5⟩ := and2 h
      obtain ⟨h, h4⟩ := and2 h
      obtain ⟨h, h3⟩ := and2 h
      obtain ⟨h1, h2⟩ := and2 h
      have e1 := of_decide_eq_true h1
      have e2 := of_decide_eq_true h2
      subst e1 e2
      obtain ⟨g1, g2⟩ := gOk_ok (X := X) (wx := wx) (cm := true) h3
      exact se_sortR ok g1 g2 (ih.pe X wx sc _ ok h4) h5
    · cases h
  | rev b a ih =>
    refine .val (fun X wx sc e ok h => ?_) (fun _ _ => rfl) (fun _ _ => rfl) (fun _ _ => rfl) rfl (fun _ _ _ => rfl) (fun _ _ _ => rfl) (fun _ _ => rfl) (fun _ _ => rfl) (fun _ _ _ => rfl)
    have h : (match (generalizing := false) e with
      | .Subscript x (.Slice none none (some (.UnaryOp .USub (.Constant (.int i) _ _) _)) _) _ => decide (i = 1) && ckE S.G N a false x sc
      | _ => false) = true := h
    split at h
    · obtain ⟨h1, h2⟩ := and2 h
      have e1 := of_decide_eq_true h1
      subst e1
      exact se_rev ok (ih.pe X wx sc _ ok h2)
    · cases h
end
end Vm

/-! Vm, part 16: the check of statements, and that it suffices. Own text. -/
namespace Vm
open PySem L2 PySem.Spec PyProof.Rows

section
variable (G : Gm) (N : List Str) (sc : Scope)
def isLoc (n : Str) : Bool := match sc.names.lookup n with
  | some .local => true
  | _ => false
def isFun : Bool := match sc.kind with
  | .function => true
  | _ => false
/-- name = [..], made at the name -/
def ckW (n : Str) (py : Pos) (m : E) (e : Expr) : Bool := match m, e with
  | .comp _ t it c el, .ListComp elt [⟨tg, iter, ifs, as⟩] scope pos => isLoc sc n && isFun sc && (py.line == pos.line) && (scope.names.any fun (n', k) => n' == n && (k == .local || k == .cell)) == false &&
      decide (as = 0) && blkC N sc scope (ownOf N t.slots) && decide ((ownOf N t.slots).map (·.2) = t.slots) && tgB N (relS scope sc) scope t tg && ckC G N c ifs (relS scope sc) && ckE G N el false elt (relS scope sc) && notSet iter && ckI G N it iter (isTupE tg) sc
  | .comp2 _ t it t1 it1 el, .ListComp elt [⟨tg, iter, [], as⟩, ⟨tg1, iter1, [], as1⟩] scope pos => isLoc sc n && isFun sc && (py.line == pos.line) && (scope.names.any fun (n', k) => n' == n && (k == .local || k == .cell)) == false &&
      decide (as = 0) && decide (as1 = 0) && blkC N sc scope (ownOf N (t1.slots ++ t.slots)) && decide ((ownOf N (t1.slots ++ t.slots)).map (·.2) = t1.slots ++ t.slots) && tgB N (relS scope sc) scope t tg && tgB N (relS scope sc) scope t1 tg1 && ckE G N el false elt (relS scope sc) && notSet iter && notSet iter1 && ckI G N it1 iter1 (isTupE tg1) (relS scope sc) && ckI G N it iter (isTupE tg) sc
  | _, _ => false
/-- an except suite's expression -/
def ckUe (m : E) (e : Expr) : Bool := match m, e with
  | .lit d, .Constant k _ _ => litB d k
  | .v i, .Name n _ => decide (N[i]? = some n) && visB sc n && ndbg n
  | .cmp .Eq (.v i) (.lit d), .Compare (.Name n _) [.Eq] [.Constant k _ _] _ => decide (N[i]? = some n) && visB sc n && ndbg n && litB d k
  | _, _ => false
/-- an except suite: one statement -/
def ckU (m : Vm.S) (l : List Stmt) : Bool := match m, l with
  | .seq (.ret e) .nil, [.Return (some x) _] => ckUe N sc e x
  | .seq .retN .nil, [.Return none _] => true
  | .seq .pass .nil, [.Pass _] => true
  | .seq .cont .nil, [.Continue _] => true
  | .seq (.set i e) .nil, [.Assign [.Name n p] x _] => nmB N sc sc i (.Name n p) && noSwap sc n p.line x && ckUe N sc e x
  | _, _ => false
mutual
def ckS : Vm.S → Stmt → Bool
  | .pass, st => (match st with
    | .Pass _ => true
    | .Expr (.Constant (.str _) _ _) _ => true
    | _ => false)
  | .brk, st => (match st with
    | .Break _ => true
    | _ => false)
  | .cont, st => (match st with
    | .Continue _ => true
    | _ => false)
  | .set i m, st => (match st with
    | .Assign [.Name n p] e _ => nmB N sc sc i (.Name n p) && ((noSwap sc n p.line e && ckE G N m false e sc) || ckW G N sc n p m e)
    | _ => false)
  | .setT t m, st => (match st with
    | .Assign [.Tuple ts k p] e _ => tgB N sc sc t (.Tuple ts k p) && notTupE e && ckE G N m false e sc
    | _ => false)
  | .setF c o f m, st => (match st with
    | .Assign [.Attribute x f' _] e _ => decide (f = f') && (G.cls c).isSome && G.attr c f && ckE G N o false x sc && ckE G N m false e sc
    | _ => false)
  | .setX o k m, st => (match st with
    | .Assign [.Subscript x y _] e _ => notSlice y && ckE G N o false x sc && ckE G N k false y sc && ckE G N m false e sc
    | _ => false)
  | .parX i o k m, st => (match st with
    | .Assign [.Tuple [.Name n q, .Subscript x y _] _ _] e _ => nmB N sc sc i (.Name n q) && notSlice y && ckE G N o false x sc && ckE G N k false y sc && ckE G N m false e sc
    | _ => false)
  | .aug i op m, st => (match st with
    | .AugAssign (.Name n p) op' e _ => decide (op = op') && nmB N sc sc i (.Name n p) && ckE G N m false e sc
    | _ => false)
  | .exp m, st => (match st with
    | .Expr e _ => notComp e && ckE G N m false e sc
    | _ => false)
  | .ret m, st => (match st with
    | .Return (some e) _ => ckE G N m false e sc
    | _ => false)
  | .retN, st => (match st with
    | .Return none _ => true
    | _ => false)
  | .ife m a b, st => (match st with
    | .If c l1 l2 _ => ckE G N m true c sc && ckSs a l1 && ckSs b l2
    | _ => false)
  | .forS t it body, st => (match st with
    | .For tg iter l [] _ => tgB N sc sc t tg && ckI G N it iter (isTupE tg) sc && notSet iter && ckSs body l
    | _ => false)
  | .whl _ m body, st => (match st with
    | .While c l [] _ => ckE G N m true c sc && ckSs body l
    | _ => false)
  | .raise c, st => (match st with
    | .Raise (some (.Call (.Name x _) [] [] _)) none _ => glB sc x && decide (G.xc c = some x) && G.xr c && ndbg x
    | _ => false)
  | .try1 c b u, st => (match st with
    | .Try body [.ExceptHandler (some (.Name x _)) none (b₀ :: suite) _] [] [] _ => glB sc x && decide (G.xc c = some x) && ndbg x && ckSs b body && ckU N sc u (b₀ :: suite)
    | _ => false)
  | .tryU c i b u, st => (match st with
    | .Try body [.ExceptHandler (some (.Name x _)) (some n) [.Return (some e) _] _] [] [] _ => decide (N[i]? = some n) && isLoc sc n && glB sc x && decide (G.xc c = some x) && ndbg x && ckSs b body && ckUx G N sc i u e
    | _ => false)
  | .never, _ => true
  | _, _ => false
def ckSs : Vm.S → List Stmt → Bool
  | .nil, l => (match l with
    | [] => true
    | _ => false)
  | .seq s r, l => (match l with
    | st :: rest => ckS s st && ckSs r rest
    | _ => false)
  | .never, _ => true
  | _, _ => false
end
end
/-- a body's context -/
structure BOk (S : Sc) (sc : Scope) (N : List Str) (X : Cx) (wx : WX) : Prop where
  x : XOk S sc N true X wx
  t : TOk X N sc sc
  p : PassesOwn (model X.prog X.w) X.A X.env X.xe
  stk : X.stack = X.env :: X.outer
  frm : X.env.frame = some X.env.locals
theorem ue_ok {S : Sc} {wx : WX} {X : Cx} {sc : Scope} {N : List Str} {cm : Bool} {m : E} {e : Expr} (ok : XOk S sc N cm X wx) (h : ckUe N sc m e = true) : PE X e (tE S wx m) := by
  unfold ckUe at h
  split at h
  · exact se_lit h
  · obtain ⟨h, h3⟩ := and2 h
    obtain ⟨h1, h2⟩ := and2 h
    exact se_v ok (of_decide_eq_true h1) h2 h3
  · obtain ⟨h, h4⟩ := and2 h
    obtain ⟨h, h3⟩ := and2 h
    obtain ⟨h1, h2⟩ := and2 h
    exact se_cmp ok (se_v ok (of_decide_eq_true h1) h2 h3) (se_lit h4) rfl
  · cases h
theorem u_ok {S : Sc} {wx : WX} {X : Cx} {sc : Scope} {N : List Str} {cm : Bool} {m : Vm.S} {l : List Stmt} (ok : XOk S sc N cm X wx) (T : TOk X N sc sc) (h : ckU N sc m l = true) : PSs X l (tS S wx m) := by
  unfold ckU at h
  split at h
  · exact ss_cons (sp_ret (ue_ok ok h)) ss_nil
  · exact ss_cons sp_retN ss_nil
  · exact ss_cons sp_pass ss_nil
  · exact ss_cons sp_cont ss_nil
  · obtain ⟨h, h3⟩ := and2 h
    obtain ⟨h1, h2⟩ := and2 h
    exact ss_cons (sp_set T h1 h2 (ue_ok ok h3)) ss_nil
  · cases h
structure SndS (S : Sc) (N : List Str) (m : Vm.S) : Prop where
  ps : ∀ X wx sc st, BOk S sc N X wx → ckS S.G N sc m st = true → PS X st (tS S wx m)
  pss : ∀ X wx sc l, BOk S sc N X wx → ckSs S.G N sc m l = true → PSs X l (tS S wx m)
theorem snd_S (S : Sc) (N : List Str) (m : Vm.S) : SndS S N m := by
  induction m with
  | nil =>
    refine ⟨fun X wx sc st B h => (by cases h), fun X wx sc l B h => ?_⟩
    cases l with
    | nil => exact ss_nil
    | cons x l => cases h
  | seq a b iha ihb =>
    refine ⟨fun X wx sc st B h => (by cases h), fun X wx sc l B h => ?_⟩
    cases l with
    | nil => cases h
    | cons x l =>
      obtain ⟨h1, h2⟩ := and2 (show (ckS S.G N sc a x && ckSs S.G N sc b l) = true from h)
      exact ss_cons (iha.ps X wx sc x B h1) (ihb.pss X wx sc l B h2)
  | pass =>
    refine ⟨fun X wx sc st B h => ?_, fun X wx sc l B h => by cases h⟩
    have h : (match (generalizing := false) st with | .Pass _ => true | .Expr (.Constant (.str _) _ _) _ => true | _ => false) = true := h
    split at h
    · exact sp_pass
    · exact sp_doc
    · cases h
  | brk =>
    refine ⟨fun X wx sc st B h => ?_, fun X wx sc l B h => by cases h⟩
    have h : (match (generalizing := false) st with | .Break _ => true | _ => false) = true := h
    split at h
    · exact sp_brk
    · cases h
  | cont =>
    refine ⟨fun X wx sc st B h => ?_, fun X wx sc l B h => by cases h⟩
    have h : (match (generalizing := false) st with | .Continue _ => true | _ => false) = true := h
    split at h
    · exact sp_cont
    · cases h
  | set i m =>
    refine ⟨fun X wx sc st B h => ?_, fun X wx sc l B h => by cases h⟩
    have h : (match (generalizing := false) st with | .Assign [.Name n p] e _ => nmB N sc sc i (.Name n p) && ((noSwap sc n p.line e && ckE S.G N m false e sc) || ckW S.G N sc n p m e) | _ => false) = true := h
    split at h
    · obtain ⟨h1, h2⟩ := and2 h
      rcases Bool.or_eq_true_iff.mp h2 with h2 | h2
      · obtain ⟨h2, h3⟩ := and2 h2
        exact sp_set B.t h1 h2 ((snd_E S N m).pe X wx sc _ B.x h3)
      · unfold ckW at h2
        split at h2
        · obtain ⟨h2, h14⟩ := and2 h2
          obtain ⟨h2, h13⟩ := and2 h2
          obtain ⟨h2, h12⟩ := and2 h2
          obtain ⟨h2, h11⟩ := and2 h2
          obtain ⟨h2, h10⟩ := and2 h2
          obtain ⟨h2, h9⟩ := and2 h2
          obtain ⟨h2, h8⟩ := and2 h2
          obtain ⟨h2, h7⟩ := and2 h2
          obtain ⟨h2, h6⟩ := and2 h2
          obtain ⟨h2, h5⟩ := and2 h2
          obtain ⟨h3, h4⟩ := and2 h2
          have e := of_decide_eq_true h7
          subst e
          exact psImp (sp_comp B.x (of_decide_eq_true (and2 h1).1) h3 h4 h5 (by simpa using h6) ((snd_E S N _).pi X wx sc _ _ _ B.x (fun z => z) h14) h8 (of_decide_eq_true h9) h10 (fun X' ok' => (snd_E S N _).pc X' _ _ ok' h11) (fun X' ok' => (snd_E S N _).pe X' _ _ _ ok' h12) h13) fun D σ H q => asg_red q
        · obtain ⟨h2, h17⟩ := and2 h2
          obtain ⟨h2, h16⟩ := and2 h2
          obtain ⟨h2, h15⟩ := and2 h2
          obtain ⟨h2, h14⟩ := and2 h2
          obtain ⟨h2, h13⟩ := and2 h2
          obtain ⟨h2, h12⟩ := and2 h2
          obtain ⟨h2, h11⟩ := and2 h2
          obtain ⟨h2, h10⟩ := and2 h2
          obtain ⟨h2, h9⟩ := and2 h2
          obtain ⟨h2, h8⟩ := and2 h2
          obtain ⟨h2, h7⟩ := and2 h2
          obtain ⟨h2, h6⟩ := and2 h2
          obtain ⟨h2, h5⟩ := and2 h2
          obtain ⟨h3, h4⟩ := and2 h2
          have e := of_decide_eq_true h7
          have e2 := of_decide_eq_true h8
          subst e e2
          exact psImp (sp_comp2 B.x (of_decide_eq_true (and2 h1).1) h3 h4 h5 (by simpa using h6) ((snd_E S N _).pi X wx sc _ _ _ B.x (fun z => z) h17) h9 (of_decide_eq_true h10) h11 h12 (fun X' ok' => (snd_E S N _).pi X' wF _ _ _ _ ok' (fun z => z) h16) (fun X' ok' => (snd_E S N _).pe X' _ _ _ ok' h13) h14 h15) fun D σ H q => asg_red q
        · cases h2
    · cases h
  | setT t m =>
    refine ⟨fun X wx sc st B h => ?_, fun X wx sc l B h => by cases h⟩
    have h : (match (generalizing := false) st with | .Assign [.Tuple ts k p] e _ => tgB N sc sc t (.Tuple ts k p) && notTupE e && ckE S.G N m false e sc | _ => false) = true := h
    split at h
    · obtain ⟨h, h3⟩ := and2 h
      obtain ⟨h1, h2⟩ := and2 h
      exact sp_setT (B.x.cm rfl).1 B.x.K B.t h1 h2 ((snd_E S N m).pe X wx sc _ B.x h3)
    · cases h
  | setF c o f m =>
    refine ⟨fun X wx sc st B h => ?_, fun X wx sc l B h => by cases h⟩
    have h : (match (generalizing := false) st with | .Assign [.Attribute x f' _] e _ => decide (f = f') && (S.G.cls c).isSome && S.G.attr c f && ckE S.G N o false x sc && ckE S.G N m false e sc | _ => false) = true := h
    split at h
    · obtain ⟨h, h5⟩ := and2 h
      obtain ⟨h, h4⟩ := and2 h
      obtain ⟨h, h3⟩ := and2 h
      obtain ⟨h1, h2⟩ := and2 h
      have e := of_decide_eq_true h1
      subst e
      obtain ⟨n, hn⟩ := Option.isSome_iff_exists.mp h2
      exact sp_setF B.x ((snd_E S N o).pe X wx sc _ B.x h4) ((snd_E S N m).pe X wx sc _ B.x h5) hn h3
    · cases h
  | setX o k m =>
    refine ⟨fun X wx sc st B h => ?_, fun X wx sc l B h => by cases h⟩
    have h : (match (generalizing := false) st with | .Assign [.Subscript x y _] e _ => notSlice y && ckE S.G N o false x sc && ckE S.G N k false y sc && ckE S.G N m false e sc | _ => false) = true := h
    split at h
    · obtain ⟨h, h4⟩ := and2 h
      obtain ⟨h, h3⟩ := and2 h
      obtain ⟨h1, h2⟩ := and2 h
      exact sp_setX B.x ((snd_E S N o).pe X wx sc _ B.x h2) ((snd_E S N k).pe X wx sc _ B.x h3) ((snd_E S N m).pe X wx sc _ B.x h4) h1
    · cases h
  | parX i o k m =>
    refine ⟨fun X wx sc st B h => ?_, fun X wx sc l B h => by cases h⟩
    have h : (match (generalizing := false) st with | .Assign [.Tuple [.Name n q, .Subscript x y _] _ _] e _ => nmB N sc sc i (.Name n q) && notSlice y && ckE S.G N o false x sc && ckE S.G N k false y sc && ckE S.G N m false e sc | _ => false) = true := h
    split at h
    · obtain ⟨h, h5⟩ := and2 h
      obtain ⟨h, h4⟩ := and2 h
      obtain ⟨h, h3⟩ := and2 h
      obtain ⟨h1, h2⟩ := and2 h
      exact sp_parX B.x (B.x.cm rfl).1 B.t h1 ((snd_E S N o).pe X wx sc _ B.x h3) ((snd_E S N k).pe X wx sc _ B.x h4) ((snd_E S N m).pe X wx sc _ B.x h5) h2
    · cases h
  | aug i op m =>
    refine ⟨fun X wx sc st B h => ?_, fun X wx sc l B h => by cases h⟩
    have h : (match (generalizing := false) st with | .AugAssign (.Name n p) op' e _ => decide (op = op') && nmB N sc sc i (.Name n p) && ckE S.G N m false e sc | _ => false) = true := h
    split at h
    · obtain ⟨h, h3⟩ := and2 h
      obtain ⟨h1, h2⟩ := and2 h
      have e := of_decide_eq_true h1
      subst e
      exact sp_aug B.t h2 ((snd_E S N m).pe X wx sc _ B.x h3)
    · cases h
  | exp m =>
    refine ⟨fun X wx sc st B h => ?_, fun X wx sc l B h => by cases h⟩
    have h : (match (generalizing := false) st with | .Expr e _ => notComp e && ckE S.G N m false e sc | _ => false) = true := h
    split at h
    · obtain ⟨h1, h2⟩ := and2 h
      exact sp_exp h1 ((snd_E S N m).pe X wx sc _ B.x h2)
    · cases h
  | ret m =>
    refine ⟨fun X wx sc st B h => ?_, fun X wx sc l B h => by cases h⟩
    have h : (match (generalizing := false) st with | .Return (some e) _ => ckE S.G N m false e sc | _ => false) = true := h
    split at h
    · exact sp_ret ((snd_E S N m).pe X wx sc _ B.x h)
    · cases h
  | retN =>
    refine ⟨fun X wx sc st B h => ?_, fun X wx sc l B h => by cases h⟩
    have h : (match (generalizing := false) st with | .Return none _ => true | _ => false) = true := h
    split at h
    · exact sp_retN
    · cases h
  | ife m a b iha ihb =>
    refine ⟨fun X wx sc st B h => ?_, fun X wx sc l B h => by cases h⟩
    have h : (match (generalizing := false) st with | .If c l1 l2 _ => ckE S.G N m true c sc && ckSs S.G N sc a l1 && ckSs S.G N sc b l2 | _ => false) = true := h
    split at h
    · obtain ⟨h, h3⟩ := and2 h
      obtain ⟨h1, h2⟩ := and2 h
      exact sp_if ((snd_E S N m).pt X wx sc _ B.x h1) (iha.pss X wx sc _ B h2) (ihb.pss X wx sc _ B h3)
    · cases h
  | forS t it b ih =>
    refine ⟨fun X wx sc st B h => ?_, fun X wx sc l B h => by cases h⟩
    have h : (match (generalizing := false) st with | .For tg iter l [] _ => tgB N sc sc t tg && ckI S.G N it iter (isTupE tg) sc && notSet iter && ckSs S.G N sc b l | _ => false) = true := h
    split at h
    · obtain ⟨h, h4⟩ := and2 h
      obtain ⟨h, h3⟩ := and2 h
      obtain ⟨h1, h2⟩ := and2 h
      exact sp_for B.x B.t B.p ((snd_E S N it).pi X wx sc _ _ _ B.x (fun z => z) h2) h1 (ih.pss X wx sc _ B h4) h3
    · cases h
  | whl n m b ih =>
    refine ⟨fun X wx sc st B h => ?_, fun X wx sc l B h => by cases h⟩
    have h : (match (generalizing := false) st with | .While c l [] _ => ckE S.G N m true c sc && ckSs S.G N sc b l | _ => false) = true := h
    split at h
    · obtain ⟨h1, h2⟩ := and2 h
      exact sp_whl B.p ((snd_E S N m).pt X wx sc _ B.x h1) (ih.pss X wx sc _ B h2)
    · cases h
  | raise c =>
    refine ⟨fun X wx sc st B h => ?_, fun X wx sc l B h => by cases h⟩
    have h : (match (generalizing := false) st with | .Raise (some (.Call (.Name x _) [] [] _)) none _ => glB sc x && decide (S.G.xc c = some x) && S.G.xr c && ndbg x | _ => false) = true := h
    split at h
    · obtain ⟨h, h4⟩ := and2 h
      obtain ⟨h, h3⟩ := and2 h
      obtain ⟨h1, h2⟩ := and2 h
      exact sp_raise B.x (B.x.cm rfl).1 h1 (of_decide_eq_true h2) h3 h4
    · cases h
  | try1 c b u ihb ihs =>
    refine ⟨fun X wx sc st B h => ?_, fun X wx sc l B h => by cases h⟩
    have h : (match (generalizing := false) st with | .Try body [.ExceptHandler (some (.Name x _)) none (b₀ :: suite) _] [] [] _ => glB sc x && decide (S.G.xc c = some x) && ndbg x && ckSs S.G N sc b body && ckU N sc u (b₀ :: suite) | _ => false) = true := h
    split at h
    · obtain ⟨h, h5⟩ := and2 h
      obtain ⟨h, h4⟩ := and2 h
      obtain ⟨h, h3⟩ := and2 h
      obtain ⟨h1, h2⟩ := and2 h
      exact sp_try1 B.x B.stk B.frm h1 (of_decide_eq_true h2) h3 (fun W pn xe tk ps => ihb.pss (X.tr pn xe) W sc _ ⟨⟨B.x.K, B.x.mg, B.x.nm, B.x.sc, B.x.nd, B.x.cm, B.x.un, tk, B.x.ft⟩, ⟨B.t.nm, B.t.sc, B.t.nd, B.t.fn⟩, ps, B.stk, B.frm⟩ h4)
        (fun a pn => u_ok (B.x.suiteOk a pn) ⟨B.t.nm, B.t.sc, B.t.nd, B.t.fn⟩ h5)
    · cases h
  | tryU c i b u ihb =>
    refine ⟨fun X wx sc st B h => ?_, fun X wx sc l B h => (by cases h)⟩
    have h : (match (generalizing := false) st with | .Try body [.ExceptHandler (some (.Name x _)) (some n) [.Return (some e) _] _] [] [] _ => decide (N[i]? = some n) && isLoc sc n && glB sc x && decide (S.G.xc c = some x) && ndbg x && ckSs S.G N sc b body && ckUx S.G N sc i u e | _ => false) = true := h
    split at h
    · obtain ⟨h, h7⟩ := and2 h
      obtain ⟨h, h6⟩ := and2 h
      obtain ⟨h, h5⟩ := and2 h
      obtain ⟨h, h4⟩ := and2 h
      obtain ⟨h, h3⟩ := and2 h
      obtain ⟨h1, h2⟩ := and2 h
      exact sp_tryU B.x B.stk B.frm (of_decide_eq_true h1) h2 h3 (of_decide_eq_true h4) h5 (fun W pn xe tk ps => ihb.pss (X.tr pn xe) W sc _ ⟨⟨B.x.K, B.x.mg, B.x.nm, B.x.sc, B.x.nd, B.x.cm, B.x.un, tk, B.x.ft⟩, ⟨B.t.nm, B.t.sc, B.t.nd, B.t.fn⟩, ps, B.stk, B.frm⟩ h6) h7
    · cases h
  | par i j a b => exact ⟨fun X wx sc st B h => (by cases h), fun X wx sc l B h => (by cases h)⟩
  | never => exact ⟨fun X wx sc st B h => sp_never, fun X wx sc l B h => pssImp pss_never fun D σ H ⟨W, h, s, R, sr, rs⟩ => rs⟩
end Vm

/-! Vm, part 17: defs; a text's table; what the head tells. Own text. -/
namespace Vm
open PySem L2 PySem.Spec PyProof.Rows

/-- a def: where it stands, its names (parameters first), its mini text -/
structure Df where
  d : He.DefD
  N : List Str
  ps : List Str
  f : Fd
/-- a text -/
structure Pk where
  df : List Df
  cl : List Str
  xc : List Str := []
  gl : List (Str × Dt) := []
  free : List Str := []
  at_ : List (Nat × Str) := []
  xr : List Nat := []
  sub : List ((Nat × Nat) × Bool) := []
def Pk.T (p : Pk) : Tb := ⟨fun i => (p.df[i]?).map (·.f), p.gl.map (·.2), fun a b => p.sub.lookup (a, b)⟩
def Pk.find (p : Pk) (x : Str) (m : Option Str) : Option Nat := p.df.findIdx? fun d => decide (d.d.at_ = (x, m))
def Pk.G (p : Pk) : Gm where
  fn := fun i => (p.df[i]?).bind fun d => match d.d.at_ with
    | (x, none) => some x
    | _ => none
  cls := fun c => p.cl[c]?
  init := fun c => (p.cl[c]?).bind fun x => p.find x (some "__init__")
  meth := fun c m => if m = "__init__" then none else (p.cl[c]?).bind fun x => p.find x (some m)
  attr := fun c f => decide ((c, f) ∈ p.at_)
  xc := fun c => p.xc[c]?
  xr := fun c => decide (c ∈ p.xr)
  gl := p.gl.map (·.1)
  free := p.free
def Pk.ca (p : Pk) (K : PySem.W.Frag) (c : Nat) : Addr := He.ga K ((p.cl[c]?).getD "")
def Pk.xa (p : Pk) (K : PySem.W.Frag) (c : Nat) : Addr := He.ga K ((p.xc[c]?).getD "")
def Pk.sc (p : Pk) (K : PySem.W.Frag) (mg : Str → Option Value) (k : Nat) : Sc := ⟨p.T, p.G, K, mg, p.ca K, p.xa K, k, 0, id⟩

/-! ### the check of a text -/
def fsB (N P : List Str) (sc : Scope) : Bool := isFun sc && !sc.isCoroutine && !sc.isGenerator && decide N.Nodup && decide (N.take P.length = P) && (P.all fun x => match sc.names.lookup x with
  | some .local => true
  | some .cell => true
  | _ => false) && sc.names.all fun y => match y.2 with
  | .free => false
  | _ => true
theorem fsB_ok {N P : List Str} {sc : Scope} (h : fsB N P sc = true) : FnScope N P sc := by
  unfold fsB at h
  obtain ⟨h, h7⟩ := and2 h
  obtain ⟨h, h6⟩ := and2 h
  obtain ⟨h, h5⟩ := and2 h
  obtain ⟨h, h4⟩ := and2 h
  obtain ⟨h, h3⟩ := and2 h
  obtain ⟨h1, h2⟩ := and2 h
  refine ⟨?_, by simpa using h2, by simpa using h3, of_decide_eq_true h4, of_decide_eq_true h5, fun x hx => ?_, fun y hy e => ?_⟩
  · unfold isFun at h1
    split at h1
    · assumption
    · cases h1
  · have := List.all_eq_true.mp h6 x hx
    split at this
    · rename_i q; exact .inl q
    · rename_i q; exact .inr q
    · cases this
  · have := List.all_eq_true.mp h7 y hy
    rw [e] at this
    cases this
def dfB (p : Pk) (d : Df) : Bool := fsB d.N d.ps d.d.scope && ckSs p.G d.N d.d.scope d.f.body d.d.body && decide (d.N.length = d.f.n) && decide (d.ps.length = d.f.np) && d.d.dfl.isEmpty && d.d.kwd.isEmpty
def BindP (d : Df) : Prop := ∀ (kV doc pm : Value) (an : Option Addr) (cdv ct : Value) (us : List Value), us.length = d.ps.length → bindArgs (PySem.W.fnOf d.d.name d.d.qual d.d.params d.d.body d.d.scope .none kV doc pm an cdv ct) ⟨us, []⟩ = pure (d.ps.zip us)
def AllD (q : Df → Prop) : List Df → Prop
  | [] => True
  | d :: r => q d ∧ AllD q r
theorem AllD.get {q : Df → Prop} : ∀ {l : List Df} {i : Nat} {d : Df}, AllD q l → l[i]? = some d → q d
  | [], i, d, _, e => by simp at e
  | x :: l, 0, d, h, e => by simp at e; subst e; exact h.1
  | x :: l, i + 1, d, h, e => AllD.get (l := l) (i := i) h.2 (by simpa using e)

/-! ### module constants -/
mutual
def gdB (K : PySem.W.Frag) : Dt → Value → Bool
  | .non, v => (match v with
    | .none => true
    | _ => false)
  | .bl b, v => (match v with
    | .bool c => b == c
    | _ => false)
  | .int i, v => (match v with
    | .int j _ => decide (i = j)
    | _ => false)
  | .str x, v => (match v with
    | .str y _ => decide (x = y) && decide (x.length ≤ sizeLine)
    | _ => false)
  | .tup ds, v => (match v with
    | .ref a => (match K.lookup a with
      | some ⟨.type c, _, .seq its _, _⟩ => decide (c = "tuple") && decide (its.size ≤ sizeLine) && gdsB K ds its.toList
      | _ => false)
    | _ => false)
  | _, _ => false
def gdsB (K : PySem.W.Frag) : List Dt → List Value → Bool
  | [], l => l.isEmpty
  | d :: ds, l => (match l with
    | v :: l => gdB K d v && gdsB K ds l
    | _ => false)
end
mutual
theorem gdB_ok {K : PySem.W.Frag} {ca : Nat → Addr} : ∀ (d : Dt) (v : Value), gdB K d v = true → ∃ x, RelV x v ∧ ∀ W, DV K ca W d x
  | .non, v, h => by
    cases v with
    | none => exact ⟨.non, rfl, fun _ => rfl⟩
    | _ => cases h
  | .bl b, v, h => by
    cases v with
    | bool c =>
      have e : b = c := beq_iff_eq.mp h
      subst e
      exact ⟨.bl b, rfl, fun _ => rfl⟩
    | _ => cases h
  | .int i, v, h => by
    cases v with
    | int j t =>
      have e : i = j := of_decide_eq_true h
      subst e
      exact ⟨.int i, ⟨t, rfl⟩, fun _ => rfl⟩
    | _ => cases h
  | .str x, v, h => by
    cases v with
    | str y t =>
      obtain ⟨h1, h2⟩ := and2 (show (decide (x = y) && decide (x.length ≤ sizeLine)) = true from h)
      have e := of_decide_eq_true h1
      subst e
      exact ⟨.str x, ⟨t, rfl⟩, fun _ => ⟨rfl, of_decide_eq_true h2⟩⟩
    | _ => cases h
  | .tup ds, v, h => by
    cases v with
    | ref a =>
      have h : (match K.lookup a with
        | some ⟨.type c, _, .seq its _, _⟩ => decide (c = "tuple") && decide (its.size ≤ sizeLine) && gdsB K ds its.toList
        | _ => false) = true := h
      cases q : K.lookup a with
      | none => rw [q] at h; cases h
      | some o =>
        obtain ⟨oc, od, dt, osl⟩ := o
        rw [q] at h
        cases oc with
        | type c =>
          cases dt with
          | seq its n =>
            obtain ⟨h, h3⟩ := and2 (show (decide (c = "tuple") && decide (its.size ≤ sizeLine) && gdsB K ds its.toList) = true from h)
            obtain ⟨h1, h2⟩ := and2 h
            obtain ⟨xs, r, dv⟩ := gdsB_ok (ca := ca) ds its.toList h3
            have hl := r.length
            have h2 := of_decide_eq_true h2
            refine ⟨.ref a, rfl, fun W => ⟨a, xs, rfl, .inr ⟨_, its, n, q, congrArg Value.type (of_decide_eq_true h1), rfl, h2, r⟩, ?_, dv W⟩⟩
            have h4 : its.toList.length = its.size := Array.length_toList ..
            exact Nat.le_trans (Nat.le_of_eq (hl.trans h4)) h2
          | _ => cases h
        | _ => cases dt <;> cases h
    | _ => cases h
  | .lst _, v, h => by cases v <;> cases h
  | .frl _, v, h => by cases v <;> cases h
  | .dic _ _, v, h => by cases v <;> cases h
  | .ins _ _ _, v, h => by cases v <;> cases h
  | .ref _, v, h => by cases v <;> cases h
theorem gdsB_ok {K : PySem.W.Frag} {ca : Nat → Addr} : ∀ (ds : List Dt) (vs : List Value), gdsB K ds vs = true → ∃ xs, Vals xs vs ∧ ∀ W, DVs K ca W ds xs
  | [], vs, h => by
    cases vs with
    | nil => exact ⟨[], .nil, fun _ => rfl⟩
    | cons v l => cases h
  | d :: ds, vs, h => by
    cases vs with
    | nil => cases h
    | cons v l =>
      obtain ⟨h1, h2⟩ := and2 (show (gdB K d v && gdsB K ds l) = true from h)
      obtain ⟨x, r, q⟩ := gdB_ok (ca := ca) d v h1
      obtain ⟨xs, rs, qs⟩ := gdsB_ok (ca := ca) ds l h2
      exact ⟨x :: xs, .cons r rs, fun W => ⟨x, xs, rfl, q W, qs W⟩⟩
end

/-! ### what the head tells -/
def glOk (K : PySem.W.Frag) (q : Str × Dt) : Bool := match PySem.W.nsIn K mainGlobals q.1 with
  | some (some v) => gdB K q.2 v
  | _ => false
def Pk.faD (p : Pk) (d : Df) : List He.Fa := match d.d.at_ with
  | (x, none) => [.glo x]
  | (x, some m) => if m = "__init__" then [.mkr x] else [.meth x m]
def Pk.fa (p : Pk) : List He.Fa := p.df.flatMap p.faD ++ p.free.map .free ++ p.cl.map .glo ++ p.cl.map .cls ++ (p.at_.map fun q => .noat ((p.cl[q.1]?).getD "") q.2) ++ p.xc.map .glo ++ (p.xr.map fun c => .exc ((p.xc[c]?).getD "")) ++ p.sub.map fun q => .exm ((p.xc[q.1.1]?).getD "") ((p.xc[q.1.2]?).getD "") q.2
def Pk.fn (p : Pk) : List He.DefD := p.df.map (·.d)
abbrev AlD : Type := He.AlD
/-- what isinstance asks of a raised exception's class -/
def excB (K : PySem.W.Frag) (D : Addr) : Bool := decide (PySem.W.findIn K (.ref D) "__getattribute__" = some (some (.builtin "BaseException.__getattribute__"))) && decide (PySem.W.findIn K (.ref D) "__getattr__" = some none) && decide (PySem.W.subIn K (.ref D) (.type "BaseException") = some true) && PySem.W.hasDictIn K D &&
  decide (PySem.W.findIn K (.ref D) "__class__" = some (some (.builtin "object.__class__"))) && decide (PySem.W.specialIn K (.builtin "object.__class__") "__get__" = some (some (.builtin "getset_descriptor.__get__"))) && decide (PySem.W.takesIn K (.builtin "object.__class__") = some true) && decide (PySem.W.mroIn K D (.type "object") = some true)
theorem excB_ok {K : PySem.W.Frag} {D : Addr} (h : excB K D = true) : ExcC K D := by
  unfold excB at h
  obtain ⟨h, h8⟩ := and2 h
  obtain ⟨h, h7⟩ := and2 h
  obtain ⟨h, h6⟩ := and2 h
  obtain ⟨h, h5⟩ := and2 h
  obtain ⟨h, h4⟩ := and2 h
  obtain ⟨h, h3⟩ := and2 h
  obtain ⟨h1, h2⟩ := and2 h
  exact ⟨of_decide_eq_true h1, of_decide_eq_true h2, of_decide_eq_true h3, h4, of_decide_eq_true h5, of_decide_eq_true h6, of_decide_eq_true h7, of_decide_eq_true h8⟩
def isOk (p : Pk) (K : PySem.W.Frag) (q : (Nat × Nat) × Bool) : Bool := excB K (p.xa K q.1.1) && decide (PySem.W.kitOne K (.ref (p.xa K q.1.1)) (.ref (p.xa K q.1.2)) = some q.2)
def obsE (p : Pk) (K : PySem.W.Frag) : AlD := ((He.obsD p.fa p.fn K).1 && (p.gl.all (glOk K) && p.sub.all (isOk p K)), (He.obsD p.fa p.fn K).2)
def SaysE (p : Pk) (K : PySem.W.Frag) : Prop := obsE p K = He.valD p.fn
def obsEG (n : Nat) (p : Pk) (g : Addr → Option Obj) : AlD := obsE p (He.frG g (He.asD g n))
def hookE (n : Nat) (p : Pk) : PySem.W.Hook where
  α := AlD
  obs := fun s => obsEG n p s.heap.get?
  val := fun _ => He.valD p.fn
  says := fun _ h => ∃ K : PySem.W.Frag, K.In h ∧ SaysE p K
  of := fun _ _ e => ⟨_, He.frG_in, e⟩
  keeps := fun _ _ _ ⟨K, hK, c⟩ k => ⟨K, PySem.W.Frag.In.keeps hK k, c⟩
theorem obsEG_eq {n : Nat} {p : Pk} {g : Addr → Option Obj} {s : Shared} (h : ∀ a, g a = s.heap.get? a) : obsEG n p g = (hookE n p).obs s := by
  have e : g = s.heap.get? := funext h
  rw [e] <;> rfl
theorem SaysE.d {p : Pk} {K : PySem.W.Frag} (c : SaysE p K) : He.SaysD p.fa p.fn K ∧ p.gl.all (glOk K) = true ∧ p.sub.all (isOk p K) = true := by
  have c0 : obsE p K = He.valD p.fn := c
  have c1 : ((He.obsD p.fa p.fn K).1 && (p.gl.all (glOk K) && p.sub.all (isOk p K))) = true := congrArg (fun z : AlD => z.1) c0
  have c2 := congrArg (fun z : AlD => z.2) c0
  obtain ⟨h1, h2⟩ := and2 c1
  exact ⟨Prod.ext h1 c2, and2 h2⟩
theorem SaysD.mem {fa : List He.Fa} {fn : List He.DefD} {K : PySem.W.Frag} (c : He.SaysD fa fn K) {f : He.Fa} (h : f ∈ fa) : f.ok K = true := by
  obtain ⟨i, hi⟩ := List.mem_iff_getElem?.mp h
  exact c.fact i hi

theorem lookup_mem {α β : Type} [BEq α] [LawfulBEq α] : ∀ {l : List (α × β)} {a : α} {b : β}, l.lookup a = some b → (a, b) ∈ l
  | [], _, _, h => by cases h
  | (k, v) :: l, a, b, h => by
    rw [List.lookup_cons] at h
    cases q : a == k with
    | true =>
      rw [q] at h
      cases h
      rw [beq_iff_eq.mp q]
      exact List.mem_cons_self
    | false =>
      rw [q] at h
      exact List.mem_cons_of_mem _ (lookup_mem h)
/-! ### the facts of a text -/
section
variable {p : Pk} {K : PySem.W.Frag} {mg : Str → Option Value} {P : Program} {w : World} {base : Heap}
/-- every def keeps its promise, at k -/
def DefsOk (p : Pk) (P : Program) (w : World) (K : PySem.W.Frag) (mg : Str → Option Value) (base : Heap) (k : Nat) : Prop :=
  ∀ (i : Nat) (d : Df), p.df[i]? = some d → ∃ fd, FnOk P w K mg base (L2.CX P w) (2 * k) (He.fAd K d.d.at_) fd d.ps (spD (p.sc K mg k) i d.f.np) ∧ Binds K fd d.ps [] ∧ PySem.W.keepIn K (.ref (He.fAd K d.d.at_)) = true
theorem fnf_of {k : Nat} (A : DefsOk p P w K mg base k) {i : Nat} {d : Df} (h : p.df[i]? = some d) : FnF (p.sc K mg k) P w base i (He.fAd K d.d.at_) := by
  obtain ⟨fd, h1, h2, h3⟩ := A i d h
  refine ⟨d.f, fd, d.ps, ?_, h1, h2, h3⟩
  show (p.df[i]?).map (·.f) = some d.f
  rw [h]; rfl
theorem find_ok {x : Str} {m : Option Str} {i : Nat} (h : p.find x m = some i) : ∃ d, p.df[i]? = some d ∧ d.d.at_ = (x, m) := by
  obtain ⟨hl, h1, _⟩ := List.findIdx?_eq_some_iff_getElem.mp h
  exact ⟨p.df[i], List.getElem?_eq_getElem hl, of_decide_eq_true h1⟩
theorem mem_df {i : Nat} {d : Df} (h : p.df[i]? = some d) {f : He.Fa} (hf : f ∈ p.faD d) : f ∈ p.fa := by
  unfold Pk.fa
  simp only [List.mem_append, List.mem_flatMap]
  exact .inl (.inl (.inl (.inl (.inl (.inl (.inl ⟨d, List.mem_of_getElem? h, hf⟩))))))
theorem facts_of {k : Nat} (X : K.In base) (G : base.Ns mainGlobals mg) (c : SaysE p K) (A : DefsOk p P w K mg base k) : Facts (p.sc K mg k) P w base := by
  obtain ⟨c1, c2, c3⟩ := c.d
  have hcl : ∀ (c : Nat) (x : Str), p.cl[c]? = some x → p.ca K c = He.ga K x := fun c x e => by unfold Pk.ca; rw [e]; rfl
  have memc : ∀ (c : Nat) (x : Str), p.cl[c]? = some x → (He.Fa.glo x) ∈ p.fa ∧ (He.Fa.cls x) ∈ p.fa := fun c x e => by
    have hm := List.mem_of_getElem? e
    unfold Pk.fa
    simp only [List.mem_append, List.mem_map]
    exact ⟨.inl (.inl (.inl (.inl (.inl (.inr ⟨x, hm, rfl⟩))))), .inl (.inl (.inl (.inl (.inr ⟨x, hm, rfl⟩))))⟩
  refine ⟨fun f x h => ?_, fun x h => ?_, fun i x h => ?_, fun c x h => ?_, fun c f h => ?_, fun c m f h => ?_, fun c m h => ?_, fun c x h => ?_, fun c h => ?_, fun c c' b h => ?_, fun c c' b h => ?_⟩
  · have h : ((p.df[f]?).bind fun d => match d.d.at_ with | (x, none) => some x | _ => none) = some x := h
    cases q : p.df[f]? with
    | none => rw [q] at h; cases h
    | some d =>
      rw [q] at h
      have h : (match d.d.at_ with | (x, none) => some x | _ => none) = some x := h
      split at h
      · rename_i y e
        cases h
        refine ⟨He.fAd K d.d.at_, ?_, fnf_of A q⟩
        have : He.fAd K d.d.at_ = He.ga K x := by rw [e]; rfl
        rw [this]
        exact He.glo_ok X G (SaysD.mem c1 (mem_df q (f := .glo x) (by unfold Pk.faD; rw [e]; exact List.mem_singleton.mpr rfl)))
      · cases h
  · exact He.free_ok X G (SaysD.mem c1 (f := .free x) (by
      unfold Pk.fa
      simp only [List.mem_append, List.mem_map]
      exact .inl (.inl (.inl (.inl (.inl (.inl (.inr ⟨x, h, rfl⟩))))))))
  · have h : (p.gl.map (·.1))[i]? = some x := h
    rw [List.getElem?_map] at h
    cases q : p.gl[i]? with
    | none => rw [q] at h; cases h
    | some g =>
      rw [q] at h
      cases h
      have hg := List.all_eq_true.mp c2 g (List.mem_of_getElem? q)
      unfold glOk at hg
      cases e : PySem.W.nsIn K mainGlobals g.1 with
      | none => rw [e] at hg; cases hg
      | some o =>
        rw [e] at hg
        cases o with
        | none => cases hg
        | some u =>
          obtain ⟨v, r, dv⟩ := gdB_ok (ca := p.ca K) g.2 u hg
          refine ⟨g.2, u, v, ?_, PySem.W.mg_of X G e, r, dv⟩
          show (p.gl.map (·.2))[i]? = some g.2
          rw [List.getElem?_map, q]; rfl
  · obtain ⟨m1, m2⟩ := memc c x h
    refine ⟨?_, ?_⟩
    · show mg x = some (.ref (p.ca K c))
      rw [hcl c x h]
      exact He.glo_ok X G (SaysD.mem c1 m1)
    · show Cls K (p.ca K c)
      rw [hcl c x h]
      exact He.cls_ok (SaysD.mem c1 m2)
  · have h : ((p.cl[c]?).bind fun x => p.find x (some "__init__")) = some f := h
    cases q : p.cl[c]? with
    | none => rw [q] at h; cases h
    | some x =>
      rw [q] at h
      obtain ⟨d, hd, e⟩ := find_ok h
      refine ⟨He.fAd K d.d.at_, ?_, fnf_of A hd⟩
      show Mk K (p.ca K c) _
      rw [hcl c x q, e]
      exact He.mkr_ok (SaysD.mem c1 (mem_df hd (f := .mkr x) (by unfold Pk.faD; rw [e]; simp)))
  · have h : (if m = "__init__" then none else (p.cl[c]?).bind fun x => p.find x (some m)) = some f := h
    by_cases hm : m = "__init__"
    · rw [if_pos hm] at h; cases h
    · rw [if_neg hm] at h
      cases q : p.cl[c]? with
      | none => rw [q] at h; cases h
      | some x =>
        rw [q] at h
        obtain ⟨d, hd, e⟩ := find_ok h
        refine ⟨He.fAd K d.d.at_, ?_, fnf_of A hd⟩
        show Meth K (p.ca K c) m _
        rw [hcl c x q, e]
        exact He.meth_ok (SaysD.mem c1 (mem_df hd (f := .meth x m) (by unfold Pk.faD; rw [e]; simp [hm])))
  · have h : (c, m) ∈ p.at_ := of_decide_eq_true h
    show NoAttr K (p.ca K c) m
    exact He.noat_ok (x := (p.cl[c]?).getD "") (f := m) (SaysD.mem c1 (by
      unfold Pk.fa
      simp only [List.mem_append, List.mem_map]
      exact .inl (.inl (.inl (.inr ⟨(c, m), h, rfl⟩)))))
  · have h : p.xc[c]? = some x := h
    have hx : p.xa K c = He.ga K x := by unfold Pk.xa; rw [h]; rfl
    show mg x = some (.ref (p.xa K c))
    rw [hx]
    exact He.glo_ok X G (SaysD.mem c1 (f := .glo x) (by
      unfold Pk.fa
      simp only [List.mem_append, List.mem_map]
      exact .inl (.inl (.inr ⟨x, List.mem_of_getElem? h, rfl⟩))))
  · have h : c ∈ p.xr := of_decide_eq_true h
    exact He.exc_ok (x := (p.xc[c]?).getD "") (SaysD.mem c1 (by
      unfold Pk.fa
      simp only [List.mem_append, List.mem_map]
      exact .inl (.inr ⟨c, h, rfl⟩)))
  · have h : p.sub.lookup (c, c') = some b := h
    exact He.exm_ok (x := (p.xc[c]?).getD "") (y := (p.xc[c']?).getD "") (SaysD.mem c1 (by
      unfold Pk.fa
      simp only [List.mem_append, List.mem_map]
      exact .inr ⟨((c, c'), b), lookup_mem h, rfl⟩))
  · have h : p.sub.lookup (c, c') = some b := h
    obtain ⟨k1, k2⟩ := and2 (List.all_eq_true.mp c3 _ (lookup_mem h))
    exact ⟨excB_ok k1, of_decide_eq_true k2⟩
/-! ### each def keeps its promise -/
theorem XV.low {ca xa : Nat → Addr} {W W' : Wd} {x : Ex} {C : Value} {d : Option Addr} {H : Hp} (hF : ∀ a o, W.F a = some o → W'.F a = some o) (hn : noRefs x.ds = true) (h : XV K ca xa W x C d H) : XV K ca xa W' x C d H := by
  obtain ⟨h1, h2⟩ := h
  refine ⟨h1, h2.imp id fun ⟨a, fs, e0, e1, e2, e3, e4⟩ => ⟨a, fs, e0, e1, e2, e3, DVs.mono' hF _ _ (.inl hn) e4⟩⟩
/-- the end of a body on ground of its own -/
theorem fin_reg {S : Sc} {b : Nat} {ρ : Nat → Nat} {W : Wd} {h : Hq} {H : Hp} {r : Rs} {Q : VK} {E : XK} (R : Vm.HR S.K S.ca b ρ W h H) (rd : RD { S with b := b, ρ := ρ } ({ S with b := b, ρ := ρ } : Sc).DV W (finR h.length r) Q E) :
    RS { S with b := h.length, ρ := rkIn b ρ h.length } (fun C d _ H' => E C d H') W r { nx := fun _ H' => Q .non H', rt := Q } := by
  cases r with
  | nx s h1 =>
    intro W1 H1 σ w R1 sr
    obtain ⟨R2, w2⟩ := HR.leave R w R1
    exact rd _ _ _ w2 R2 rfl
  | rt d h1 =>
    intro W1 H1 v w R1 q
    have rd : RD { S with b := b, ρ := ρ } ({ S with b := b, ρ := ρ } : Sc).DV W (match fzN 9 h.length d h1 with
      | some p => .ok p.1 (p.2.take h.length)
      | none => .no) Q E := rd
    cases hf : fzN 9 h.length d h1 with
    | none => rw [hf] at rd; exact False.elim rd
    | some p =>
      rw [hf] at rd
      obtain ⟨W2, w2, i2, R2, q2⟩ := fzN_ok 9 d v h1 W1 H1 p R1 q hf
      obtain ⟨R3, w3⟩ := HR.leave R (w.trans w2) R2
      refine rd _ _ _ w3 R3 ?_
      have e : W2.ι.take h.length = W.ι := by
        obtain ⟨_, ⟨l, e⟩, _⟩ := w.trans w2
        rw [e, ← R.len, List.take_left]
      have q2 : Vm.DV S.K S.ca ⟨W2.F, W2.ι.take h.length, W2.A⟩ p.1 v := q2
      rw [e] at q2
      exact q2
  | bk s h1 => exact False.elim rd
  | ct s h1 => exact False.elim rd
  | ex x s h1 =>
    intro W1 H1 C d σ w R1 sr xv
    have rd : RD { S with b := b, ρ := ρ } ({ S with b := b, ρ := ρ } : Sc).DV W (if noRefs x.ds then .exc x (h1.take h.length) else .no) Q E := rd
    split at rd
    · rename_i hn
      obtain ⟨R2, w2⟩ := HR.leave R w R1
      exact rd _ _ _ _ w2 R2 (XV.low (W := W1) (fun _ _ e => e) hn xv)
    · exact False.elim rd
  | no => exact False.elim rd
theorem fin_in {S : Sc} {W : Wd} {r : Rs} {Q : VK} {E : XK} (rd : RD S S.DV W (finK r) Q E) : RS S (fun C d _ H' => E C d H') W r { nx := fun _ H' => Q .non H', rt := Q } := by
  cases r with
  | nx s h1 => exact fun W1 H1 σ w R1 sr => rd _ _ _ w R1 rfl
  | rt d h1 => exact fun W1 H1 v w R1 q => rd _ _ _ w R1 q
  | bk s h1 => exact False.elim rd
  | ct s h1 => exact False.elim rd
  | ex x s h1 => exact fun W1 H1 C d σ w R1 sr xv => rd _ _ _ _ w R1 xv
  | no => exact False.elim rd
theorem sr_start {K : PySem.W.Frag} {ca : Nat → Addr} {W : Wd} {ds : List Dt} {vs : List V} {N : List Str} (h : DVs K ca W ds vs) (hn : ds.length ≤ N.length) : SR K ca W (startE N.length ds) (L2.start N vs) := by
  have hl := h.len
  refine ⟨?_, fun i d e => ?_⟩
  · unfold startE L2.start
    rw [List.length_append, List.length_append, List.length_map, List.length_map, List.length_replicate, List.length_replicate, hl]
  · unfold startE at e
    by_cases hi : i < ds.length
    · rw [List.getElem?_append_left (by rw [List.length_map]; exact hi), List.getElem?_map] at e
      cases q : ds[i]? with
      | none => rw [q] at e; cases e
      | some d' =>
        rw [q] at e
        cases e
        obtain ⟨v, e1, r⟩ := h.get q
        refine ⟨v, ?_, r⟩
        unfold L2.start
        rw [List.getElem?_append_left (by rw [List.length_map, ← hl]; exact hi), List.getElem?_map, e1]
        rfl
    · rw [List.getElem?_append_right (by rw [List.length_map]; omega), List.getElem?_replicate] at e
      split at e <;> cases e
theorem facts_b {S : Sc} {b : Nat} {ρ : Nat → Nat} (F : Facts S P w base) : Facts { S with b := b, ρ := ρ } P w base := by
  have ff : ∀ {f : Nat} {a : Addr}, FnF S P w base f a → FnF { S with b := b, ρ := ρ } P w base f a := fun {f a} x => ⟨x.ex⟩
  exact ⟨fun f x h => let ⟨a, h1, h2⟩ := F.fn f x h; ⟨a, h1, ff h2⟩, F.free, F.gl, F.cls, fun c f h => let ⟨a, h1, h2⟩ := F.init c f h; ⟨a, h1, ff h2⟩, fun c m f h => let ⟨a, h1, h2⟩ := F.meth c m f h; ⟨a, h1, ff h2⟩, F.attr, F.xc, F.xr, F.xm, F.xk⟩
theorem def_ok {k i : Nat} {d : Df} {fd : FuncData} {f : Addr} (F : FunD K d.d.name d.d.qual d.d.params d.d.body d.d.scope [] [] f fd) (hi : p.df[i]? = some d) (hB : dfB p d = true) (ft : Facts (p.sc K mg k) P w base) :
    FnOk P w K mg base (L2.CX P w) (2 * (k + 1)) f fd d.ps (spD (p.sc K mg (k + 1)) i d.f.np) := by
  unfold dfB at hB
  obtain ⟨hB, _⟩ := and2 hB
  obtain ⟨hB, _⟩ := and2 hB
  obtain ⟨hB, h4⟩ := and2 hB
  obtain ⟨hB, h3⟩ := and2 hB
  obtain ⟨h1, h2⟩ := and2 hB
  have h3 := of_decide_eq_true h3
  have h4 := of_decide_eq_true h4
  have FS := fsB_ok h1
  have hT : p.T.fn i = some d.f := by show (p.df[i]?).map (·.f) = _; rw [hi]; rfl
  have hps : d.ps.length ≤ d.N.length := by
    have := congrArg List.length FS.pre
    rw [List.length_take] at this
    omega
  refine FunD.ok (k := 2 * k + 1) F FS (fun vs H Q E ⟨W, h, ds, b, ρ, R, q, hl, rd⟩ => by rw [h4, ← hl]; exact q.len.symm) (fun cdv A outer s H vs Q E hr ⟨W, h, ds, b, ρ, R, q, hl, rd⟩ => ?_)
  have R : Vm.HR K (p.ca K) b ρ W h H := R
  have q : Vm.DVs K (p.ca K) W ds vs := q
  -- what the call is
  have e : callK p.T (k + 1) i b ds h = if d.f.reg then finR h.length (Vm.exS (callK p.T k) p.T.gl p.T.sub h.length d.f.body (startE d.f.n ds) h) else finK (Vm.exS (callK p.T k) p.T.gl p.T.sub b d.f.body (startE d.f.n ds) h) := by
    show (match p.T.fn i with
      | none => Res.no
      | some fd => if decide (ds.length = fd.np) then
        (if fd.reg then finR h.length (Vm.exS (callK p.T k) p.T.gl p.T.sub h.length fd.body (startE fd.n ds) h) else finK (Vm.exS (callK p.T k) p.T.gl p.T.sub b fd.body (startE fd.n ds) h))
      else .no) = _
    rw [hT]
    show (if decide (ds.length = d.f.np) = true then _ else _) = _
    rw [if_pos (decide_eq_true hl)]
  have rd : RD { p.sc K mg (k + 1) with b := b, ρ := ρ } (Vm.DV K (p.ca K)) W (callK p.T (k + 1) i b ds h) Q E := rd
  rw [e] at rd
  have body : ∀ (b' : Nat) (ρ' : Nat → Nat), PSs (cxOf (L2.CX P w) P w K mg base d.N d.d.qual d.d.scope f cdv A outer s H E) d.d.body (tS { p.sc K mg k with b := b', ρ := ρ' } (fun C d _ H' => E C d H') d.f.body) := fun b' ρ' => by
    refine (snd_S { p.sc K mg k with b := b', ρ := ρ' } d.N d.f.body).pss _ _ d.d.scope d.d.body ⟨⟨rfl, rfl, rfl, rfl, FS.nd, fun _ => ⟨rfl, hr⟩, ?_, ?_, facts_b ft⟩, ⟨rfl, rfl, FS.nd, fun _ _ => rfl⟩, ?_, rfl, rfl⟩ h2
    · have := hr.un
      show (A.deeper (envOfC d.d.qual d.d.scope s.heap.objs.size f cdv)).units + 100 < cLine
      omega
    · exact takes_of rfl rfl rfl rfl
    · exact PassesOwn.leaving
  have hds : ds.length ≤ d.N.length := by rw [hl, ← h4]; exact hps
  have st : ∀ W', W.le W' → SR K (p.ca K) W' (startE d.f.n ds) (L2.start d.N vs) := fun W' w' => by
    rw [← h3]
    exact sr_start (q.le w') hds
  cases hreg : d.f.reg with
  | true =>
    rw [hreg] at rd
    refine ⟨_, body h.length (rkIn b ρ h.length), W, h, startE d.f.n ds, R.enter, st W (.refl W), ?_⟩
    exact fin_reg (S := p.sc K mg k) R rd
  | false =>
    rw [hreg] at rd
    exact ⟨_, body b ρ, W, h, startE d.f.n ds, R, st W (.refl W), fin_in (S := { p.sc K mg k with b := b, ρ := ρ }) rd⟩
theorem defs_ok (X : K.In base) (G : base.Ns mainGlobals mg) (c : SaysE p K) (hB : AllD (fun d => dfB p d = true) p.df) (hb : AllD BindP p.df) : ∀ k, DefsOk p P w K mg base k
  | 0 => fun i d h => by
    obtain ⟨c1, c2, _⟩ := c.d
    have hd := hB.get h
    have hbd := hb.get h
    unfold dfB at hd
    obtain ⟨hd, e2⟩ := and2 hd
    obtain ⟨hd, e1⟩ := and2 hd
    have hf : p.fn[i]? = some d.d := by show (p.df.map (·.d))[i]? = _; rw [List.getElem?_map, h]; rfl
    obtain ⟨fd, F⟩ := c1.def_ i hf
    have d1 : d.d.dvs K = [] := by unfold He.DefD.dvs; rw [List.isEmpty_iff.mp e1]; rfl
    have d2 : d.d.kws K = [] := by unfold He.DefD.kws; rw [List.isEmpty_iff.mp e2]; rfl
    rw [d1, d2] at F
    refine ⟨fd, ⟨fun vs H Q E ⟨W, h, ds, b, ρ, R, q, hl, rd⟩ => False.elim rd, fun A outer s H args us vs Q E hr e0 hb r ⟨W, h, ds, b, ρ, R, q, hl, rd⟩ => False.elim rd⟩, F.bindsN hbd, F.kp⟩
  | k + 1 => fun i d h => by
    have A := defs_ok X G c hB hb k
    obtain ⟨c1, c2, _⟩ := c.d
    have hd := hB.get h
    have hbd := hb.get h
    have hd0 := hd
    unfold dfB at hd
    obtain ⟨hd, e2⟩ := and2 hd
    obtain ⟨hd, e1⟩ := and2 hd
    have hf : p.fn[i]? = some d.d := by show (p.df.map (·.d))[i]? = _; rw [List.getElem?_map, h]; rfl
    obtain ⟨fd, F⟩ := c1.def_ i hf
    have d1 : d.d.dvs K = [] := by unfold He.DefD.dvs; rw [List.isEmpty_iff.mp e1]; rfl
    have d2 : d.d.kws K = [] := by unfold He.DefD.kws; rw [List.isEmpty_iff.mp e2]; rfl
    rw [d1, d2] at F
    exact ⟨fd, def_ok F h hd0 (facts_of X G c A), F.bindsN hbd, F.kp⟩
end
end Vm

/-! Vm, part 18: a law's end. Own text. -/
namespace Vm
open PySem L2 PySem.Spec PyProof.Rows

/-- a law, its context of exceptions told by the world -/
theorem walk_ofV {l : PySem.W.OpenLaw} {n k : Nat} {q : Program} {loose : List Str} {XP : (Str → Option Value) → Heap → Prop} {YP : World → Heap → Prop} {d : DefRec} {CX : World → CXT} {x : Str}
    (hn : l.most = some n) (hn2 : n ≤ sizeLine) (hdf : d.params.defaults = []) (hr : Room k callerA)
    (F : ∀ (w : World) (mg : Str → Option Value) (fa : Addr) (h : Heap), YP w h → h.Ns mainGlobals mg → mg d.name = some (.ref fa) →
      ∃ (K : PySem.W.Frag) (fd : FuncData) (sp : Sp), K.In h ∧ (∀ (s : Shared) (u : Value), BindsTo s fd ⟨[u], []⟩ [(x, u)]) ∧
        (∀ (H : Hp) (a : Addr) (ns : List Int), ns.length ≤ n → SqL K H a (ns.map V.int) → sp [.ref a] H (fun v _ => v = .bl true) fun _ _ _ => False) ∧
        ∀ base : Heap, K.In base → base.Ns mainGlobals mg → FnOk l.prog w K mg base (CX w) k fa fd [x] sp)
    (hCX : ∀ (w : World) (H : Hp) (s : Shared) (e : Value) (s' : Shared), CX w [] H s (fun _ _ _ => False) e s' → False) :
    PySem.W.WalkO q loose XP YP l.row.toRowW d [] (fun f vs => PySem.call f vs) := by
  refine Att.attach_call hn hdf fun w s₀ s₁ mg mb fa o pm cd doc a vs ns G Y ho hd hcd hmg hobj hints hlen hg => ?_
  obtain ⟨K, fd, sp, KX, hb, hsp, hF⟩ := F w mg fa _ Y G.T.g hmg
  exact law_call KX G.T.g G.T.b G.T.builtins G.T.nolimit hg hobj hints (Nat.le_trans hlen hn2) hr hF hb (fun H hO hS => hsp H a ns hlen hS) fun H e s' => hCX w H s₁ e s'
theorem cx_never {P : Program} {w : World} {H : Hp} {s : Shared} {e : Value} {s' : Shared} (h : L2.CX P w [] H s (fun _ _ _ => False) e s') : False := by
  obtain ⟨_, _, _, _, _, _, _, _, _, _, _, _, z⟩ := h
  exact z
theorem hr_start {K : PySem.W.Frag} {ca : Nat → Addr} (H : Hp) : HR K ca 0 id ⟨H, [], fun _ => none⟩ [] H where
  F := fun a o e => FH.of e
  len := rfl
  nd := List.nodup_nil
  th := fun a ha => by cases ha
  cell := fun n c a hn => by simp at hn
  acc := fun a o e => by cases e
  base := Nat.le_refl _
  rk := fun n hn => absurd hn (Nat.not_lt_zero n)
theorem dv_ints {K : PySem.W.Frag} {ca : Nat → Addr} {W : Wd} : ∀ ns : List Int, DVs K ca W (ns.map .int) (ns.map V.int)
  | [] => rfl
  | n :: ns => ⟨_, _, rfl, rfl, dv_ints ns⟩
/-- what walk_ofV asks, from the table's law -/
theorem law_facts {p : Pk} {P : Program} {w : World} {h : Heap} {mg : Str → Option Value} {fa : Addr} {k i : Nat} {d : Df} {nm x : Str} (Y : (hookE 5 p).says w h ∨ ∃ K : PySem.W.Frag, K.In h ∧ SaysE p K) (G : h.Ns mainGlobals mg) (hmg : mg nm = some (.ref fa))
    (hi : p.df[i]? = some d) (hat : d.d.at_ = (nm, none)) (hps : d.ps = [x]) (hnp : d.f.np = 1) (hB : AllD (fun d => dfB p d = true) p.df) (hb : AllD BindP p.df)
    (law : ∀ ns : List Int, ns.length ≤ 63 → ∃ hq, callK p.T (k + 1) i 0 [.frl (ns.map .int)] [] = .ok (.bl true) hq) :
    ∃ (K : PySem.W.Frag) (fd : FuncData) (sp : Sp), K.In h ∧ (∀ (s : Shared) (u : Value), BindsTo s fd ⟨[u], []⟩ [(x, u)]) ∧
        (∀ (H : Hp) (a : Addr) (ns : List Int), ns.length ≤ 63 → SqL K H a (ns.map V.int) → sp [.ref a] H (fun v _ => v = .bl true) fun _ _ _ => False) ∧
        ∀ base : Heap, K.In base → base.Ns mainGlobals mg → FnOk P w K mg base (L2.CX P w) (2 * (k + 1)) fa fd [x] sp := by
  have Y : ∃ K : PySem.W.Frag, K.In h ∧ SaysE p K := Y.elim (fun z => z) (fun z => z)
  obtain ⟨K, KX, c⟩ := Y
  obtain ⟨c1, c2, _⟩ := c.d
  have hd := hB.get hi
  have hbd := hb.get hi
  have hd0 := hd
  unfold dfB at hd
  obtain ⟨hd, e2⟩ := and2 hd
  obtain ⟨hd, e1⟩ := and2 hd
  have hf : p.fn[i]? = some d.d := by show (p.df.map (·.d))[i]? = _; rw [List.getElem?_map, hi]; rfl
  obtain ⟨fd, F⟩ := c1.def_ i hf
  have d1 : d.d.dvs K = [] := by unfold He.DefD.dvs; rw [List.isEmpty_iff.mp e1]; rfl
  have d2 : d.d.kws K = [] := by unfold He.DefD.kws; rw [List.isEmpty_iff.mp e2]; rfl
  rw [d1, d2] at F
  have hfa : He.fAd K d.d.at_ = fa := by
    have e : He.fAd K d.d.at_ = He.ga K nm := by rw [hat]; rfl
    have z := hmg.symm.trans (He.glo_ok KX G (SaysD.mem c1 (mem_df hi (f := .glo nm) (by unfold Pk.faD; rw [hat]; exact List.mem_singleton.mpr rfl))))
    rw [e]
    cases z
    rfl
  rw [hfa] at F
  refine ⟨K, fd, spD (p.sc K mg (k + 1)) i d.f.np, KX, fun s u => ?_, fun H a ns hl hS => ?_, fun base X G => ?_⟩
  · have := FunD.bindsA (ps := d.ps) F hbd s [u] (by rw [hps]; rfl)
    rw [hps] at this
    exact this
  · obtain ⟨hq, e⟩ := law ns hl
    refine ⟨⟨H, [], fun _ => none⟩, [], [.frl (ns.map .int)], 0, id, hr_start H, ⟨.ref a, [], rfl, ⟨a, ns.map V.int, rfl, hS, ?_, dv_ints ns⟩, rfl⟩, by rw [hnp]; rfl, ?_⟩
    · rw [List.length_map, sizeLine_eq]; omega
    · show RD _ _ _ (callK p.T (k + 1) i 0 [.frl (ns.map .int)] []) _ _
      rw [e]
      exact fun W' H' v w R q => q
  · have := def_ok (P := P) (w := w) (mg := mg) F hi hd0 (facts_of X G c (defs_ok X G c hB hb k))
    rw [hps] at this
    exact this
end Vm

/-! Helpers for a law's plain part: running mini texts; the draws; the comparison. Own text. -/
namespace Vm
open PySem L2

/-! ### calls -/
theorem callK_in {T : Tb} {f : Nat} {fd : Fd} {k b : Nat} {ds : List Dt} {h : Hq} (hf : T.fn f = some fd) (hr : fd.reg = false) (hn : ds.length = fd.np) :
    callK T (k + 1) f b ds h = finK (exS (callK T k) T.gl T.sub b fd.body (startE fd.n ds) h) := by
  show (match T.fn f with
    | none => Res.no
    | some fd => if decide (ds.length = fd.np) then
      (if fd.reg then finR h.length (exS (callK T k) T.gl T.sub h.length fd.body (startE fd.n ds) h) else finK (exS (callK T k) T.gl T.sub b fd.body (startE fd.n ds) h))
    else .no) = _
  rw [hf]
  show (if decide (ds.length = fd.np) = true then _ else _) = _
  rw [if_pos (decide_eq_true hn), hr]
  rfl
theorem callK_reg {T : Tb} {f : Nat} {fd : Fd} {k b : Nat} {ds : List Dt} {h : Hq} (hf : T.fn f = some fd) (hr : fd.reg = true) (hn : ds.length = fd.np) :
    callK T (k + 1) f b ds h = finR h.length (exS (callK T k) T.gl T.sub h.length fd.body (startE fd.n ds) h) := by
  show (match T.fn f with
    | none => Res.no
    | some fd => if decide (ds.length = fd.np) then
      (if fd.reg then finR h.length (exS (callK T k) T.gl T.sub h.length fd.body (startE fd.n ds) h) else finK (exS (callK T k) T.gl T.sub b fd.body (startE fd.n ds) h))
    else .no) = _
  rw [hf]
  show (if decide (ds.length = fd.np) = true then _ else _) = _
  rw [if_pos (decide_eq_true hn), hr]
  rfl

/-! ### steps, each by its definition -/
section
variable {cl : Nat → Nat → List Dt → Hq → Res Dt} {gl : List Dt} {sub : Nat → Nat → Option Bool} {b : Nat} {s : En} {h : Hq}
theorem x_seq {s1 s2 : S} : exS cl gl sub b (.seq s1 s2) s h = (match exS cl gl sub b s1 s h with
    | .nx σ' h' => exS cl gl sub b s2 σ' h'
    | q => q) := rfl
theorem x_seq_nx {s1 s2 : S} {s' : En} {h' : Hq} (e : exS cl gl sub b s1 s h = .nx s' h') : exS cl gl sub b (.seq s1 s2) s h = exS cl gl sub b s2 s' h' := by rw [x_seq, e]
theorem x_seq_rt {s1 s2 : S} {d : Dt} {h' : Hq} (e : exS cl gl sub b s1 s h = .rt d h') : exS cl gl sub b (.seq s1 s2) s h = .rt d h' := by rw [x_seq, e]
theorem x_seq_bk {s1 s2 : S} {s' : En} {h' : Hq} (e : exS cl gl sub b s1 s h = .bk s' h') : exS cl gl sub b (.seq s1 s2) s h = .bk s' h' := by rw [x_seq, e]
theorem x_seq_ex {s1 s2 : S} {x : Ex} {s' : En} {h' : Hq} (e : exS cl gl sub b s1 s h = .ex x s' h') : exS cl gl sub b (.seq s1 s2) s h = .ex x s' h' := by rw [x_seq, e]
theorem x_set {i : Nat} {e : E} {d : Dt} {h' : Hq} (q : ev cl gl b e s h = .ok d h') : exS cl gl sub b (.set i e) s h = .nx (s.set i (some d)) h' := by
  show Rs.of s (ev cl gl b e s h) _ = _
  rw [q]; rfl
theorem x_ret {e : E} {d : Dt} {h' : Hq} (q : ev cl gl b e s h = .ok d h') : exS cl gl sub b (.ret e) s h = .rt d h' := by
  show Rs.of s (ev cl gl b e s h) _ = _
  rw [q]; rfl
theorem x_exp {e : E} {d : Dt} {h' : Hq} (q : ev cl gl b e s h = .ok d h') : exS cl gl sub b (.exp e) s h = .nx s h' := by
  show Rs.of s (ev cl gl b e s h) _ = _
  rw [q]; rfl
theorem x_if {c : E} {a r : S} {k : Bool} {h' : Hq} (q : ev cl gl b c s h = .ok (.bl k) h') : exS cl gl sub b (.ife c a r) s h = if k then exS cl gl sub b a s h' else exS cl gl sub b r s h' := by
  show Rs.of s (asB (ev cl gl b c s h)) _ = _
  rw [q]; rfl
theorem x_if_t {c : E} {a r : S} {h' : Hq} (q : ev cl gl b c s h = .ok (.bl true) h') : exS cl gl sub b (.ife c a r) s h = exS cl gl sub b a s h' := x_if q
theorem x_if_f {c : E} {a r : S} {h' : Hq} (q : ev cl gl b c s h = .ok (.bl false) h') : exS cl gl sub b (.ife c a r) s h = exS cl gl sub b r s h' := x_if q
theorem x_for {t : Tg} {it : E} {body : S} {w : Wk} {h' : Hq} (q : evi cl gl b it s h = .ok w h') : exS cl gl sub b (.forS t it body) s h = forW (fun d σ hh => match t.set d σ with
      | none => .no
      | some σ' => exS cl gl sub b body σ' hh) w s h' := by
  show Rs.of s (evi cl gl b it s h) _ = _
  rw [q]; rfl
end

/-! ### the draws: a cell with the script, the place, the store, the seed -/
def drawB : S := (.seq (.ife (.and (.cmp .Eq (.ix (.v 0) (.lit (.int 2))) (.lit (.int 0))) (.one (.cmp .Lt (.ix (.v 0) (.lit (.int 1))) (.bf .len (.cons (.ix (.v 0) (.lit (.int 0))) .nil))))) (.seq (.set 2 (.ix (.ix (.v 0) (.lit (.int 0))) (.ix (.v 0) (.lit (.int 1))))) (.seq (.setX (.v 0) (.lit (.int 1)) (.bin .Add (.ix (.v 0) (.lit (.int 1))) (.lit (.int 1)))) (.seq (.ife (.cmp .GtE (.v 2) (.bin .Pow (.lit (.int 10)) (.lit (.int 18)))) (.seq (.setX (.v 0) (.lit (.int 2)) (.v 2)) .nil) .nil) (.seq (.setX (.v 0) (.lit (.int 3)) (.bin .Mod (.bf .int (.cons (.bin .Add (.bin .Add (.bin .Mult (.ix (.v 0) (.lit (.int 3))) (.lit (.int 48271))) (.v 2)) (.lit (.int 13))) .nil)) (.lit (.int 2147483647)))) .nil)))) .nil) (.seq (.ife (.cmp .Gt (.ix (.v 0) (.lit (.int 2))) (.lit (.int 0))) (.seq (.set 3 (.bin .Mod (.bf .int (.cons (.ix (.v 0) (.lit (.int 2))) .nil)) (.v 1))) (.seq (.setX (.v 0) (.lit (.int 2)) (.bin .FloorDiv (.ix (.v 0) (.lit (.int 2))) (.v 1))) (.seq (.ret (.v 3)) .nil))) .nil) (.seq (.setX (.v 0) (.lit (.int 3)) (.bin .Mod (.bf .int (.cons (.bin .Add (.bin .Mult (.ix (.v 0) (.lit (.int 3))) (.lit (.int 69621))) (.lit (.int 7))) .nil)) (.lit (.int 2147483629)))) (.seq (.ret (.bin .Mod (.bf .int (.cons (.bin .FloorDiv (.ix (.v 0) (.lit (.int 3))) (.lit (.int 11))) .nil)) (.v 1))) .nil))))
/-- what stands at the draws' cell -/
def DrawSt (ns : List Int) (i : Nat) (r s : Int) : Cell := .lst [.lst (ns.map .int), .int i, .int r, .int s]
def IsDraw (ns : List Int) (c : Cell) : Prop := ∃ (i : Nat) (r s : Int), i ≤ ns.length ∧ c = DrawSt ns i r s

section
variable {cl : Nat → Nat → List Dt → Hq → Res Dt} {gl : List Dt} {sub : Nat → Nat → Option Bool} {b n : Nat} {h : Hq} {ns : List Int} {i : Nat} {r s lim : Int}
theorem set_cell {c c' : Cell} (hn : h[n]? = some c) : (h.set n c')[n]? = some c' := by
  rw [List.getElem?_set_self (List.getElem?_eq_some_iff.mp hn).1]
theorem vw_lst {ds : List Dt} (hn : h[n]? = some (.lst ds)) : vw h (.ref n) = .lst ds := by simp only [vw, hn]
theorem opt_some {α : Type} {a : α} {h : Hq} : Res.opt h (some a) = .ok a h := rfl
theorem eqD_int (i j : Int) : eqD (.int i) (.int j) = some (decide (i = j)) := by
  show some (i == j) = _
  by_cases h : i = j
  · rw [decide_eq_true h, beq_iff_eq.mpr h]
  · rw [decide_eq_false h, beq_eq_false_iff_ne.mpr h]
theorem draw_run (hn : h[n]? = some (DrawSt ns i r s)) (hi : i ≤ ns.length) (h0 : 0 < lim) (h1 : lim < 1073741824) :
    ∃ v c, IsDraw ns c ∧ 0 ≤ v ∧ v < lim ∧ exS cl gl sub b drawB [some (.ref n), some (.int lim), none, none] h = .rt (.int v) (h.set n c) := by
  have hl : n < h.length := (List.getElem?_eq_some_iff.mp hn).1
  have hs : ∀ c' : Cell, (h.set n c')[n]? = some c' := fun c' => set_cell hn
  have md : ∀ x : Int, 0 ≤ x % lim ∧ x % lim < lim := fun x => ⟨Int.emod_nonneg x (by omega), Int.emod_lt_of_pos x h0⟩
  unfold DrawSt at hn
  by_cases hr : r = 0
  · subst hr
    by_cases hlt : i < ns.length
    · obtain ⟨c, hc⟩ : ∃ c, ns[i] = c := ⟨_, rfl⟩
      by_cases hbig : (1000000000000000000 : Int) ≤ c
      · refine ⟨c % lim, .lst [.lst (ns.map .int), .int ((i + 1 : Nat) : Int), .int (c / lim), .int ((s * 48271 + c + 13) % 2147483647)], ⟨i + 1, _, _, hlt, rfl⟩, (md _).1, (md _).2, ?_⟩
        have hpos : 0 < c := by omega
        simp [drawB, exS, ev, evs, Rs.of, Res.bind, Res.opt, vw, hn, ixD, atI, ixN, cmpD, eqD_int, asB, bfD, binD, small64, boolI, storeX, stOk, Rs.opt, noRef, hs, hlt, hc, hbig, hpos, h0, h1]
      · refine ⟨((((s * 48271 + c + 13) % 2147483647) * 69621 + 7) % 2147483629) / 11 % lim, .lst [.lst (ns.map .int), .int ((i + 1 : Nat) : Int), .int 0, .int ((((s * 48271 + c + 13) % 2147483647) * 69621 + 7) % 2147483629)], ⟨i + 1, _, _, hlt, rfl⟩, (md _).1, (md _).2, ?_⟩
        simp [drawB, exS, ev, evs, Rs.of, Res.bind, Res.opt, vw, hn, ixD, atI, ixN, cmpD, eqD_int, asB, bfD, binD, small64, boolI, storeX, stOk, Rs.opt, noRef, hs, hlt, hc, hbig, h0, h1]
    · have e : i = ns.length := by omega
      refine ⟨((s * 69621 + 7) % 2147483629) / 11 % lim, .lst [.lst (ns.map .int), .int i, .int 0, .int ((s * 69621 + 7) % 2147483629)], ⟨i, 0, _, hi, rfl⟩, (md _).1, (md _).2, ?_⟩
      simp [drawB, exS, ev, evs, Rs.of, Res.bind, Res.opt, vw, hn, ixD, atI, ixN, cmpD, eqD_int, asB, bfD, binD, small64, boolI, storeX, stOk, Rs.opt, noRef, hs, hlt, h0, h1]
  · by_cases hpos : 0 < r
    · refine ⟨r % lim, .lst [.lst (ns.map .int), .int i, .int (r / lim), .int s], ⟨i, _, _, hi, rfl⟩, (md _).1, (md _).2, ?_⟩
      simp [drawB, exS, ev, evs, Rs.of, Res.bind, Res.opt, vw, hn, ixD, atI, ixN, cmpD, eqD_int, asB, bfD, binD, small64, boolI, storeX, stOk, Rs.opt, noRef, hs, hr, hpos, h0, h1]
    · refine ⟨((s * 69621 + 7) % 2147483629) / 11 % lim, .lst [.lst (ns.map .int), .int i, .int r, .int ((s * 69621 + 7) % 2147483629)], ⟨i, _, _, hi, rfl⟩, (md _).1, (md _).2, ?_⟩
      simp [drawB, exS, ev, evs, Rs.of, Res.bind, Res.opt, vw, hn, ixD, atI, ixN, cmpD, eqD_int, asB, bfD, binD, small64, boolI, storeX, stOk, Rs.opt, noRef, hs, hr, hpos, h0, h1]
end
end Vm

/-! Helpers for a law's plain part, 2: values, comprehensions, loops, the comparison. Own text. -/
namespace Vm
open PySem L2

/-! ### data by value -/
def iN (n : Nat) : Dt := .int (n : Int)
def tN (xs : List Nat) : Dt := .tup (xs.map iN)
theorem vw_int {h : Hq} {i : Int} : vw h (.int i) = .int i := rfl
theorem vw_tup {h : Hq} {ds : List Dt} : vw h (.tup ds) = .tup ds := rfl
theorem vw_lst' {h : Hq} {ds : List Dt} : vw h (.lst ds) = .lst ds := rfl
theorem range0 (n : Nat) : rangeD 0 (n : Int) = (List.range n).map iN := by
  unfold rangeD
  rw [Int.sub_zero, Int.toNat_natCast]
  exact List.map_congr_left fun i _ => by rw [Int.zero_add]; rfl
theorem rng1 {n : Nat} (hb : n < 4611686018427387904) : rngD [.int (n : Int)] = some ((List.range n).map iN) := by
  have : bnd62 (n : Int) = true := by
    unfold bnd62
    rw [Bool.and_eq_true, decide_eq_true_eq, decide_eq_true_eq]
    constructor
    · have : (-(2 : Int) ^ 62) = -4611686018427387904 := by decide
      omega
    · have : ((2 : Int) ^ 62) = 4611686018427387904 := by decide
      omega
  show (if bnd62 (n : Int) = true then some (rangeD 0 (n : Int)) else none) = _
  rw [if_pos this, range0]

section
variable {cl : Nat → Nat → List Dt → Hq → Res Dt} {gl : List Dt} {sub : Nat → Nat → Option Bool} {b : Nat} {s : En} {h : Hq}
/-- a comprehension whose turns leave the heap -/
theorem compL_pure {f : Dt → Hq → Res (List Dt)} {g : Dt → List Dt} {h : Hq} : ∀ {ds : List Dt}, (∀ d ∈ ds, f d h = .ok (g d) h) → compL f ds h = .ok (ds.flatMap g) h
  | [], _ => rfl
  | d :: ds, H => by
    show (f d h).bind _ = _
    rw [H d List.mem_cons_self]
    show (compL f ds h).bind _ = _
    rw [compL_pure (g := g) fun x hx => H x (List.mem_cons_of_mem _ hx)]
    rw [List.flatMap_cons]
    rfl
theorem compL_flat {α : Type} {c : α → Dt} {f : Dt → Hq → Res (List Dt)} {g : α → List Dt} {h : Hq} : ∀ {xs : List α}, (∀ x ∈ xs, f (c x) h = .ok (g x) h) → compL f (xs.map c) h = .ok (xs.flatMap g) h
  | [], _ => rfl
  | d :: ds, H => by
    show (f (c d) h).bind _ = _
    rw [H d List.mem_cons_self]
    show (compL f (ds.map c) h).bind _ = _
    rw [compL_flat (g := g) fun x hx => H x (List.mem_cons_of_mem _ hx)]
    rw [List.flatMap_cons]
    rfl
theorem flat_one {α β : Type} {g : α → β} : ∀ {xs : List α}, (xs.flatMap fun x => [g x]) = xs.map g
  | [] => rfl
  | x :: xs => by rw [List.flatMap_cons, flat_one (xs := xs)]; rfl
theorem flat_if {α : Type} {p : α → Bool} : ∀ {xs : List α}, (xs.flatMap fun x => if p x then [x] else []) = xs.filter p
  | [] => rfl
  | x :: xs => by
    rw [List.flatMap_cons, flat_if (xs := xs), List.filter_cons]
    cases p x <;> rfl
theorem compL_map {α : Type} {c : α → Dt} {f : Dt → Hq → Res (List Dt)} {g : α → Dt} {h : Hq} {xs : List α} (H : ∀ x ∈ xs, f (c x) h = .ok [g x] h) : compL f (xs.map c) h = .ok (xs.map g) h := by
  rw [compL_flat H, flat_one]
/-- one turn of a comprehension -/
abbrev turn (cl : Nat → Nat → List Dt → Hq → Res Dt) (gl : List Dt) (b : Nat) (s : En) (t : Tg) (c el : E) (d : Dt) (hh : Hq) : Res (List Dt) := match t.set d (wipeE s t.slots) with
  | none => .no
  | some σ' => (evc cl gl b c σ' hh).bind fun ok h2 => if ok then (ev cl gl b el σ' h2).bind fun y h3 => .ok [y] h3 else .ok [] h2
theorem ev_comp {t : Tg} {it c el : E} {ds xs : List Dt} {h1 h2 : Hq} (hi : evi cl gl b it s h = .ok (.its ds) h1) (hc : compL (turn cl gl b s t c el) ds h1 = .ok xs h2) (hl : xs.length ≤ sizeLine) :
    ev cl gl b (.comp false t it c el) s h = .ok (.lst xs) h2 := by
  show (evi cl gl b it s h).bind _ = _
  rw [hi]
  show (noExc (compL (turn cl gl b s t c el) ds h1)).bind _ = _
  rw [hc]
  show (if decide (xs.length ≤ sizeLine) = true then newL false xs h2 else .no) = _
  rw [if_pos (decide_eq_true hl)]
  rfl
/-- over the list at a cell, which the turns leave -/
theorem compN_cel {α : Type} {c : α → Dt} {f : Dt → Hq → Res (List Dt)} {g : α → List Dt} {h : Hq} {n : Nat} {xs : List α} (hn : h[n]? = some (.lst (xs.map c))) (H : ∀ x ∈ xs, f (c x) h = .ok (g x) h) : ∀ (m i : Nat), xs.length ≤ i + m → compN f (nxC n) m i h = .ok ((xs.drop i).flatMap g) h
  | 0, i, hm => by
    have e : nxC n h i = some none := by
      unfold nxC
      rw [hn]
      show some ((xs.map c)[i]?) = _
      rw [List.getElem?_eq_none (by rw [List.length_map]; omega)]
    rw [compN_eq, e, List.drop_of_length_le (by omega)]
    rfl
  | m + 1, i, hm => by
    by_cases hi : i < xs.length
    · have e : nxC n h i = some (some (c xs[i])) := by
        unfold nxC
        rw [hn]
        show some ((xs.map c)[i]?) = _
        rw [List.getElem?_map, List.getElem?_eq_getElem hi]
        rfl
      rw [compN_eq, e]
      show (f (c xs[i]) h).bind _ = _
      rw [H _ (List.getElem_mem hi)]
      show (compN f (nxC n) m (i + 1) h).bind _ = _
      rw [compN_cel hn H m (i + 1) (by omega), List.drop_eq_getElem_cons hi, List.flatMap_cons]
      rfl
    · have e : nxC n h i = some none := by
        unfold nxC
        rw [hn]
        show some ((xs.map c)[i]?) = _
        rw [List.getElem?_eq_none (by rw [List.length_map]; omega)]
      rw [compN_eq, e, List.drop_of_length_le (by omega)]
      rfl
theorem ev_compC {α : Type} {c : α → Dt} {t : Tg} {it cc el : E} {n : Nat} {xs : List α} {g : α → List Dt} {h1 : Hq} (hi : evi cl gl b it s h = .ok (.cel n) h1) (hn : h1[n]? = some (.lst (xs.map c))) (H : ∀ x ∈ xs, turn cl gl b s t cc el (c x) h1 = .ok (g x) h1) (hl : (xs.flatMap g).length ≤ sizeLine) :
    ev cl gl b (.comp false t it cc el) s h = .ok (.lst (xs.flatMap g)) h1 := by
  show (evi cl gl b it s h).bind _ = _
  rw [hi]
  show (noExc (compN (turn cl gl b s t cc el) (nxC n) (cellLen h1 n) 0 h1)).bind _ = _
  have e : cellLen h1 n = xs.length := by
    unfold cellLen
    rw [hn]
    exact List.length_map _
  rw [e, compN_cel hn H _ _ (by omega), List.drop_zero]
  show (if decide ((xs.flatMap g).length ≤ sizeLine) = true then newL false (xs.flatMap g) h1 else .no) = _
  rw [if_pos (decide_eq_true hl)]
  rfl
theorem evi_one {e : E} {d : Dt} {w : Wk} {h1 : Hq} (he : ev cl gl b e s h = .ok d h1) (hw : walkD h1 d = some w) : evi cl gl b (.one e) s h = .ok w h1 := by
  show (ev cl gl b e s h).bind _ = _
  rw [he]
  show Res.opt h1 (walkD h1 d) = _
  rw [hw]; rfl
theorem evi_rng {es : E} {ds l : List Dt} {h1 : Hq} (he : evs cl gl b es s h = .ok ds h1) (hb : rngD ds = some l) : evi cl gl b (.rng es) s h = .ok (.its l) h1 := by
  show (evs cl gl b es s h).bind _ = _
  rw [he]
  show (Res.opt h1 (rngD ds)).bind _ = _
  rw [hb]
  rfl
theorem evs_cons {e es : E} {d : Dt} {ds : List Dt} {h1 h2 : Hq} (he : ev cl gl b e s h = .ok d h1) (hs : evs cl gl b es s h1 = .ok ds h2) : evs cl gl b (.cons e es) s h = .ok (d :: ds) h2 := by
  show (ev cl gl b e s h).bind _ = _
  rw [he]
  show (evs cl gl b es s h1).bind _ = _
  rw [hs]; rfl
theorem evs_nil : evs cl gl b .nil s h = .ok [] h := rfl
theorem ev_call {f : Nat} {es : E} {ds : List Dt} {h1 : Hq} (hs : evs cl gl b es s h = .ok ds h1) : ev cl gl b (.call f es) s h = cl f b ds h1 := by
  show (evs cl gl b es s h).bind _ = _
  rw [hs]; rfl
theorem ev_tup {es : E} {ds : List Dt} {h1 : Hq} (hs : evs cl gl b es s h = .ok ds h1) (hl : ds.length ≤ 10000) : ev cl gl b (.tup es) s h = .ok (.tup ds) h1 := by
  show (evs cl gl b es s h).bind _ = _
  rw [hs]
  show (if decide (ds.length ≤ sizeLine) = true then _ else _) = _
  rw [if_pos (decide_eq_true (by rw [sizeLine_eq]; omega))]
theorem ev_lst {es : E} {ds : List Dt} {h1 : Hq} (hs : evs cl gl b es s h = .ok ds h1) (hl : ds.length ≤ 10000) : ev cl gl b (.lst false es) s h = .ok (.lst ds) h1 := by
  show (evs cl gl b es s h).bind _ = _
  rw [hs]
  show (if decide (ds.length ≤ sizeLine) = true then _ else _) = _
  rw [if_pos (decide_eq_true (by rw [sizeLine_eq]; omega))]
  rfl
theorem ev_bf {f : Bf} {es : E} {ds : List Dt} {r : Dt} {h1 : Hq} (hs : evs cl gl b es s h = .ok ds h1) (hr : bfD f (ds.map (vw h1)) = some r) : ev cl gl b (.bf f es) s h = .ok r h1 := by
  show (evs cl gl b es s h).bind _ = _
  rw [hs]
  show Res.opt h1 (bfD f (ds.map (vw h1))) = _
  rw [hr]; rfl
theorem ev_ix {x y : E} {d e r : Dt} {h1 h2 : Hq} (hx : ev cl gl b x s h = .ok d h1) (hy : ev cl gl b y s h1 = .ok e h2) (hr : ixD (vw h2 d) e = some r) : ev cl gl b (.ix x y) s h = .ok r h2 := by
  show (ev cl gl b x s h).bind _ = _
  rw [hx]
  show (ev cl gl b y s h1).bind _ = _
  rw [hy]
  show Res.opt h2 (ixD (vw h2 d) e) = _
  rw [hr]; rfl
theorem ev_bin {op : Operator} {x y : E} {d e r : Dt} {h1 h2 : Hq} (hx : ev cl gl b x s h = .ok d h1) (hy : ev cl gl b y s h1 = .ok e h2) (hr : binD op (vw h2 d) (vw h2 e) = some r) : ev cl gl b (.bin op x y) s h = .ok r h2 := by
  show (ev cl gl b x s h).bind _ = _
  rw [hx]
  show (ev cl gl b y s h1).bind _ = _
  rw [hy]
  show Res.opt h2 (binD op (vw h2 d) (vw h2 e)) = _
  rw [hr]; rfl
theorem ev_cmp {op : CmpOp} {x y : E} {d e : Dt} {r : Bool} {h1 h2 : Hq} (hx : ev cl gl b x s h = .ok d h1) (hy : ev cl gl b y s h1 = .ok e h2) (hr : cmpD op (vw h2 d) (vw h2 e) = some r) : ev cl gl b (.cmp op x y) s h = .ok (.bl r) h2 := by
  show (ev cl gl b x s h).bind _ = _
  rw [hx]
  show (ev cl gl b y s h1).bind _ = _
  rw [hy]
  show (Res.opt h2 (cmpD op (vw h2 d) (vw h2 e))).bind _ = _
  rw [hr]; rfl
theorem ev_nt {x : E} {c : Bool} {h1 : Hq} (hx : ev cl gl b x s h = .ok (.bl c) h1) : ev cl gl b (.nt x) s h = .ok (.bl (!c)) h1 := by
  show (asB (ev cl gl b x s h)).bind _ = _
  rw [hx]; rfl
theorem ev_and {x y : E} {c : Bool} {h1 : Hq} (hx : ev cl gl b x s h = .ok (.bl c) h1) : ev cl gl b (.and x y) s h = if c then ev cl gl b y s h1 else .ok (.bl false) h1 := by
  show (asB (ev cl gl b x s h)).bind _ = _
  rw [hx]; rfl
theorem ev_or {x y : E} {c : Bool} {h1 : Hq} (hx : ev cl gl b x s h = .ok (.bl c) h1) : ev cl gl b (.or x y) s h = if c then .ok (.bl true) h1 else ev cl gl b y s h1 := by
  show (asB (ev cl gl b x s h)).bind _ = _
  rw [hx]; rfl
theorem ev_ife {c x y : E} {k : Bool} {h1 : Hq} (hx : ev cl gl b c s h = .ok (.bl k) h1) : ev cl gl b (.ife c x y) s h = if k then ev cl gl b x s h1 else ev cl gl b y s h1 := by
  show (asB (ev cl gl b c s h)).bind _ = _
  rw [hx]; rfl
theorem ev_append {o x : E} {n : Nat} {d : Dt} {ds0 ds : List Dt} {h1 h2 : Hq} (ho : ev cl gl b o s h = .ok (.ref n) h1) (h0 : h1[n]? = some (.lst ds0)) (hx : ev cl gl b x s h1 = .ok d h2) (hn : h2[n]? = some (.lst ds)) (hl : ds.length ≤ 100000) (hs : stOk b n d = true) :
    ev cl gl b (.append o x) s h = .ok .non (h2.set n (.lst (ds ++ [d]))) := by
  show (ev cl gl b o s h).bind _ = _
  rw [ho]
  show (Res.opt h1 (lcell h1 (.ref n))).bind _ = _
  have : lcell h1 (.ref n) = some n := by
    show (match h1[n]? with | some (.lst _) => some n | _ => none) = some n
    rw [h0]
  rw [this]
  show (ev cl gl b x s h1).bind _ = _
  rw [hx]
  show (match h2[n]? with
      | some (.lst ds) => if decide (ds.length < sizeLine) && stOk b n d then Res.ok Dt.non (h2.set n (.lst (ds ++ [d]))) else .no
      | _ => .no) = _
  rw [hn]
  show (if (decide (ds.length < sizeLine) && stOk b n d) = true then _ else _) = _
  rw [hs, decide_eq_true (by rw [sizeLine_eq]; omega)]
  rfl
theorem evs_one {e : E} {d : Dt} {h1 : Hq} (he : ev cl gl b e s h = .ok d h1) : evs cl gl b (.cons e .nil) s h = .ok [d] h1 := by
  show (ev cl gl b e s h).bind _ = _
  rw [he]
  rfl
theorem evi_rng1 {e : E} {n : Nat} {h1 : Hq} (he : ev cl gl b e s h = .ok (iN n) h1) (hb : n < 4611686018427387904) : evi cl gl b (.rng (.cons e .nil)) s h = .ok (.its ((List.range n).map iN)) h1 :=
  evi_rng (evs_one he) (rng1 hb)
/-- the loop over items whose turns go on -/
theorem forL_nx {f : Dt → En → Hq → Rs} (I : List Dt → En → Hq → Prop) : ∀ {ds : List Dt} {s : En} {h : Hq}, I ds s h → (∀ d ds s h, I (d :: ds) s h → ∃ s' h', f d s h = .nx s' h' ∧ I ds s' h') → ∃ s' h', forL f ds s h = .nx s' h' ∧ I [] s' h'
  | [], s, h, i, _ => ⟨s, h, rfl, i⟩
  | d :: ds, s, h, i, step => by
    obtain ⟨s', h', e, i'⟩ := step d ds s h i
    obtain ⟨s2, h2, e2, i2⟩ := forL_nx I i' step
    refine ⟨s2, h2, ?_, i2⟩
    show (match f d s h with
      | .nx σ' h' => forL f ds σ' h'
      | .ct σ' h' => forL f ds σ' h'
      | .bk σ' h' => .nx σ' h'
      | r => r) = _
    rw [e]
    exact e2
end

/-! ### facts of values -/
theorem bools_map {α : Type} {p : α → Bool} : ∀ xs : List α, boolsOf (xs.map fun x => .bl (p x)) = some (xs.map p)
  | [] => rfl
  | x :: xs => by
    show (boolsOf (xs.map fun x => .bl (p x))).map _ = _
    rw [bools_map xs]; rfl
theorem all_map {α : Type} {p : α → Bool} (xs : List α) : bfD .all [.lst (xs.map fun x => .bl (p x))] = some (.bl (xs.all p)) := by
  show ((boolsOf (xs.map fun x => .bl (p x))).map fun bs => Dt.bl (bs.all id)) = _
  rw [bools_map]
  show some (Dt.bl ((xs.map p).all id)) = _
  rw [List.all_map]; rfl
theorem any_map {α : Type} {p : α → Bool} (xs : List α) : bfD .any [.lst (xs.map fun x => .bl (p x))] = some (.bl (xs.any p)) := by
  show ((boolsOf (xs.map fun x => .bl (p x))).map fun bs => Dt.bl (bs.any id)) = _
  rw [bools_map]
  show some (Dt.bl ((xs.map p).any id)) = _
  rw [List.any_map]; rfl
theorem flat_iN (xs : List Nat) : (xs.map iN).all flatD = true := by
  rw [List.all_map, List.all_eq_true]
  intro x _; rfl
theorem in_tN (i : Nat) (r : List Nat) : cmpD .In (iN i) (tN r) = some (decide (i ∈ r)) := by
  show inSeq (iN i) (r.map iN) = _
  unfold inSeq
  rw [flat_iN]
  show some ((r.map iN).any fun y => eqF y (iN i)) = _
  congr 1
  rw [List.any_map]
  induction r with
  | nil => rfl
  | cons x r ih =>
    rw [List.any_cons, ih]
    have : eqF (iN x) (iN i) = decide (x = i) := by
      show ((x : Int) == (i : Int)) = _
      by_cases e : x = i
      · subst e; simp
      · rw [decide_eq_false e]; simp; omega
    show (eqF (iN x) (iN i) || decide (i ∈ r)) = decide (i ∈ x :: r)
    rw [this]
    by_cases e : x = i
    · subst e; simp
    · have e2 : ¬ i = x := fun z => e z.symm
      simp [e, e2]
theorem plain_iN (n k : Nat) : plainN k (iN n) = true := by cases k <;> rfl
theorem plain_tN (r : List Nat) (k : Nat) : plainN (k + 1) (tN r) = true := by
  show (r.map iN).all (plainN k) = true
  rw [List.all_map, List.all_eq_true]
  intro x _
  exact plain_iN x k
theorem py_tN (r : List Nat) : py (tN r) = .tuple (r.map fun (n : Nat) => .int (n : Int)) := by
  show PyData.tuple (pys (r.map iN)) = _
  rw [pys_map, List.map_map]; rfl
theorem eqv_ints : ∀ a b : List Nat, PyData.eqvAll (a.map fun (n : Nat) => .int (n : Int)) (b.map fun (n : Nat) => .int (n : Int)) = decide (a = b)
  | [], [] => rfl
  | [], _ :: _ => by rw [List.map_nil, List.map_cons, PyData.eqvAll, decide_eq_false (by intro z; cases z)]
  | _ :: _, [] => by rw [List.map_nil, List.map_cons, PyData.eqvAll, decide_eq_false (by intro z; cases z)]
  | x :: a, y :: b => by
    rw [List.map_cons, List.map_cons, PyData.eqvAll, eqv_ints a b]
    show (((x : Int) == (y : Int)) && decide (a = b)) = _
    by_cases e : x = y
    · subst e; simp
    · have : ((x : Int) == (y : Int)) = false := by rw [beq_eq_false_iff_ne]; omega
      rw [this, Bool.false_and, decide_eq_false (by intro z; cases z; exact e rfl)]
theorem eqD_tN (a b : List Nat) : eqD (tN a) (tN b) = some (decide (a = b)) := by
  unfold eqD
  have h1 : plain (tN a) = true := plain_tN a 63
  have h2 : plain (tN b) = true := plain_tN b 63
  rw [h1, h2, py_tN, py_tN]
  show some (PyData.eqvAll _ _) = _
  rw [eqv_ints]
theorem eqD_iN (a b : Nat) : eqD (iN a) (iN b) = some (decide (a = b)) := by
  show eqD (.int a) (.int b) = _
  rw [eqD_int]
  congr 1
  by_cases e : a = b
  · subst e; simp
  · rw [decide_eq_false e, decide_eq_false (by omega)]
theorem add_tN {a b : List Nat} (h : a.length + b.length ≤ sizeLine) : binD .Add (tN a) (tN b) = some (tN (a ++ b)) := by
  show (if decide ((a.map iN).length + (b.map iN).length ≤ sizeLine) = true then some (Dt.tup (a.map iN ++ b.map iN)) else none) = _
  rw [List.length_map, List.length_map, if_pos (decide_eq_true h), ← List.map_append]
  rfl
theorem ix_last {xs : List Nat} {x : Nat} : ixD (tN (xs ++ [x])) (.int (-1)) = some (iN x) := by
  show atI ((xs ++ [x]).map iN) (-1) = _
  have hl : ((xs ++ [x]).map iN).length = xs.length + 1 := by simp
  unfold atI ixN
  rw [hl, if_neg (by decide), if_pos (by omega)]
  show ((xs ++ [x]).map iN)[((-1 : Int) + ((xs.length + 1 : Nat) : Int)).toNat]? = _
  rw [show ((-1 : Int) + ((xs.length + 1 : Nat) : Int)).toNat = xs.length by omega, List.getElem?_map]
  simp
theorem len_tN (a : List Nat) : bfD .len [tN a] = some (iN a.length) := by
  show some (Dt.int ((a.map iN).length : Nat)) = _
  rw [List.length_map]; rfl
end Vm

/-! Helpers for a law's plain part, 3: the comparison of a law, of a thing with itself. Own text. -/
namespace Vm
open PySem L2

def sameB (f : Nat) : S := (.seq (.ife (.isin [.tuple] (.v 1)) (.seq (.ife (.or (.nt (.isin [.tuple] (.v 0))) (.one (.cmp .NotEq (.bf .len (.cons (.v 0) .nil)) (.bf .len (.cons (.v 1) .nil))))) (.seq (.ret (.lit (.bl false))) .nil) .nil) (.seq (.forS (.nm 2) (.rng (.cons (.bf .len (.cons (.v 1) .nil)) .nil)) (.seq (.ife (.nt (.call f (.cons (.ix (.v 0) (.v 2)) (.cons (.ix (.v 1) (.v 2)) .nil)))) (.seq (.ret (.lit (.bl false))) .nil) .nil) .nil)) (.seq (.ret (.lit (.bl true))) .nil))) .nil) (.seq (.ife (.isin [.list] (.v 1)) (.seq (.ret (.and (.isin [.list] (.v 0)) (.one (.call f (.cons (.bf .tuple (.cons (.v 0) .nil)) (.cons (.bf .tuple (.cons (.v 1) .nil)) .nil)))))) .nil) .nil) (.seq (.ife (.isin [.str] (.v 1)) (.seq (.ret (.and (.isin [.str] (.v 0)) (.one (.cmp .Eq (.v 0) (.v 1))))) .nil) .nil) (.seq (.ife (.cmp .Is (.v 1) (.lit (.non))) (.seq (.ret (.cmp .Is (.v 0) (.lit (.non)))) .nil) .nil) (.seq (.ife (.or (.isin [.bool] (.v 1)) (.one (.isin [.bool] (.v 0)))) (.seq (.ret (.and (.isin [.bool] (.v 1)) (.and (.isin [.bool] (.v 0)) (.one (.cmp .Eq (.v 0) (.v 1)))))) .nil) .nil) (.seq (.ret (.and (.isin [.int] (.v 0)) (.one (.cmp .Eq (.v 0) (.v 1))))) .nil))))))
/-- what a law may compare: of depth at most n -/
def smN : Nat → Dt → Bool
  | _, .non => true
  | _, .bl _ => true
  | _, .int _ => true
  | _, .str x => PyData.canLay0 (.str x)
  | n + 1, .tup ds => decide (ds.length ≤ 100000) && ds.all (smN n)
  | n + 1, .lst ds => decide (ds.length ≤ 100000) && ds.all (smN n)
  | n + 1, .frl ds => decide (ds.length ≤ 100000) && ds.all (smN n)
  | _, _ => false
theorem eqD_bl (a b : Bool) : eqD (.bl a) (.bl b) = some (a == b) := rfl
theorem eqD_str (x : Str) (h : PyData.canLay0 (.str x) = true) : eqD (.str x) (.str x) = some true := by
  unfold eqD
  have : plain (.str x) = true := h
  rw [this]
  show some (x == x) = _
  rw [beq_self_eq_true]
section
variable {T : Tb} {f : Nat}
theorem same_tup (hf : T.fn f = some ⟨2, 3, false, sameB f⟩) {k b : Nat} {ds : List Dt} {h : Hq} (hl : ds.length ≤ 100000) (H : ∀ d ∈ ds, callK T k f b [d, d] h = .ok (.bl true) h) : callK T (k + 1) f b [.tup ds, .tup ds] h = .ok (.bl true) h := by
  rw [callK_in hf rfl rfl]
  have e : exS (callK T k) T.gl T.sub b (sameB f) [some (.tup ds), some (.tup ds), none] h = .rt (.bl true) h := by
    refine x_seq_rt ?_
    refine (x_if_t (h' := h) rfl).trans ?_
    refine (x_seq_nx (s' := [some (.tup ds), some (.tup ds), none]) (h' := h) ?_).trans ?_
    · refine (x_if_f (h' := h) ?_).trans rfl
      show ((Res.opt h ((eqD (.int (ds.length : Nat)) (.int (ds.length : Nat))).map (!·))).bind fun c h3 => Res.ok (Dt.bl c) h3) = _
      rw [eqD_int, decide_eq_true rfl]
      rfl
    have key := forL_nx (f := fun d σ hh => match (Tg.nm 2).set d σ with
      | none => .no
      | some σ' => exS (callK T k) T.gl T.sub b (.seq (.ife (.nt (.call f (.cons (.ix (.v 0) (.v 2)) (.cons (.ix (.v 1) (.v 2)) .nil)))) (.seq (.ret (.lit (.bl false))) .nil) .nil) .nil) σ' hh)
      (fun l s hh => hh = h ∧ (∀ x ∈ l, ∃ i, x = iN i ∧ i < ds.length) ∧ ∃ x2, s = [some (.tup ds), some (.tup ds), x2]) (ds := (List.range ds.length).map iN) (s := [some (.tup ds), some (.tup ds), none]) (h := h)
      ⟨rfl, fun x hx => by
        obtain ⟨i, hi, rfl⟩ := List.mem_map.mp hx
        exact ⟨i, rfl, List.mem_range.mp hi⟩, none, rfl⟩
      (fun d l s hh ⟨eh, hl, x2, es⟩ => by
        subst eh es
        obtain ⟨i, rfl, hi⟩ := hl d List.mem_cons_self
        refine ⟨[some (.tup ds), some (.tup ds), some (iN i)], hh, ?_, rfl, fun x hx => hl x (List.mem_cons_of_mem _ hx), some (iN i), rfl⟩
        refine (x_seq_nx (s' := [some (.tup ds), some (.tup ds), some (iN i)]) (h' := hh) ?_).trans rfl
        refine (x_if_f (h' := hh) ?_).trans rfl
        have hix : ixD (.tup ds) (iN i) = some ds[i] := by
          show atI ds (i : Int) = _
          unfold atI ixN
          rw [if_pos (by omega), if_pos (by omega)]
          show ds[((i : Int)).toNat]? = _
          rw [Int.toNat_natCast, List.getElem?_eq_getElem hi]
        show (asB ((((Res.opt hh (ixD (.tup ds) (iN i))).bind fun d h1 => ((Res.opt h1 (ixD (.tup ds) (iN i))).bind fun d h1 => Res.ok [d] h1).bind fun ds h2 => Res.ok (d :: ds) h2)).bind fun ds h1 => callK T k f b ds h1)).bind (fun c h1 => Res.ok (Dt.bl (!c)) h1) = _
        rw [hix]
        show (asB (callK T k f b [ds[i], ds[i]] hh)).bind _ = _
        rw [H _ (List.getElem_mem hi)]
        rfl)
    obtain ⟨s', h', e1, eh, _, x2, es⟩ := key
    subst eh es
    refine (x_seq_nx (s' := [some (.tup ds), some (.tup ds), x2]) (h' := h') ?_).trans rfl
    rw [x_for (w := .its ((List.range ds.length).map iN)) (h' := h') (evi_rng1 rfl (by omega))]
    exact e1
  show finK (exS (callK T k) T.gl T.sub b (sameB f) [some (.tup ds), some (.tup ds), none] h) = _
  rw [e]; rfl
theorem same_lst (hf : T.fn f = some ⟨2, 3, false, sameB f⟩) {k b : Nat} {d e : Dt} {ds : List Dt} {h : Hq} (hd : vw h d = .lst ds ∨ vw h d = .frl ds) (he : vw h e = .lst ds ∨ vw h e = .frl ds) (H : callK T k f b [.tup ds, .tup ds] h = .ok (.bl true) h) : callK T (k + 1) f b [d, e] h = .ok (.bl true) h := by
  rw [callK_in hf rfl rfl]
  have i1 : ∀ (t : Ty) (x : Dt), (vw h x = .lst ds ∨ vw h x = .frl ds) → (match vw h x with
      | .dic _ _ => Res.no
      | .ins _ _ _ => .no
      | .ref _ => .no
      | d => Res.ok (Dt.bl ([t].any (isTy d))) h) = Res.ok (Dt.bl (isTy (.lst ds) t)) h := fun t x hx => by
    rcases hx with q | q <;> rw [q] <;> cases t <;> rfl
  have e' : exS (callK T k) T.gl T.sub b (sameB f) [some d, some e, none] h = .rt (.bl true) h := by
    refine (x_seq_nx (s' := [some d, some e, none]) (h' := h) ?_).trans ?_
    · refine (x_if_f (h' := h) ?_).trans rfl
      exact i1 .tuple e he
    refine x_seq_rt ?_
    refine (x_if_t (h' := h) ?_).trans (x_seq_rt (x_ret ?_))
    · exact i1 .list e he
    have ht : ∀ x, (vw h x = .lst ds ∨ vw h x = .frl ds) → bfD .tuple [vw h x] = some (.tup ds) := fun x hx => by rcases hx with q | q <;> rw [q] <;> rfl
    show (asB (match vw h d with
      | .dic _ _ => Res.no
      | .ins _ _ _ => .no
      | .ref _ => .no
      | d => Res.ok (Dt.bl ([Ty.list].any (isTy d))) h)).bind _ = _
    rw [i1 .list d hd]
    show (((Res.opt h (bfD .tuple [vw h d])).bind fun d1 h1 => ((Res.opt h1 (bfD .tuple [vw h1 e])).bind fun d h1 => Res.ok [d] h1).bind fun ds h2 => Res.ok (d1 :: ds) h2)).bind (fun ds h1 => callK T k f b ds h1) = _
    rw [ht d hd]
    show (((Res.opt h (bfD .tuple [vw h e])).bind fun d h1 => Res.ok [d] h1).bind fun l h2 => Res.ok (Dt.tup ds :: l) h2).bind (fun ds h1 => callK T k f b ds h1) = _
    rw [ht e he]
    exact H
  show finK (exS (callK T k) T.gl T.sub b (sameB f) [some d, some e, none] h) = _
  rw [e']; rfl
theorem same_atom (hf : T.fn f = some ⟨2, 3, false, sameB f⟩) {k b : Nat} {d : Dt} {h : Hq} (hd : smN 0 d = true) : callK T (k + 1) f b [d, d] h = .ok (.bl true) h := by
  rw [callK_in hf rfl rfl]
  have e : exS (callK T k) T.gl T.sub b (sameB f) [some d, some d, none] h = .rt (.bl true) h := by
    cases d with
    | non => rfl
    | bl c => cases c <;> rfl
    | int i =>
      refine (x_seq_nx ((x_if_f (h' := h) rfl).trans rfl)).trans ((x_seq_nx ((x_if_f (h' := h) rfl).trans rfl)).trans ((x_seq_nx ((x_if_f (h' := h) rfl).trans rfl)).trans ((x_seq_nx ((x_if_f (h' := h) rfl).trans rfl)).trans ((x_seq_nx ((x_if_f (h' := h) rfl).trans rfl)).trans (x_seq_rt (x_ret ?_))))))
      show ((Res.opt h (eqD (.int i) (.int i))).bind fun c h3 => Res.ok (Dt.bl c) h3) = _
      rw [eqD_int, decide_eq_true rfl]
      rfl
    | str x =>
      refine (x_seq_nx ((x_if_f (h' := h) rfl).trans rfl)).trans ((x_seq_nx ((x_if_f (h' := h) rfl).trans rfl)).trans (x_seq_rt ((x_if_t (h' := h) rfl).trans (x_seq_rt (x_ret ?_)))))
      show ((Res.opt h (eqD (.str x) (.str x))).bind fun c h3 => Res.ok (Dt.bl c) h3) = _
      rw [eqD_str x hd]
      rfl
    | _ => cases hd
  show finK (exS (callK T k) T.gl T.sub b (sameB f) [some d, some d, none] h) = _
  rw [e]; rfl
theorem same_refl (hf : T.fn f = some ⟨2, 3, false, sameB f⟩) : ∀ (n : Nat) (d : Dt) (k b : Nat) (h : Hq), smN n d = true → callK T (k + 2 * n + 1) f b [d, d] h = .ok (.bl true) h
  | n, .non, k, b, h, _ => same_atom hf rfl
  | n, .bl _, k, b, h, _ => same_atom hf rfl
  | n, .int _, k, b, h, _ => same_atom hf rfl
  | n, .str x, k, b, h, hd => same_atom hf (by cases n <;> exact hd)
  | n + 1, .tup ds, k, b, h, hd => by
    obtain ⟨h1, h2⟩ := and2 (show (decide (ds.length ≤ 100000) && ds.all (smN n)) = true from hd)
    refine same_tup hf (of_decide_eq_true h1) fun d hm => ?_
    have := same_refl hf n d (k + 1) b h (List.all_eq_true.mp h2 d hm)
    rw [show k + 2 * (n + 1) = k + 1 + 2 * n + 1 by omega]
    exact this
  | n + 1, .lst ds, k, b, h, hd => by
    obtain ⟨h1, h2⟩ := and2 (show (decide (ds.length ≤ 100000) && ds.all (smN n)) = true from hd)
    refine same_lst hf (ds := ds) (.inl rfl) (.inl rfl) ?_
    rw [show k + 2 * (n + 1) = (k + 2 * n + 1) + 1 by omega]
    exact same_tup hf (of_decide_eq_true h1) fun d hm => same_refl hf n d k b h (List.all_eq_true.mp h2 d hm)
  | n + 1, .frl ds, k, b, h, hd => by
    obtain ⟨h1, h2⟩ := and2 (show (decide (ds.length ≤ 100000) && ds.all (smN n)) = true from hd)
    refine same_lst hf (ds := ds) (.inr rfl) (.inr rfl) ?_
    rw [show k + 2 * (n + 1) = (k + 2 * n + 1) + 1 by omega]
    exact same_tup hf (of_decide_eq_true h1) fun d hm => same_refl hf n d k b h (List.all_eq_true.mp h2 d hm)
  | 0, .tup ds, k, b, h, hd => by simp [smN] at hd
  | 0, .lst ds, k, b, h, hd => by simp [smN] at hd
  | 0, .frl ds, k, b, h, hd => by simp [smN] at hd
  | n, .dic _ _, k, b, h, hd => by cases n <;> simp [smN] at hd
  | n, .ins _ _ _, k, b, h, hd => by cases n <;> simp [smN] at hd
  | n, .ref _, k, b, h, hd => by cases n <;> simp [smN] at hd
end

/-! ### the draws as calls -/
def drawsB : S := (.seq (.ret (.lst true (.cons (.listOf false (.v 0)) (.cons (.lit (.int 0)) (.cons (.lit (.int 0)) (.cons (.lit (.int 1)) .nil)))))) .nil)
theorem draws_run {T : Tb} {f k b : Nat} {ns : List Int} {h : Hq} (hf : T.fn f = some ⟨1, 1, false, drawsB⟩) : callK T (k + 1) f b [.frl (ns.map .int)] h = .ok (.ref h.length) (h ++ [DrawSt ns 0 0 1]) := by
  rw [callK_in hf rfl rfl]
  rfl
theorem draw_call {T : Tb} {f k b n : Nat} {ns : List Int} {h : Hq} {c : Cell} {lim : Int} (hf : T.fn f = some ⟨2, 4, false, drawB⟩) (hn : h[n]? = some c) (hc : IsDraw ns c) (h0 : 0 < lim) (h1 : lim < 1073741824) :
    ∃ (v : Nat) (c' : Cell), IsDraw ns c' ∧ (v : Int) < lim ∧ callK T (k + 1) f b [.ref n, .int lim] h = .ok (iN v) (h.set n c') := by
  obtain ⟨i, r, s, hi, rfl⟩ := hc
  obtain ⟨v, c', d, v0, v1, e⟩ := draw_run (cl := callK T k) (gl := T.gl) (sub := T.sub) (b := b) hn hi h0 h1
  refine ⟨v.toNat, c', d, by omega, ?_⟩
  rw [callK_in hf rfl rfl]
  show finK (exS (callK T k) T.gl T.sub b drawB [some (.ref n), some (.int lim), none, none] h) = _
  rw [e]
  show Res.ok (Dt.int v) _ = Res.ok (Dt.int (v.toNat : Int)) _
  rw [Int.toNat_of_nonneg v0]
end Vm

/-! Helpers for a law's plain part, 4: zip, enumerate, loops over the list at a cell, data that may lack. Own text. -/
namespace Vm
open PySem L2
section
variable {cl : Nat → Nat → List Dt → Hq → Res Dt} {gl : List Dt} {sub : Nat → Nat → Option Bool} {b : Nat} {s : En} {h : Hq}
theorem evi_zip {x y : E} {d e : Dt} {ds es : List Dt} {h1 h2 : Hq} (hx : ev cl gl b x s h = .ok d h1) (hy : ev cl gl b y s h1 = .ok e h2) (hd : sqOf d = some ds) (he : sqOf e = some es) : evi cl gl b (.zip x y) s h = .ok (.its (zipD ds es)) h2 := by
  show (ev cl gl b x s h).bind _ = _
  rw [hx]
  show (ev cl gl b y s h1).bind _ = _
  rw [hy]
  show (match sqOf d, sqOf e with
    | some ds, some es => Res.ok (Wk.its (zipD ds es)) h2
    | _, _ => .no) = _
  rw [hd, he]
theorem evi_enum {x : E} {d : Dt} {ds : List Dt} {h1 : Hq} (hx : ev cl gl b x s h = .ok d h1) (hd : sqOf d = some ds) : evi cl gl b (.enum x) s h = .ok (.its (enumD 0 ds)) h1 := by
  show (ev cl gl b x s h).bind _ = _
  rw [hx]
  show (match sqOf d with
    | some ds => Res.ok (Wk.its (enumD 0 ds)) h1
    | none => .no) = _
  rw [hd]
theorem zipD_map {α β : Type} {f : α → Dt} {g : β → Dt} : ∀ {xs : List α} {ys : List β}, zipD (xs.map f) (ys.map g) = (xs.zip ys).map fun p => .tup [f p.1, g p.2]
  | [], _ => by simp [zipD]
  | _ :: _, [] => by simp [zipD]
  | x :: xs, y :: ys => by
    show .tup [f x, g y] :: zipD (xs.map f) (ys.map g) = _
    rw [zipD_map (xs := xs) (ys := ys)]; rfl
/-- a loop over the list at a cell, whose turns leave that list -/
theorem forN_nx {f : Dt → En → Hq → Rs} {n : Nat} {ds : List Dt} (I : List Dt → En → Hq → Prop) (hc : ∀ l s h, I l s h → h[n]? = some (.lst ds)) (step : ∀ d l s h, I (d :: l) s h → ∃ s' h', f d s h = .nx s' h' ∧ I l s' h') :
    ∀ (m i : Nat) (s : En) (h : Hq), ds.length ≤ i + m → I (ds.drop i) s h → ∃ s' h', forN f (nxC n) m i s h = .nx s' h' ∧ I [] s' h'
  | m, i, s, h, hm, h0 => by
    by_cases hi : i < ds.length
    · cases m with
      | zero => omega
      | succ m =>
        have e : nxC n h i = some (some ds[i]) := by
          unfold nxC
          rw [hc _ _ _ h0]
          show some ds[i]? = _
          rw [List.getElem?_eq_getElem hi]
        rw [List.drop_eq_getElem_cons hi] at h0
        obtain ⟨s1, h1, e1, i1⟩ := step _ _ _ _ h0
        obtain ⟨s2, h2, e2, i2⟩ := forN_nx I hc step m (i + 1) s1 h1 (by omega) i1
        refine ⟨s2, h2, ?_, i2⟩
        rw [forN_eq, e]
        show (match f ds[i] s h with
          | .nx σ' h' => forN f (nxC n) m (i + 1) σ' h'
          | .ct σ' h' => forN f (nxC n) m (i + 1) σ' h'
          | .bk σ' h' => .nx σ' h'
          | r => r) = _
        rw [e1]
        exact e2
    · have e : nxC n h i = some none := by
        unfold nxC
        rw [hc _ _ _ h0]
        show some ds[i]? = _
        rw [List.getElem?_eq_none (by omega)]
      refine ⟨s, h, ?_, by rw [List.drop_of_length_le (by omega)] at h0; exact h0⟩
      rw [forN_eq, e]
theorem forW_cel {f : Dt → En → Hq → Rs} {n : Nat} {ds : List Dt} (I : List Dt → En → Hq → Prop) (hc : ∀ l s h, I l s h → h[n]? = some (.lst ds)) (h0 : I ds s h) (step : ∀ d l s h, I (d :: l) s h → ∃ s' h', f d s h = .nx s' h' ∧ I l s' h') : ∃ s' h', forW f (.cel n) s h = .nx s' h' ∧ I [] s' h' := by
  have e : cellLen h n = ds.length := by
    unfold cellLen
    rw [hc _ _ _ h0]
  exact forN_nx I hc step (cellLen h n + 4096) 0 s h (by omega) h0
/-- the turn of a comprehension with a test -/
theorem turn_if {t : Tg} {c el : E} {d y : Dt} {k : Bool} {σ' : En} (ht : t.set d (wipeE s t.slots) = some σ') (hc : ev cl gl b c σ' h = .ok (.bl k) h) (he : k = true → ev cl gl b el σ' h = .ok y h) : turn cl gl b s t (.cons c .nil) el d h = .ok (if k then [y] else []) h := by
  show (match t.set d (wipeE s t.slots) with
  | none => Res.no
  | some σ' => (evc cl gl b (.cons c .nil) σ' h).bind fun ok h2 => if ok then (ev cl gl b el σ' h2).bind fun y h3 => .ok [y] h3 else .ok [] h2) = _
  rw [ht]
  show ((asB (ev cl gl b c σ' h)).bind _ : Res (List Dt)) = _
  rw [hc]
  cases k with
  | false => rfl
  | true =>
    show (ev cl gl b el σ' h).bind _ = _
    rw [he rfl]
    rfl
theorem turn_all {t : Tg} {el : E} {d y : Dt} {σ' : En} {h1 : Hq} (ht : t.set d (wipeE s t.slots) = some σ') (he : ev cl gl b el σ' h = .ok y h1) : turn cl gl b s t .nil el d h = .ok [y] h1 := by
  show (match t.set d (wipeE s t.slots) with
  | none => Res.no
  | some σ' => (evc cl gl b .nil σ' h).bind fun ok h2 => if ok then (ev cl gl b el σ' h2).bind fun y h3 => .ok [y] h3 else .ok [] h2) = _
  rw [ht]
  show (ev cl gl b el σ' h).bind _ = _
  rw [he]
  rfl
end
section
variable {cl : Nat → Nat → List Dt → Hq → Res Dt} {gl : List Dt} {sub : Nat → Nat → Option Bool} {b : Nat} {s : En} {h : Hq}
theorem x_setX {o k e : E} {d kd : Dt} {n : Nat} {h1 h2 h3 h4 : Hq} (he : ev cl gl b e s h = .ok d h1) (ho : ev cl gl b o s h1 = .ok (.ref n) h2) (hk : ev cl gl b k s h2 = .ok kd h3) (hs : storeX b (.ref n) kd d h3 = some h4) : exS cl gl sub b (.setX o k e) s h = .nx s h4 := by
  show Rs.of s (ev cl gl b e s h) _ = _
  rw [he]
  show Rs.of s (ev cl gl b o s h1) _ = _
  rw [ho]
  show Rs.of s (ev cl gl b k s h2) _ = _
  rw [hk]
  show Rs.opt s (storeX b (.ref n) kd d h3) = _
  rw [hs]
  rfl
theorem store_lst {n i : Nat} {d : Dt} {ds : List Dt} (hb : b ≤ n) (hn : h[n]? = some (.lst ds)) (hi : i < ds.length) : storeX b (.ref n) (iN i) d h = some (h.set n (.lst (ds.set i d))) := by
  show (if stOk b n d then (match h[n]? with
    | some (.lst ds) => (ixN ds.length (i : Int)).map fun j => h.set n (.lst (ds.set j d))
    | some (.dic ks vs) => _
    | _ => none) else none) = _
  rw [if_pos (by unfold stOk; rw [decide_eq_true hb]; rfl), hn]
  show (ixN ds.length (i : Int)).map (fun j => h.set n (.lst (ds.set j d))) = _
  unfold ixN
  rw [if_pos (by omega), if_pos (by omega)]
  rfl
end
theorem fzN_lst {k b n : Nat} {hh : Hq} {ds : List Dt} (hb : b ≤ n) (hn : hh[n]? = some (.lst ds)) : fzN (k + 1) b (.ref n) hh = (fzs (fzN k b) ds (hh.set n .dead)).map fun (q : List Dt × Hq) => (Dt.lst q.1, q.2) := by
  unfold fzN
  rw [if_neg (by simp [noRef])]
  show (if n < b then some (Dt.ref n, hh) else (match hh[n]? with
    | some (.lst ds) => (fzs (fzN k b) ds (hh.set n .dead)).map (fun (q : List Dt × Hq) => (Dt.lst q.1, q.2))
    | some (.dic ks ds) => (fzs (fzN k b) ds (hh.set n .dead)).map (fun (q : List Dt × Hq) => (Dt.dic ks q.1, q.2))
    | some (.ins c ns ds) => (fzs (fzN k b) ds (hh.set n .dead)).map (fun (q : List Dt × Hq) => (Dt.ins c ns q.1, q.2))
    | _ => none)) = _
  rw [if_neg (by omega), hn]
theorem eqD_nil : ∀ l : List Nat, eqD (.lst (l.map iN)) (.lst []) = some (decide (l = []))
  | [] => rfl
  | i :: l => by
    unfold eqD
    have h1 : plain (.lst ((i :: l).map iN)) = true := by
      show ((i :: l).map iN).all (plainN 63) = true
      rw [List.all_map, List.all_eq_true]
      intro x _
      exact plain_iN x 63
    rw [h1]
    rfl
/-! ### a place that may lack -/
def oD : Option Nat → Dt
  | none => .non
  | some n => iN n
def tQ (xs : List (Option Nat)) : Dt := .tup (xs.map oD)
theorem is_oD (x : Option Nat) : cmpD .Is (oD x) .non = some x.isNone := by cases x <;> rfl
theorem isn_oD (x : Option Nat) : cmpD .IsNot (oD x) .non = some x.isSome := by cases x <;> rfl
theorem vw_oD {h : Hq} (x : Option Nat) : vw h (oD x) = oD x := by cases x <;> rfl
theorem ix_tQ {r : List (Option Nat)} {k : Nat} (h : k < r.length) : ixD (tQ r) (iN k) = some (oD (r.getD k none)) := by
  show atI (r.map oD) (k : Int) = _
  unfold atI ixN
  rw [List.length_map, if_pos (by omega), if_pos (by omega)]
  show (r.map oD)[((k : Int)).toNat]? = _
  rw [Int.toNat_natCast, List.getElem?_map, List.getD_eq_getElem?_getD, List.getElem?_eq_getElem h]
  rfl
theorem ix_map {α : Type} {f : α → Dt} {r : List α} {k : Nat} {x : α} (h : r[k]? = some x) : ixD (.lst (r.map f)) (iN k) = some (f x) := by
  have hl := (List.getElem?_eq_some_iff.mp h).1
  show atI (r.map f) (k : Int) = _
  unfold atI ixN
  rw [List.length_map, if_pos (by omega), if_pos (by omega)]
  show (r.map f)[((k : Int)).toNat]? = _
  rw [Int.toNat_natCast, List.getElem?_map, h]
  rfl
theorem len_lst {α : Type} {f : α → Dt} {r : List α} : bfD .len [.lst (r.map f)] = some (iN r.length) := by
  show some (Dt.int ((r.map f).length : Nat)) = _
  rw [List.length_map]; rfl
theorem len_tQ (a : List (Option Nat)) : bfD .len [tQ a] = some (iN a.length) := by
  show some (Dt.int ((a.map oD).length : Nat)) = _
  rw [List.length_map]; rfl
theorem filt {α : Type} {f : α → Dt} {p : α → Bool} : ∀ {xs : List α}, (xs.flatMap fun x => if p x then [f x] else []) = (xs.filter p).map f
  | [] => rfl
  | x :: xs => by
    rw [List.flatMap_cons, filt (xs := xs), List.filter_cons]
    cases p x <;> rfl
/-! ### a thing is equal to itself -/
mutual
theorem lay_plain : ∀ (n : Nat) (d : Dt), plainN n d = true → PyData.canLay0 (py d) = true
  | _, .non, _ => rfl
  | _, .bl _, _ => rfl
  | _, .int _, _ => rfl
  | n, .str x, h => by cases n <;> exact h
  | n + 1, .tup ds, h => lays_plain n ds h
  | n + 1, .lst ds, h => lays_plain n ds h
  | n + 1, .frl ds, h => lays_plain n ds h
  | 0, .tup _, h => by simp [plainN] at h
  | 0, .lst _, h => by simp [plainN] at h
  | 0, .frl _, h => by simp [plainN] at h
  | n, .dic _ _, h => by cases n <;> simp [plainN] at h
  | n, .ins _ _ _, h => by cases n <;> simp [plainN] at h
  | n, .ref _, h => by cases n <;> simp [plainN] at h
theorem lays_plain : ∀ (n : Nat) (ds : List Dt), ds.all (plainN n) = true → PyData.canLayAll0 (pys ds) = true
  | _, [], _ => rfl
  | n, d :: ds, h => by
    rw [List.all_cons] at h
    obtain ⟨h1, h2⟩ := and2 h
    show (PyData.canLay0 (py d) && PyData.canLayAll0 (pys ds)) = true
    rw [lay_plain n d h1, lays_plain n ds h2]; rfl
end
theorem eqD_refl {d : Dt} (h : plain d = true) : eqD d d = some true := by
  unfold eqD
  rw [h]
  show some (PyData.eqv (py d) (py d)) = _
  rw [PySem.SeqAt.eqv_refl _ (lay_plain 64 d h)]
end Vm

/-! Helpers for a law's plain part, 5: comprehensions that draw. Own text. -/
namespace Vm
open PySem L2
/-- a comprehension whose turns each give one item and keep P of the heap -/
theorem compL_ex {β : Type} {g : β → Dt} {R : β → Prop} {f : Dt → Hq → Res (List Dt)} {P : Hq → Prop} : ∀ {ds : List Dt}, (∀ d ∈ ds, ∀ h, P h → ∃ y h', f d h = .ok [g y] h' ∧ P h' ∧ R y) → ∀ {h : Hq}, P h → ∃ (ys : List β) (h' : Hq), ys.length = ds.length ∧ (∀ y ∈ ys, R y) ∧ compL f ds h = .ok (ys.map g) h' ∧ P h'
  | [], _, h, p => ⟨[], h, rfl, (fun y hy => by cases hy), rfl, p⟩
  | d :: ds, H, h, p => by
    obtain ⟨y, h1, e1, p1, r1⟩ := H d List.mem_cons_self h p
    obtain ⟨ys, h2, l2, r2, e2, p2⟩ := compL_ex (fun x hx => H x (List.mem_cons_of_mem _ hx)) p1
    refine ⟨y :: ys, h2, by rw [List.length_cons, List.length_cons, l2], fun z hz => ?_, ?_, p2⟩
    · rcases List.mem_cons.mp hz with q | q
      · rw [q]; exact r1
      · exact r2 z q
    · show (f d h).bind _ = _
      rw [e1]
      show (compL f ds h1).bind _ = _
      rw [e2]; rfl
/-- .. that each keep or leave out their item -/
theorem compL_sub {α : Type} {g : α → Dt} {f : Dt → Hq → Res (List Dt)} {P : Hq → Prop} : ∀ {xs : List α}, (∀ x ∈ xs, ∀ h, P h → ∃ (k : Bool) (h' : Hq), f (g x) h = .ok (if k then [g x] else []) h' ∧ P h') → ∀ {h : Hq}, P h → ∃ (ys : List α) (h' : Hq), ys.Sublist xs ∧ compL f (xs.map g) h = .ok (ys.map g) h' ∧ P h'
  | [], _, h, p => ⟨[], h, .slnil, rfl, p⟩
  | x :: xs, H, h, p => by
    obtain ⟨k, h1, e1, p1⟩ := H x List.mem_cons_self h p
    obtain ⟨ys, h2, l2, e2, p2⟩ := compL_sub (fun x hx => H x (List.mem_cons_of_mem _ hx)) p1
    refine ⟨if k then x :: ys else ys, h2, ?_, ?_, p2⟩
    · cases k
      · exact .cons _ l2
      · exact .cons_cons _ l2
    · show (f (g x) h).bind _ = _
      rw [e1]
      show (compL f (xs.map g) h1).bind _ = _
      rw [e2]
      cases k <;> rfl
/-- the draws at the heap's first cell, the rest as it stands -/
def Dr (ns : List Int) (rest : Hq) (h : Hq) : Prop := ∃ c, IsDraw ns c ∧ h = c :: rest
theorem dr_call {T : Tb} {f k b : Nat} {ns : List Int} {rest h : Hq} {lim : Int} (hf : T.fn f = some ⟨2, 4, false, drawB⟩) (hd : Dr ns rest h) (h0 : 0 < lim) (h1 : lim < 1073741824) :
    ∃ (v : Nat) (h' : Hq), Dr ns rest h' ∧ (v : Int) < lim ∧ callK T (k + 1) f b [.ref 0, .int lim] h = .ok (iN v) h' := by
  obtain ⟨c, hc, rfl⟩ := hd
  obtain ⟨v, c', d, hv, e⟩ := draw_call (T := T) (f := f) (k := k) (b := b) (n := 0) (h := c :: rest) hf rfl hc h0 h1
  exact ⟨v, c' :: rest, ⟨c', d, rfl⟩, hv, e⟩
/-- .. the draws' cell in any slot -/
theorem dr_ev {T : Tb} {f k b : Nat} {ns : List Int} {rest h : Hq} {s : En} {e1 e2 : E} {lim : Int} (hf : T.fn f = some ⟨2, 4, false, drawB⟩) (q1 : ev (callK T (k + 1)) T.gl b e1 s h = .ok (.ref 0) h) (q2 : ev (callK T (k + 1)) T.gl b e2 s h = .ok (.int lim) h) (hd : Dr ns rest h) (h0 : 0 < lim) (h1 : lim < 1073741824) :
    ∃ (v : Nat) (h' : Hq), Dr ns rest h' ∧ (v : Int) < lim ∧ ev (callK T (k + 1)) T.gl b (.call f (.cons e1 (.cons e2 .nil))) s h = .ok (iN v) h' := by
  obtain ⟨v, h', d, hv, e⟩ := dr_call (k := k) (b := b) hf hd h0 h1
  exact ⟨v, h', d, hv, (ev_call (evs_cons q1 (evs_one q2))).trans e⟩
end Vm

/-! Helpers for a law's plain part, 6: rules for every form. Own text. -/
namespace Vm
open PySem L2
section
variable {cl : Nat → Nat → List Dt → Hq → Res Dt} {gl : List Dt} {sub : Nat → Nat → Option Bool} {b : Nat} {s : En} {h : Hq}
theorem ev_lit {d : Dt} : ev cl gl b (.lit d) s h = .ok d h := rfl
theorem ev_v {i : Nat} {d : Dt} (hs : s[i]? = some (some d)) : ev cl gl b (.v i) s h = .ok d h := by
  show (match s[i]? with
    | some (some d) => Res.ok d h
    | _ => .no) = _
  rw [hs]
theorem ev_gl {i : Nat} {d : Dt} (hs : gl[i]? = some d) : ev cl gl b (.gl i) s h = .ok d h := by
  show Res.opt h gl[i]? = _
  rw [hs]; rfl
theorem ev_one {e : E} {d : Dt} {h1 : Hq} (he : ev cl gl b e s h = .ok d h1) : ev cl gl b (.one e) s h = .ok d h1 := he
theorem ev_neg {x : E} {i : Int} {h1 : Hq} (hx : ev cl gl b x s h = .ok (.int i) h1) : ev cl gl b (.neg x) s h = .ok (.int (-i)) h1 := by
  show (ev cl gl b x s h).bind _ = _
  rw [hx]; rfl
theorem ev_and_t {x y : E} {c : Bool} {d : Dt} {h1 h2 : Hq} (hx : ev cl gl b x s h = .ok (.bl c) h1) (hc : c = true) (hy : ev cl gl b y s h1 = .ok d h2) : ev cl gl b (.and x y) s h = .ok d h2 := by
  subst hc; rw [ev_and hx, if_pos rfl]; exact hy
theorem ev_and_f {x y : E} {c : Bool} {h1 : Hq} (hx : ev cl gl b x s h = .ok (.bl c) h1) (hc : c = false) : ev cl gl b (.and x y) s h = .ok (.bl false) h1 := by
  subst hc; rw [ev_and hx, if_neg (by decide)]
theorem ev_or_t {x y : E} {c : Bool} {h1 : Hq} (hx : ev cl gl b x s h = .ok (.bl c) h1) (hc : c = true) : ev cl gl b (.or x y) s h = .ok (.bl true) h1 := by
  subst hc; rw [ev_or hx, if_pos rfl]
theorem ev_or_f {x y : E} {c : Bool} {d : Dt} {h1 h2 : Hq} (hx : ev cl gl b x s h = .ok (.bl c) h1) (hc : c = false) (hy : ev cl gl b y s h1 = .ok d h2) : ev cl gl b (.or x y) s h = .ok d h2 := by
  subst hc; rw [ev_or hx, if_neg (by decide)]; exact hy
theorem ev_ife_t {c x y : E} {k : Bool} {d : Dt} {h1 h2 : Hq} (hc : ev cl gl b c s h = .ok (.bl k) h1) (hk : k = true) (hy : ev cl gl b x s h1 = .ok d h2) : ev cl gl b (.ife c x y) s h = .ok d h2 := by
  subst hk; rw [ev_ife hc, if_pos rfl]; exact hy
theorem ev_ife_f {c x y : E} {k : Bool} {d : Dt} {h1 h2 : Hq} (hc : ev cl gl b c s h = .ok (.bl k) h1) (hk : k = false) (hy : ev cl gl b y s h1 = .ok d h2) : ev cl gl b (.ife c x y) s h = .ok d h2 := by
  subst hk; rw [ev_ife hc, if_neg (by decide)]; exact hy
theorem ev_lst0 {es : E} {ds : List Dt} {h1 : Hq} (hs : evs cl gl b es s h = .ok ds h1) (hl : ds.length ≤ 10000) : ev cl gl b (.lst true es) s h = .ok (.ref h1.length) (h1 ++ [.lst ds]) := by
  show (evs cl gl b es s h).bind _ = _
  rw [hs]
  show (if decide (ds.length ≤ sizeLine) = true then newL true ds h1 else .no) = _
  rw [if_pos (decide_eq_true (by rw [sizeLine_eq]; omega))]
  rfl
theorem ev_callc {f : Nat} {es : E} {ds : List Dt} {d : Dt} {h1 h2 : Hq} (hs : evs cl gl b es s h = .ok ds h1) (hc : cl f b ds h1 = .ok d h2) : ev cl gl b (.call f es) s h = .ok d h2 := (ev_call hs).trans hc
theorem ev_fld {c : Nat} {o : E} {f : Str} {d r : Dt} {ns : List Str} {ds : List Dt} {h1 : Hq} (ho : ev cl gl b o s h = .ok d h1) (hv : vw h1 d = .ins c ns ds) (hr : lookF ns ds f = some r) : ev cl gl b (.fld c o f) s h = .ok r h1 := by
  show (ev cl gl b o s h).bind _ = _
  rw [ho]
  show (match vw h1 d with
      | .ins c' ns ds => if decide (c' = c) then Res.opt h1 (lookF ns ds f) else .no
      | _ => .no) = _
  rw [hv]
  show (if decide (c = c) = true then Res.opt h1 (lookF ns ds f) else .no) = _
  rw [if_pos (decide_eq_true rfl), hr]; rfl
theorem ev_mcall {c f : Nat} {m : Str} {o es : E} {d r : Dt} {ns : List Str} {ds xs : List Dt} {h1 h2 h3 : Hq} (ho : ev cl gl b o s h = .ok d h1) (hv : vw h1 d = .ins c ns ds) (hm : m ∉ ns) (hs : evs cl gl b es s h1 = .ok xs h2) (hc : cl f b (d :: xs) h2 = .ok r h3) : ev cl gl b (.mcall c m f o es) s h = .ok r h3 := by
  show (ev cl gl b o s h).bind _ = _
  rw [ho]
  show (match vw h1 d with
      | .ins c' ns _ => if decide (c' = c) && decide (m ∉ ns) then (evs cl gl b es s h1).bind fun ds h2 => cl f b (d :: ds) h2 else .no
      | _ => .no) = _
  rw [hv]
  show (if (decide (c = c) && decide (m ∉ ns)) = true then (evs cl gl b es s h1).bind fun ds h2 => cl f b (d :: ds) h2 else .no) = _
  rw [decide_eq_true rfl, decide_eq_true hm]
  show (evs cl gl b es s h1).bind _ = _
  rw [hs]
  exact hc
theorem ev_make {c f : Nat} {es : E} {ds : List Dt} {h1 h2 : Hq} (hs : evs cl gl b es s h = .ok ds h1) (hc : cl f b (.ref h1.length :: ds) (h1 ++ [.ins c [] []]) = .ok .non h2) : ev cl gl b (.make c f es) s h = .ok (.ref h1.length) h2 := by
  show (evs cl gl b es s h).bind _ = _
  rw [hs]
  show (cl f b (.ref h1.length :: ds) (h1 ++ [.ins c [] []])).bind _ = _
  rw [hc]; rfl
theorem ev_sl {x lo hi : E} {d r : Dt} {l u : Option Int} {h1 h2 h3 : Hq} (hx : ev cl gl b x s h = .ok d h1) (hl : evo cl gl b lo s h1 = .ok l h2) (hu : evo cl gl b hi s h2 = .ok u h3) (hr : slD (vw h3 d) l u = some r) : ev cl gl b (.sl x lo hi) s h = .ok r h3 := by
  show (ev cl gl b x s h).bind _ = _
  rw [hx]
  show (evo cl gl b lo s h1).bind _ = _
  rw [hl]
  show (evo cl gl b hi s h2).bind _ = _
  rw [hu]
  show Res.opt h3 (slD (vw h3 d) l u) = _
  rw [hr]; rfl
theorem evo_nil : evo cl gl b .nil s h = .ok none h := rfl
theorem evo_one {e : E} {i : Int} {h1 : Hq} (he : ev cl gl b e s h = .ok (.int i) h1) : evo cl gl b (.one e) s h = .ok (some i) h1 := by
  show (ev cl gl b e s h).bind _ = _
  rw [he]; rfl
theorem ev_isin {T : List Ty} {x : E} {d : Dt} {h1 : Hq} (hx : ev cl gl b x s h = .ok d h1) (hv : (match vw h1 d with
    | .dic _ _ => false
    | .ins _ _ _ => false
    | .ref _ => false
    | _ => true) = true) : ev cl gl b (.isin T x) s h = .ok (.bl (T.any (isTy (vw h1 d)))) h1 := by
  show (ev cl gl b x s h).bind _ = _
  rw [hx]
  show (match vw h1 d with
      | .dic _ _ => (Res.no : Res Dt)
      | .ins _ _ _ => .no
      | .ref _ => .no
      | d => .ok (Dt.bl (T.any (isTy d))) h1) = _
  cases e : vw h1 d <;> rw [e] at hv <;> first | rfl | cases hv
theorem x_if_t' {c : E} {a r : S} {k : Bool} {h' : Hq} (q : ev cl gl b c s h = .ok (.bl k) h') (hk : k = true) : exS cl gl sub b (.ife c a r) s h = exS cl gl sub b a s h' := by subst hk; exact x_if_t q
theorem x_if_f' {c : E} {a r : S} {k : Bool} {h' : Hq} (q : ev cl gl b c s h = .ok (.bl k) h') (hk : k = false) : exS cl gl sub b (.ife c a r) s h = exS cl gl sub b r s h' := by subst hk; exact x_if_f q
/-- a test whose suite is not entered -/
theorem x_skip {c : E} {a : S} {k : Bool} {h' : Hq} (q : ev cl gl b c s h = .ok (.bl k) h') (hk : k = false) : exS cl gl sub b (.ife c a .nil) s h = .nx s h' := by subst hk; exact x_if_f q
theorem x_nil : exS cl gl sub b .nil s h = .nx s h := rfl
theorem x_setT {t : Tg} {e : E} {d : Dt} {h1 : Hq} {s' : En} (q : ev cl gl b e s h = .ok d h1) (ht : t.set d s = some s') : exS cl gl sub b (.setT t e) s h = .nx s' h1 := by
  show Rs.of s (ev cl gl b e s h) _ = _
  rw [q]
  show (match t.set d s with
    | some σ' => Rs.nx σ' h1
    | none => .no) = _
  rw [ht]
end
theorem set_zero {α : Type} {a v : α} {l : List α} : (a :: l).set 0 v = v :: l := rfl
theorem set_succ {α : Type} {a v : α} {l : List α} {n : Nat} : (a :: l).set (n + 1) v = a :: l.set n v := rfl
theorem ne_iN (a b : Nat) : cmpD .NotEq (iN a) (iN b) = some (!decide (a = b)) := by
  show (eqD (iN a) (iN b)).map (!·) = _
  rw [eqD_iN]; rfl
theorem ne_tN (a b : List Nat) : cmpD .NotEq (tN a) (tN b) = some (!decide (a = b)) := by
  show (eqD (tN a) (tN b)).map (!·) = _
  rw [eqD_tN]; rfl
theorem ne_bl (a b : Bool) : cmpD .NotEq (Dt.bl a) (Dt.bl b) = some (!(a == b)) := rfl
end Vm

/-! Helpers for a law's plain part, 7: loops that append, frozen lists, slices. Own text. -/
namespace Vm
open PySem L2
theorem sz {n : Nat} (h : n ≤ 100000) : n ≤ sizeLine := by rw [sizeLine_eq]; omega
theorem set_self {h : Hq} {n : Nat} {c : Cell} (hn : h[n]? = some c) : h.set n c = h := by
  refine List.ext_getElem? fun i => ?_
  rw [List.getElem?_set]
  by_cases e : n = i
  · subst e
    rw [if_pos rfl, if_pos (List.getElem?_eq_some_iff.mp hn).1, hn]
  · rw [if_neg e]
/-- a loop each of whose turns appends one item to the list at a cell -/
theorem forL_app {α : Type} {f : Dt → En → Hq → Rs} {c g : α → Dt} {P : En → Prop} {n : Nat} : ∀ {xs : List α} {ds : List Dt} {s : En} {h : Hq}, P s → h[n]? = some (.lst ds) →
    (∀ x ∈ xs, ∀ s ds h, P s → h[n]? = some (.lst ds) → ds.length ≤ 100000 → ∃ s', f (c x) s h = .nx s' (h.set n (.lst (ds ++ [g x]))) ∧ P s') → ds.length + xs.length ≤ 100000 →
    ∃ s', forL f (xs.map c) s h = .nx s' (h.set n (.lst (ds ++ xs.map g))) ∧ P s'
  | [], ds, s, h, p, hn, _, _ => ⟨s, by rw [List.map_nil, List.map_nil, List.append_nil, set_self hn]; rfl, p⟩
  | x :: xs, ds, s, h, p, hn, H, hl => by
    rw [List.length_cons] at hl
    obtain ⟨s1, e1, p1⟩ := H x List.mem_cons_self s ds h p hn (by omega)
    have hn1 : (h.set n (.lst (ds ++ [g x])))[n]? = some (.lst (ds ++ [g x])) := set_cell hn
    obtain ⟨s2, e2, p2⟩ := forL_app p1 hn1 (fun y hy => H y (List.mem_cons_of_mem _ hy)) (by rw [List.length_append, List.length_singleton]; omega)
    refine ⟨s2, ?_, p2⟩
    show (match f (c x) s h with
    | .nx σ' h' => forL f (xs.map c) σ' h'
    | .ct σ' h' => forL f (xs.map c) σ' h'
    | .bk σ' h' => .nx σ' h'
    | r => r) = _
    rw [e1]
    show forL f (xs.map c) s1 _ = _
    rw [e2, List.set_set, List.append_assoc]; rfl
theorem noRefs_map {α : Type} {f : α → Dt} (H : ∀ x, noRef (f x) = true) : ∀ l : List α, noRefs (l.map f) = true
  | [] => rfl
  | x :: l => by
    show (noRef (f x) && noRefs (l.map f)) = true
    rw [H x, noRefs_map H l]; rfl
theorem fzN_no {k b : Nat} {d : Dt} {hh : Hq} (h : noRef d = true) : fzN k b d hh = some (d, hh) := by
  cases k with
  | zero =>
    show (if noRef d = true then some (d, hh) else none) = _
    rw [if_pos h]
  | succ k =>
    unfold fzN
    rw [if_pos h]
theorem fz_all {b k : Nat} : ∀ {l : List Dt} {hh : Hq}, noRefs l = true → fzs (fzN k b) l hh = some (l, hh)
  | [], hh, _ => rfl
  | d :: l, hh, h => by
    obtain ⟨h1, h2⟩ := and2 (show (noRef d && noRefs l) = true from h)
    show ((fzN k b d hh).bind fun p => (fzs (fzN k b) l p.2).map fun q => (p.1 :: q.1, q.2)) = _
    rw [fzN_no h1]
    show (fzs (fzN k b) l hh).map _ = _
    rw [fz_all h2]; rfl
/-- a def on its own ground that gives the list at its first cell -/
theorem finR_one {h : Hq} {l : List Dt} (hl : noRefs l = true) : finR h.length (.rt (.ref h.length) (h ++ [.lst l])) = .ok (.lst l) h := by
  have hn : (h ++ [Cell.lst l])[h.length]? = some (.lst l) := by simp
  have ef : fzN 9 h.length (.ref h.length) (h ++ [.lst l]) = some (.lst l, h ++ [.dead]) := by
    rw [fzN_lst (Nat.le_refl _) hn, fz_all hl, List.set_append_right _ _ (Nat.le_refl _), Nat.sub_self]; rfl
  show (match fzN 9 h.length (.ref h.length) (h ++ [.lst l]) with
      | some p => Res.ok p.1 (p.2.take h.length)
      | none => .no) = _
  rw [ef]
  show Res.ok _ ((h ++ [Cell.dead]).take h.length) = _
  rw [List.take_left']
  rfl
theorem finR_no {h : Hq} {d : Dt} {hh : Hq} (hd : noRef d = true) : finR h.length (.rt d (h ++ hh)) = .ok d h := by
  show (match fzN 9 h.length d (h ++ hh) with
      | some p => Res.ok p.1 (p.2.take h.length)
      | none => .no) = _
  rw [fzN_no hd]
  show Res.ok _ ((h ++ hh).take h.length) = _
  rw [List.take_left']
  rfl
theorem sIx_nat (n d k : Nat) : HT.sIx n d (some (k : Int)) = min k n := by
  unfold HT.sIx
  simp
  omega
theorem sl_take {xs : List Dt} {k : Nat} (h : k ≤ xs.length) : slD (.lst xs) none (some (k : Int)) = some (.lst (xs.take k)) := by
  show some (Dt.lst ((xs.drop 0).take (HT.sIx xs.length xs.length (some (k : Int)) - 0))) = _
  rw [sIx_nat, List.drop_zero, Nat.sub_zero, Nat.min_eq_left h]
theorem sl_drop {xs : List Dt} {k : Nat} (h : k ≤ xs.length) : slD (.lst xs) (some (k : Int)) none = some (.lst (xs.drop k)) := by
  show some (Dt.lst ((xs.drop (HT.sIx xs.length 0 (some (k : Int)))).take (xs.length - HT.sIx xs.length 0 (some (k : Int))))) = _
  rw [sIx_nat, Nat.min_eq_left h, List.take_of_length_le (by rw [List.length_drop]; omega)]
theorem add_lst {α : Type} {f : α → Dt} {a b : List α} (h : a.length + b.length ≤ 100000) : binD .Add (.lst (a.map f)) (.lst (b.map f)) = some (.lst ((a ++ b).map f)) := by
  show (if decide ((a.map f).length + (b.map f).length ≤ sizeLine) = true then some (Dt.lst (a.map f ++ b.map f)) else none) = _
  rw [if_pos (decide_eq_true (by rw [List.length_map, List.length_map]; exact sz h)), List.map_append]
theorem range_zip {α β γ : Type} {f : α → β → γ} {a : List α} {b : List β} {d : α} {e : β} (h : a.length = b.length) : ((List.range a.length).map fun j => f (a.getD j d) (b.getD j e)) = List.zipWith f a b := by
  refine List.ext_getElem? fun i => ?_
  rw [List.getElem?_map, List.getElem?_zipWith]
  by_cases hi : i < a.length
  · rw [List.getElem?_range hi, List.getElem?_eq_getElem hi, List.getElem?_eq_getElem (show i < b.length by omega)]
    show some (f (a.getD i d) (b.getD i e)) = some (f a[i] b[i])
    rw [List.getD_eq_getElem?_getD, List.getD_eq_getElem?_getD, List.getElem?_eq_getElem hi, List.getElem?_eq_getElem (show i < b.length by omega)]
    rfl
  · rw [List.getElem?_eq_none (by rw [List.length_range]; omega), List.getElem?_eq_none (show a.length ≤ i by omega)]
    rfl
theorem getD_get {α : Type} {l : List α} {i : Nat} {d : α} (h : i < l.length) : l[i]? = some (l.getD i d) := by
  rw [List.getD_eq_getElem?_getD, List.getElem?_eq_getElem h]; rfl
section
variable {cl : Nat → Nat → List Dt → Hq → Res Dt} {gl : List Dt} {sub : Nat → Nat → Option Bool} {b : Nat} {s : En} {h : Hq}
/-- the turn of a comprehension with a test; the test may change the heap -/
theorem turn_ifh {t : Tg} {c el : E} {d y : Dt} {k : Bool} {σ' : En} {h1 : Hq} (ht : t.set d (wipeE s t.slots) = some σ') (hc : ev cl gl b c σ' h = .ok (.bl k) h1) (he : k = true → ev cl gl b el σ' h1 = .ok y h1) : turn cl gl b s t (.cons c .nil) el d h = .ok (if k then [y] else []) h1 := by
  show (match t.set d (wipeE s t.slots) with
  | none => Res.no
  | some σ' => (evc cl gl b (.cons c .nil) σ' h).bind fun ok h2 => if ok then (ev cl gl b el σ' h2).bind fun y h3 => .ok [y] h3 else .ok [] h2) = _
  rw [ht]
  show ((asB (ev cl gl b c σ' h)).bind _ : Res (List Dt)) = _
  rw [hc]
  cases k with
  | false => rfl
  | true =>
    show (ev cl gl b el σ' h1).bind _ = _
    rw [he rfl]
    rfl
end
theorem beq_dec {p q : Prop} [Decidable p] [Decidable q] (h : p ↔ q) : (decide p == decide q) = true := by
  by_cases hp : p
  · rw [decide_eq_true hp, decide_eq_true (h.mp hp)]; rfl
  · rw [decide_eq_false hp, decide_eq_false fun z => hp (h.mpr z)]; rfl
theorem bne_dec {p q : Prop} [Decidable p] [Decidable q] (h : p ↔ q) : (!(decide p == decide q)) = false := by rw [beq_dec h]; rfl
theorem bnn_dec {p q : Prop} [Decidable p] [Decidable q] (h : p ↔ q) : (!((!decide p) == (!decide q))) = false := by
  by_cases hp : p
  · rw [decide_eq_true hp, decide_eq_true (h.mp hp)]; rfl
  · rw [decide_eq_false hp, decide_eq_false fun z => hp (h.mpr z)]; rfl
theorem ne_self {α : Type} [DecidableEq α] {a : α} : (!decide (a = a)) = false := by rw [decide_eq_true rfl]; rfl
theorem rep_lst {α : Type} {f : α → Dt} {r : α} {v : Nat} (h : v ≤ 1000) : binD .Mult (.lst [f r]) (iN v) = some (.lst ((List.replicate v r).map f)) := by
  have e1 : decide (-(2 ^ 63) ≤ (v : Int)) = true := decide_eq_true (by
    have : ((2 : Int) ^ 63) = 9223372036854775808 := by decide
    omega)
  have e2 : decide ((v : Int) < 2 ^ 63) = true := decide_eq_true (by
    have : ((2 : Int) ^ 63) = 9223372036854775808 := by decide
    omega)
  have e3 : decide ([f r].length * (v : Int).toNat ≤ sizeLine) = true := decide_eq_true (by rw [Int.toNat_natCast]; show 1 * v ≤ _; exact sz (by omega))
  unfold iN binD
  simp only []
  rw [e1, e2, e3]
  show some (Dt.lst (List.replicate (v : Int).toNat [f r]).flatten) = _
  rw [Int.toNat_natCast]
  refine congrArg some (congrArg Dt.lst ?_)
  clear e1 e2 e3
  induction v with
  | zero => rfl
  | succ n ih => rw [List.replicate_succ, List.flatten_cons, ih (by omega), List.replicate_succ]; rfl
section
variable {cl : Nat → Nat → List Dt → Hq → Res Dt} {gl : List Dt} {sub : Nat → Nat → Option Bool} {b : Nat} {s : En} {h : Hq}
theorem ev_mcall_ex {c f : Nat} {m : Str} {o es : E} {d : Dt} {x : Ex} {ns : List Str} {ds xs : List Dt} {h1 h2 h3 : Hq} (ho : ev cl gl b o s h = .ok d h1) (hv : vw h1 d = .ins c ns ds) (hm : m ∉ ns) (hs : evs cl gl b es s h1 = .ok xs h2) (hc : cl f b (d :: xs) h2 = .exc x h3) : ev cl gl b (.mcall c m f o es) s h = .exc x h3 := by
  show (ev cl gl b o s h).bind _ = _
  rw [ho]
  show (match vw h1 d with
      | .ins c' ns _ => if decide (c' = c) && decide (m ∉ ns) then (evs cl gl b es s h1).bind fun ds h2 => cl f b (d :: ds) h2 else .no
      | _ => .no) = _
  rw [hv]
  show (if (decide (c = c) && decide (m ∉ ns)) = true then (evs cl gl b es s h1).bind fun ds h2 => cl f b (d :: ds) h2 else .no) = _
  rw [decide_eq_true rfl, decide_eq_true hm]
  show (evs cl gl b es s h1).bind _ = _
  rw [hs]
  exact hc
theorem ev_call_ex {f : Nat} {es : E} {ds : List Dt} {x : Ex} {h1 h2 : Hq} (hs : evs cl gl b es s h = .ok ds h1) (hc : cl f b ds h1 = .exc x h2) : ev cl gl b (.call f es) s h = .exc x h2 := (ev_call hs).trans hc
theorem x_exp_ex {e : E} {x : Ex} {h' : Hq} (q : ev cl gl b e s h = .exc x h') : exS cl gl sub b (.exp e) s h = .ex x s h' := by
  show Rs.of s (ev cl gl b e s h) _ = _
  rw [q]; rfl
theorem x_ret_ex {e : E} {x : Ex} {h' : Hq} (q : ev cl gl b e s h = .exc x h') : exS cl gl sub b (.ret e) s h = .ex x s h' := by
  show Rs.of s (ev cl gl b e s h) _ = _
  rw [q]; rfl
theorem x_try_ex {c : Nat} {body suite : S} {x : Ex} {s1 : En} {h1 h2 : Hq} {d : Dt} (q : exS cl gl sub b body s h = .ex x s1 h1) (hx : sub x.c c = some true) (e : exS cl gl sub b suite s1 h1 = .rt d h2) : exS cl gl sub b (.try1 c body suite) s h = .rt d h2 := by
  show (match exS cl gl sub b body s h with
    | .ex x σ' h' => (match sub x.c c with
      | some true => (match exS cl gl sub b suite σ' h' with
        | .ex _ _ _ => Rs.no
        | r => r)
      | some false => .ex x σ' h'
      | none => .no)
    | r => r) = _
  rw [q]
  show (match sub x.c c with
      | some true => (match exS cl gl sub b suite s1 h1 with
        | .ex _ _ _ => Rs.no
        | r => r)
      | some false => .ex x s1 h1
      | none => .no) = _
  rw [hx]
  show (match exS cl gl sub b suite s1 h1 with
        | .ex _ _ _ => Rs.no
        | r => r) = _
  rw [e]
theorem x_try_nx {c : Nat} {body suite : S} {s1 : En} {h1 : Hq} (q : exS cl gl sub b body s h = .nx s1 h1) : exS cl gl sub b (.try1 c body suite) s h = .nx s1 h1 := by
  show (match exS cl gl sub b body s h with
    | .ex x σ' h' => (match sub x.c c with
      | some true => (match exS cl gl sub b suite σ' h' with
        | .ex _ _ _ => Rs.no
        | r => r)
      | some false => .ex x σ' h'
      | none => .no)
    | r => r) = _
  rw [q]
theorem whl_t {t : En → Hq → Res Bool} {f : En → Hq → Rs} {n : Nat} {s1 : En} {h1 h2 : Hq} (ht : t s h = .ok true h1) (hf : f s h1 = .nx s1 h2) : whlN t f (n + 1) s h = whlN t f n s1 h2 := by
  show Rs.of s (t s h) _ = _
  rw [ht]
  show (match f s h1 with
      | .nx σ' h' => whlN t f n σ' h'
      | .ct σ' h' => whlN t f n σ' h'
      | .bk σ' h' => .nx σ' h'
      | r => r) = _
  rw [hf]
theorem whl_f {t : En → Hq → Res Bool} {f : En → Hq → Rs} {n : Nat} {h1 : Hq} (ht : t s h = .ok false h1) : whlN t f (n + 1) s h = .nx s h1 := by
  show Rs.of s (t s h) _ = _
  rw [ht]; rfl
theorem asB_ok {e : E} {k : Bool} {h1 : Hq} (q : ev cl gl b e s h = .ok (.bl k) h1) : asB (ev cl gl b e s h) = .ok k h1 := by rw [q]; rfl
theorem x_whl {n : Nat} {c : E} {body : S} : exS cl gl sub b (.whl n c body) s h = whlN (fun σ hh => asB (ev cl gl b c σ hh)) (fun σ hh => exS cl gl sub b body σ hh) n s h := rfl
theorem forL_nil {f : Dt → En → Hq → Rs} : forL f [] s h = .nx s h := rfl
theorem forL_step {f : Dt → En → Hq → Rs} {d : Dt} {ds : List Dt} {s1 : En} {h1 : Hq} (e : f d s h = .nx s1 h1) : forL f (d :: ds) s h = forL f ds s1 h1 := by
  show (match f d s h with
    | .nx σ' h' => forL f ds σ' h'
    | .ct σ' h' => forL f ds σ' h'
    | .bk σ' h' => .nx σ' h'
    | r => r) = _
  rw [e]
theorem forL_brk {f : Dt → En → Hq → Rs} {d : Dt} {ds : List Dt} {s1 : En} {h1 : Hq} (e : f d s h = .bk s1 h1) : forL f (d :: ds) s h = .nx s1 h1 := by
  show (match f d s h with
    | .nx σ' h' => forL f ds σ' h'
    | .ct σ' h' => forL f ds σ' h'
    | .bk σ' h' => .nx σ' h'
    | r => r) = _
  rw [e]
end
theorem slT_drop {xs : List Dt} {k : Nat} (h : k ≤ xs.length) : slD (.tup xs) (some (k : Int)) none = some (.tup (xs.drop k)) := by
  show some (Dt.tup ((xs.drop (HT.sIx xs.length 0 (some (k : Int)))).take (xs.length - HT.sIx xs.length 0 (some (k : Int))))) = _
  rw [sIx_nat, Nat.min_eq_left h, List.take_of_length_le (by rw [List.length_drop]; omega)]
theorem slT_take {xs : List Dt} {k : Nat} (h : k ≤ xs.length) : slD (.tup xs) none (some (k : Int)) = some (.tup (xs.take k)) := by
  show some (Dt.tup ((xs.drop 0).take (HT.sIx xs.length xs.length (some (k : Int)) - 0))) = _
  rw [sIx_nat, List.drop_zero, Nat.sub_zero, Nat.min_eq_left h]
theorem iN_succ (i : Nat) : binD .Add (iN i) (.int 1) = some (iN (i + 1)) := rfl
theorem iN_pred (i : Nat) : binD .Sub (iN (i + 1)) (.int 1) = some (iN i) := by
  show some (Dt.int (((i + 1 : Nat) : Int) - 1)) = some (Dt.int (i : Int))
  rw [show ((i + 1 : Nat) : Int) - 1 = (i : Int) by omega]
theorem add_iN (i j : Nat) : binD .Add (iN i) (iN j) = some (iN (i + j)) := rfl
theorem mul2_iN (x : Nat) : binD .Mult (.int 2) (iN x) = some (iN (2 * x)) := by
  show (if (small64 2 || small64 (x : Int)) = true then some (Dt.int (2 * (x : Int))) else none) = some (Dt.int ((2 * x : Nat) : Int))
  rw [show small64 2 = true by decide, Bool.true_or, if_pos rfl, show ((2 * x : Nat) : Int) = 2 * (x : Int) by omega]
end Vm

/-! Helpers for a law's plain part, 8. Own text. -/
namespace Vm
open PySem L2
/-- a loop each of whose turns appends some items to the list at a cell -/
theorem forL_appL {α : Type} {f : Dt → En → Hq → Rs} {c : α → Dt} {g : α → List Dt} {P : En → Prop} {n : Nat} : ∀ {xs : List α} {ds : List Dt} {s : En} {h : Hq}, P s → h[n]? = some (.lst ds) →
    (∀ x ∈ xs, ∀ s ds h, P s → h[n]? = some (.lst ds) → ds.length + (g x).length ≤ 100000 → ∃ s', f (c x) s h = .nx s' (h.set n (.lst (ds ++ g x))) ∧ P s') → ds.length + (xs.flatMap g).length ≤ 100000 →
    ∃ s', forL f (xs.map c) s h = .nx s' (h.set n (.lst (ds ++ xs.flatMap g))) ∧ P s'
  | [], ds, s, h, p, hn, _, _ => ⟨s, by rw [List.flatMap_nil, List.append_nil, set_self hn]; rfl, p⟩
  | x :: xs, ds, s, h, p, hn, H, hl => by
    rw [List.flatMap_cons, List.length_append] at hl
    obtain ⟨s1, e1, p1⟩ := H x List.mem_cons_self s ds h p hn (by omega)
    have hn1 : (h.set n (.lst (ds ++ g x)))[n]? = some (.lst (ds ++ g x)) := set_cell hn
    obtain ⟨s2, e2, p2⟩ := forL_appL p1 hn1 (fun y hy => H y (List.mem_cons_of_mem _ hy)) (by rw [List.length_append]; omega)
    refine ⟨s2, ?_, p2⟩
    show forL f (c x :: xs.map c) s h = _
    rw [forL_step e1, e2, List.set_set, List.append_assoc, List.flatMap_cons]
/-- a def on its own ground that gives the list at its first cell, behind which other cells stand -/
theorem finR_junk {h : Hq} {l : List Dt} {junk : Hq} (hl : noRefs l = true) : finR h.length (.rt (.ref h.length) (h ++ .lst l :: junk)) = .ok (.lst l) h := by
  have hn : (h ++ Cell.lst l :: junk)[h.length]? = some (.lst l) := by simp
  have ef : fzN 9 h.length (.ref h.length) (h ++ .lst l :: junk) = some (.lst l, h ++ .dead :: junk) := by
    rw [fzN_lst (Nat.le_refl _) hn, fz_all hl, List.set_append_right _ _ (Nat.le_refl _), Nat.sub_self]; rfl
  show (match fzN 9 h.length (.ref h.length) (h ++ .lst l :: junk) with
      | some p => Res.ok p.1 (p.2.take h.length)
      | none => .no) = _
  rw [ef]
  show Res.ok _ ((h ++ Cell.dead :: junk).take h.length) = _
  rw [List.take_left']
  rfl
theorem sIx_m1 {n : Nat} (h : 0 < n) : HT.sIx n n (some (-1)) = n - 1 := by
  unfold HT.sIx
  simp
  omega
theorem sl_init {xs : List Dt} (h : 0 < xs.length) : slD (.lst xs) none (some (-1)) = some (.lst xs.dropLast) := by
  show some (Dt.lst ((xs.drop 0).take (HT.sIx xs.length xs.length (some (-1)) - 0))) = _
  rw [sIx_m1 h, List.drop_zero, Nat.sub_zero, List.dropLast_eq_take]
theorem sl_mid {xs : List Dt} {i j : Nat} (hi : i ≤ j) (h : j ≤ xs.length) : slD (.tup xs) (some (i : Int)) (some (j : Int)) = some (.tup ((xs.drop i).take (j - i))) := by
  show some (Dt.tup ((xs.drop (HT.sIx xs.length 0 (some (i : Int)))).take (HT.sIx xs.length xs.length (some (j : Int)) - HT.sIx xs.length 0 (some (i : Int))))) = _
  rw [sIx_nat, sIx_nat, Nat.min_eq_left h, Nat.min_eq_left (by omega)]
section
variable {cl : Nat → Nat → List Dt → Hq → Res Dt} {gl : List Dt} {sub : Nat → Nat → Option Bool} {b : Nat} {s : En} {h : Hq}
theorem ev_compM {t : Tg} {it c el : E} {ds xs : List Dt} {h1 h2 : Hq} (hi : evi cl gl b it s h = .ok (.its ds) h1) (hc : compL (turn cl gl b s t c el) ds h1 = .ok xs h2) (hl : xs.length ≤ sizeLine) :
    ev cl gl b (.comp true t it c el) s h = .ok (.ref h2.length) (h2 ++ [.lst xs]) := by
  show (evi cl gl b it s h).bind _ = _
  rw [hi]
  show (noExc (compL (turn cl gl b s t c el) ds h1)).bind _ = _
  rw [hc]
  show (if decide (xs.length ≤ sizeLine) = true then newL true xs h2 else .no) = _
  rw [if_pos (decide_eq_true hl)]
  rfl
theorem ev_addM {op : Operator} {x y : E} {d e : Dt} {ds : List Dt} {h1 h2 : Hq} (hx : ev cl gl b x s h = .ok d h1) (hy : ev cl gl b y s h1 = .ok e h2) (hr : binD op (vw h2 d) (vw h2 e) = some (.lst ds)) : ev cl gl b (.addM op x y) s h = .ok (.ref h2.length) (h2 ++ [.lst ds]) := by
  show (ev cl gl b x s h).bind _ = _
  rw [hx]
  show (ev cl gl b y s h1).bind _ = _
  rw [hy]
  show (match binD op (vw h2 d) (vw h2 e) with
      | some (.lst ds) => newL true ds h2
      | _ => .no) = _
  rw [hr]; rfl
theorem ev_chain_t {op op' : CmpOp} {x y z : E} {d e g : Dt} {r r' : Bool} {h1 h2 h4 : Hq} (hx : ev cl gl b x s h = .ok d h1) (hy : ev cl gl b y s h1 = .ok e h2) (hr : cmpD op (vw h2 d) (vw h2 e) = some r) (ht : r = true) (hz : ev cl gl b z s h2 = .ok g h4) (hr' : cmpD op' (vw h4 e) (vw h4 g) = some r') : ev cl gl b (.chain op op' x y z) s h = .ok (.bl r') h4 := by
  subst ht
  show (ev cl gl b x s h).bind _ = _
  rw [hx]
  show (ev cl gl b y s h1).bind _ = _
  rw [hy]
  show (Res.opt h2 (cmpD op (vw h2 d) (vw h2 e))).bind _ = _
  rw [hr]
  show (ev cl gl b z s h2).bind _ = _
  rw [hz]
  show (Res.opt h4 (cmpD op' (vw h4 e) (vw h4 g))).bind _ = _
  rw [hr']; rfl
theorem ev_chain_f {op op' : CmpOp} {x y z : E} {d e : Dt} {r : Bool} {h1 h2 : Hq} (hx : ev cl gl b x s h = .ok d h1) (hy : ev cl gl b y s h1 = .ok e h2) (hr : cmpD op (vw h2 d) (vw h2 e) = some r) (ht : r = false) : ev cl gl b (.chain op op' x y z) s h = .ok (.bl false) h2 := by
  subst ht
  show (ev cl gl b x s h).bind _ = _
  rw [hx]
  show (ev cl gl b y s h1).bind _ = _
  rw [hy]
  show (Res.opt h2 (cmpD op (vw h2 d) (vw h2 e))).bind _ = _
  rw [hr]; rfl
theorem ev_ife' {c x y : E} {k : Bool} {d : Dt} {h1 h2 : Hq} (hc : ev cl gl b c s h = .ok (.bl k) h1) (hy : (if k then ev cl gl b x s h1 else ev cl gl b y s h1) = .ok d h2) : ev cl gl b (.ife c x y) s h = .ok d h2 := by
  rw [ev_ife hc]; exact hy
end
/-- two lists put together, told by what is behind -/
theorem add_lst' {xs ys : List Dt} (h : xs.length + ys.length ≤ 100000) : binD .Add (.lst xs) (.lst ys) = some (.lst (xs ++ ys)) := by
  show (if decide (xs.length + ys.length ≤ sizeLine) = true then some (Dt.lst (xs ++ ys)) else none) = _
  rw [if_pos (decide_eq_true (sz h))]
theorem add_tup' {xs ys : List Dt} (h : xs.length + ys.length ≤ 100000) : binD .Add (.tup xs) (.tup ys) = some (.tup (xs ++ ys)) := by
  show (if decide (xs.length + ys.length ≤ sizeLine) = true then some (Dt.tup (xs ++ ys)) else none) = _
  rw [if_pos (decide_eq_true (sz h))]
theorem mul_iN {a b : Nat} (h : a < 1000000) : binD .Mult (iN a) (iN b) = some (iN (a * b)) := by
  show (if (small64 (a : Int) || small64 (b : Int)) = true then some (Dt.int ((a : Int) * (b : Int))) else none) = some (Dt.int ((a * b : Nat) : Int))
  have : small64 (a : Int) = true := by
    unfold small64
    rw [Bool.and_eq_true, decide_eq_true_eq, decide_eq_true_eq]
    have e1 : (-(2 : Int) ^ 64) = -18446744073709551616 := by decide
    have e2 : ((2 : Int) ^ 64) = 18446744073709551616 := by decide
    omega
  rw [this, Bool.true_or, if_pos rfl, Int.natCast_mul]
theorem sub_iN {a b : Nat} (h : b ≤ a) : binD .Sub (iN a) (iN b) = some (iN (a - b)) := by
  show some (Dt.int ((a : Int) - (b : Int))) = some (Dt.int ((a - b : Nat) : Int))
  rw [show ((a - b : Nat) : Int) = (a : Int) - (b : Int) by omega]
theorem lt_iN (a b : Nat) : cmpD .Lt (iN a) (iN b) = some (decide (a < b)) := by
  show some (decide ((a : Int) < (b : Int))) = _
  by_cases h : a < b
  · rw [decide_eq_true h, decide_eq_true (by omega)]
  · rw [decide_eq_false h, decide_eq_false (by omega)]
theorem gt_iN (a b : Nat) : cmpD .Gt (iN a) (iN b) = some (decide (b < a)) := by
  show some (decide ((b : Int) < (a : Int))) = _
  by_cases h : b < a
  · rw [decide_eq_true h, decide_eq_true (by omega)]
  · rw [decide_eq_false h, decide_eq_false (by omega)]
end Vm
namespace Vm
open PySem L2
/-- .., with what is known of the heap -/
theorem forL_appH {α : Type} {f : Dt → En → Hq → Rs} {c : α → Dt} {g : α → List Dt} {P : En → Hq → Prop} {n : Nat} : ∀ {xs : List α} {ds : List Dt} {s : En} {h : Hq}, P s h → h[n]? = some (.lst ds) →
    (∀ x ∈ xs, ∀ s ds h, P s h → h[n]? = some (.lst ds) → ds.length + (g x).length ≤ 100000 → ∃ s', f (c x) s h = .nx s' (h.set n (.lst (ds ++ g x))) ∧ P s' (h.set n (.lst (ds ++ g x)))) → ds.length + (xs.flatMap g).length ≤ 100000 →
    ∃ s', forL f (xs.map c) s h = .nx s' (h.set n (.lst (ds ++ xs.flatMap g))) ∧ P s' (h.set n (.lst (ds ++ xs.flatMap g)))
  | [], ds, s, h, p, hn, _, _ => by
    rw [List.flatMap_nil, List.append_nil, set_self hn]
    exact ⟨s, rfl, p⟩
  | x :: xs, ds, s, h, p, hn, H, hl => by
    rw [List.flatMap_cons, List.length_append] at hl
    obtain ⟨s1, e1, p1⟩ := H x List.mem_cons_self s ds h p hn (by omega)
    have hn1 : (h.set n (.lst (ds ++ g x)))[n]? = some (.lst (ds ++ g x)) := set_cell hn
    obtain ⟨s2, e2, p2⟩ := forL_appH p1 hn1 (fun y hy => H y (List.mem_cons_of_mem _ hy)) (by rw [List.length_append]; omega)
    rw [List.set_set, List.append_assoc, ← List.flatMap_cons] at e2 p2
    refine ⟨s2, ?_, p2⟩
    show forL f (c x :: xs.map c) s h = _
    rw [forL_step e1, e2]
theorem rng_pred {c : Nat} (h : c ≤ 100000) : rngD [.int ((c : Int) - 1)] = some ((List.range (c - 1)).map iN) := by
  have hb : bnd62 ((c : Int) - 1) = true := by
    unfold bnd62
    rw [Bool.and_eq_true, decide_eq_true_eq, decide_eq_true_eq]
    have e1 : (-(2 : Int) ^ 62) = -4611686018427387904 := by decide
    have e2 : ((2 : Int) ^ 62) = 4611686018427387904 := by decide
    omega
  show (if bnd62 ((c : Int) - 1) = true then some (rangeD 0 ((c : Int) - 1)) else none) = _
  rw [if_pos hb]
  unfold rangeD
  rw [show ((c : Int) - 1 - 0).toNat = c - 1 by omega]
  refine congrArg some (List.map_congr_left fun i _ => ?_)
  show Dt.int (0 + (i : Int)) = Dt.int (i : Int)
  rw [Int.zero_add]
section
variable {cl : Nat → Nat → List Dt → Hq → Res Dt} {gl : List Dt} {sub : Nat → Nat → Option Bool} {b : Nat} {s : En} {h : Hq}
theorem evi_pred {i c : Nat} (hs : s[i]? = some (some (iN c))) (hc : c ≤ 100000) : evi cl gl b (.rng (.cons (.bin .Sub (.v i) (.lit (.int 1))) .nil)) s h = .ok (.its ((List.range (c - 1)).map iN)) h :=
  evi_rng (ds := [.int ((c : Int) - 1)]) (evs_one (ev_bin (d := iN c) (e := .int 1) (h1 := h) (ev_v hs) rfl rfl)) (rng_pred hc)
theorem evi_nat {e : E} {n : Nat} {h1 : Hq} (he : ev cl gl b e s h = .ok (iN n) h1) (hb : n ≤ 100000) : evi cl gl b (.rng (.cons e .nil)) s h = .ok (.its ((List.range n).map iN)) h1 := evi_rng1 he (by omega)
end
section
variable {cl : Nat → Nat → List Dt → Hq → Res Dt} {gl : List Dt} {sub : Nat → Nat → Option Bool} {b c i : Nat} {s s1 : En} {h h1 : Hq} {body : Vm.S} {u : U} {d : Dt}
theorem x_tryU {c i : Nat} : exS cl gl sub b (.tryU c i body u) s h = (match exS cl gl sub b body s h with
    | .ex x σ' h' => (match sub x.c c with
      | some true => (match x.ns with
        | [] => if decide (i < σ'.length) then (match u.val sub x.c with
          | some d => Rs.rt d h'
          | none => Rs.no) else Rs.no
        | _ => Rs.no)
      | some false => Rs.ex x σ' h'
      | none => Rs.no)
    | r => r) := rfl
theorem x_tryU_rt (q : exS cl gl sub b body s h = .rt d h1) : exS cl gl sub b (.tryU c i body u) s h = .rt d h1 := by rw [x_tryU, q]
theorem x_tryU_ex {x : Ex} (q : exS cl gl sub b body s h = .ex x s1 h1) (hx : sub x.c c = some true) (hn : x.ns = []) (hi : i < s1.length) (hv : u.val sub x.c = some d) : exS cl gl sub b (.tryU c i body u) s h = .rt d h1 := by
  rw [x_tryU, q]
  show (match sub x.c c with
      | some true => (match x.ns with
        | [] => if decide (i < s1.length) then (match u.val sub x.c with
          | some d => Rs.rt d h1
          | none => Rs.no) else Rs.no
        | _ => Rs.no)
      | some false => Rs.ex x s1 h1
      | none => Rs.no) = _
  rw [hx]
  show (match x.ns with
        | [] => if decide (i < s1.length) then (match u.val sub x.c with
          | some d => Rs.rt d h1
          | none => Rs.no) else Rs.no
        | _ => Rs.no) = _
  rw [hn]
  show (if decide (i < s1.length) = true then (match u.val sub x.c with
          | some d => Rs.rt d h1
          | none => Rs.no) else Rs.no) = _
  rw [if_pos (decide_eq_true hi), hv]
end
end Vm

namespace Lk56
open PySem L2 Vm PySem.Spec PyProof.Rows
abbrev PR : Program := PySem.Challenge.pw_probewright_k56_logs_are_read_strictly
def top (i : Nat) : Stmt := PR.main.body.getD i (.Pass ⟨0, 0, 0, 0⟩)
def mth (i j : Nat) : Stmt := match top i with
  | .ClassDef _ _ _ b _ _ _ _ _ _ _ => b.getD j (.Pass ⟨0, 0, 0, 0⟩)
  | s => s
/-- _wall -/
def b0 : Vm.S := (.seq (.whl 10000 (.lit (.bl true)) (.seq .pass .nil)) .nil)
def n0 : List Str := ["k"]
def f0 : Fd := ⟨1, 1, false, b0⟩
def d0 : Df := ⟨⟨("_wall", none), "_wall", "_wall", defArgs (top 0), defBody (top 0), defScope (top 0), [], []⟩, n0, ["k"], f0⟩
/-- is_integer -/
def b1 : Vm.S := (.seq (.ife (.or (.nt (.isin [.int] (.v 0))) (.one (.isin [.bool] (.v 0)))) (.seq (.ret (.lit (.bl false))) .nil) .nil) (.seq (.ret (.and (.cmp .LtE (.v 1) (.v 0)) (.one (.cmp .LtE (.v 0) (.v 2))))) .nil))
def n1 : List Str := ["value", "least", "greatest"]
def f1 : Fd := ⟨3, 3, false, b1⟩
def d1 : Df := ⟨⟨("is_integer", none), "is_integer", "is_integer", defArgs (top 13), defBody (top 13), defScope (top 13), [], []⟩, n1, ["value", "least", "greatest"], f1⟩
/-- is_bit -/
def b2 : Vm.S := (.seq (.ret (.call 1 (.cons (.v 0) (.cons (.lit (.int 0)) (.cons (.lit (.int 1)) .nil))))) .nil)
def n2 : List Str := ["value"]
def f2 : Fd := ⟨1, 1, false, b2⟩
def d2 : Df := ⟨⟨("is_bit", none), "is_bit", "is_bit", defArgs (top 14), defBody (top 14), defScope (top 14), [], []⟩, n2, ["value"], f2⟩
/-- are_bits -/
def b3 : Vm.S := (.seq (.ife (.or (.nt (.isin [.tuple] (.v 0))) (.one (.cmp .NotEq (.bf .len (.cons (.v 0) .nil)) (.v 1)))) (.seq (.ret (.lit (.bl false))) .nil) .nil) (.seq (.ret (.bf .all (.cons (.comp false (.nm 2) (.one (.v 0)) .nil (.call 2 (.cons (.v 2) .nil))) .nil))) .nil))
def n3 : List Str := ["value", "count", "item"]
def f3 : Fd := ⟨2, 3, false, b3⟩
def d3 : Df := ⟨⟨("are_bits", none), "are_bits", "are_bits", defArgs (top 15), defBody (top 15), defScope (top 15), [], []⟩, n3, ["value", "count"], f3⟩
/-- is_name -/
def b4 : Vm.S := (.seq (.ife (.or (.nt (.isin [.str] (.v 0))) (.or (.cmp .Eq (.v 0) (.lit (.str ""))) (.or (.cmp .Gt (.bf .len (.cons (.v 0) .nil)) (.gl 0)) (.one (.cmp .NotIn (.ix (.v 0) (.lit (.int 0))) (.gl 5)))))) (.seq (.ret (.lit (.bl false))) .nil) .nil) (.seq (.forS (.nm 1) (.one (.v 0)) (.seq (.ife (.and (.cmp .NotIn (.v 1) (.gl 5)) (.and (.cmp .NotIn (.v 1) (.gl 6)) (.one (.cmp .NotEq (.v 1) (.lit (.str "_")))))) (.seq (.ret (.lit (.bl false))) .nil) .nil) .nil)) (.seq (.ret (.lit (.bl true))) .nil)))
def n4 : List Str := ["value", "character"]
def f4 : Fd := ⟨1, 2, false, b4⟩
def d4 : Df := ⟨⟨("is_name", none), "is_name", "is_name", defArgs (top 16), defBody (top 16), defScope (top 16), [], []⟩, n4, ["value"], f4⟩
/-- chains -/
def b5 : Vm.S := (.seq (.set 2 (.bf .len (.cons (.fld 0 (.v 0) "registers") .nil))) (.seq (.ife (.nt (.call 1 (.cons (.v 1) (.cons (.lit (.int 1)) (.cons (.bf .max (.cons (.lit (.int 1)) (.cons (.v 2) .nil))) .nil))))) (.seq (.raise 2) .nil) .nil) (.seq (.set 3 (.lst true .nil)) (.seq (.set 4 (.lit (.int 0))) (.seq (.forS (.nm 5) (.rng (.cons (.v 1) .nil)) (.seq (.set 6 (.bin .Add (.bin .FloorDiv (.v 2) (.v 1)) (.bf .int (.cons (.cmp .Lt (.v 5) (.bin .Sub (.v 2) (.bin .Mult (.bin .FloorDiv (.v 2) (.v 1)) (.v 1)))) .nil)))) (.seq (.exp (.append (.v 3) (.rgT (.cons (.v 4) (.cons (.bin .Add (.v 4) (.v 6)) .nil))))) (.seq (.aug 4 .Add (.v 6)) .nil)))) (.seq (.ret (.v 3)) .nil))))))
def n5 : List Str := ["circuit", "count", "size", "rows", "start", "number", "length"]
def f5 : Fd := ⟨2, 7, true, b5⟩
def d5 : Df := ⟨⟨("chains", none), "chains", "chains", defArgs (top 18), defBody (top 18), defScope (top 18), [], []⟩, n5, ["circuit", "count"], f5⟩
/-- taken_bits -/
def b6 : Vm.S := (.seq (.set 2 .dnew) (.seq (.forS (.tu [3, 4]) (.enum (.v 0)) (.seq (.forS (.tu [5, 6]) (.enum (.rev false (.v 4))) (.seq (.setX (.v 2) (.v 6) (.ix (.ix (.v 1) (.v 5)) (.v 3))) .nil)) .nil)) (.seq (.ret (.bf .tuple (.cons (.comp false (.nm 6) (.one (.bf .sorted (.cons (.v 2) .nil))) .nil (.ix (.v 2) (.v 6))) .nil))) .nil)))
def n6 : List Str := ["rows", "log", "held", "number", "row", "place", "index"]
def f6 : Fd := ⟨2, 7, true, b6⟩
def d6 : Df := ⟨⟨("taken_bits", none), "taken_bits", "taken_bits", defArgs (top 19), defBody (top 19), defScope (top 19), [], []⟩, n6, ["rows", "log"], f6⟩
/-- read_back -/
def b7 : Vm.S := (.seq (.set 3 (.call 5 (.cons (.v 0) (.cons (.v 1) .nil)))) (.seq (.set 4 (.bf .len (.cons (.ix (.v 3) (.lit (.int 0))) .nil))) (.seq (.set 5 (.bin .FloorDiv (.bin .Sub (.bf .len (.cons (.v 2) .nil)) (.v 4)) (.bin .Add (.v 4) (.lit (.int 1))))) (.seq (.ife (.or (.cmp .NotEq (.bf .len (.cons (.v 2) .nil)) (.bin .Add (.bin .Mult (.v 5) (.bin .Add (.v 4) (.lit (.int 1)))) (.v 4))) (.one (.cmp .Gt (.v 5) (.gl 4)))) (.seq (.raise 2) .nil) .nil) (.seq (.set 6 (.lst true .nil)) (.seq (.forS (.nm 7) (.rng (.cons (.bin .Add (.v 5) (.lit (.int 1))) .nil)) (.seq (.set 8 (.bin .Mult (.v 7) (.bin .Add (.v 4) (.lit (.int 1))))) (.seq (.set 9 (.sl (.v 2) (.one (.v 8)) (.one (.bin .Add (.v 8) (.v 4))))) (.seq (.ife (.nt (.bf .all (.cons (.comp false (.nm 10) (.one (.v 9)) .nil (.call 3 (.cons (.v 10) (.cons (.v 1) .nil)))) .nil))) (.seq (.raise 2) .nil) .nil) (.seq (.ife (.cmp .Gt (.v 7) (.lit (.int 0))) (.seq (.ife (.nt (.call 3 (.cons (.ix (.v 2) (.bin .Sub (.v 8) (.lit (.int 1)))) (.cons (.bf .len (.cons (.fld 0 (.v 0) "outputs") .nil)) .nil)))) (.seq (.raise 2) .nil) .nil) (.seq (.exp (.append (.v 6) (.bin .Add (.ix (.v 2) (.bin .Sub (.v 8) (.lit (.int 1)))) (.call 6 (.cons (.v 3) (.cons (.v 9) .nil)))))) .nil)) .nil) .nil))))) (.seq (.ret (.v 6)) .nil)))))))
def n7 : List Str := ["circuit", "count", "log", "rows", "longest", "many", "found", "number", "start", "shifted", "bits"]
def f7 : Fd := ⟨3, 11, true, b7⟩
def d7 : Df := ⟨⟨("read_back", none), "read_back", "read_back", defArgs (top 20), defBody (top 20), defScope (top 20), [], []⟩, n7, ["circuit", "count", "log"], f7⟩
/-- pins_allowed -/
def b8 : Vm.S := (.seq (.ife (.cmp .In (.v 0) (.tup (.cons (.lit (.str "low")) (.cons (.lit (.str "high")) .nil)))) (.seq (.ret (.cmp .Eq (.v 1) (.lit (.int 0)))) .nil) .nil) (.seq (.ife (.cmp .In (.v 0) (.tup (.cons (.lit (.str "not")) (.cons (.lit (.str "buf")) .nil)))) (.seq (.ret (.cmp .Eq (.v 1) (.lit (.int 1)))) .nil) .nil) (.seq (.ret (.and (.cmp .In (.v 0) (.gl 7)) (.and (.cmp .LtE (.lit (.int 1)) (.v 1)) (.one (.cmp .LtE (.v 1) (.gl 1)))))) .nil)))
def n8 : List Str := ["kind", "count"]
def f8 : Fd := ⟨2, 2, false, b8⟩
def d8 : Df := ⟨⟨("pins_allowed", none), "pins_allowed", "pins_allowed", defArgs (top 23), defBody (top 23), defScope (top 23), [], []⟩, n8, ["kind", "count"], f8⟩
/-- is_row -/
def b9 : Vm.S := (.seq (.ret (.and (.isin [.tuple] (.v 0)) (.and (.cmp .Eq (.bf .len (.cons (.v 0) .nil)) (.v 1)) (.one (.bf .all (.cons (.comp false (.nm 2) (.one (.v 0)) .nil (.call 4 (.cons (.v 2) .nil))) .nil)))))) .nil)
def n9 : List Str := ["value", "size", "item"]
def f9 : Fd := ⟨2, 3, false, b9⟩
def d9 : Df := ⟨⟨("is_row", none), "is_row", "is_row", defArgs (top 24), defBody (top 24), defScope (top 24), [], []⟩, n9, ["value", "size"], f9⟩
/-- is_gate -/
def b10 : Vm.S := (.seq (.ife (.or (.nt (.isin [.tuple] (.v 0))) (.or (.cmp .NotEq (.bf .len (.cons (.v 0) .nil)) (.lit (.int 3))) (.or (.nt (.call 4 (.cons (.ix (.v 0) (.lit (.int 0))) .nil))) (.one (.nt (.isin [.str] (.ix (.v 0) (.lit (.int 1))))))))) (.seq (.ret (.lit (.bl false))) .nil) .nil) (.seq (.ife (.or (.nt (.isin [.tuple] (.ix (.v 0) (.lit (.int 2))))) (.one (.nt (.bf .all (.cons (.comp false (.nm 1) (.one (.ix (.v 0) (.lit (.int 2)))) .nil (.call 4 (.cons (.v 1) .nil))) .nil))))) (.seq (.ret (.lit (.bl false))) .nil) .nil) (.seq (.ret (.call 8 (.cons (.ix (.v 0) (.lit (.int 1))) (.cons (.bf .len (.cons (.ix (.v 0) (.lit (.int 2))) .nil)) .nil)))) .nil)))
def n10 : List Str := ["value", "pin"]
def f10 : Fd := ⟨1, 2, false, b10⟩
def d10 : Df := ⟨⟨("is_gate", none), "is_gate", "is_gate", defArgs (top 25), defBody (top 25), defScope (top 25), [], []⟩, n10, ["value"], f10⟩
/-- Circuit.__init__ -/
def b11 : Vm.S := (.seq (.setF 0 (.v 0) "inputs" (.bf .tuple (.cons (.v 1) .nil))) (.seq (.setF 0 (.v 0) "registers" (.bf .tuple (.cons (.v 2) .nil))) (.seq (.setF 0 (.v 0) "gates" (.bf .tuple (.cons (.v 3) .nil))) (.seq (.setF 0 (.v 0) "outputs" (.bf .tuple (.cons (.v 4) .nil))) (.seq (.exp (.mcall 0 "check_forms" 12 (.v 0) .nil)) (.seq (.setF 0 (.v 0) "gate_of" (.dcomp false (.nm 5) (.one (.fld 0 (.v 0) "gates")) (.ix (.v 5) (.lit (.int 0))) (.v 5))) (.seq (.exp (.mcall 0 "check_names" 13 (.v 0) .nil)) (.seq (.setF 0 (.v 0) "order" (.mcall 0 "sorted_gates" 18 (.v 0) .nil)) .nil))))))))
def n11 : List Str := ["self", "inputs", "registers", "gates", "outputs", "gate"]
def f11 : Fd := ⟨5, 6, false, b11⟩
def d11 : Df := ⟨⟨("Circuit", some "__init__"), "__init__", "Circuit.__init__", defArgs (mth 26 0), defBody (mth 26 0), defScope (mth 26 0), [], []⟩, n11, ["self", "inputs", "registers", "gates", "outputs"], f11⟩
/-- Circuit.check_forms -/
def b12 : Vm.S := (.seq (.forS (.nm 1) (.one (.bin .Add (.fld 0 (.v 0) "inputs") (.fld 0 (.v 0) "outputs"))) (.seq (.ife (.nt (.call 4 (.cons (.v 1) .nil))) .never .nil) .nil)) (.seq (.forS (.nm 2) (.one (.fld 0 (.v 0) "registers")) (.seq (.ife (.nt (.call 9 (.cons (.v 2) (.cons (.lit (.int 2)) .nil)))) .never .nil) .nil)) (.seq (.forS (.nm 3) (.one (.fld 0 (.v 0) "gates")) (.seq (.ife (.nt (.call 10 (.cons (.v 3) .nil))) .never .nil) .nil)) .nil)))
def n12 : List Str := ["self", "name", "cell", "gate"]
def f12 : Fd := ⟨1, 4, false, b12⟩
def d12 : Df := ⟨⟨("Circuit", some "check_forms"), "check_forms", "Circuit.check_forms", defArgs (mth 26 1), defBody (mth 26 1), defScope (mth 26 1), [], []⟩, n12, ["self"], f12⟩
/-- Circuit.check_names -/
def b13 : Vm.S := (.seq (.set 1 .dnew) (.seq (.forS (.nm 2) (.one (.mcall 0 "lines" 14 (.v 0) .nil)) (.seq (.ife (.cmp .In (.v 2) (.v 1)) .never .nil) (.seq (.setX (.v 1) (.v 2) (.lit (.bl true))) .nil))) (.seq (.forS (.nm 2) (.one (.mcall 0 "uses" 15 (.v 0) .nil)) (.seq (.ife (.cmp .NotIn (.v 2) (.v 1)) .never .nil) .nil)) (.seq (.ife (.or (.cmp .Gt (.bf .len (.cons (.mcall 0 "lines" 14 (.v 0) .nil) .nil)) (.gl 2)) (.one (.cmp .Gt (.bf .len (.cons (.mcall 0 "sources" 16 (.v 0) .nil) .nil)) (.gl 3)))) .never .nil) .nil))))
def n13 : List Str := ["self", "seen", "name"]
def f13 : Fd := ⟨1, 3, true, b13⟩
def d13 : Df := ⟨⟨("Circuit", some "check_names"), "check_names", "Circuit.check_names", defArgs (mth 26 2), defBody (mth 26 2), defScope (mth 26 2), [], []⟩, n13, ["self"], f13⟩
/-- Circuit.lines -/
def b14 : Vm.S := (.seq (.ret (.bin .Add (.mcall 0 "sources" 16 (.v 0) .nil) (.comp false (.nm 1) (.one (.fld 0 (.v 0) "gates")) .nil (.ix (.v 1) (.lit (.int 0)))))) .nil)
def n14 : List Str := ["self", "gate"]
def f14 : Fd := ⟨1, 2, false, b14⟩
def d14 : Df := ⟨⟨("Circuit", some "lines"), "lines", "Circuit.lines", defArgs (mth 26 3), defBody (mth 26 3), defScope (mth 26 3), [], []⟩, n14, ["self"], f14⟩
/-- Circuit.uses -/
def b15 : Vm.S := (.seq (.set 1 (.comp2 false (.nm 2) (.one (.fld 0 (.v 0) "gates")) (.nm 3) (.one (.ix (.v 2) (.lit (.int 2)))) (.v 3))) (.seq (.ret (.bin .Add (.bin .Add (.v 1) (.comp false (.nm 4) (.one (.fld 0 (.v 0) "registers")) .nil (.ix (.v 4) (.lit (.int 1))))) (.listOf false (.fld 0 (.v 0) "outputs")))) .nil))
def n15 : List Str := ["self", "names", "gate", "pin", "cell"]
def f15 : Fd := ⟨1, 5, false, b15⟩
def d15 : Df := ⟨⟨("Circuit", some "uses"), "uses", "Circuit.uses", defArgs (mth 26 4), defBody (mth 26 4), defScope (mth 26 4), [], []⟩, n15, ["self"], f15⟩
/-- Circuit.sources -/
def b16 : Vm.S := (.seq (.ret (.bin .Add (.listOf false (.fld 0 (.v 0) "inputs")) (.comp false (.nm 1) (.one (.fld 0 (.v 0) "registers")) .nil (.ix (.v 1) (.lit (.int 0)))))) .nil)
def n16 : List Str := ["self", "cell"]
def f16 : Fd := ⟨1, 2, false, b16⟩
def d16 : Df := ⟨⟨("Circuit", some "sources"), "sources", "Circuit.sources", defArgs (mth 26 5), defBody (mth 26 5), defScope (mth 26 5), [], []⟩, n16, ["self"], f16⟩
/-- Circuit.sinks -/
def b17 : Vm.S := (.seq (.exp (.call 0 (.cons (.lit (.int 0)) .nil))) .nil)
def n17 : List Str := ["self"]
def f17 : Fd := ⟨1, 1, false, b17⟩
def d17 : Df := ⟨⟨("Circuit", some "sinks"), "sinks", "Circuit.sinks", defArgs (mth 26 6), defBody (mth 26 6), defScope (mth 26 6), [], []⟩, n17, ["self"], f17⟩
/-- Circuit.sorted_gates -/
def b18 : Vm.S := (.seq (.set 1 (.dcomp true (.nm 2) (.one (.mcall 0 "sources" 16 (.v 0) .nil)) (.v 2) (.lit (.bl true)))) (.seq (.set 3 (.lst true .nil)) (.seq (.set 4 (.listOf false (.fld 0 (.v 0) "gates"))) (.seq (.whl 10000 (.cmp .NotEq (.v 4) (.lst false .nil)) (.seq (.set 5 (.lst true .nil)) (.seq (.forS (.nm 6) (.one (.v 4)) (.seq (.ife (.bf .all (.cons (.comp false (.nm 7) (.one (.ix (.v 6) (.lit (.int 2)))) .nil (.cmp .In (.v 7) (.v 1))) .nil)) (.seq (.setX (.v 1) (.ix (.v 6) (.lit (.int 0))) (.lit (.bl true))) (.seq (.exp (.append (.v 3) (.v 6))) .nil)) (.seq (.exp (.append (.v 5) (.v 6))) .nil)) .nil)) (.seq (.ife (.cmp .Eq (.bf .len (.cons (.v 5) .nil)) (.bf .len (.cons (.v 4) .nil))) .never .nil) (.seq (.set 4 (.v 5)) .nil))))) (.seq (.ret (.v 3)) .nil)))))
def n18 : List Str := ["self", "known", "name", "order", "waiting", "later", "gate", "pin"]
def f18 : Fd := ⟨1, 8, true, b18⟩
def d18 : Df := ⟨⟨("Circuit", some "sorted_gates"), "sorted_gates", "Circuit.sorted_gates", defArgs (mth 26 7), defBody (mth 26 7), defScope (mth 26 7), [], []⟩, n18, ["self"], f18⟩
/-- Circuit.above -/
def b19 : Vm.S := (.seq (.exp (.call 0 (.cons (.lit (.int 1)) .nil))) .nil)
def n19 : List Str := ["self", "line"]
def f19 : Fd := ⟨2, 2, false, b19⟩
def d19 : Df := ⟨⟨("Circuit", some "above"), "above", "Circuit.above", defArgs (mth 26 8), defBody (mth 26 8), defScope (mth 26 8), [], []⟩, n19, ["self", "line"], f19⟩
/-- Circuit.parts -/
def b20 : Vm.S := (.seq (.ret (.tup (.cons (.fld 0 (.v 0) "inputs") (.cons (.fld 0 (.v 0) "registers") (.cons (.fld 0 (.v 0) "gates") (.cons (.fld 0 (.v 0) "outputs") .nil)))))) .nil)
def n20 : List Str := ["self"]
def f20 : Fd := ⟨1, 1, false, b20⟩
def d20 : Df := ⟨⟨("Circuit", some "parts"), "parts", "Circuit.parts", defArgs (mth 26 9), defBody (mth 26 9), defScope (mth 26 9), [], []⟩, n20, ["self"], f20⟩
/-- _law_draws -/
def b21 : Vm.S := (.seq (.ret (.lst true (.cons (.listOf false (.v 0)) (.cons (.lit (.int 0)) (.cons (.lit (.int 0)) (.cons (.lit (.int 1)) .nil)))))) .nil)
def n21 : List Str := ["_law_script"]
def f21 : Fd := ⟨1, 1, false, b21⟩
def d21 : Df := ⟨⟨("_law_draws", none), "_law_draws", "_law_draws", defArgs (top 28), defBody (top 28), defScope (top 28), [], []⟩, n21, ["_law_script"], f21⟩
/-- _law_draw -/
def b22 : Vm.S := (.seq (.ife (.and (.cmp .Eq (.ix (.v 0) (.lit (.int 2))) (.lit (.int 0))) (.one (.cmp .Lt (.ix (.v 0) (.lit (.int 1))) (.bf .len (.cons (.ix (.v 0) (.lit (.int 0))) .nil))))) (.seq (.set 2 (.ix (.ix (.v 0) (.lit (.int 0))) (.ix (.v 0) (.lit (.int 1))))) (.seq (.setX (.v 0) (.lit (.int 1)) (.bin .Add (.ix (.v 0) (.lit (.int 1))) (.lit (.int 1)))) (.seq (.ife (.cmp .GtE (.v 2) (.bin .Pow (.lit (.int 10)) (.lit (.int 18)))) (.seq (.setX (.v 0) (.lit (.int 2)) (.v 2)) .nil) .nil) (.seq (.setX (.v 0) (.lit (.int 3)) (.bin .Mod (.bf .int (.cons (.bin .Add (.bin .Add (.bin .Mult (.ix (.v 0) (.lit (.int 3))) (.lit (.int 48271))) (.v 2)) (.lit (.int 13))) .nil)) (.lit (.int 2147483647)))) .nil)))) .nil) (.seq (.ife (.cmp .Gt (.ix (.v 0) (.lit (.int 2))) (.lit (.int 0))) (.seq (.set 3 (.bin .Mod (.bf .int (.cons (.ix (.v 0) (.lit (.int 2))) .nil)) (.v 1))) (.seq (.setX (.v 0) (.lit (.int 2)) (.bin .FloorDiv (.ix (.v 0) (.lit (.int 2))) (.v 1))) (.seq (.ret (.v 3)) .nil))) .nil) (.seq (.setX (.v 0) (.lit (.int 3)) (.bin .Mod (.bf .int (.cons (.bin .Add (.bin .Mult (.ix (.v 0) (.lit (.int 3))) (.lit (.int 69621))) (.lit (.int 7))) .nil)) (.lit (.int 2147483629)))) (.seq (.ret (.bin .Mod (.bf .int (.cons (.bin .FloorDiv (.ix (.v 0) (.lit (.int 3))) (.lit (.int 11))) .nil)) (.v 1))) .nil))))
def n22 : List Str := ["_law_draws_here", "_law_limit", "_law_cell", "_law_value"]
def f22 : Fd := ⟨2, 4, false, b22⟩
def d22 : Df := ⟨⟨("_law_draw", none), "_law_draw", "_law_draw", defArgs (top 29), defBody (top 29), defScope (top 29), [], []⟩, n22, ["_law_draws_here", "_law_limit"], f22⟩
/-- _law_same -/
def b23 : Vm.S := (.seq (.ife (.isin [.tuple] (.v 1)) (.seq (.ife (.or (.nt (.isin [.tuple] (.v 0))) (.one (.cmp .NotEq (.bf .len (.cons (.v 0) .nil)) (.bf .len (.cons (.v 1) .nil))))) (.seq (.ret (.lit (.bl false))) .nil) .nil) (.seq (.forS (.nm 2) (.rng (.cons (.bf .len (.cons (.v 1) .nil)) .nil)) (.seq (.ife (.nt (.call 23 (.cons (.ix (.v 0) (.v 2)) (.cons (.ix (.v 1) (.v 2)) .nil)))) (.seq (.ret (.lit (.bl false))) .nil) .nil) .nil)) (.seq (.ret (.lit (.bl true))) .nil))) .nil) (.seq (.ife (.isin [.list] (.v 1)) (.seq (.ret (.and (.isin [.list] (.v 0)) (.one (.call 23 (.cons (.bf .tuple (.cons (.v 0) .nil)) (.cons (.bf .tuple (.cons (.v 1) .nil)) .nil)))))) .nil) .nil) (.seq (.ife (.isin [.str] (.v 1)) (.seq (.ret (.and (.isin [.str] (.v 0)) (.one (.cmp .Eq (.v 0) (.v 1))))) .nil) .nil) (.seq (.ife (.cmp .Is (.v 1) (.lit (.non))) (.seq (.ret (.cmp .Is (.v 0) (.lit (.non)))) .nil) .nil) (.seq (.ife (.or (.isin [.bool] (.v 1)) (.one (.isin [.bool] (.v 0)))) (.seq (.ret (.and (.isin [.bool] (.v 1)) (.and (.isin [.bool] (.v 0)) (.one (.cmp .Eq (.v 0) (.v 1)))))) .nil) .nil) (.seq (.ret (.and (.isin [.int] (.v 0)) (.one (.cmp .Eq (.v 0) (.v 1))))) .nil))))))
def n23 : List Str := ["_law_actual", "_law_expected", "_law_k"]
def f23 : Fd := ⟨2, 3, false, b23⟩
def d23 : Df := ⟨⟨("_law_same", none), "_law_same", "_law_same", defArgs (top 30), defBody (top 30), defScope (top 30), [], []⟩, n23, ["_law_actual", "_law_expected"], f23⟩
/-- _law_chains -/
def b24 : Vm.S := (.seq (.set 2 (.lst true .nil)) (.seq (.forS (.nm 3) (.rng (.cons (.v 0) .nil)) (.seq (.exp (.append (.v 2) (.v 3))) .nil)) (.seq (.set 4 (.lst true .nil)) (.seq (.forS (.nm 3) (.rng (.cons (.v 1) .nil)) (.seq (.set 5 (.bin .FloorDiv (.bin .Sub (.bin .Sub (.bin .Add (.bf .len (.cons (.v 2) .nil)) (.v 1)) (.v 3)) (.lit (.int 1))) (.bin .Sub (.v 1) (.v 3)))) (.seq (.exp (.append (.v 4) (.bf .tuple (.cons (.sl (.v 2) .nil (.one (.v 5))) .nil)))) (.seq (.set 2 (.sl (.v 2) (.one (.v 5)) .nil)) .nil)))) (.seq (.ret (.v 4)) .nil)))))
def n24 : List Str := ["_law_size", "_law_count", "_law_rows", "_law_k", "_law_found", "_law_length"]
def f24 : Fd := ⟨2, 6, true, b24⟩
def d24 : Df := ⟨⟨("_law_chains", none), "_law_chains", "_law_chains", defArgs (top 31), defBody (top 31), defScope (top 31), [], []⟩, n24, ["_law_size", "_law_count"], f24⟩
/-- _law_bits_of -/
def b25 : Vm.S := (.seq (.ret (.bf .tuple (.cons (.comp false (.nm 2) (.rng (.cons (.v 1) .nil)) .nil (.call 22 (.cons (.v 0) (.cons (.lit (.int 2)) .nil)))) .nil))) .nil)
def n25 : List Str := ["_law_draws_here", "_law_size", "_law_k"]
def f25 : Fd := ⟨2, 3, false, b25⟩
def d25 : Df := ⟨⟨("_law_bits_of", none), "_law_bits_of", "_law_bits_of", defArgs (top 32), defBody (top 32), defScope (top 32), [], []⟩, n25, ["_law_draws_here", "_law_size"], f25⟩
/-- _law_is_bits -/
def b26 : Vm.S := (.seq (.ife (.or (.nt (.isin [.tuple] (.v 0))) (.one (.cmp .NotEq (.bf .len (.cons (.v 0) .nil)) (.v 1)))) (.seq (.ret (.lit (.bl false))) .nil) .nil) (.seq (.ret (.cmp .Eq (.bf .len (.cons (.comp false (.nm 2) (.one (.v 0)) (.cons (.or (.isin [.bool] (.v 2)) (.or (.nt (.isin [.int] (.v 2))) (.one (.cmp .NotIn (.v 2) (.lst false (.cons (.lit (.int 0)) (.cons (.lit (.int 1)) .nil))))))) .nil) (.v 2)) .nil)) (.lit (.int 0)))) .nil))
def n26 : List Str := ["_law_value", "_law_size", "_law_one"]
def f26 : Fd := ⟨2, 3, false, b26⟩
def d26 : Df := ⟨⟨("_law_is_bits", none), "_law_is_bits", "_law_is_bits", defArgs (top 33), defBody (top 33), defScope (top 33), [], []⟩, n26, ["_law_value", "_law_size"], f26⟩
/-- _law_due -/
def b27 : Vm.S := (.seq (.set 4 (.bf .len (.cons (.ix (.v 0) (.lit (.int 0))) .nil))) (.seq (.ife (.or (.cmp .Lt (.bf .len (.cons (.v 3) .nil)) (.v 4)) (.one (.cmp .NotEq (.bin .Mod (.bf .int (.cons (.bin .Sub (.bf .len (.cons (.v 3) .nil)) (.v 4)) .nil)) (.bin .Add (.v 4) (.lit (.int 1)))) (.lit (.int 0))))) (.seq (.ret (.lit (.str "refused"))) .nil) .nil) (.seq (.set 5 (.lst true .nil)) (.seq (.forS (.nm 6) (.rng (.cons (.bf .len (.cons (.v 3) .nil)) .nil)) (.seq (.set 7 (.bin .Mod (.bf .int (.cons (.v 6) .nil)) (.bin .Add (.v 4) (.lit (.int 1))))) (.seq (.ife (.nt (.call 26 (.cons (.ix (.v 3) (.v 6)) (.cons (.ife (.cmp .Eq (.v 7) (.v 4)) (.v 1) (.bf .len (.cons (.v 0) .nil))) .nil)))) (.seq (.ret (.lit (.str "refused"))) .nil) .nil) .nil))) (.seq (.forS (.nm 6) (.rng (.cons (.v 4) (.cons (.bf .len (.cons (.v 3) .nil)) (.cons (.bin .Add (.v 4) (.lit (.int 1))) .nil)))) (.seq (.set 8 (.addM .Mult (.lst false (.cons (.lit (.int 0)) .nil)) (.v 2))) (.seq (.forS (.nm 9) (.rng (.cons (.bf .len (.cons (.v 0) .nil)) .nil)) (.seq (.set 10 (.ix (.v 0) (.v 9))) (.seq (.forS (.nm 11) (.rng (.cons (.bf .len (.cons (.v 10) .nil)) .nil)) (.seq (.setX (.v 8) (.ix (.v 10) (.bin .Sub (.bin .Sub (.bf .len (.cons (.v 10) .nil)) (.lit (.int 1))) (.v 11))) (.ix (.ix (.v 3) (.bin .Add (.bin .Add (.v 6) (.lit (.int 1))) (.v 11))) (.v 9))) .nil)) .nil))) (.seq (.exp (.append (.v 5) (.bin .Add (.ix (.v 3) (.v 6)) (.bf .tuple (.cons (.v 8) .nil))))) .nil)))) (.seq (.ret (.v 5)) .nil))))))
def n27 : List Str := ["_law_chains_here", "_law_outputs", "_law_size", "_law_log", "_law_longest", "_law_found", "_law_k", "_law_at", "_law_taken", "_law_j", "_law_row", "_law_n"]
def f27 : Fd := ⟨4, 12, true, b27⟩
def d27 : Df := ⟨⟨("_law_due", none), "_law_due", "_law_due", defArgs (top 34), defBody (top 34), defScope (top 34), [], []⟩, n27, ["_law_chains_here", "_law_outputs", "_law_size", "_law_log"], f27⟩
/-- _law_changed -/
def b28 : Vm.S := (.seq (.set 2 (.call 22 (.cons (.v 0) (.cons (.bin .Add (.bf .len (.cons (.v 1) .nil)) (.lit (.int 1))) .nil)))) (.seq (.set 3 (.ife (.cmp .Lt (.v 2) (.bf .len (.cons (.v 1) .nil))) (.ix (.v 1) (.v 2)) (.tup (.cons (.lit (.int 1)) .nil)))) (.seq (.set 4 (.call 22 (.cons (.v 0) (.cons (.lit (.int 8)) .nil)))) (.seq (.ife (.cmp .Eq (.v 4) (.lit (.int 0))) (.seq (.ret (.bin .Add (.sl (.v 1) .nil (.one (.v 2))) (.sl (.v 1) (.one (.bin .Add (.v 2) (.lit (.int 1)))) .nil))) .nil) .nil) (.seq (.ife (.cmp .Eq (.v 4) (.lit (.int 1))) (.seq (.ret (.bin .Add (.bin .Add (.sl (.v 1) .nil (.one (.v 2))) (.lst false (.cons (.v 3) .nil))) (.sl (.v 1) (.one (.v 2)) .nil))) .nil) .nil) (.seq (.set 5 (.lst false (.cons (.bin .Add (.v 3) (.tup (.cons (.lit (.int 0)) .nil))) (.cons (.sl (.v 3) .nil (.one (.neg (.lit (.int 1))))) (.cons (.listOf false (.v 3)) (.cons (.lit (.non)) (.cons (.bin .Add (.sl (.v 3) .nil (.one (.neg (.lit (.int 1))))) (.tup (.cons (.lit (.int 2)) .nil))) (.cons (.bin .Add (.sl (.v 3) .nil (.one (.neg (.lit (.int 1))))) (.tup (.cons (.lit (.bl true)) .nil))) .nil)))))))) (.seq (.ret (.bin .Add (.bin .Add (.sl (.v 1) .nil (.one (.v 2))) (.lst false (.cons (.ix (.v 5) (.bin .Sub (.v 4) (.lit (.int 2)))) .nil))) (.sl (.v 1) (.one (.bin .Add (.v 2) (.lit (.int 1)))) .nil))) .nil)))))))
def n28 : List Str := ["_law_draws_here", "_law_log", "_law_at", "_law_entry", "_law_kind", "_law_wrong"]
def f28 : Fd := ⟨2, 6, false, b28⟩
def d28 : Df := ⟨⟨("_law_changed", none), "_law_changed", "_law_changed", defArgs (top 35), defBody (top 35), defScope (top 35), [], []⟩, n28, ["_law_draws_here", "_law_log"], f28⟩
/-- law -/
def b29 : Vm.S := (.seq (.set 1 (.call 21 (.cons (.v 0) .nil))) (.seq (.set 2 (.call 22 (.cons (.v 1) (.cons (.lit (.int 8)) .nil)))) (.seq (.set 3 (.call 22 (.cons (.v 1) (.cons (.lit (.int 4)) .nil)))) (.seq (.set 4 (.bf .tuple (.cons (.comp false (.nm 5) (.rng (.cons (.v 2) .nil)) .nil (.tup (.cons (.bin .Add (.lit (.str "r")) (.bf .str (.cons (.v 5) .nil))) (.cons (.lit (.str "a")) .nil)))) .nil))) (.seq (.set 6 (.fz (.make 0 11 (.cons (.tup (.cons (.lit (.str "a")) .nil)) (.cons (.v 4) (.cons (.tup .nil) (.cons (.bin .Mult (.tup (.cons (.lit (.str "a")) .nil)) (.v 3)) .nil))))))) (.seq (.set 7 (.bin .Add (.lit (.int 1)) (.call 22 (.cons (.v 1) (.cons (.bf .max (.cons (.lit (.int 1)) (.cons (.v 2) .nil))) .nil))))) (.seq (.set 8 (.call 24 (.cons (.v 2) (.cons (.v 7) .nil)))) (.seq (.set 9 (.comp true (.nm 5) (.rng (.cons (.bf .len (.cons (.ix (.v 8) (.lit (.int 0))) .nil)) .nil)) .nil (.call 25 (.cons (.v 1) (.cons (.v 7) .nil))))) (.seq (.forS (.nm 5) (.rng (.cons (.call 22 (.cons (.v 1) (.cons (.lit (.int 6)) .nil))) .nil)) (.seq (.exp (.append (.v 9) (.call 25 (.cons (.v 1) (.cons (.v 3) .nil))))) (.seq (.exp (.extend (.v 9) (.comp false (.nm 10) (.rng (.cons (.bf .len (.cons (.ix (.v 8) (.lit (.int 0))) .nil)) .nil)) .nil (.call 25 (.cons (.v 1) (.cons (.v 7) .nil)))))) .nil))) (.seq (.ife (.cmp .Eq (.call 22 (.cons (.v 1) (.cons (.lit (.int 2)) .nil))) (.lit (.int 0))) (.seq (.set 9 (.call 28 (.cons (.v 1) (.cons (.v 9) .nil)))) .nil) .nil) (.seq (.set 11 (.call 27 (.cons (.v 8) (.cons (.v 3) (.cons (.v 2) (.cons (.v 9) .nil)))))) (.seq (.try1 2 (.seq (.set 12 (.call 7 (.cons (.v 6) (.cons (.v 7) (.cons (.listOf false (.v 9)) .nil))))) .nil) (.seq (.ret (.cmp .Eq (.v 11) (.lit (.str "refused")))) .nil)) (.seq (.ret (.call 23 (.cons (.v 12) (.cons (.v 11) .nil)))) .nil)))))))))))))
def n29 : List Str := ["_law_script", "_law_draws_here", "_law_size", "_law_outputs", "_law_registers", "_law_k", "_law_circuit", "_law_count", "_law_chains_here", "_law_log", "_law_j", "_law_due_here", "_law_found"]
def f29 : Fd := ⟨1, 13, false, b29⟩
def d29 : Df := ⟨⟨("law", none), "law", "law", defArgs (top 36), defBody (top 36), defScope (top 36), [], []⟩, n29, ["_law_script"], f29⟩
def pk : Pk where
  df := [d0, d1, d2, d3, d4, d5, d6, d7, d8, d9, d10, d11, d12, d13, d14, d15, d16, d17, d18, d19, d20, d21, d22, d23, d24, d25, d26, d27, d28, d29]
  cl := ["Circuit"]
  xc := ["ProbeError", "BadCircuit", "BadTester"]
  gl := [("MOST_NAME", .int 12), ("MOST_PINS", .int 4), ("MOST_LINES", .int 400), ("MOST_SOURCES", .int 40), ("MOST_PATTERNS", .int 1000), ("LETTERS", .str "abcdefghijklmnopqrstuvwxyz"), ("FIGURES", .str "0123456789"), ("KINDS", .tup [.str "and", .str "or", .str "nand", .str "nor", .str "xor", .str "xnor", .str "not", .str "buf", .str "low", .str "high"])]
  free := ["all", "bool", "enumerate", "int", "isinstance", "len", "list", "max", "range", "sorted", "str", "tuple"]
  at_ := [(0, "gate_of"), (0, "gates"), (0, "inputs"), (0, "order"), (0, "outputs"), (0, "registers")]
  xr := [2]
  sub := [((2, 2), true)]
theorem c0 : dfB pk d0 = true := by decide +kernel
theorem c1 : dfB pk d1 = true := by decide +kernel
theorem c2 : dfB pk d2 = true := by decide +kernel
theorem c3 : dfB pk d3 = true := by decide +kernel
theorem c4 : dfB pk d4 = true := by decide +kernel
theorem c5 : dfB pk d5 = true := by decide +kernel
theorem c6 : dfB pk d6 = true := by decide +kernel
theorem c7 : dfB pk d7 = true := by decide +kernel
theorem c8 : dfB pk d8 = true := by decide +kernel
theorem c9 : dfB pk d9 = true := by decide +kernel
theorem c10 : dfB pk d10 = true := by decide +kernel
theorem c11 : dfB pk d11 = true := by decide +kernel
theorem c12 : dfB pk d12 = true := by decide +kernel
theorem c13 : dfB pk d13 = true := by decide +kernel
theorem c14 : dfB pk d14 = true := by decide +kernel
theorem c15 : dfB pk d15 = true := by decide +kernel
theorem c16 : dfB pk d16 = true := by decide +kernel
theorem c17 : dfB pk d17 = true := by decide +kernel
theorem c18 : dfB pk d18 = true := by decide +kernel
theorem c19 : dfB pk d19 = true := by decide +kernel
theorem c20 : dfB pk d20 = true := by decide +kernel
theorem c21 : dfB pk d21 = true := by decide +kernel
theorem c22 : dfB pk d22 = true := by decide +kernel
theorem c23 : dfB pk d23 = true := by decide +kernel
theorem c24 : dfB pk d24 = true := by decide +kernel
theorem c25 : dfB pk d25 = true := by decide +kernel
theorem c26 : dfB pk d26 = true := by decide +kernel
theorem c27 : dfB pk d27 = true := by decide +kernel
theorem c28 : dfB pk d28 = true := by decide +kernel
theorem c29 : dfB pk d29 = true := by decide +kernel
theorem chk : AllD (fun d => dfB pk d = true) pk.df := ⟨c0, c1, c2, c3, c4, c5, c6, c7, c8, c9, c10, c11, c12, c13, c14, c15, c16, c17, c18, c19, c20, c21, c22, c23, c24, c25, c26, c27, c28, c29, trivial⟩
theorem p0 : BindP d0 := fun _ _ _ _ _ _ us hl => match us, hl with | [_], _ => rfl
theorem p1 : BindP d1 := fun _ _ _ _ _ _ us hl => match us, hl with | [_, _, _], _ => rfl
theorem p2 : BindP d2 := fun _ _ _ _ _ _ us hl => match us, hl with | [_], _ => rfl
theorem p3 : BindP d3 := fun _ _ _ _ _ _ us hl => match us, hl with | [_, _], _ => rfl
theorem p4 : BindP d4 := fun _ _ _ _ _ _ us hl => match us, hl with | [_], _ => rfl
theorem p5 : BindP d5 := fun _ _ _ _ _ _ us hl => match us, hl with | [_, _], _ => rfl
theorem p6 : BindP d6 := fun _ _ _ _ _ _ us hl => match us, hl with | [_, _], _ => rfl
theorem p7 : BindP d7 := fun _ _ _ _ _ _ us hl => match us, hl with | [_, _, _], _ => rfl
theorem p8 : BindP d8 := fun _ _ _ _ _ _ us hl => match us, hl with | [_, _], _ => rfl
theorem p9 : BindP d9 := fun _ _ _ _ _ _ us hl => match us, hl with | [_, _], _ => rfl
theorem p10 : BindP d10 := fun _ _ _ _ _ _ us hl => match us, hl with | [_], _ => rfl
theorem p11 : BindP d11 := fun _ _ _ _ _ _ us hl => match us, hl with | [_, _, _, _, _], _ => rfl
theorem p12 : BindP d12 := fun _ _ _ _ _ _ us hl => match us, hl with | [_], _ => rfl
theorem p13 : BindP d13 := fun _ _ _ _ _ _ us hl => match us, hl with | [_], _ => rfl
theorem p14 : BindP d14 := fun _ _ _ _ _ _ us hl => match us, hl with | [_], _ => rfl
theorem p15 : BindP d15 := fun _ _ _ _ _ _ us hl => match us, hl with | [_], _ => rfl
theorem p16 : BindP d16 := fun _ _ _ _ _ _ us hl => match us, hl with | [_], _ => rfl
theorem p17 : BindP d17 := fun _ _ _ _ _ _ us hl => match us, hl with | [_], _ => rfl
theorem p18 : BindP d18 := fun _ _ _ _ _ _ us hl => match us, hl with | [_], _ => rfl
theorem p19 : BindP d19 := fun _ _ _ _ _ _ us hl => match us, hl with | [_, _], _ => rfl
theorem p20 : BindP d20 := fun _ _ _ _ _ _ us hl => match us, hl with | [_], _ => rfl
theorem p21 : BindP d21 := fun _ _ _ _ _ _ us hl => match us, hl with | [_], _ => rfl
theorem p22 : BindP d22 := fun _ _ _ _ _ _ us hl => match us, hl with | [_, _], _ => rfl
theorem p23 : BindP d23 := fun _ _ _ _ _ _ us hl => match us, hl with | [_, _], _ => rfl
theorem p24 : BindP d24 := fun _ _ _ _ _ _ us hl => match us, hl with | [_, _], _ => rfl
theorem p25 : BindP d25 := fun _ _ _ _ _ _ us hl => match us, hl with | [_, _], _ => rfl
theorem p26 : BindP d26 := fun _ _ _ _ _ _ us hl => match us, hl with | [_, _], _ => rfl
theorem p27 : BindP d27 := fun _ _ _ _ _ _ us hl => match us, hl with | [_, _, _, _], _ => rfl
theorem p28 : BindP d28 := fun _ _ _ _ _ _ us hl => match us, hl with | [_, _], _ => rfl
theorem p29 : BindP d29 := fun _ _ _ _ _ _ us hl => match us, hl with | [_], _ => rfl
theorem bnd : AllD BindP pk.df := ⟨p0, p1, p2, p3, p4, p5, p6, p7, p8, p9, p10, p11, p12, p13, p14, p15, p16, p17, p18, p19, p20, p21, p22, p23, p24, p25, p26, p27, p28, p29, trivial⟩
abbrev hk : PySem.W.Hook := hookE 5 pk
def ob (s : PySem.W.SharedT) : AlD := obsEG 5 pk (HandSHeadRun.getT s)
theorem ob_eq (s : PySem.W.SharedT) : ob s = hk.obs s.abs := obsEG_eq (HandSHeadRun.getT_eq s)
abbrev RR : PySem.W.OpenRow := PySem.W.OpenLaw.row PySem.Challenge.rw_probewright_k56_logs_are_read_strictly
def loose : List PySem.Str := ["_wall", "ProbeError", "BadCircuit", "BadTester", "MOST_NAME", "MOST_PINS", "MOST_LINES", "MOST_SOURCES", "MOST_PATTERNS", "LETTERS", "FIGURES", "is_integer", "is_bit", "are_bits", "is_name", "chains", "taken_bits", "read_back", "KINDS", "pins_allowed", "is_row", "is_gate", "Circuit", "_law_draws", "_law_draw", "_law_same", "_law_chains", "_law_bits_of", "_law_is_bits", "_law_due", "_law_changed"]
theorem run (w : World) : HandSHeadRun.RunEq RR (PySem.W.view RR.prog [36]) hk ob 6000 loose w := by
  intro os
  kernel_rfl
end Lk56

/-! The press: plain mathematics, rows of Booleans (own text). -/
namespace PressA
def xr (a b : List Bool) : List Bool := List.zipWith xor a b
def par (l : List Bool) : Bool := l.foldr xor false
def stp (taps : List Nat) (s w : List Bool) : List Bool := xr (par (taps.map fun t => s.getD t false) :: s.dropLast) w
def prs (n : Nat) (taps : List Nat) (ws : List (List Bool)) : List Bool := ws.foldl (stp taps) (List.replicate n false)
theorem xr_len {a b : List Bool} (h : a.length = b.length) : (xr a b).length = a.length := by
  unfold xr
  rw [List.length_zipWith, h, Nat.min_self]
theorem xor4 (a b c d : Bool) : xor (xor a b) (xor c d) = xor (xor a c) (xor b d) := by cases a <;> cases b <;> cases c <;> cases d <;> rfl
theorem xr_xr : ∀ {a b c d : List Bool}, a.length = b.length → b.length = c.length → c.length = d.length → xr (xr a b) (xr c d) = xr (xr a c) (xr b d)
  | [], [], [], [], _, _, _ => rfl
  | x :: a, y :: b, z :: c, w :: d, h1, h2, h3 => by
    have ih := xr_xr (a := a) (b := b) (c := c) (d := d) (by simpa using h1) (by simpa using h2) (by simpa using h3)
    unfold xr at *
    simp only [List.zipWith_cons_cons]
    rw [ih, xor4]
  | [], _ :: _, _, _, h, _, _ => by cases h
  | _ :: _, [], _, _, h, _, _ => by cases h
  | _, [], _ :: _, _, _, h, _ => by cases h
  | _, _ :: _, [], _, _, h, _ => by cases h
  | _, _, [], _ :: _, _, _, h => by cases h
  | _, _, _ :: _, [], _, _, h => by cases h
theorem xr_getD {a b : List Bool} (h : a.length = b.length) (i : Nat) : (xr a b).getD i false = xor (a.getD i false) (b.getD i false) := by
  unfold xr
  rw [List.getD_eq_getElem?_getD, List.getD_eq_getElem?_getD, List.getD_eq_getElem?_getD, List.getElem?_zipWith]
  by_cases hi : i < a.length
  · rw [List.getElem?_eq_getElem hi, List.getElem?_eq_getElem (show i < b.length by omega)]
    rfl
  · rw [List.getElem?_eq_none (by omega), List.getElem?_eq_none (show b.length ≤ i by omega)]
    rfl
theorem par_map {α : Type} (f g : α → Bool) : ∀ l : List α, par (l.map fun t => xor (f t) (g t)) = xor (par (l.map f)) (par (l.map g))
  | [] => rfl
  | x :: l => by
    have := par_map f g l
    unfold par at *
    simp only [List.map_cons, List.foldr_cons]
    rw [this, xor4]
theorem xr_dropLast {a b : List Bool} (h : a.length = b.length) : (xr a b).dropLast = xr a.dropLast b.dropLast := by
  unfold xr
  rw [List.dropLast_eq_take, List.dropLast_eq_take, List.dropLast_eq_take, List.take_zipWith, List.length_zipWith, h, Nat.min_self]
theorem stp_len {taps : List Nat} {s w : List Bool} {n : Nat} (hn : 0 < n) (hs : s.length = n) (hw : w.length = n) : (stp taps s w).length = n := by
  unfold stp
  rw [xr_len (by rw [List.length_cons, List.length_dropLast]; omega), List.length_cons, List.length_dropLast]
  omega
/-- the step is linear -/
theorem stp_xr {taps : List Nat} {s t w v : List Bool} {n : Nat} (hn : 0 < n) (hs : s.length = n) (ht : t.length = n) (hw : w.length = n) (hv : v.length = n) : stp taps (xr s t) (xr w v) = xr (stp taps s w) (stp taps t v) := by
  unfold stp
  have e : par (taps.map fun i => (xr s t).getD i false) :: (xr s t).dropLast = xr (par (taps.map fun i => s.getD i false) :: s.dropLast) (par (taps.map fun i => t.getD i false) :: t.dropLast) := by
    rw [xr_dropLast (by omega)]
    have : (fun i => (xr s t).getD i false) = fun i => xor (s.getD i false) (t.getD i false) := funext fun i => xr_getD (by omega) i
    rw [this, par_map]
    rfl
  rw [e]
  exact xr_xr (by rw [List.length_cons, List.length_cons, List.length_dropLast, List.length_dropLast]; omega) (by rw [List.length_cons, List.length_dropLast]; omega) (by omega)
theorem fold_xr {taps : List Nat} {n : Nat} (hn : 0 < n) : ∀ (ws vs : List (List Bool)) (s t : List Bool), ws.length = vs.length → (∀ w ∈ ws, w.length = n) → (∀ v ∈ vs, v.length = n) → s.length = n → t.length = n →
    (List.zipWith xr ws vs).foldl (stp taps) (xr s t) = xr (ws.foldl (stp taps) s) (vs.foldl (stp taps) t)
  | [], [], _, _, _, _, _, _, _ => rfl
  | w :: ws, v :: vs, s, t, h, hw, hv, hs, ht => by
    have w0 := hw w List.mem_cons_self
    have v0 := hv v List.mem_cons_self
    rw [List.zipWith_cons_cons, List.foldl_cons, List.foldl_cons, List.foldl_cons, stp_xr hn hs ht w0 v0]
    exact fold_xr hn ws vs _ _ (by simpa using h) (fun x hx => hw x (List.mem_cons_of_mem _ hx)) (fun x hx => hv x (List.mem_cons_of_mem _ hx)) (stp_len hn hs w0) (stp_len hn ht v0)
  | [], _ :: _, _, _, h, _, _, _, _ => by cases h
  | _ :: _, [], _, _, h, _, _, _, _ => by cases h
end PressA

/-! The press: it forgets nothing (own text). -/
namespace PressA
theorem par_append (a b : List Bool) : par (a ++ b) = xor (par a) (par b) := by
  unfold par
  induction a with
  | nil => simp
  | cons x a ih => simp only [List.cons_append, List.foldr_cons, ih, Bool.xor_assoc]
theorem zipW_inj : ∀ {a b w : List Bool}, a.length = w.length → b.length = w.length → xr a w = xr b w → a = b
  | [], [], _, _, _, _ => rfl
  | x :: a, y :: b, z :: w, h1, h2, e => by
    unfold xr at e
    simp only [List.zipWith_cons_cons, List.cons.injEq] at e
    rw [zipW_inj (a := a) (b := b) (w := w) (by simpa using h1) (by simpa using h2) e.2]
    have : x = y := by
      have := e.1
      cases x <;> cases y <;> cases z <;> simp_all
    rw [this]
  | [], _ :: _, [], _, h, _ => by cases h
  | [], _ :: _, _ :: _, h, _, _ => by cases h
  | _ :: _, [], [], h, _, _ => by cases h
  | _ :: _, [], _ :: _, _, h, _ => by cases h
  | _ :: _, _ :: _, [], h, _, _ => by cases h
theorem getD_drop {s t : List Bool} {n i : Nat} (hs : s.length = n) (ht : t.length = n) (h : s.dropLast = t.dropLast) (hi : i < n - 1) : s.getD i false = t.getD i false := by
  have e : s.dropLast[i]? = t.dropLast[i]? := by rw [h]
  rw [List.getElem?_dropLast, List.getElem?_dropLast, if_pos (by omega), if_pos (by omega)] at e
  rw [List.getD_eq_getElem?_getD, List.getD_eq_getElem?_getD, e]
theorem last_eq {s t : List Bool} {n : Nat} (hn : 0 < n) (hs : s.length = n) (ht : t.length = n) (h : s.dropLast = t.dropLast) (hl : s.getD (n - 1) false = t.getD (n - 1) false) : s = t := by
  refine List.ext_getElem? fun i => ?_
  rcases Nat.lt_or_ge i n with q | q
  · have e : s.getD i false = t.getD i false := by
      rcases Nat.lt_or_ge i (n - 1) with z | z
      · exact getD_drop hs ht h z
      · rw [show i = n - 1 by omega]; exact hl
    rw [List.getD_eq_getElem?_getD, List.getD_eq_getElem?_getD, List.getElem?_eq_getElem (show i < s.length by omega), List.getElem?_eq_getElem (show i < t.length by omega)] at e
    rw [List.getElem?_eq_getElem (show i < s.length by omega), List.getElem?_eq_getElem (show i < t.length by omega)]
    exact congrArg some e
  · rw [List.getElem?_eq_none (by omega), List.getElem?_eq_none (by omega)]
/-- the state before is known from the state after -/
theorem stp_inj {ts : List Nat} {s t w : List Bool} {n : Nat} (hn : 0 < n) (hts : ∀ i ∈ ts, i < n - 1) (hs : s.length = n) (ht : t.length = n) (hw : w.length = n) (e : stp (ts ++ [n - 1]) s w = stp (ts ++ [n - 1]) t w) : s = t := by
  unfold stp at e
  have e := zipW_inj (by rw [List.length_cons, List.length_dropLast]; omega) (by rw [List.length_cons, List.length_dropLast]; omega) e
  rw [List.cons.injEq] at e
  obtain ⟨e1, e2⟩ := e
  refine last_eq hn hs ht e2 ?_
  rw [List.map_append, List.map_append, par_append, par_append] at e1
  have : (ts.map fun i => s.getD i false) = ts.map fun i => t.getD i false := List.map_congr_left fun i hi => getD_drop hs ht e2 (hts i hi)
  rw [this] at e1
  have e1 : xor (par (ts.map fun i => t.getD i false)) (par [s.getD (n - 1) false]) = xor (par (ts.map fun i => t.getD i false)) (par [t.getD (n - 1) false]) := e1
  generalize par (ts.map fun i => t.getD i false) = p at e1
  generalize s.getD (n - 1) false = x at *
  generalize t.getD (n - 1) false = y at *
  cases p <;> cases x <;> cases y <;> first | rfl | (exact absurd e1 (by decide))
theorem fold_inj {ts : List Nat} {n : Nat} (hn : 0 < n) (hts : ∀ i ∈ ts, i < n - 1) : ∀ (ws : List (List Bool)) (s t : List Bool), (∀ w ∈ ws, w.length = n) → s.length = n → t.length = n → ws.foldl (stp (ts ++ [n - 1])) s = ws.foldl (stp (ts ++ [n - 1])) t → s = t
  | [], _, _, _, _, _, e => e
  | w :: ws, s, t, hw, hs, ht, e => by
    have w0 := hw w List.mem_cons_self
    have := fold_inj hn hts ws _ _ (fun x hx => hw x (List.mem_cons_of_mem _ hx)) (stp_len hn hs w0) (stp_len hn ht w0) e
    exact stp_inj hn hts hs ht w0 this
theorem word_inj {taps : List Nat} {s w v : List Bool} {n : Nat} (hn : 0 < n) (hs : s.length = n) (hw : w.length = n) (hv : v.length = n) (e : stp taps s w = stp taps s v) : w = v := by
  unfold stp at e
  have c : ∀ a b : List Bool, xr a b = xr b a := fun a b => by
    unfold xr
    rw [List.zipWith_comm]
    congr 1
    funext x y
    cases x <;> cases y <;> rfl
  rw [c, c _ v] at e
  exact zipW_inj (by rw [List.length_cons, List.length_dropLast]; omega) (by rw [List.length_cons, List.length_dropLast]; omega) e
theorem fold_len {taps : List Nat} {n : Nat} (hn : 0 < n) : ∀ (ws : List (List Bool)) (s : List Bool), (∀ w ∈ ws, w.length = n) → s.length = n → (ws.foldl (stp taps) s).length = n
  | [], _, _, h => h
  | w :: ws, s, hw, hs => fold_len hn ws _ (fun x hx => hw x (List.mem_cons_of_mem _ hx)) (stp_len hn hs (hw w List.mem_cons_self))
theorem xr_self_zero : ∀ {a b : List Bool}, a.length = b.length → (xr a b = List.replicate a.length false ↔ a = b)
  | [], [], _ => by simp [xr]
  | x :: a, y :: b, h => by
    have ih := xr_self_zero (a := a) (b := b) (by simpa using h)
    unfold xr at *
    simp only [List.zipWith_cons_cons, List.length_cons, List.replicate_succ, List.cons.injEq, ih]
    cases x <;> cases y <;> simp
  | [], _ :: _, h => by cases h
  | _ :: _, [], h => by cases h
theorem par_false (l : List Nat) : par (l.map fun _ => false) = false := by
  unfold par
  induction l with
  | nil => rfl
  | cons x l ih => rw [List.map_cons, List.foldr_cons, ih]; rfl
theorem stp_zero {taps : List Nat} {n : Nat} (hn : 0 < n) : stp taps (List.replicate n false) (List.replicate n false) = List.replicate n false := by
  unfold stp
  have : (fun t => (List.replicate n false).getD t false) = fun _ => false := funext fun t => by
    rw [List.getD_eq_getElem?_getD, List.getElem?_replicate]
    split <;> rfl
  rw [this, par_false, List.dropLast_replicate, ← List.replicate_succ, show n - 1 + 1 = n by omega]
  unfold xr
  rw [List.zipWith_replicate, Nat.min_self]
  rfl
theorem fold_zero {taps : List Nat} {n : Nat} (hn : 0 < n) : ∀ k : Nat, (List.replicate k (List.replicate n false)).foldl (stp taps) (List.replicate n false) = List.replicate n false
  | 0 => rfl
  | k + 1 => by rw [List.replicate_succ, List.foldl_cons, stp_zero hn]; exact fold_zero hn k
end PressA

/-! The press: its functions, run (own text). -/
namespace Vm
open PySem L2
def bN (b : Bool) : Dt := .int (boolI b)
def tB (r : List Bool) : Dt := .tup (r.map bN)
def isIntB : S := (.seq (.ife (.or (.nt (.isin [.int] (.v 0))) (.one (.isin [.bool] (.v 0)))) (.seq (.ret (.lit (.bl false))) .nil) .nil) (.seq (.ret (.and (.cmp .LtE (.v 1) (.v 0)) (.one (.cmp .LtE (.v 0) (.v 2))))) .nil))
def isBitB (f : Nat) : S := (.seq (.ret (.call f (.cons (.v 0) (.cons (.lit (.int 0)) (.cons (.lit (.int 1)) .nil))))) .nil)
def areBitsB (f : Nat) : S := (.seq (.ife (.or (.nt (.isin [.tuple] (.v 0))) (.one (.cmp .NotEq (.bf .len (.cons (.v 0) .nil)) (.v 1)))) (.seq (.ret (.lit (.bl false))) .nil) .nil) (.seq (.ret (.bf .all (.cons (.comp false (.nm 2) (.one (.v 0)) .nil (.call f (.cons (.v 2) .nil))) .nil))) .nil))
section
variable {T : Tb} {f g e : Nat}
theorem isInt_run (hf : T.fn f = some ⟨3, 3, false, isIntB⟩) {k b : Nat} {i lo hi : Int} {h : Hq} : callK T (k + 1) f b [.int i, .int lo, .int hi] h = .ok (.bl (decide (lo ≤ i) && decide (i ≤ hi))) h := by
  rw [callK_in hf rfl rfl]
  have e : exS (callK T k) T.gl T.sub b isIntB [some (.int i), some (.int lo), some (.int hi)] h = .rt (.bl (decide (lo ≤ i) && decide (i ≤ hi))) h := by
    refine (x_seq_nx ((x_if_f (h' := h) rfl).trans rfl)).trans (x_seq_rt (x_ret ?_))
    rw [ev_and (c := decide (lo ≤ i)) (h1 := h) rfl]
    cases decide (lo ≤ i) <;> rfl
  show finK (exS (callK T k) T.gl T.sub b isIntB [some (.int i), some (.int lo), some (.int hi)] h) = _
  rw [e]; rfl
theorem isBit_run (hf : T.fn f = some ⟨3, 3, false, isIntB⟩) (hg : T.fn g = some ⟨1, 1, false, isBitB f⟩) {k b : Nat} {x : Bool} {h : Hq} : callK T (k + 2) g b [bN x] h = .ok (.bl true) h := by
  rw [callK_in hg rfl rfl]
  have e : exS (callK T (k + 1)) T.gl T.sub b (isBitB f) [some (bN x)] h = .rt (.bl true) h := by
    refine x_seq_rt (x_ret ?_)
    refine (ev_call (ds := [bN x, .int 0, .int 1]) (h1 := h) (evs_cons rfl (evs_cons rfl (evs_one rfl)))).trans ?_
    refine (isInt_run hf).trans ?_
    cases x <;> rfl
  show finK (exS (callK T (k + 1)) T.gl T.sub b (isBitB f) [some (bN x)] h) = _
  rw [e]; rfl
theorem areBits_run (hf : T.fn f = some ⟨3, 3, false, isIntB⟩) (hg : T.fn g = some ⟨1, 1, false, isBitB f⟩) (he : T.fn e = some ⟨2, 3, false, areBitsB g⟩) {k b : Nat} {r : List Bool} {h : Hq} (hl : r.length ≤ 1000) :
    callK T (k + 3) e b [tB r, iN r.length] h = .ok (.bl true) h := by
  rw [callK_in he rfl rfl]
  have e1 : ev (callK T (k + 2)) T.gl b (.comp false (.nm 2) (.one (.v 0)) .nil (.call g (.cons (.v 2) .nil))) [some (tB r), some (iN r.length), none] h = .ok (.lst (r.map fun _ => .bl true)) h := by
    refine ev_comp (ds := r.map bN) (h1 := h) (evi_one (d := tB r) rfl rfl) (compL_map fun x _ => ?_) (by rw [List.length_map, sizeLine_eq]; omega)
    refine turn_all (σ' := [some (tB r), some (iN r.length), some (bN x)]) rfl ?_
    exact (ev_call (ds := [bN x]) (h1 := h) (evs_one rfl)).trans (isBit_run hf hg)
  have e2 : exS (callK T (k + 2)) T.gl T.sub b (areBitsB g) [some (tB r), some (iN r.length), none] h = .rt (.bl true) h := by
    refine (x_seq_nx (s' := [some (tB r), some (iN r.length), none]) (h' := h) ((x_if_f (h' := h) ?_).trans rfl)).trans (x_seq_rt (x_ret ?_))
    · have ec : ev (callK T (k + 2)) T.gl b (.cmp .NotEq (.bf .len (.cons (.v 0) .nil)) (.v 1)) [some (tB r), some (iN r.length), none] h = .ok (.bl false) h := by
        refine ev_cmp (d := iN r.length) (e := iN r.length) (h1 := h) (ev_bf (f := .len) (ds := [tB r]) (evs_one rfl) ?_) rfl ?_
        · show some (Dt.int ((r.map bN).length : Nat)) = _
          rw [List.length_map]; rfl
        · show (eqD (iN r.length) (iN r.length)).map (!·) = _
          rw [eqD_iN, decide_eq_true rfl]; rfl
      rw [ev_or (c := false) (h1 := h) rfl]
      exact ec
    · refine ev_bf (f := .all) (evs_one e1) ((all_map (p := fun _ => true) r).trans ?_)
      rw [List.all_eq_true.mpr fun _ _ => rfl]
  show finK (exS (callK T (k + 2)) T.gl T.sub b (areBitsB g) [some (tB r), some (iN r.length), none] h) = _
  rw [e2]; rfl
end
end Vm

/-! The press: its step (own text). -/
namespace Vm
open PySem L2 PressA
def stepB (e x : Nat) : S := (.seq (.ife (.or (.nt (.call e (.cons (.v 1) (.cons (.fld 0 (.v 0) "width") .nil)))) (.one (.nt (.call e (.cons (.v 2) (.cons (.fld 0 (.v 0) "width") .nil)))))) (.seq (.raise x) .nil) .nil) (.seq (.set 3 (.bin .BitAnd (.bf .sum (.cons (.comp false (.nm 4) (.one (.fld 0 (.v 0) "taps")) .nil (.ix (.v 1) (.v 4))) .nil)) (.lit (.int 1)))) (.seq (.set 5 (.bin .Add (.tup (.cons (.v 3) .nil)) (.sl (.v 1) .nil (.one (.neg (.lit (.int 1))))))) (.seq (.ret (.bf .tuple (.cons (.comp false (.tu [6, 7]) (.zip (.v 5) (.v 2)) .nil (.bin .BitXor (.v 6) (.v 7))) .nil))) .nil))))
theorem xor_bN (x y : Bool) : binD .BitXor (bN x) (bN y) = some (bN (xor x y)) := by cases x <;> cases y <;> rfl
theorem sum_bN : ∀ l : List Bool, ∃ s : Nat, intsOf (l.map bN) = some (l.map boolI) ∧ (l.map boolI).sum = (s : Int) ∧ s % 2 = if par l then 1 else 0
  | [] => ⟨0, rfl, rfl, rfl⟩
  | x :: l => by
    obtain ⟨s, e1, e2, e3⟩ := sum_bN l
    refine ⟨(if x then 1 else 0) + s, ?_, ?_, ?_⟩
    · show (intsOf (l.map bN)).map (boolI x :: ·) = _
      rw [e1]; rfl
    · rw [List.map_cons, List.sum_cons, e2]
      cases x <;> simp [boolI]
    · show ((if x then 1 else 0) + s) % 2 = if xor x (par l) then 1 else 0
      generalize par l = p at *
      cases x <;> cases p <;> simp at * <;> omega
theorem and_par (l : List Bool) : ∃ s : Int, bfD .sum [.lst (l.map bN)] = some (.int s) ∧ binD .BitAnd (.int s) (.int 1) = some (bN (par l)) := by
  obtain ⟨s, e1, e2, e3⟩ := sum_bN l
  refine ⟨(s : Int), ?_, ?_⟩
  · show ((intsOf (l.map bN)).map fun ns => Dt.int ns.sum) = _
    rw [e1]
    show some (Dt.int (l.map boolI).sum) = _
    rw [e2]
  · show some (Dt.int (Builtin.bitAnd (s : Int) 1)) = _
    have : Builtin.bitAnd (s : Int) 1 = ((s &&& 1 : Nat) : Int) := by
      simp [Builtin.bitAnd]
    rw [this, Nat.and_one_is_mod, e3]
    cases par l <;> rfl
theorem tB_ne {r : List Bool} : (tB r) = .tup (r.map bN) := rfl
theorem ix_tB {r : List Bool} {k : Nat} (h : k < r.length) : ixD (tB r) (iN k) = some (bN (r.getD k false)) := by
  show atI (r.map bN) (k : Int) = _
  unfold atI ixN
  rw [List.length_map, if_pos (by omega), if_pos (by omega)]
  show (r.map bN)[((k : Int)).toNat]? = _
  rw [Int.toNat_natCast, List.getElem?_map, List.getD_eq_getElem?_getD, List.getElem?_eq_getElem h]
  rfl
theorem cut_last {r : List Bool} (h : 0 < r.length) : slD (tB r) none (some (-1)) = some (tB r.dropLast) := by
  show some (Dt.tup (cutD (r.map bN) none (some (-1)))) = some (Dt.tup (r.dropLast.map bN))
  have e : HT.sIx (r.map bN).length (r.map bN).length (some (-1)) = r.length - 1 := by
    rw [List.length_map]
    unfold HT.sIx
    simp
    omega
  unfold cutD
  rw [e]
  show some (Dt.tup (((r.map bN).drop 0).take (r.length - 1 - 0))) = _
  rw [List.drop_zero, Nat.sub_zero, ← List.map_take, List.dropLast_eq_take]
def PressC (w : Nat) (taps : List Nat) : Cell := .ins 0 ["width", "taps"] [iN w, tN taps]
section
variable {T : Tb} {f g e x m : Nat}
theorem add_one (a : Bool) (r : List Bool) (h : r.length ≤ 1000) : binD .Add (.tup [bN a]) (tB r) = some (tB (a :: r)) := by
  show (if decide (([bN a] : List Dt).length + (r.map bN).length ≤ sizeLine) = true then some (Dt.tup ([bN a] ++ r.map bN)) else none) = _
  rw [if_pos (decide_eq_true (by rw [List.length_map, sizeLine_eq]; show 1 + r.length ≤ _; omega))]
  rfl
theorem step_run (hf : T.fn f = some ⟨3, 3, false, isIntB⟩) (hg : T.fn g = some ⟨1, 1, false, isBitB f⟩) (he : T.fn e = some ⟨2, 3, false, areBitsB g⟩) (hm : T.fn m = some ⟨3, 8, false, stepB e x⟩) {k b n w : Nat} {taps : List Nat} {s v : List Bool} {h : Hq}
    (hn : h[n]? = some (PressC w taps)) (hw : w ≤ 1000) (h0 : 0 < w) (ht : ∀ t ∈ taps, t < w) (hl : taps.length ≤ 1000) (hs : s.length = w) (hv : v.length = w) :
    callK T (k + 4) m b [.ref n, tB s, tB v] h = .ok (tB (stp taps s v)) h := by
  rw [callK_in hm rfl rfl]
  have vwn : vw h (.ref n) = .ins 0 ["width", "taps"] [iN w, tN taps] := by
    unfold PressC at hn
    simp only [vw, hn]
  have ew : ∀ x3 x4 x5 x6 x7, ev (callK T (k + 3)) T.gl b (.fld 0 (.v 0) "width") [some (.ref n), some (tB s), some (tB v), x3, x4, x5, x6, x7] h = .ok (iN w) h := fun x3 x4 x5 x6 x7 => by
    show (match vw h (.ref n) with
      | .ins c' ns ds => if decide (c' = 0) then Res.opt h (lookF ns ds "width") else .no
      | _ => .no) = _
    rw [vwn]; rfl
  have et : ∀ x3 x4 x5 x6 x7, ev (callK T (k + 3)) T.gl b (.fld 0 (.v 0) "taps") [some (.ref n), some (tB s), some (tB v), x3, x4, x5, x6, x7] h = .ok (tN taps) h := fun x3 x4 x5 x6 x7 => by
    show (match vw h (.ref n) with
      | .ins c' ns ds => if decide (c' = 0) then Res.opt h (lookF ns ds "taps") else .no
      | _ => .no) = _
    rw [vwn]; rfl
  have c1 : ev (callK T (k + 3)) T.gl b (.call e (.cons (.v 1) (.cons (.fld 0 (.v 0) "width") .nil))) [some (.ref n), some (tB s), some (tB v), none, none, none, none, none] h = .ok (.bl true) h := by
    refine (ev_call (ds := [tB s, iN w]) (h1 := h) (evs_cons rfl (evs_one (ew _ _ _ _ _)))).trans ?_
    rw [← hs]
    exact areBits_run hf hg he (by omega)
  have c2 : ev (callK T (k + 3)) T.gl b (.call e (.cons (.v 2) (.cons (.fld 0 (.v 0) "width") .nil))) [some (.ref n), some (tB s), some (tB v), none, none, none, none, none] h = .ok (.bl true) h := by
    refine (ev_call (ds := [tB v, iN w]) (h1 := h) (evs_cons rfl (evs_one (ew _ _ _ _ _)))).trans ?_
    rw [← hv]
    exact areBits_run hf hg he (by omega)
  have c3 : ev (callK T (k + 3)) T.gl b (.or (.nt (.call e (.cons (.v 1) (.cons (.fld 0 (.v 0) "width") .nil)))) (.one (.nt (.call e (.cons (.v 2) (.cons (.fld 0 (.v 0) "width") .nil)))))) [some (.ref n), some (tB s), some (tB v), none, none, none, none, none] h = .ok (.bl false) h := by
    rw [ev_or (ev_nt c1)]
    exact ev_nt c2
  obtain ⟨sm, es, ea⟩ := and_par (taps.map fun t => s.getD t false)
  have e3 : ev (callK T (k + 3)) T.gl b (.bin .BitAnd (.bf .sum (.cons (.comp false (.nm 4) (.one (.fld 0 (.v 0) "taps")) .nil (.ix (.v 1) (.v 4))) .nil)) (.lit (.int 1))) [some (.ref n), some (tB s), some (tB v), none, none, none, none, none] h = .ok (bN (par (taps.map fun t => s.getD t false))) h := by
    refine ev_bin (d := .int sm) (e := .int 1) (h1 := h) (ev_bf (f := .sum) (ds := [.lst ((taps.map fun t => s.getD t false).map bN)]) (evs_one ?_) es) rfl ea
    rw [List.map_map]
    refine ev_comp (ds := taps.map iN) (h1 := h) (evi_one (d := tN taps) (et _ _ _ _ _) rfl) (compL_map fun t htm => ?_) (by rw [List.length_map, sizeLine_eq]; omega)
    refine turn_all (σ' := [some (.ref n), some (tB s), some (tB v), none, some (iN t), none, none, none]) rfl ?_
    have := ht t htm
    exact ev_ix (d := tB s) (e := iN t) (h1 := h) rfl rfl (ix_tB (by omega))
  generalize hp : par (taps.map fun t => s.getD t false) = p at *
  have e5 : ev (callK T (k + 3)) T.gl b (.bin .Add (.tup (.cons (.v 3) .nil)) (.sl (.v 1) .nil (.one (.neg (.lit (.int 1)))))) [some (.ref n), some (tB s), some (tB v), some (bN p), none, none, none, none] h = .ok (tB (p :: s.dropLast)) h := by
    refine ev_bin (d := .tup [bN p]) (e := tB s.dropLast) (h1 := h) (ev_tup (evs_one rfl) (by show 1 ≤ 10000; decide)) ?_ (add_one _ _ (by rw [List.length_dropLast]; omega))
    show Res.opt h (slD (tB s) none (some (-1))) = _
    rw [cut_last (by omega)]; rfl
  have e6 : ev (callK T (k + 3)) T.gl b (.bf .tuple (.cons (.comp false (.tu [6, 7]) (.zip (.v 5) (.v 2)) .nil (.bin .BitXor (.v 6) (.v 7))) .nil)) [some (.ref n), some (tB s), some (tB v), some (bN p), none, some (tB (p :: s.dropLast)), none, none] h = .ok (tB (stp taps s v)) h := by
    refine ev_bf (f := .tuple) (ds := [.lst (((p :: s.dropLast).zip v).map fun q => bN (xor q.1 q.2))]) (evs_one (ev_comp (ds := ((p :: s.dropLast).zip v).map fun q => .tup [bN q.1, bN q.2]) (h1 := h) ((evi_zip (d := tB (p :: s.dropLast)) (e := tB v) (ds := (p :: s.dropLast).map bN) (es := v.map bN) (h1 := h) (h2 := h) rfl rfl rfl rfl).trans (by rw [zipD_map])) (compL_map fun q _ => ?_) (by rw [List.length_map, List.length_zip, sizeLine_eq]; omega))) ?_
    · refine turn_all (σ' := [some (.ref n), some (tB s), some (tB v), some (bN p), none, some (tB (p :: s.dropLast)), some (bN q.1), some (bN q.2)]) rfl ?_
      exact ev_bin (d := bN q.1) (e := bN q.2) (h1 := h) rfl rfl (xor_bN _ _)
    · show some (Dt.tup (((p :: s.dropLast).zip v).map fun q => bN (xor q.1 q.2))) = some (Dt.tup ((stp taps s v).map bN))
      unfold stp xr
      rw [hp, ← List.map_uncurry_zip_eq_zipWith, List.map_map]
      rfl
  have run : exS (callK T (k + 3)) T.gl T.sub b (stepB e x) [some (.ref n), some (tB s), some (tB v), none, none, none, none, none] h = .rt (tB (stp taps s v)) h := by
    refine (x_seq_nx ((x_if_f c3).trans rfl)).trans ?_
    refine (x_seq_nx (x_set e3)).trans ?_
    refine (x_seq_nx (x_set e5)).trans ?_
    exact x_seq_rt (x_ret e6)
  show finK (exS (callK T (k + 3)) T.gl T.sub b (stepB e x) [some (.ref n), some (tB s), some (tB v), none, none, none, none, none] h) = _
  rw [run]; rfl
end
end Vm

/-! The press: press, the making (own text). -/
namespace Vm
open PySem L2 PressA
def pressB (m : Nat) : S := (.seq (.set 2 (.bin .Mult (.tup (.cons (.lit (.int 0)) .nil)) (.fld 0 (.v 0) "width"))) (.seq (.forS (.nm 3) (.one (.v 1)) (.seq (.set 2 (.mcall 0 "step" m (.v 0) (.cons (.v 2) (.cons (.v 3) .nil)))) .nil)) (.seq (.ret (.v 2)) .nil)))
theorem rep_flat (n : Nat) : (List.replicate n [Dt.int 0]).flatten = (List.replicate n false).map bN := by
  induction n with
  | zero => rfl
  | succ n ih => rw [List.replicate_succ, List.flatten_cons, ih, List.replicate_succ]; rfl
theorem zeros {n : Nat} (h0 : 0 < n) (h1 : n ≤ 1000) : binD .Mult (.tup [.int 0]) (iN n) = some (tB (List.replicate n false)) := by
  show (if decide ((n : Int) = 1) then some (Dt.tup [.int 0]) else if decide ([Dt.int 0] ≠ []) && decide (2 ≤ (n : Int)) && decide ((n : Int) ≤ 1000) && decide ([Dt.int 0].length ≤ 1000) then some (Dt.tup (List.replicate (n : Int).toNat [Dt.int 0]).flatten) else if decide ([Dt.int 0] ≠ []) && decide ((n : Int) ≤ 0) && decide (-1000 ≤ (n : Int)) then some (Dt.tup []) else none) = _
  by_cases h : n = 1
  · subst h; rfl
  · rw [if_neg (by simp; omega), if_pos (by simp; omega), Int.toNat_natCast, rep_flat]
    rfl
section
variable {T : Tb} {f g e x m q : Nat}
theorem press_run (hf : T.fn f = some ⟨3, 3, false, isIntB⟩) (hg : T.fn g = some ⟨1, 1, false, isBitB f⟩) (he : T.fn e = some ⟨2, 3, false, areBitsB g⟩) (hm : T.fn m = some ⟨3, 8, false, stepB e x⟩) (hq : T.fn q = some ⟨2, 4, false, pressB m⟩) {k b n w : Nat} {taps : List Nat} {ws : List (List Bool)} {h : Hq}
    (hn : h[n]? = some (PressC w taps)) (hw : w ≤ 1000) (h0 : 0 < w) (ht : ∀ t ∈ taps, t < w) (hl : taps.length ≤ 1000) (hws : ∀ v ∈ ws, v.length = w) :
    callK T (k + 5) q b [.ref n, .lst (ws.map tB)] h = .ok (tB (prs w taps ws)) h := by
  rw [callK_in hq rfl rfl]
  have vwn : vw h (.ref n) = .ins 0 ["width", "taps"] [iN w, tN taps] := by
    unfold PressC at hn
    simp only [vw, hn]
  have e1 : ev (callK T (k + 4)) T.gl b (.bin .Mult (.tup (.cons (.lit (.int 0)) .nil)) (.fld 0 (.v 0) "width")) [some (.ref n), some (.lst (ws.map tB)), none, none] h = .ok (tB (List.replicate w false)) h := by
    refine ev_bin (d := .tup [.int 0]) (e := iN w) (h1 := h) (ev_tup (evs_one rfl) (by decide)) ?_ (zeros h0 hw)
    show (match vw h (.ref n) with
      | .ins c' ns ds => if decide (c' = 0) then Res.opt h (lookF ns ds "width") else .no
      | _ => .no) = _
    rw [vwn]; rfl
  obtain ⟨s', h', er, vs, st, x3, el, hvs, hst, hfo, es, eh⟩ := forL_nx (f := fun d σ hh => match (Tg.nm 3).set d σ with
      | none => .no
      | some σ' => exS (callK T (k + 4)) T.gl T.sub b (.seq (.set 2 (.mcall 0 "step" m (.v 0) (.cons (.v 2) (.cons (.v 3) .nil)))) .nil) σ' hh)
    (fun l s hh => ∃ (vs : List (List Bool)) (st : List Bool) (x3 : Option Dt), l = vs.map tB ∧ (∀ v ∈ vs, v.length = w) ∧ st.length = w ∧ vs.foldl (stp taps) st = prs w taps ws ∧ s = [some (.ref n), some (.lst (ws.map tB)), some (tB st), x3] ∧ hh = h)
    (ds := ws.map tB) (s := [some (.ref n), some (.lst (ws.map tB)), some (tB (List.replicate w false)), none]) (h := h)
    ⟨ws, _, none, rfl, hws, List.length_replicate, rfl, rfl, rfl⟩
    (fun d l s hh ⟨vs, st, x3, el, hvs, hst, hfo, es, eh⟩ => by
      subst es eh
      cases vs with
      | nil => cases el
      | cons v vs =>
        cases el
        have hv := hvs v List.mem_cons_self
        have ec : ev (callK T (k + 4)) T.gl b (.mcall 0 "step" m (.v 0) (.cons (.v 2) (.cons (.v 3) .nil))) [some (.ref n), some (.lst (ws.map tB)), some (tB st), some (tB v)] hh = .ok (tB (stp taps st v)) hh := by
          show (match vw hh (.ref n) with
            | .ins c' ns _ => if decide (c' = 0) && decide (("step" : Str) ∉ ns) then (Res.ok [tB st, tB v] hh).bind fun ds h2 => callK T (k + 4) m b (.ref n :: ds) h2 else .no
            | _ => .no) = _
          rw [vwn]
          exact step_run hf hg he hm hn hw h0 ht hl hst hv
        exact ⟨_, _, (x_seq_nx (x_set ec)).trans rfl, vs, stp taps st v, some (tB v), rfl, fun u hu => hvs u (List.mem_cons_of_mem _ hu), stp_len h0 hst hv, hfo, rfl, rfl⟩)
  subst es eh
  cases vs with
  | cons v vs => cases el
  | nil =>
    have hfo : st = prs w taps ws := hfo
    subst hfo
    have run : exS (callK T (k + 4)) T.gl T.sub b (pressB m) [some (.ref n), some (.lst (ws.map tB)), none, none] h' = .rt (tB (prs w taps ws)) h' := by
      refine (x_seq_nx (x_set e1)).trans ?_
      refine (x_seq_nx (s' := [some (.ref n), some (.lst (ws.map tB)), some (tB (prs w taps ws)), x3]) (h' := h') ?_).trans (x_seq_rt (x_ret rfl))
      refine (x_for (s := [some (.ref n), some (.lst (ws.map tB)), some (tB (List.replicate w false)), none]) (h := h') (w := .its (ws.map tB)) (h' := h') (evi_one (cl := callK T (k + 4)) (gl := T.gl) (b := b) (e := .v 1) (d := .lst (ws.map tB)) rfl rfl)).trans ?_
      exact er
    show finK (exS (callK T (k + 4)) T.gl T.sub b (pressB m) [some (.ref n), some (.lst (ws.map tB)), none, none] h') = _
    rw [run]; rfl
end
end Vm

/-! The press: the making (own text). -/
namespace Vm
open PySem L2 PressA
def initBody (f x : Nat) : S := .seq (.ife (.or (.nt (.call f (.cons (.v 4) (.cons (.lit (.int 0)) (.cons (.bin .Sub (.v 1) (.lit (.int 1))) .nil))))) (.one (.and (.cmp .Gt (.v 3) (.lit (.int 0))) (.one (.cmp .LtE (.v 4) (.ix (.v 2) (.bin .Sub (.v 3) (.lit (.int 1))))))))) (.seq (.raise x) .nil) .nil) .nil
def initB (f x : Nat) : S := (.seq (.ife (.or (.nt (.call f (.cons (.v 1) (.cons (.lit (.int 1)) (.cons (.gl 0) .nil))))) (.or (.nt (.isin [.tuple] (.v 2))) (.one (.cmp .Eq (.v 2) (.tup .nil))))) (.seq (.raise x) .nil) .nil) (.seq (.forS (.tu [3, 4]) (.enum (.v 2)) (initBody f x)) (.seq (.ife (.cmp .NotEq (.ix (.v 2) (.neg (.lit (.int 1)))) (.bin .Sub (.v 1) (.lit (.int 1)))) (.seq (.raise x) .nil) .nil) (.seq (.setF 0 (.v 0) "width" (.v 1)) (.seq (.setF 0 (.v 0) "taps" (.v 2)) .nil)))))
theorem ix_tN {r : List Nat} {k : Nat} (h : k < r.length) : ixD (tN r) (iN k) = some (iN r[k]) := by
  show atI (r.map iN) (k : Int) = _
  unfold atI ixN
  rw [List.length_map, if_pos (by omega), if_pos (by omega)]
  show (r.map iN)[((k : Int)).toNat]? = _
  rw [Int.toNat_natCast, List.getElem?_map, List.getElem?_eq_getElem h]
  rfl
section
variable {T : Tb} {f x : Nat}
theorem init_turn (hf : T.fn f = some ⟨3, 3, false, isIntB⟩) {k b i w : Nat} {taps : List Nat} {x0 : Option Dt} {h : Hq} (hi : i < taps.length) (ht : ∀ t ∈ taps, t < w) (hp : taps.Pairwise (· < ·)) :
    exS (callK T (k + 1)) T.gl T.sub b (initBody f x) [x0, some (iN w), some (tN taps), some (iN i), some (iN taps[i])] h = .nx [x0, some (iN w), some (tN taps), some (iN i), some (iN taps[i])] h := by
  have hlt := ht _ (List.getElem_mem hi)
  have e1 : ev (callK T (k + 1)) T.gl b (.call f (.cons (.v 4) (.cons (.lit (.int 0)) (.cons (.bin .Sub (.v 1) (.lit (.int 1))) .nil)))) [x0, some (iN w), some (tN taps), some (iN i), some (iN taps[i])] h = .ok (.bl true) h := by
    refine (ev_call (ds := [iN taps[i], .int 0, .int ((w : Int) - 1)]) (h1 := h) (evs_cons rfl (evs_cons rfl (evs_one rfl)))).trans ((isInt_run hf).trans ?_)
    rw [decide_eq_true (by omega), decide_eq_true (by omega)]; rfl
  have e2 : ev (callK T (k + 1)) T.gl b (.and (.cmp .Gt (.v 3) (.lit (.int 0))) (.one (.cmp .LtE (.v 4) (.ix (.v 2) (.bin .Sub (.v 3) (.lit (.int 1))))))) [x0, some (iN w), some (tN taps), some (iN i), some (iN taps[i])] h = .ok (.bl false) h := by
    rw [ev_and (c := decide ((0 : Int) < (i : Int))) (h1 := h) rfl]
    by_cases h0 : 0 < i
    · rw [decide_eq_true (by omega), if_pos rfl]
      have ei : ev (callK T (k + 1)) T.gl b (.ix (.v 2) (.bin .Sub (.v 3) (.lit (.int 1)))) [x0, some (iN w), some (tN taps), some (iN i), some (iN taps[i])] h = .ok (iN taps[i - 1]) h := by
        refine ev_ix (d := tN taps) (e := iN (i - 1)) (h1 := h) rfl ?_ (ix_tN (by omega))
        show Res.ok (Dt.int ((i : Int) - 1)) h = Res.ok (Dt.int ((i - 1 : Nat) : Int)) h
        rw [show ((i - 1 : Nat) : Int) = (i : Int) - 1 by omega]
      have hlt2 : taps[i - 1] < taps[i] := List.pairwise_iff_getElem.mp hp (i - 1) i (by omega) hi (by omega)
      refine ev_cmp (op := .LtE) (d := iN taps[i]) (e := iN taps[i - 1]) (h1 := h) rfl ei ?_
      show some (decide ((taps[i] : Int) ≤ (taps[i - 1] : Int))) = _
      rw [decide_eq_false (by omega)]
    · rw [decide_eq_false (by omega)]; rfl
  have e3 : ev (callK T (k + 1)) T.gl b (.or (.nt (.call f (.cons (.v 4) (.cons (.lit (.int 0)) (.cons (.bin .Sub (.v 1) (.lit (.int 1))) .nil))))) (.one (.and (.cmp .Gt (.v 3) (.lit (.int 0))) (.one (.cmp .LtE (.v 4) (.ix (.v 2) (.bin .Sub (.v 3) (.lit (.int 1))))))))) [x0, some (iN w), some (tN taps), some (iN i), some (iN taps[i])] h = .ok (.bl false) h := by
    rw [ev_or (ev_nt e1)]
    exact e2
  exact (x_seq_nx ((x_if_f e3).trans rfl)).trans rfl
theorem x_setF {cl : Nat → Nat → List Dt → Hq → Res Dt} {gl : List Dt} {sub : Nat → Nat → Option Bool} {b c n : Nat} {s : En} {h h1 h2 h3 : Hq} {o e : E} {f : Str} {d : Dt} (he : ev cl gl b e s h = .ok d h1) (ho : ev cl gl b o s h1 = .ok (.ref n) h2) (hs : storeF b c (.ref n) f d h2 = some h3) : exS cl gl sub b (.setF c o f e) s h = .nx s h3 := by
  show Rs.of s (ev cl gl b e s h) _ = _
  rw [he]
  show Rs.of s (ev cl gl b o s h1) _ = _
  rw [ho]
  show Rs.opt s (storeF b c (.ref n) f d h2) = _
  rw [hs]
  rfl
theorem storeF_ok {b c n : Nat} {h : Hq} {f : Str} {d : Dt} {ns : List Str} {ds : List Dt} (hb : b ≤ n) (hn : h[n]? = some (.ins c ns ds)) (hl : ns.length < 1000) : storeF b c (.ref n) f d h = some (h.set n (.ins c (putFd ns ds f d).1 (putFd ns ds f d).2)) := by
  show (if stOk b n d then (match h[n]? with
    | some (.ins c' ns ds) => if decide (c' = c) && decide (ns.length < 1000) then some (h.set n (.ins c' (putFd ns ds f d).1 (putFd ns ds f d).2)) else none
    | _ => none) else none) = _
  rw [if_pos (by unfold stOk; rw [decide_eq_true hb]; rfl), hn]
  show (if (decide (c = c) && decide (ns.length < 1000)) = true then _ else _) = _
  rw [decide_eq_true rfl, decide_eq_true hl]
  rfl
theorem init_loop (hf : T.fn f = some ⟨3, 3, false, isIntB⟩) {k b w : Nat} {taps : List Nat} {x0 : Option Dt} {h : Hq} (ht : ∀ t ∈ taps, t < w) (hp : taps.Pairwise (· < ·)) :
    ∃ x3 x4, forL (fun d σ hh => match (Tg.tu [3, 4]).set d σ with
      | none => .no
      | some σ' => exS (callK T (k + 1)) T.gl T.sub b (initBody f x) σ' hh) (enumD 0 (taps.map iN)) [x0, some (iN w), some (tN taps), none, none] h = .nx [x0, some (iN w), some (tN taps), x3, x4] h := by
  obtain ⟨s', h', e, i, x3, x4, el, es, eh⟩ := forL_nx (f := fun d σ hh => match (Tg.tu [3, 4]).set d σ with
      | none => .no
      | some σ' => exS (callK T (k + 1)) T.gl T.sub b (initBody f x) σ' hh)
    (fun l s hh => ∃ (i : Nat) (x3 x4 : Option Dt), l = enumD i ((taps.drop i).map iN) ∧ s = [x0, some (iN w), some (tN taps), x3, x4] ∧ hh = h)
    (ds := enumD 0 (taps.map iN)) (s := [x0, some (iN w), some (tN taps), none, none]) (h := h)
    ⟨0, none, none, rfl, rfl, rfl⟩
    (fun d l s hh ⟨i, x3, x4, el, es, eh⟩ => by
      subst es eh
      by_cases hi : i < taps.length
      · rw [List.drop_eq_getElem_cons hi] at el
        cases el
        exact ⟨_, _, init_turn hf hi ht hp, i + 1, _, _, rfl, rfl, rfl⟩
      · rw [List.drop_of_length_le (by omega)] at el
        cases el)
  subst es eh
  exact ⟨x3, x4, e⟩
theorem init_run (hf : T.fn f = some ⟨3, 3, false, isIntB⟩) {m : Nat} (hm : T.fn m = some ⟨3, 5, false, initB f x⟩) (hgl : T.gl[0]? = some (.int 64)) {k b n w : Nat} {ts : List Nat} {h : Hq}
    (hb : b ≤ n) (hn : h[n]? = some (.ins 0 [] [])) (h0 : 0 < w) (hw : w ≤ 64) (ht : ∀ t ∈ ts ++ [w - 1], t < w) (hp : (ts ++ [w - 1]).Pairwise (· < ·)) :
    callK T (k + 2) m b [.ref n, iN w, tN (ts ++ [w - 1])] h = .ok .non (h.set n (PressC w (ts ++ [w - 1]))) := by
  rw [callK_in hm rfl rfl]
  obtain ⟨x3, x4, el⟩ := init_loop (x := x) (k := k) (b := b) (x0 := some (.ref n)) (h := h) hf ht hp
  have e1 : ev (callK T (k + 1)) T.gl b (.call f (.cons (.v 1) (.cons (.lit (.int 1)) (.cons (.gl 0) .nil)))) [some (.ref n), some (iN w), some (tN (ts ++ [w - 1])), none, none] h = .ok (.bl true) h := by
    refine (ev_call (ds := [iN w, .int 1, .int 64]) (h1 := h) (evs_cons rfl (evs_cons rfl (evs_one ?_)))).trans ((isInt_run hf).trans ?_)
    · show Res.opt h T.gl[0]? = _
      rw [hgl]; rfl
    · rw [decide_eq_true (by omega), decide_eq_true (by omega)]; rfl
  have e2 : ev (callK T (k + 1)) T.gl b (.cmp .Eq (.v 2) (.tup .nil)) [some (.ref n), some (iN w), some (tN (ts ++ [w - 1])), none, none] h = .ok (.bl false) h := by
    refine ev_cmp (op := .Eq) (d := tN (ts ++ [w - 1])) (e := tN []) (h1 := h) rfl (ev_tup evs_nil (by decide)) ?_
    show eqD (tN (ts ++ [w - 1])) (tN []) = _
    rw [eqD_tN, decide_eq_false (by simp)]
  have e3 : ev (callK T (k + 1)) T.gl b (.or (.nt (.call f (.cons (.v 1) (.cons (.lit (.int 1)) (.cons (.gl 0) .nil))))) (.or (.nt (.isin [.tuple] (.v 2))) (.one (.cmp .Eq (.v 2) (.tup .nil))))) [some (.ref n), some (iN w), some (tN (ts ++ [w - 1])), none, none] h = .ok (.bl false) h := by
    rw [ev_or (ev_nt e1)]
    show ev (callK T (k + 1)) T.gl b (.or (.nt (.isin [.tuple] (.v 2))) (.one (.cmp .Eq (.v 2) (.tup .nil)))) _ h = _
    rw [ev_or (c := false) (h1 := h) rfl]
    exact e2
  have e4 : ev (callK T (k + 1)) T.gl b (.cmp .NotEq (.ix (.v 2) (.neg (.lit (.int 1)))) (.bin .Sub (.v 1) (.lit (.int 1)))) [some (.ref n), some (iN w), some (tN (ts ++ [w - 1])), x3, x4] h = .ok (.bl false) h := by
    refine ev_cmp (op := .NotEq) (d := iN (w - 1)) (e := .int ((w : Int) - 1)) (h1 := h) (ev_ix (d := tN (ts ++ [w - 1])) (e := .int (-1)) (h1 := h) rfl rfl ix_last) rfl ?_
    show (eqD (.int ((w - 1 : Nat) : Int)) (.int ((w : Int) - 1))).map (!·) = _
    rw [eqD_int, decide_eq_true (by omega)]; rfl
  have hn1 : (h.set n (.ins 0 ["width"] [iN w]))[n]? = some (.ins 0 ["width"] [iN w]) := set_cell hn
  have run : exS (callK T (k + 1)) T.gl T.sub b (initB f x) [some (.ref n), some (iN w), some (tN (ts ++ [w - 1])), none, none] h = .nx [some (.ref n), some (iN w), some (tN (ts ++ [w - 1])), x3, x4] (h.set n (PressC w (ts ++ [w - 1]))) := by
    refine (x_seq_nx ((x_if_f e3).trans rfl)).trans ?_
    refine (x_seq_nx (s' := [some (.ref n), some (iN w), some (tN (ts ++ [w - 1])), x3, x4]) (h' := h) ?_).trans ?_
    · exact (x_for (w := .its (enumD 0 ((ts ++ [w - 1]).map iN))) (h' := h) (evi_enum (d := tN (ts ++ [w - 1])) rfl rfl)).trans el
    refine (x_seq_nx ((x_if_f e4).trans rfl)).trans ?_
    have f1 : exS (callK T (k + 1)) T.gl T.sub b (.setF 0 (.v 0) "width" (.v 1)) [some (.ref n), some (iN w), some (tN (ts ++ [w - 1])), x3, x4] h = .nx [some (.ref n), some (iN w), some (tN (ts ++ [w - 1])), x3, x4] (h.set n (.ins 0 ["width"] [iN w])) := x_setF (n := n) (d := iN w) (h1 := h) (h2 := h) rfl rfl (storeF_ok hb hn (by decide))
    have f2 : exS (callK T (k + 1)) T.gl T.sub b (.setF 0 (.v 0) "taps" (.v 2)) [some (.ref n), some (iN w), some (tN (ts ++ [w - 1])), x3, x4] (h.set n (.ins 0 ["width"] [iN w])) = .nx [some (.ref n), some (iN w), some (tN (ts ++ [w - 1])), x3, x4] ((h.set n (.ins 0 ["width"] [iN w])).set n (PressC w (ts ++ [w - 1]))) := x_setF (n := n) (d := tN (ts ++ [w - 1])) (h1 := h.set n (.ins 0 ["width"] [iN w])) (h2 := h.set n (.ins 0 ["width"] [iN w])) rfl rfl (storeF_ok hb hn1 (by decide))
    rw [List.set_set] at f2
    exact (x_seq_nx f1).trans ((x_seq_nx f2).trans rfl)
  show finK (exS (callK T (k + 1)) T.gl T.sub b (initB f x) [some (.ref n), some (iN w), some (tN (ts ++ [w - 1])), none, none] h) = _
  rw [run]; rfl
end
end Vm

/-! The press: what its laws draw (own text). -/
namespace Vm
open PySem L2 PressA
def lpressB (d : Nat) : S := (.seq (.set 2 (.bin .Add (.lit (.int 1)) (.call d (.cons (.v 0) (.cons (.v 1) .nil))))) (.seq (.set 3 (.bin .Add (.comp false (.nm 4) (.rng (.cons (.bin .Sub (.v 2) (.lit (.int 1))) .nil)) (.cons (.cmp .Eq (.call d (.cons (.v 0) (.cons (.lit (.int 3)) .nil))) (.lit (.int 0))) .nil) (.v 4)) (.lst false (.cons (.bin .Sub (.v 2) (.lit (.int 1))) .nil)))) (.seq (.ret (.tup (.cons (.v 2) (.cons (.bf .tuple (.cons (.v 3) .nil)) .nil)))) .nil)))
def bitsOfB (d : Nat) : S := (.seq (.ret (.bf .tuple (.cons (.comp false (.nm 2) (.rng (.cons (.v 1) .nil)) .nil (.call d (.cons (.v 0) (.cons (.lit (.int 2)) .nil)))) .nil))) .nil)
def addedB : S := (.seq (.set 2 (.lst true .nil)) (.seq (.forS (.tu [3, 4]) (.zip (.v 0) (.v 1)) (.seq (.exp (.append (.v 2) (.bf .tuple (.cons (.comp false (.tu [5, 6]) (.zip (.v 3) (.v 4)) .nil (.bin .BitXor (.v 5) (.v 6))) .nil)))) .nil)) (.seq (.ret (.v 2)) .nil)))
def lsumB : S := (.seq (.set 2 (.lst true .nil)) (.seq (.forS (.nm 3) (.rng (.cons (.bf .len (.cons (.v 0) .nil)) .nil)) (.seq (.exp (.append (.v 2) (.bf .tuple (.cons (.comp false (.nm 4) (.rng (.cons (.bf .len (.cons (.ix (.v 0) (.v 3)) .nil)) .nil)) .nil (.bf .int (.cons (.cmp .NotEq (.ix (.ix (.v 0) (.v 3)) (.v 4)) (.ix (.ix (.v 1) (.v 3)) (.v 4))) .nil))) .nil)))) .nil)) (.seq (.ret (.v 2)) .nil)))
theorem noRef_tB (r : List Bool) : noRef (tB r) = true := noRefs_map (fun _ => rfl) r
theorem eqD_bN (x y : Bool) : eqD (bN x) (bN y) = some (x == y) := by
  show eqD (.int (boolI x)) (.int (boolI y)) = _
  rw [eqD_int]
  cases x <;> cases y <;> rfl
theorem iN_bN {v : Nat} (h : v < 2) : iN v = bN (decide (v = 1)) := by
  rcases (show v = 0 ∨ v = 1 by omega) with e | e <;> subst e <;> rfl
theorem plain_tB (r : List Bool) (k : Nat) : plainN (k + 1) (tB r) = true := by
  show (r.map bN).all (plainN k) = true
  rw [List.all_map, List.all_eq_true]
  intro x _
  cases k <;> rfl
theorem eqv_bits : ∀ a b : List Bool, PyData.eqvAll (pys (a.map bN)) (pys (b.map bN)) = decide (a = b)
  | [], [] => rfl
  | [], _ :: _ => rfl
  | _ :: _, [] => rfl
  | x :: a, y :: b => by
    show (PyData.eqv (.int (boolI x)) (.int (boolI y)) && PyData.eqvAll (pys (a.map bN)) (pys (b.map bN))) = _
    rw [eqv_bits a b]
    have : PyData.eqv (.int (boolI x)) (.int (boolI y)) = decide (x = y) := by cases x <;> cases y <;> rfl
    rw [this]
    by_cases h1 : x = y <;> by_cases h2 : a = b <;> simp [h1, h2]
theorem eqD_tB (a b : List Bool) : eqD (tB a) (tB b) = some (decide (a = b)) := by
  unfold eqD
  rw [show plain (tB a) = true from plain_tB a 63, show plain (tB b) = true from plain_tB b 63]
  show some (PyData.eqvAll (pys (a.map bN)) (pys (b.map bN))) = _
  rw [eqv_bits]
theorem len_tB (a : List Bool) : bfD .len [tB a] = some (iN a.length) := by
  show some (Dt.int ((a.map bN).length : Nat)) = _
  rw [List.length_map]; rfl
theorem ne_tB (a b : List Bool) : cmpD .NotEq (tB a) (tB b) = some (!decide (a = b)) := by
  show (eqD (tB a) (tB b)).map (!·) = _
  rw [eqD_tB]; rfl
section
variable {T : Tb} {d p q a u k b : Nat} {ns : List Int} {rest h : Hq}
theorem lpress_run (hd : T.fn d = some ⟨2, 4, false, drawB⟩) (hp : T.fn p = some ⟨2, 5, false, lpressB d⟩) {most : Int} (hdr : Dr ns rest h) (h0 : 0 < most) (h1 : most ≤ 1000) :
    ∃ (w : Nat) (ts : List Nat) (h' : Hq), Dr ns rest h' ∧ 0 < w ∧ (w : Int) ≤ most ∧ (∀ t ∈ ts, t < w - 1) ∧ (ts ++ [w - 1]).Pairwise (· < ·) ∧ ts.length < w ∧ callK T (k + 2) p b [.ref 0, .int most] h = .ok (.tup [iN w, tN (ts ++ [w - 1])]) h' := by
  obtain ⟨v, h2, d2, hv, q1⟩ := dr_ev (T := T) (f := d) (k := k) (b := b) (s := [some (.ref 0), some (.int most), none, none, none]) (e1 := .v 0) (e2 := .v 1) hd rfl rfl hdr h0 (by omega)
  have e2 : ev (callK T (k + 1)) T.gl b (.bin .Add (.lit (.int 1)) (.call d (.cons (.v 0) (.cons (.v 1) .nil)))) [some (.ref 0), some (.int most), none, none, none] h = .ok (iN (1 + v)) h2 := by
    refine ev_bin (d := .int 1) (h1 := h) rfl q1 ?_
    show some (Dt.int (1 + (v : Int))) = some (Dt.int ((1 + v : Nat) : Int))
    rw [show ((1 + v : Nat) : Int) = 1 + (v : Int) by omega]
  have e3 : ∀ x3 x4 hh, ev (callK T (k + 1)) T.gl b (.bin .Sub (.v 2) (.lit (.int 1))) [some (.ref 0), some (.int most), some (iN (1 + v)), x3, x4] hh = .ok (iN v) hh := fun x3 x4 hh => by
    show Res.ok (Dt.int (((1 + v : Nat) : Int) - 1)) hh = Res.ok (Dt.int (v : Int)) hh
    rw [show ((1 + v : Nat) : Int) - 1 = (v : Int) by omega]
  obtain ⟨ts, h3, sl, ec, d3⟩ := compL_sub (g := iN) (f := turn (callK T (k + 1)) T.gl b [some (.ref 0), some (.int most), some (iN (1 + v)), none, none] (.nm 4) (.cons (.cmp .Eq (.call d (.cons (.v 0) (.cons (.lit (.int 3)) .nil))) (.lit (.int 0))) .nil) (.v 4)) (P := Dr ns rest) (xs := List.range v) (fun x hx hh dh => by
    obtain ⟨z, h4, d4, hz, q4⟩ := dr_ev (T := T) (f := d) (k := k) (b := b) (s := [some (.ref 0), some (.int most), some (iN (1 + v)), none, some (iN x)]) (e1 := .v 0) (e2 := .lit (.int 3)) (lim := 3) hd rfl rfl dh (by decide) (by decide)
    refine ⟨decide (z = 0), h4, ?_, d4⟩
    refine turn_ifh (σ' := [some (.ref 0), some (.int most), some (iN (1 + v)), none, some (iN x)]) rfl ?_ fun _ => rfl
    exact ev_cmp (d := iN z) (e := iN 0) (h1 := h4) q4 rfl (eqD_iN _ _)) d2
  have hlen : ts.length ≤ v := by have := sl.length_le; rw [List.length_range] at this; exact this
  have e4 : ev (callK T (k + 1)) T.gl b (.bin .Add (.comp false (.nm 4) (.rng (.cons (.bin .Sub (.v 2) (.lit (.int 1))) .nil)) (.cons (.cmp .Eq (.call d (.cons (.v 0) (.cons (.lit (.int 3)) .nil))) (.lit (.int 0))) .nil) (.v 4)) (.lst false (.cons (.bin .Sub (.v 2) (.lit (.int 1))) .nil))) [some (.ref 0), some (.int most), some (iN (1 + v)), none, none] h2 = .ok (.lst ((ts ++ [v]).map iN)) h3 := by
    refine ev_bin (d := .lst (ts.map iN)) (e := .lst ([v].map iN)) (h1 := h3) (ev_comp (evi_rng1 (e3 _ _ _) (by omega)) ec (by rw [List.length_map]; exact sz (by omega))) (ev_lst (evs_one (e3 _ _ _)) (by show 1 ≤ 10000; decide)) (add_lst ?_)
    show ts.length + 1 ≤ 100000
    omega
  refine ⟨1 + v, ts, h3, d3, by omega, by omega, fun t ht => ?_, ?_, by omega, ?_⟩
  · have := List.mem_range.mp (sl.subset ht)
    omega
  · rw [List.pairwise_append]
    refine ⟨List.Pairwise.sublist sl List.pairwise_lt_range, List.pairwise_singleton _ _, fun t ht z hz => ?_⟩
    have := List.mem_range.mp (sl.subset ht)
    rw [List.mem_singleton.mp hz]
    omega
  · rw [callK_in hp rfl rfl, show 1 + v - 1 = v by omega]
    have run : exS (callK T (k + 1)) T.gl T.sub b (lpressB d) [some (.ref 0), some (.int most), none, none, none] h = .rt (.tup [iN (1 + v), tN (ts ++ [v])]) h3 := by
      refine (x_seq_nx (x_set e2)).trans ?_
      refine (x_seq_nx (x_set e4)).trans ?_
      refine x_seq_rt (x_ret ?_)
      exact ev_tup (evs_cons (h1 := h3) rfl (evs_one (ev_bf (f := .tuple) (ds := [.lst ((ts ++ [v]).map iN)]) (h1 := h3) (evs_one rfl) rfl))) (by show 2 ≤ 10000; decide)
    show finK (exS (callK T (k + 1)) T.gl T.sub b (lpressB d) [some (.ref 0), some (.int most), none, none, none] h) = _
    rw [run]; rfl
theorem bits_run (hd : T.fn d = some ⟨2, 4, false, drawB⟩) (hq : T.fn q = some ⟨2, 3, false, bitsOfB d⟩) {n : Nat} (hdr : Dr ns rest h) (hn : n ≤ 1000) :
    ∃ (r : List Bool) (h' : Hq), Dr ns rest h' ∧ r.length = n ∧ callK T (k + 2) q b [.ref 0, iN n] h = .ok (tB r) h' := by
  obtain ⟨ys, h3, ly, _, ec, d3⟩ := compL_ex (g := bN) (R := fun _ => True) (f := turn (callK T (k + 1)) T.gl b [some (.ref 0), some (iN n), none] (.nm 2) .nil (.call d (.cons (.v 0) (.cons (.lit (.int 2)) .nil)))) (P := Dr ns rest) (ds := (List.range n).map iN) (fun x hx hh dh => by
    obtain ⟨z, h4, d4, hz, q4⟩ := dr_ev (T := T) (f := d) (k := k) (b := b) (s := [some (.ref 0), some (iN n), some x]) (e1 := .v 0) (e2 := .lit (.int 2)) (lim := 2) hd rfl rfl dh (by decide) (by decide)
    rw [iN_bN (v := z) (by omega)] at q4
    exact ⟨_, h4, turn_all (σ' := [some (.ref 0), some (iN n), some x]) rfl q4, d4, trivial⟩) hdr
  rw [List.length_map, List.length_range] at ly
  refine ⟨ys, h3, d3, ly, ?_⟩
  rw [callK_in hq rfl rfl]
  have run : exS (callK T (k + 1)) T.gl T.sub b (bitsOfB d) [some (.ref 0), some (iN n), none] h = .rt (tB ys) h3 := by
    refine x_seq_rt (x_ret ?_)
    refine ev_bf (f := .tuple) (ds := [.lst (ys.map bN)]) (evs_one (ev_comp (evi_rng1 (h1 := h) rfl (by omega)) ec (by rw [List.length_map]; exact sz (by omega)))) rfl
  show finK (exS (callK T (k + 1)) T.gl T.sub b (bitsOfB d) [some (.ref 0), some (iN n), none] h) = _
  rw [run]; rfl
theorem added_run (ha : T.fn a = some ⟨2, 7, true, addedB⟩) {ws vs : List (List Bool)} (hl : ws.length ≤ 1000) (hr : ∀ w ∈ ws, w.length ≤ 1000) : callK T (k + 1) a b [.lst (ws.map tB), .lst (vs.map tB)] h = .ok (.lst ((List.zipWith xr ws vs).map tB)) h := by
  rw [callK_reg ha rfl rfl]
  have e1 : ev (callK T k) T.gl h.length (.lst true .nil) [some (.lst (ws.map tB)), some (.lst (vs.map tB)), none, none, none, none, none] h = .ok (.ref h.length) (h ++ [.lst []]) := ev_lst0 evs_nil (by decide)
  obtain ⟨s', e, x3, x4, es⟩ := forL_app (f := fun d σ hh => match (Tg.tu [3, 4]).set d σ with
      | none => .no
      | some σ' => exS (callK T k) T.gl T.sub h.length (.seq (.exp (.append (.v 2) (.bf .tuple (.cons (.comp false (.tu [5, 6]) (.zip (.v 3) (.v 4)) .nil (.bin .BitXor (.v 5) (.v 6))) .nil)))) .nil) σ' hh)
    (c := fun q : List Bool × List Bool => .tup [tB q.1, tB q.2]) (g := fun q => tB (xr q.1 q.2))
    (P := fun s => ∃ x3 x4, s = [some (.lst (ws.map tB)), some (.lst (vs.map tB)), some (.ref h.length), x3, x4, none, none]) (n := h.length) (xs := ws.zip vs) (ds := [])
    (s := [some (.lst (ws.map tB)), some (.lst (vs.map tB)), some (.ref h.length), none, none, none, none]) (h := h ++ [.lst []])
    ⟨none, none, rfl⟩ (by simp)
    (fun x hx s ds hh ⟨x3, x4, es⟩ hn hd => by
      subst es
      refine ⟨[some (.lst (ws.map tB)), some (.lst (vs.map tB)), some (.ref h.length), some (tB x.1), some (tB x.2), none, none], ?_, _, _, rfl⟩
      have hx1 : x.1.length ≤ 1000 := hr _ (List.of_mem_zip hx).1
      have ec : ev (callK T k) T.gl h.length (.bf .tuple (.cons (.comp false (.tu [5, 6]) (.zip (.v 3) (.v 4)) .nil (.bin .BitXor (.v 5) (.v 6))) .nil)) [some (.lst (ws.map tB)), some (.lst (vs.map tB)), some (.ref h.length), some (tB x.1), some (tB x.2), none, none] hh = .ok (tB (xr x.1 x.2)) hh := by
        refine ev_bf (f := .tuple) (ds := [.lst ((x.1.zip x.2).map fun q => bN (xor q.1 q.2))]) (evs_one (ev_comp (ds := (x.1.zip x.2).map fun q => .tup [bN q.1, bN q.2]) (h1 := hh) ((evi_zip (d := tB x.1) (e := tB x.2) (ds := x.1.map bN) (es := x.2.map bN) (h1 := hh) (h2 := hh) rfl rfl rfl rfl).trans (by rw [zipD_map])) (compL_map fun q _ => ?_) (by rw [List.length_map, List.length_zip]; exact sz (by omega)))) ?_
        · refine turn_all (σ' := [some (.lst (ws.map tB)), some (.lst (vs.map tB)), some (.ref h.length), some (tB x.1), some (tB x.2), some (bN q.1), some (bN q.2)]) rfl ?_
          exact ev_bin (d := bN q.1) (e := bN q.2) (h1 := hh) rfl rfl (xor_bN _ _)
        · show some (Dt.tup ((x.1.zip x.2).map fun q => bN (xor q.1 q.2))) = some (Dt.tup ((xr x.1 x.2).map bN))
          unfold xr
          rw [← List.map_uncurry_zip_eq_zipWith, List.map_map]
          rfl
      have ea := ev_append (cl := callK T k) (gl := T.gl) (b := h.length) (s := [some (.lst (ws.map tB)), some (.lst (vs.map tB)), some (.ref h.length), some (tB x.1), some (tB x.2), none, none]) (h := hh) (o := .v 2) (n := h.length) (h1 := hh) rfl hn ec hn hd (by unfold stOk; rw [decide_eq_true (Nat.le_refl _)]; rfl)
      exact (x_seq_nx (x_exp ea)).trans rfl)
    (by rw [List.length_zip]; show 0 + _ ≤ _; omega)
  subst es
  have run : exS (callK T k) T.gl T.sub h.length addedB [some (.lst (ws.map tB)), some (.lst (vs.map tB)), none, none, none, none, none] h = .rt (.ref h.length) (h ++ [.lst ((List.zipWith xr ws vs).map tB)]) := by
    refine (x_seq_nx (x_set e1)).trans ?_
    refine (x_seq_nx (s' := [some (.lst (ws.map tB)), some (.lst (vs.map tB)), some (.ref h.length), x3, x4, none, none]) (h' := h ++ [.lst ((List.zipWith xr ws vs).map tB)]) ?_).trans (x_seq_rt (x_ret rfl))
    refine (x_for (s := [some (.lst (ws.map tB)), some (.lst (vs.map tB)), some (.ref h.length), none, none, none, none]) (h := h ++ [.lst []]) (h' := h ++ [.lst []]) ((evi_zip (cl := callK T k) (gl := T.gl) (b := h.length) (x := .v 0) (y := .v 1) (d := .lst (ws.map tB)) (e := .lst (vs.map tB)) (ds := ws.map tB) (es := vs.map tB) (h1 := h ++ [.lst []]) (h2 := h ++ [.lst []]) rfl rfl rfl rfl).trans (by rw [zipD_map]))).trans ?_
    refine e.trans ?_
    rw [List.set_append_right _ _ (Nat.le_refl _), Nat.sub_self, List.nil_append, ← List.map_uncurry_zip_eq_zipWith, List.map_map]
    rfl
  show finR h.length (exS (callK T k) T.gl T.sub h.length addedB [some (.lst (ws.map tB)), some (.lst (vs.map tB)), none, none, none, none, none] h) = _
  rw [run]
  exact finR_one (noRefs_map noRef_tB _)
theorem lsum_run (hu : T.fn u = some ⟨2, 5, true, lsumB⟩) {ws vs : List (List Bool)} {n : Nat} (hl : ws.length ≤ 1000) (hv : ws.length = vs.length) (hw : ∀ w ∈ ws, w.length = n) (hvs : ∀ w ∈ vs, w.length = n) (hn : n ≤ 1000) : callK T (k + 1) u b [.lst (ws.map tB), .lst (vs.map tB)] h = .ok (.lst ((List.zipWith xr ws vs).map tB)) h := by
  rw [callK_reg hu rfl rfl]
  have e1 : ev (callK T k) T.gl h.length (.lst true .nil) [some (.lst (ws.map tB)), some (.lst (vs.map tB)), none, none, none] h = .ok (.ref h.length) (h ++ [.lst []]) := ev_lst0 evs_nil (by decide)
  obtain ⟨s', e, x3, es⟩ := forL_app (f := fun d σ hh => match (Tg.nm 3).set d σ with
      | none => .no
      | some σ' => exS (callK T k) T.gl T.sub h.length (.seq (.exp (.append (.v 2) (.bf .tuple (.cons (.comp false (.nm 4) (.rng (.cons (.bf .len (.cons (.ix (.v 0) (.v 3)) .nil)) .nil)) .nil (.bf .int (.cons (.cmp .NotEq (.ix (.ix (.v 0) (.v 3)) (.v 4)) (.ix (.ix (.v 1) (.v 3)) (.v 4))) .nil))) .nil)))) .nil) σ' hh)
    (c := iN) (g := fun i => tB (xr (ws.getD i []) (vs.getD i [])))
    (P := fun s => ∃ x3, s = [some (.lst (ws.map tB)), some (.lst (vs.map tB)), some (.ref h.length), x3, none]) (n := h.length) (xs := List.range ws.length) (ds := [])
    (s := [some (.lst (ws.map tB)), some (.lst (vs.map tB)), some (.ref h.length), none, none]) (h := h ++ [.lst []])
    ⟨none, rfl⟩ (by simp)
    (fun i hi s ds hh ⟨x3, es⟩ hn' hd => by
      subst es
      have hi := List.mem_range.mp hi
      refine ⟨[some (.lst (ws.map tB)), some (.lst (vs.map tB)), some (.ref h.length), some (iN i), none], ?_, _, rfl⟩
      have g1 : ws[i]? = some (ws.getD i []) := getD_get hi
      have g2 : vs[i]? = some (vs.getD i []) := getD_get (by omega)
      have l1 : (ws.getD i []).length = n := hw _ (List.mem_of_getElem? g1)
      have l2 : (vs.getD i []).length = n := hvs _ (List.mem_of_getElem? g2)
      generalize ws.getD i [] = r at *
      generalize vs.getD i [] = v at *
      have i1 : ∀ x4, ev (callK T k) T.gl h.length (.ix (.v 0) (.v 3)) [some (.lst (ws.map tB)), some (.lst (vs.map tB)), some (.ref h.length), some (iN i), x4] hh = .ok (tB r) hh := fun x4 => ev_ix (d := .lst (ws.map tB)) (e := iN i) (h1 := hh) rfl rfl (ix_map g1)
      have i2 : ∀ x4, ev (callK T k) T.gl h.length (.ix (.v 1) (.v 3)) [some (.lst (ws.map tB)), some (.lst (vs.map tB)), some (.ref h.length), some (iN i), x4] hh = .ok (tB v) hh := fun x4 => ev_ix (d := .lst (vs.map tB)) (e := iN i) (h1 := hh) rfl rfl (ix_map g2)
      have ec : ev (callK T k) T.gl h.length (.bf .tuple (.cons (.comp false (.nm 4) (.rng (.cons (.bf .len (.cons (.ix (.v 0) (.v 3)) .nil)) .nil)) .nil (.bf .int (.cons (.cmp .NotEq (.ix (.ix (.v 0) (.v 3)) (.v 4)) (.ix (.ix (.v 1) (.v 3)) (.v 4))) .nil))) .nil)) [some (.lst (ws.map tB)), some (.lst (vs.map tB)), some (.ref h.length), some (iN i), none] hh = .ok (tB (xr r v)) hh := by
        refine ev_bf (f := .tuple) (ds := [.lst ((List.range r.length).map fun j => bN (xor (r.getD j false) (v.getD j false)))]) (evs_one (ev_comp (ds := (List.range r.length).map iN) (h1 := hh) (evi_rng1 (ev_bf (f := .len) (evs_one (i1 _)) (len_tB r)) (by omega)) (compL_map fun j hj => ?_) (by rw [List.length_map, List.length_range]; exact sz (by omega)))) ?_
        · have hj := List.mem_range.mp hj
          refine turn_all (σ' := [some (.lst (ws.map tB)), some (.lst (vs.map tB)), some (.ref h.length), some (iN i), some (iN j)]) rfl ?_
          refine ev_bf (f := .int) (ds := [.bl (xor (r.getD j false) (v.getD j false))]) (h1 := hh) (evs_one ?_) rfl
          refine ev_cmp (op := .NotEq) (d := bN (r.getD j false)) (e := bN (v.getD j false)) (h1 := hh) (ev_ix (d := tB r) (e := iN j) (h1 := hh) (i1 _) rfl (ix_tB hj)) (ev_ix (d := tB v) (e := iN j) (h1 := hh) (i2 _) rfl (ix_tB (by omega))) ?_
          show (eqD (bN _) (bN _)).map (!·) = _
          rw [eqD_bN]
          cases r.getD j false <;> cases v.getD j false <;> rfl
        · show some (Dt.tup ((List.range r.length).map fun j => bN (xor (r.getD j false) (v.getD j false)))) = some (Dt.tup ((xr r v).map bN))
          unfold xr
          rw [← range_zip (d := false) (e := false) (by omega), List.map_map]
          rfl
      have ea := ev_append (cl := callK T k) (gl := T.gl) (b := h.length) (s := [some (.lst (ws.map tB)), some (.lst (vs.map tB)), some (.ref h.length), some (iN i), none]) (h := hh) (o := .v 2) (n := h.length) (h1 := hh) rfl hn' ec hn' hd (by unfold stOk; rw [decide_eq_true (Nat.le_refl _)]; rfl)
      exact (x_seq_nx (x_exp ea)).trans rfl)
    (by rw [List.length_range]; show 0 + _ ≤ _; omega)
  subst es
  have el : bfD .len [vw (h ++ [.lst []]) (.lst (ws.map tB))] = some (iN ws.length) := len_lst
  have eit : evi (callK T k) T.gl h.length (.rng (.cons (.bf .len (.cons (.v 0) .nil)) .nil)) [some (.lst (ws.map tB)), some (.lst (vs.map tB)), some (.ref h.length), none, none] (h ++ [.lst []]) = .ok (.its ((List.range ws.length).map iN)) (h ++ [.lst []]) := evi_rng1 (ev_bf (f := .len) (ds := [.lst (ws.map tB)]) (evs_one rfl) el) (by omega)
  have run : exS (callK T k) T.gl T.sub h.length lsumB [some (.lst (ws.map tB)), some (.lst (vs.map tB)), none, none, none] h = .rt (.ref h.length) (h ++ [.lst ((List.zipWith xr ws vs).map tB)]) := by
    refine (x_seq_nx (x_set e1)).trans ?_
    refine (x_seq_nx (s' := [some (.lst (ws.map tB)), some (.lst (vs.map tB)), some (.ref h.length), x3, none]) (h' := h ++ [.lst ((List.zipWith xr ws vs).map tB)]) ?_).trans (x_seq_rt (x_ret rfl))
    refine (x_for eit).trans ?_
    refine e.trans ?_
    rw [List.set_append_right _ _ (Nat.le_refl _), Nat.sub_self, List.nil_append, ← range_zip (d := []) (e := []) hv, List.map_map]
    rfl
  show finR h.length (exS (callK T k) T.gl T.sub h.length lsumB [some (.lst (ws.map tB)), some (.lst (vs.map tB)), none, none, none] h) = _
  rw [run]
  exact finR_one (noRefs_map noRef_tB _)
end
theorem sm_bits {l : List (List Bool)} (hr : ∀ r ∈ l, r.length ≤ 1000) : ∀ d ∈ l.map tB, smN 1 d = true := fun d hd => by
  obtain ⟨r, hrm, rfl⟩ := List.mem_map.mp hd
  show (decide ((r.map bN).length ≤ 100000) && (r.map bN).all (smN 0)) = true
  have := hr r hrm
  rw [List.length_map, decide_eq_true (by omega), Bool.true_and, List.all_map, List.all_eq_true]
  intro x _
  rfl
theorem same_bits {T : Tb} {f k b : Nat} {h : Hq} {l : List (List Bool)} (hf : T.fn f = some ⟨2, 3, false, sameB f⟩) (hl : l.length ≤ 1000) (hr : ∀ r ∈ l, r.length ≤ 1000) : callK T (k + 5) f b [.lst (l.map tB), .lst (l.map tB)] h = .ok (.bl true) h :=
  same_lst (T := T) (f := f) (k := k + 4) (ds := l.map tB) hf (.inl rfl) (.inl rfl) (same_tup (T := T) (f := f) (k := k + 3) hf (by rw [List.length_map]; omega) fun d hd => same_refl (T := T) (f := f) hf 1 d k b h (sm_bits hr d hd))
end Vm

/-! A tester: its chains shift (own text). -/
namespace Vm
open PySem L2
/-! ### plain -/
def mvR (bits : List Bool) : List Nat → Bool → List Bool × Bool
  | [], m => (bits, m)
  | i :: r, m => mvR (bits.set i m) r (bits.getD i false)
def shR : List (Bool × List Nat) → List Bool → List Bool × List Bool
  | [], bits => (bits, [])
  | q :: l, bits => ((shR l (mvR bits q.2 q.1).1).1, (mvR bits q.2 q.1).2 :: (shR l (mvR bits q.2 q.1).1).2)
theorem shR_cons {q : Bool × List Nat} {l : List (Bool × List Nat)} {bits : List Bool} : shR (q :: l) bits = ((shR l (mvR bits q.2 q.1).1).1, (mvR bits q.2 q.1).2 :: (shR l (mvR bits q.2 q.1).1).2) := rfl
/-- the registers behind one shift -/
def shB1 (rows : List (List Nat)) (bits xs : List Bool) : List Bool := (shR (xs.zip rows) bits).1
theorem mvR_len : ∀ (r : List Nat) (bits : List Bool) (m : Bool), (mvR bits r m).1.length = bits.length
  | [], _, _ => rfl
  | i :: r, bits, m => by
    unfold mvR
    rw [mvR_len r, List.length_set]
theorem shR_len : ∀ (l : List (Bool × List Nat)) (bits : List Bool), (shR l bits).1.length = bits.length
  | [], _ => rfl
  | q :: l, bits => by
    unfold shR
    rw [shR_len l, mvR_len]
/-- the shifts behind which the registers hold the bits -/
def shN (rows : List (List Nat)) (bits : List Bool) : List (List Bool) :=
  (List.range (rows.getD 0 []).length).reverse.map fun j => rows.map fun r => if j < r.length then bits.getD (r.getD j 0) false else false
theorem shN_row {rows : List (List Nat)} {bits xs : List Bool} (h : xs ∈ shN rows bits) : xs.length = rows.length := by
  obtain ⟨j, _, rfl⟩ := List.mem_map.mp h
  rw [List.length_map]
/-! ### rules -/
section
variable {cl : Nat → Nat → List Dt → Hq → Res Dt} {gl : List Dt} {sub : Nat → Nat → Option Bool} {b : Nat} {s : En} {h : Hq}
theorem x_parX {i n : Nat} {o k e : E} {x y kd : Dt} {h1 h2 h3 h4 : Hq} (he : ev cl gl b e s h = .ok (.tup [x, y]) h1) (ho : ev cl gl b o (s.set i (some x)) h1 = .ok (.ref n) h2) (hk : ev cl gl b k (s.set i (some x)) h2 = .ok kd h3) (hs : storeX b (.ref n) kd y h3 = some h4) : exS cl gl sub b (.parX i o k e) s h = .nx (s.set i (some x)) h4 := by
  show Rs.of s (ev cl gl b e s h) _ = _
  rw [he]
  show Rs.of (s.set i (some x)) (ev cl gl b o (s.set i (some x)) h1) _ = _
  rw [ho]
  show Rs.of (s.set i (some x)) (ev cl gl b k (s.set i (some x)) h2) _ = _
  rw [hk]
  show Rs.opt _ (storeX b (.ref n) kd y h3) = _
  rw [hs]; rfl
theorem store_lst' {n i : Nat} {d : Dt} {ds : List Dt} (hr : noRef d = true) (hn : h[n]? = some (.lst ds)) (hi : i < ds.length) : storeX b (.ref n) (iN i) d h = some (h.set n (.lst (ds.set i d))) := by
  have e := store_lst (b := 0) (d := d) (Nat.zero_le n) hn hi
  have s1 : stOk b n d = true := by unfold stOk; rw [hr, Bool.or_true]
  have s0 : stOk 0 n d = true := by unfold stOk; rw [hr, Bool.or_true]
  rw [← e]
  unfold iN storeX
  simp only []
  rw [s1, s0]
theorem vw_ins {n c : Nat} {ns : List Str} {ds : List Dt} (hn : h[n]? = some (.ins c ns ds)) : vw h (.ref n) = .ins c ns ds := by simp only [vw, hn]
theorem store_dic {n : Nat} {x : Str} {d : Dt} {ks : List Key} {ds : List Dt} (hb : b ≤ n) (hn : h[n]? = some (.dic ks ds)) (hl : ks.length ≤ 100000) (hx : (Sum.inr x : Key) ∉ ks) : storeX b (.ref n) (.str x) d h = some (h.set n (.dic (ks ++ [.inr x]) (ds ++ [d]))) := by
  have s1 : stOk b n d = true := by unfold stOk; rw [decide_eq_true hb, Bool.true_or]
  have hp : putK ks ds (.inr x) d = (ks ++ [.inr x], ds ++ [d]) := by
    unfold putK
    rw [if_neg]
    intro z
    obtain ⟨k, hk, e⟩ := List.any_eq_true.mp z
    have := of_decide_eq_true e
    subst this
    exact hx hk
  unfold storeX
  simp only []
  rw [s1, hn]
  show (if decide (ks.length < sizeLine) = true then some (h.set n (.dic (putK ks ds (.inr x) d).1 (putK ks ds (.inr x) d).2)) else none) = _
  rw [if_pos (decide_eq_true (by rw [sizeLine_eq]; omega)), hp]
theorem fzN_dic {k b n : Nat} {hh : Hq} {ks : List Key} {ds : List Dt} (hb : b ≤ n) (hn : hh[n]? = some (.dic ks ds)) : fzN (k + 1) b (.ref n) hh = (fzs (fzN k b) ds (hh.set n .dead)).map fun (q : List Dt × Hq) => (Dt.dic ks q.1, q.2) := by
  unfold fzN
  rw [if_neg (by simp [noRef])]
  simp only []
  rw [if_neg (by omega), hn]
theorem finR_dic {h : Hq} {ks : List Key} {l : List Dt} {junk : Hq} (hl : noRefs l = true) : finR h.length (.rt (.ref h.length) (h ++ .dic ks l :: junk)) = .ok (.dic ks l) h := by
  have hn : (h ++ Cell.dic ks l :: junk)[h.length]? = some (.dic ks l) := by simp
  have ef : fzN 9 h.length (.ref h.length) (h ++ .dic ks l :: junk) = some (.dic ks l, h ++ .dead :: junk) := by
    rw [fzN_dic (Nat.le_refl _) hn, fz_all hl, List.set_append_right _ _ (Nat.le_refl _), Nat.sub_self]; rfl
  show (match fzN 9 h.length (.ref h.length) (h ++ .dic ks l :: junk) with
      | some p => Res.ok p.1 (p.2.take h.length)
      | none => .no) = _
  rw [ef]
  show Res.ok _ ((h ++ Cell.dead :: junk).take h.length) = _
  rw [List.take_left']
  rfl
theorem lookK_end : ∀ {ks : List Key} {ds : List Dt} {x : Key} {d : Dt}, ks.length = ds.length → x ∉ ks → lookK (ks ++ [x]) (ds ++ [d]) x = some d
  | [], [], x, d, _, _ => if_pos rfl
  | k :: ks, e :: ds, x, d, hl, hx => by
    show (if k = x then some e else lookK (ks ++ [x]) (ds ++ [d]) x) = _
    rw [if_neg (fun z => hx (by rw [z]; exact List.mem_cons_self))]
    exact lookK_end (by simpa using hl) (fun z => hx (List.mem_cons_of_mem _ z))
  | [], _ :: _, _, _, hl, _ => by cases hl
  | _ :: _, [], _, _, hl, _ => by cases hl
/-! ### one shift -/
abbrev mvB (c0 : Nat) : Vm.S := .seq (.parX 5 (.fld c0 (.v 0) "bits") (.v 6) (.tup (.cons (.ix (.fld c0 (.v 0) "bits") (.v 6)) (.cons (.v 5) .nil)))) .nil
abbrev shBody (c0 : Nat) : Vm.S := .seq (.set 5 (.v 3)) (.seq (.forS (.nm 6) (.one (.v 4)) (mvB c0)) (.seq (.exp (.append (.v 2) (.v 5))) .nil))
theorem mv_loop {c0 t p : Nat} {ns : List Str} {ds : List Dt} {x1 x2 x3 x4 : Option Dt} (hb : lookF ns ds "bits" = some (.ref p)) (hpt : p ≠ t) : ∀ (r : List Nat) (bits : List Bool) (m : Bool) (x6 : Option Dt) (h : Hq), h[t]? = some (.ins c0 ns ds) → h[p]? = some (.lst (bits.map bN)) → (∀ i ∈ r, i < bits.length) →
    ∃ y6, forL (fun d σ hh => match (Tg.nm 6).set d σ with
      | none => .no
      | some σ' => exS cl gl sub b (mvB c0) σ' hh) (r.map iN) [some (.ref t), x1, x2, x3, x4, some (bN m), x6] h = .nx [some (.ref t), x1, x2, x3, x4, some (bN (mvR bits r m).2), y6] (h.set p (.lst ((mvR bits r m).1.map bN)))
  | [], bits, m, x6, h, ht, hp, _ => ⟨x6, by
    show forL _ [] _ h = _
    unfold mvR
    rw [set_self hp]; rfl⟩
  | i :: r, bits, m, x6, h, ht, hp, hr => by
    have hi := hr i List.mem_cons_self
    have ix : ixD (vw h (.ref p)) (iN i) = some (bN (bits.getD i false)) := by
      rw [vw_lst hp]
      exact ix_map (getD_get hi)
    have e : ev cl gl b (.tup (.cons (.ix (.fld c0 (.v 0) "bits") (.v 6)) (.cons (.v 5) .nil))) [some (.ref t), x1, x2, x3, x4, some (bN m), some (iN i)] h = .ok (.tup [bN (bits.getD i false), bN m]) h := by
      refine ev_tup (ds := [bN (bits.getD i false), bN m]) (h1 := h) ?_ (by show 2 ≤ 10000; decide)
      exact evs_cons (h1 := h) (ev_ix (d := .ref p) (e := iN i) (h1 := h) (ev_fld (d := .ref t) rfl (vw_ins ht) hb) rfl ix) (evs_one rfl)
    have st : storeX b (.ref p) (iN i) (bN m) h = some (h.set p (.lst ((bits.set i m).map bN))) := by
      rw [store_lst' (d := bN m) rfl hp (by rw [List.length_map]; exact hi), List.map_set]
    have run : exS cl gl sub b (mvB c0) [some (.ref t), x1, x2, x3, x4, some (bN m), some (iN i)] h = .nx [some (.ref t), x1, x2, x3, x4, some (bN (bits.getD i false)), some (iN i)] (h.set p (.lst ((bits.set i m).map bN))) := by
      refine (x_seq_nx (x_parX (n := p) (kd := iN i) (h2 := h) (h3 := h) e ?_ rfl st)).trans rfl
      exact ev_fld (d := .ref t) rfl (vw_ins ht) hb
    obtain ⟨y6, q⟩ := mv_loop hb hpt (x1 := x1) (x2 := x2) (x3 := x3) (x4 := x4) r (bits.set i m) (bits.getD i false) (some (iN i)) (h.set p (.lst ((bits.set i m).map bN))) (by rw [List.getElem?_set_ne hpt]; exact ht) (set_cell hp) (fun j hj => by rw [List.length_set]; exact hr j (List.mem_cons_of_mem _ hj))
    refine ⟨y6, (forL_step (s1 := [some (.ref t), x1, x2, x3, x4, some (bN (bits.getD i false)), some (iN i)]) (h1 := h.set p (.lst ((bits.set i m).map bN))) run).trans (q.trans ?_)⟩
    rw [List.set_set]; rfl
theorem sh_loop {c0 t p L : Nat} {ns : List Str} {ds : List Dt} {x1 : Option Dt} (hb : lookF ns ds "bits" = some (.ref p)) (hpt : p ≠ t) (hLp : L ≠ p) (hLt : L ≠ t) (hbL : b ≤ L) : ∀ (l : List (Bool × List Nat)) (bits left : List Bool) (x3 x4 x5 x6 : Option Dt) (h : Hq), h[t]? = some (.ins c0 ns ds) → h[p]? = some (.lst (bits.map bN)) → h[L]? = some (.lst (left.map bN)) → (∀ q ∈ l, ∀ i ∈ q.2, i < bits.length) → left.length + l.length ≤ 1000 →
    ∃ y3 y4 y5 y6, forL (fun d σ hh => match (Tg.tu [3, 4]).set d σ with
      | none => .no
      | some σ' => exS cl gl sub b (shBody c0) σ' hh) (l.map fun q => .tup [bN q.1, tN q.2]) [some (.ref t), x1, some (.ref L), x3, x4, x5, x6] h = .nx [some (.ref t), x1, some (.ref L), y3, y4, y5, y6] ((h.set p (.lst ((shR l bits).1.map bN))).set L (.lst ((left ++ (shR l bits).2).map bN)))
  | [], bits, left, x3, x4, x5, x6, h, ht, hp, hL, _, _ => ⟨x3, x4, x5, x6, by
    show forL _ [] _ h = _
    unfold shR
    rw [List.append_nil, set_self hp, set_self hL]; rfl⟩
  | q :: l, bits, left, x3, x4, x5, x6, h, ht, hp, hL, hr, hl => by
    rw [List.length_cons] at hl
    obtain ⟨y6, e1⟩ := mv_loop (cl := cl) (gl := gl) (sub := sub) (b := b) (c0 := c0) hb hpt (x1 := x1) (x2 := some (.ref L)) (x3 := some (bN q.1)) (x4 := some (tN q.2)) q.2 bits q.1 x6 h ht hp (hr q List.mem_cons_self)
    generalize hm : mvR bits q.2 q.1 = M at e1
    have hlen : M.1.length = bits.length := by rw [← hm]; exact mvR_len _ _ _
    have hL1 : (h.set p (.lst (M.1.map bN)))[L]? = some (.lst (left.map bN)) := by rw [List.getElem?_set_ne (Ne.symm hLp)]; exact hL
    have ea : ev cl gl b (.append (.v 2) (.v 5)) [some (.ref t), x1, some (.ref L), some (bN q.1), some (tN q.2), some (bN M.2), y6] (h.set p (.lst (M.1.map bN))) = .ok .non ((h.set p (.lst (M.1.map bN))).set L (.lst (left.map bN ++ [bN M.2]))) :=
      ev_append (n := L) (ds0 := left.map bN) (ds := left.map bN) (h1 := h.set p (.lst (M.1.map bN))) rfl hL1 rfl hL1 (by rw [List.length_map]; omega) (by unfold stOk; rw [decide_eq_true hbL]; rfl)
    rw [show left.map bN ++ [bN M.2] = (left ++ [M.2]).map bN by rw [List.map_append]; rfl] at ea
    have run : exS cl gl sub b (shBody c0) [some (.ref t), x1, some (.ref L), some (bN q.1), some (tN q.2), x5, x6] h = .nx [some (.ref t), x1, some (.ref L), some (bN q.1), some (tN q.2), some (bN M.2), y6] ((h.set p (.lst (M.1.map bN))).set L (.lst ((left ++ [M.2]).map bN))) := by
      refine (x_seq_nx (x_set (d := bN q.1) (h' := h) rfl)).trans ?_
      have ef : exS cl gl sub b (.forS (.nm 6) (.one (.v 4)) (mvB c0)) [some (.ref t), x1, some (.ref L), some (bN q.1), some (tN q.2), some (bN q.1), x6] h = .nx [some (.ref t), x1, some (.ref L), some (bN q.1), some (tN q.2), some (bN M.2), y6] (h.set p (.lst (M.1.map bN))) :=
        (x_for (w := .its (q.2.map iN)) (h' := h) (evi_one (d := tN q.2) rfl rfl)).trans e1
      exact (x_seq_nx ef).trans ((x_seq_nx (x_exp ea)).trans rfl)
    obtain ⟨y3, y4, y5, y6', e2⟩ := sh_loop hb hpt hLp hLt hbL (x1 := x1) l M.1 (left ++ [M.2]) (some (bN q.1)) (some (tN q.2)) (some (bN M.2)) y6 ((h.set p (.lst (M.1.map bN))).set L (.lst ((left ++ [M.2]).map bN)))
      (by rw [List.getElem?_set_ne hLt, List.getElem?_set_ne hpt]; exact ht) (by rw [List.getElem?_set_ne hLp]; exact set_cell hp) (set_cell hL1) (fun q' hq i hi => by rw [hlen]; exact hr q' (List.mem_cons_of_mem _ hq) i hi) (by rw [List.length_append, List.length_singleton]; omega)
    refine ⟨y3, y4, y5, y6', (forL_step (s1 := [some (.ref t), x1, some (.ref L), some (bN q.1), some (tN q.2), some (bN M.2), y6]) (h1 := (h.set p (.lst (M.1.map bN))).set L (.lst ((left ++ [M.2]).map bN))) run).trans (e2.trans ?_)⟩
    rw [List.set_comm _ _ hLp, List.set_set, List.set_set]
    show Rs.nx _ _ = Rs.nx _ ((h.set p (.lst ((shR (q :: l) bits).1.map bN))).set L (.lst ((left ++ (shR (q :: l) bits).2).map bN)))
    rw [shR_cons, hm, List.append_assoc]; rfl
end
def shiftB (c0 e : Nat) : Vm.S := (.seq (.ife (.nt (.call e (.cons (.v 1) (.cons (.bf .len (.cons (.fld c0 (.v 0) "chains") .nil)) .nil)))) (.seq (.raise 4) .nil) .nil) (.seq (.set 2 (.lst true .nil)) (.seq (.forS (.tu [3, 4]) (.zip (.v 1) (.fld c0 (.v 0) "chains")) (shBody c0)) (.seq (.ret (.bf .tuple (.cons (.v 2) .nil))) .nil))))
def storedB (c0 : Nat) : Vm.S := (.seq (.ret (.bf .tuple (.cons (.fld c0 (.v 0) "bits") .nil))) .nil)
/-- a tester at cell t, whose registers at cell p hold the bits -/
structure TS (c0 t p : Nat) (rows : List (List Nat)) (ns : List Str) (ds : List Dt) (bits : List Bool) (h : Hq) : Prop where
  at_ : h[t]? = some (.ins c0 ns ds)
  bits : h[p]? = some (.lst (bits.map bN))
  fb : lookF ns ds "bits" = some (.ref p)
  fc : lookF ns ds "chains" = some (.lst (rows.map tN))
  ne : p ≠ t
theorem get_lt {h : Hq} {n : Nat} {c : Cell} (e : h[n]? = some c) : n < h.length := (List.getElem?_eq_some_iff.mp e).1
section
variable {T : Tb} {f g e c0 t p k b : Nat} {ns : List Str} {ds : List Dt} {rows : List (List Nat)} {bits : List Bool} {h : Hq}
theorem TS.shift (S : TS c0 t p rows ns ds bits h) (xs : List Bool) : TS c0 t p rows ns ds (shB1 rows bits xs) (h.set p (.lst ((shB1 rows bits xs).map bN))) :=
  ⟨by rw [List.getElem?_set_ne S.ne]; exact S.at_, set_cell S.bits, S.fb, S.fc, S.ne⟩
theorem stored_run {q : Nat} (hs : T.fn q = some ⟨1, 1, false, storedB c0⟩) (S : TS c0 t p rows ns ds bits h) : callK T (k + 1) q b [.ref t] h = .ok (tB bits) h := by
  rw [callK_in hs rfl rfl]
  have e : exS (callK T k) T.gl T.sub b (storedB c0) [some (.ref t)] h = .rt (tB bits) h := by
    refine x_seq_rt (x_ret (ev_bf (f := .tuple) (ds := [.ref p]) (h1 := h) (evs_one (ev_fld (d := .ref t) rfl (vw_ins S.at_) S.fb)) ?_))
    show bfD .tuple [vw h (.ref p)] = _
    rw [vw_lst S.bits]; rfl
  show finK (exS (callK T k) T.gl T.sub b (storedB c0) [some (.ref t)] h) = _
  rw [e]; rfl
theorem shift_run {q : Nat} (hf : T.fn f = some ⟨3, 3, false, isIntB⟩) (hg : T.fn g = some ⟨1, 1, false, isBitB f⟩) (he : T.fn e = some ⟨2, 3, false, areBitsB g⟩) (hs : T.fn q = some ⟨2, 7, true, shiftB c0 e⟩) (S : TS c0 t p rows ns ds bits h) {xs : List Bool} (hx : xs.length = rows.length) (hl : rows.length ≤ 1000) (hr : ∀ r ∈ rows, ∀ i ∈ r, i < bits.length) :
    ∃ left, callK T (k + 4) q b [.ref t, tB xs] h = .ok (tB left) (h.set p (.lst ((shB1 rows bits xs).map bN))) := by
  have hp := get_lt S.bits
  have ht := get_lt S.at_
  refine ⟨(shR (xs.zip rows) bits).2, ?_⟩
  rw [callK_reg hs rfl rfl]
  have ec : ∀ hh : Hq, hh[t]? = some (.ins c0 ns ds) → ∀ x2 x3 x4 x5 x6 : Option Dt, ev (callK T (k + 3)) T.gl h.length (.fld c0 (.v 0) "chains") [some (.ref t), some (tB xs), x2, x3, x4, x5, x6] hh = .ok (.lst (rows.map tN)) hh := fun hh e x2 x3 x4 x5 x6 => ev_fld (d := .ref t) rfl (vw_ins e) S.fc
  have e0 : ev (callK T (k + 3)) T.gl h.length (.nt (.call e (.cons (.v 1) (.cons (.bf .len (.cons (.fld c0 (.v 0) "chains") .nil)) .nil)))) [some (.ref t), some (tB xs), none, none, none, none, none] h = .ok (.bl false) h := by
    refine ev_nt (c := true) (ev_callc (ds := [tB xs, iN xs.length]) (h1 := h) (evs_cons (h1 := h) rfl (evs_one ?_)) (areBits_run hf hg he (by omega)))
    refine ev_bf (f := .len) (ds := [.lst (rows.map tN)]) (h1 := h) (evs_one (ec h S.at_ _ _ _ _ _)) ?_
    rw [hx]
    exact len_lst
  have e1 : ev (callK T (k + 3)) T.gl h.length (.lst true .nil) [some (.ref t), some (tB xs), none, none, none, none, none] h = .ok (.ref h.length) (h ++ [.lst []]) := ev_lst0 evs_nil (by decide)
  have a1 : ∀ n, n < h.length → (h ++ [Cell.lst []])[n]? = h[n]? := fun n hn => List.getElem?_append_left hn
  have hz : (xs.zip rows).length ≤ 1000 := by rw [List.length_zip]; omega
  obtain ⟨y3, y4, y5, y6, e2⟩ := sh_loop (cl := callK T (k + 3)) (gl := T.gl) (sub := T.sub) (b := h.length) (c0 := c0) (L := h.length) (x1 := some (tB xs)) S.fb S.ne (by omega) (by omega) (Nat.le_refl _) (xs.zip rows) bits [] none none none none (h ++ [.lst []])
    (by rw [a1 t ht]; exact S.at_) (by rw [a1 p hp]; exact S.bits) (by simp) (fun q hq i hi => hr q.2 (List.of_mem_zip hq).2 i hi) (by rw [List.length_nil]; omega)
  have ev2 : evi (callK T (k + 3)) T.gl h.length (.zip (.v 1) (.fld c0 (.v 0) "chains")) [some (.ref t), some (tB xs), some (.ref h.length), none, none, none, none] (h ++ [.lst []]) = .ok (.its ((xs.zip rows).map fun q => .tup [bN q.1, tN q.2])) (h ++ [.lst []]) := by
    have := evi_zip (cl := callK T (k + 3)) (gl := T.gl) (b := h.length) (s := [some (.ref t), some (tB xs), some (.ref h.length), none, none, none, none]) (h := h ++ [.lst []]) (x := .v 1) (y := .fld c0 (.v 0) "chains") (d := tB xs) (e := .lst (rows.map tN)) (ds := xs.map bN) (es := rows.map tN) (h1 := h ++ [.lst []]) (h2 := h ++ [.lst []]) rfl (ec _ (by rw [a1 t ht]; exact S.at_) _ _ _ _ _) rfl rfl
    rw [zipD_map] at this
    exact this
  have hH : ((h ++ [Cell.lst []]).set p (.lst ((shR (xs.zip rows) bits).1.map bN))).set h.length (.lst (([] ++ (shR (xs.zip rows) bits).2).map bN)) = h.set p (.lst ((shB1 rows bits xs).map bN)) ++ [.lst ((shR (xs.zip rows) bits).2.map bN)] := by
    rw [List.set_append_left _ _ hp, List.nil_append, List.set_append_right _ _ (by rw [List.length_set]; exact Nat.le_refl _), List.length_set, Nat.sub_self]; rfl
  rw [hH] at e2
  have run : exS (callK T (k + 3)) T.gl T.sub h.length (shiftB c0 e) [some (.ref t), some (tB xs), none, none, none, none, none] h = .rt (tB (shR (xs.zip rows) bits).2) (h.set p (.lst ((shB1 rows bits xs).map bN)) ++ [.lst ((shR (xs.zip rows) bits).2.map bN)]) := by
    refine (x_seq_nx (x_skip e0 rfl)).trans ?_
    refine (x_seq_nx (x_set e1)).trans ?_
    refine (x_seq_nx ((x_for ev2).trans e2)).trans ?_
    refine x_seq_rt (x_ret (ev_bf (f := .tuple) (ds := [.ref h.length]) (h1 := h.set p (.lst ((shB1 rows bits xs).map bN)) ++ [.lst ((shR (xs.zip rows) bits).2.map bN)]) rfl ?_))
    show bfD .tuple [vw (h.set p (.lst ((shB1 rows bits xs).map bN)) ++ [.lst ((shR (xs.zip rows) bits).2.map bN)]) (.ref h.length)] = _
    rw [vw_lst (ds := (shR (xs.zip rows) bits).2.map bN) (by rw [List.getElem?_append_right (by rw [List.length_set]; exact Nat.le_refl _), List.length_set, Nat.sub_self]; rfl)]
    rfl
  show finR h.length (exS (callK T (k + 3)) T.gl T.sub h.length (shiftB c0 e) [some (.ref t), some (tB xs), none, none, none, none, none] h) = _
  rw [run]
  have := finR_no (h := h.set p (.lst ((shB1 rows bits xs).map bN))) (d := tB (shR (xs.zip rows) bits).2) (hh := [.lst ((shR (xs.zip rows) bits).2.map bN)]) (noRefs_map (f := bN) (fun _ => rfl) _)
  rw [List.length_set] at this
  exact this
end
end Vm

/-! k56: the chains and what is taken, by the kernel (own text). -/
namespace Lk56
open PySem Vm
open L2 hiding tB
abbrev T : Tb := pk.T
def nm (k : Nat) : Str := ("r" : Str) ++ toString (k : Int)
def regs (n : Nat) : List Dt := (List.range n).map fun k => .tup [.str (nm k), .str "a"]
def outs (o : Nat) : List Dt := List.replicate o (.str "a")
def cns : List Str := ["inputs", "registers", "gates", "outputs", "gate_of", "order"]
def circD (o n : Nat) : List Dt := [.tup [.str "a"], .tup (regs n), .tup [], .tup (outs o), .dic [] [], .lst []]
def circ (o n : Nat) : Dt := .ins 0 cns (circD o n)
def lenN (n k i : Nat) : Nat := n / k + if i < n - n / k * k then 1 else 0
def rowsG (n k : Nat) : Nat → Nat → Nat → List (List Nat)
  | 0, _, _ => []
  | j + 1, i, s => ((List.range (lenN n k i)).map (s + ·)) :: rowsG n k j (i + 1) (s + lenN n k i)
def rowsN (n k : Nat) : List (List Nat) := rowsG n k k 0 0
/-- what a row of the chains takes -/
def tkI (row : List Nat) (Bs : List (List Bool)) (j : Nat) (tk : List Bool) : List Bool :=
  (List.range row.length).foldl (fun tk n => tk.set (row.getD (row.length - 1 - n) 0) ((Bs.getD n []).getD j false)) tk
def tkF (rows : List (List Nat)) (Bs : List (List Bool)) (n : Nat) : List Bool :=
  (List.range rows.length).foldl (fun tk j => tkI (rows.getD j []) Bs j tk) (List.replicate n false)
def CH (n c : Nat) : Prop := ∀ (o k b : Nat) (c1 c2 c3 : Cell), callK T (k + 2) 5 b [circ o n, iN c] [c1, c2, c3] = .ok (.lst ((rowsN n c).map tN)) [c1, c2, c3]
def LC (n c : Nat) : Prop := ∀ (k b : Nat) (c1 c2 : Cell), callK T (k + 1) 24 b [iN n, iN c] [c1, c2] = .ok (.lst ((rowsN n c).map tN)) [c1, c2]
def TK (n c : Nat) : Prop := ∀ (Bs : List (List Bool)), Bs.length = ((rowsN n c).getD 0 []).length → (∀ r ∈ Bs, r.length = c) → ∀ (k b : Nat) (c1 c2 c3 c4 : Cell), callK T (k + 1) 6 b [.lst ((rowsN n c).map tN), .lst (Bs.map tB)] [c1, c2, c3, c4] = .ok (tB (tkF (rowsN n c) Bs n)) [c1, c2, c3, c4]
def RB (n c : Nat) : Prop := (rowsN n c).length = c ∧ (∀ r ∈ rowsN n c, ∀ i ∈ r, i < n) ∧ ((rowsN n c).getD 0 []).length ≤ 9 ∧ ∀ r ∈ rowsN n c, r.length ≤ ((rowsN n c).getD 0 []).length
theorem ch0_1 : CH 0 1 := fun o k b c1 c2 c3 => by kernel_rfl
theorem lc0_1 : LC 0 1 := fun k b c1 c2 => by kernel_rfl
theorem tk0_1 : TK 0 1 := fun Bs hL hr => by
  match Bs, hL, hr with
  | [], _, hr =>
    intro k b c1 c2 c3 c4; kernel_rfl
theorem rb0_1 : RB 0 1 := by unfold RB; decide
theorem ch1_1 : CH 1 1 := fun o k b c1 c2 c3 => by kernel_rfl
theorem lc1_1 : LC 1 1 := fun k b c1 c2 => by kernel_rfl
theorem tk1_1 : TK 1 1 := fun Bs hL hr => by
  match Bs, hL, hr with
  | [r0], _, hr =>
    match r0, hr r0 (by simp) with
    | [x0_0], _ =>
    intro k b c1 c2 c3 c4; kernel_rfl
theorem rb1_1 : RB 1 1 := by unfold RB; decide
theorem ch2_1 : CH 2 1 := fun o k b c1 c2 c3 => by kernel_rfl
theorem lc2_1 : LC 2 1 := fun k b c1 c2 => by kernel_rfl
theorem tk2_1 : TK 2 1 := fun Bs hL hr => by
  match Bs, hL, hr with
  | [r0, r1], _, hr =>
    match r0, hr r0 (by simp) with
    | [x0_0], _ =>
    match r1, hr r1 (by simp) with
    | [x1_0], _ =>
    intro k b c1 c2 c3 c4; kernel_rfl
theorem rb2_1 : RB 2 1 := by unfold RB; decide
theorem ch2_2 : CH 2 2 := fun o k b c1 c2 c3 => by kernel_rfl
theorem lc2_2 : LC 2 2 := fun k b c1 c2 => by kernel_rfl
theorem tk2_2 : TK 2 2 := fun Bs hL hr => by
  match Bs, hL, hr with
  | [r0], _, hr =>
    match r0, hr r0 (by simp) with
    | [x0_0, x0_1], _ =>
    intro k b c1 c2 c3 c4; kernel_rfl
theorem rb2_2 : RB 2 2 := by unfold RB; decide
theorem ch3_1 : CH 3 1 := fun o k b c1 c2 c3 => by kernel_rfl
theorem lc3_1 : LC 3 1 := fun k b c1 c2 => by kernel_rfl
theorem tk3_1 : TK 3 1 := fun Bs hL hr => by
  match Bs, hL, hr with
  | [r0, r1, r2], _, hr =>
    match r0, hr r0 (by simp) with
    | [x0_0], _ =>
    match r1, hr r1 (by simp) with
    | [x1_0], _ =>
    match r2, hr r2 (by simp) with
    | [x2_0], _ =>
    intro k b c1 c2 c3 c4; kernel_rfl
theorem rb3_1 : RB 3 1 := by unfold RB; decide
theorem ch3_2 : CH 3 2 := fun o k b c1 c2 c3 => by kernel_rfl
theorem lc3_2 : LC 3 2 := fun k b c1 c2 => by kernel_rfl
theorem tk3_2 : TK 3 2 := fun Bs hL hr => by
  match Bs, hL, hr with
  | [r0, r1], _, hr =>
    match r0, hr r0 (by simp) with
    | [x0_0, x0_1], _ =>
    match r1, hr r1 (by simp) with
    | [x1_0, x1_1], _ =>
    intro k b c1 c2 c3 c4; kernel_rfl
theorem rb3_2 : RB 3 2 := by unfold RB; decide
theorem ch3_3 : CH 3 3 := fun o k b c1 c2 c3 => by kernel_rfl
theorem lc3_3 : LC 3 3 := fun k b c1 c2 => by kernel_rfl
theorem tk3_3 : TK 3 3 := fun Bs hL hr => by
  match Bs, hL, hr with
  | [r0], _, hr =>
    match r0, hr r0 (by simp) with
    | [x0_0, x0_1, x0_2], _ =>
    intro k b c1 c2 c3 c4; kernel_rfl
theorem rb3_3 : RB 3 3 := by unfold RB; decide
theorem ch4_1 : CH 4 1 := fun o k b c1 c2 c3 => by kernel_rfl
theorem lc4_1 : LC 4 1 := fun k b c1 c2 => by kernel_rfl
theorem tk4_1 : TK 4 1 := fun Bs hL hr => by
  match Bs, hL, hr with
  | [r0, r1, r2, r3], _, hr =>
    match r0, hr r0 (by simp) with
    | [x0_0], _ =>
    match r1, hr r1 (by simp) with
    | [x1_0], _ =>
    match r2, hr r2 (by simp) with
    | [x2_0], _ =>
    match r3, hr r3 (by simp) with
    | [x3_0], _ =>
    intro k b c1 c2 c3 c4; kernel_rfl
theorem rb4_1 : RB 4 1 := by unfold RB; decide
theorem ch4_2 : CH 4 2 := fun o k b c1 c2 c3 => by kernel_rfl
theorem lc4_2 : LC 4 2 := fun k b c1 c2 => by kernel_rfl
theorem tk4_2 : TK 4 2 := fun Bs hL hr => by
  match Bs, hL, hr with
  | [r0, r1], _, hr =>
    match r0, hr r0 (by simp) with
    | [x0_0, x0_1], _ =>
    match r1, hr r1 (by simp) with
    | [x1_0, x1_1], _ =>
    intro k b c1 c2 c3 c4; kernel_rfl
theorem rb4_2 : RB 4 2 := by unfold RB; decide
theorem ch4_3 : CH 4 3 := fun o k b c1 c2 c3 => by kernel_rfl
theorem lc4_3 : LC 4 3 := fun k b c1 c2 => by kernel_rfl
theorem tk4_3 : TK 4 3 := fun Bs hL hr => by
  match Bs, hL, hr with
  | [r0, r1], _, hr =>
    match r0, hr r0 (by simp) with
    | [x0_0, x0_1, x0_2], _ =>
    match r1, hr r1 (by simp) with
    | [x1_0, x1_1, x1_2], _ =>
    intro k b c1 c2 c3 c4; kernel_rfl
theorem rb4_3 : RB 4 3 := by unfold RB; decide
theorem ch4_4 : CH 4 4 := fun o k b c1 c2 c3 => by kernel_rfl
theorem lc4_4 : LC 4 4 := fun k b c1 c2 => by kernel_rfl
theorem tk4_4 : TK 4 4 := fun Bs hL hr => by
  match Bs, hL, hr with
  | [r0], _, hr =>
    match r0, hr r0 (by simp) with
    | [x0_0, x0_1, x0_2, x0_3], _ =>
    intro k b c1 c2 c3 c4; kernel_rfl
theorem rb4_4 : RB 4 4 := by unfold RB; decide
theorem ch5_1 : CH 5 1 := fun o k b c1 c2 c3 => by kernel_rfl
theorem lc5_1 : LC 5 1 := fun k b c1 c2 => by kernel_rfl
theorem tk5_1 : TK 5 1 := fun Bs hL hr => by
  match Bs, hL, hr with
  | [r0, r1, r2, r3, r4], _, hr =>
    match r0, hr r0 (by simp) with
    | [x0_0], _ =>
    match r1, hr r1 (by simp) with
    | [x1_0], _ =>
    match r2, hr r2 (by simp) with
    | [x2_0], _ =>
    match r3, hr r3 (by simp) with
    | [x3_0], _ =>
    match r4, hr r4 (by simp) with
    | [x4_0], _ =>
    intro k b c1 c2 c3 c4; kernel_rfl
theorem rb5_1 : RB 5 1 := by unfold RB; decide
theorem ch5_2 : CH 5 2 := fun o k b c1 c2 c3 => by kernel_rfl
theorem lc5_2 : LC 5 2 := fun k b c1 c2 => by kernel_rfl
theorem tk5_2 : TK 5 2 := fun Bs hL hr => by
  match Bs, hL, hr with
  | [r0, r1, r2], _, hr =>
    match r0, hr r0 (by simp) with
    | [x0_0, x0_1], _ =>
    match r1, hr r1 (by simp) with
    | [x1_0, x1_1], _ =>
    match r2, hr r2 (by simp) with
    | [x2_0, x2_1], _ =>
    intro k b c1 c2 c3 c4; kernel_rfl
theorem rb5_2 : RB 5 2 := by unfold RB; decide
theorem ch5_3 : CH 5 3 := fun o k b c1 c2 c3 => by kernel_rfl
theorem lc5_3 : LC 5 3 := fun k b c1 c2 => by kernel_rfl
theorem tk5_3 : TK 5 3 := fun Bs hL hr => by
  match Bs, hL, hr with
  | [r0, r1], _, hr =>
    match r0, hr r0 (by simp) with
    | [x0_0, x0_1, x0_2], _ =>
    match r1, hr r1 (by simp) with
    | [x1_0, x1_1, x1_2], _ =>
    intro k b c1 c2 c3 c4; kernel_rfl
theorem rb5_3 : RB 5 3 := by unfold RB; decide
theorem ch5_4 : CH 5 4 := fun o k b c1 c2 c3 => by kernel_rfl
theorem lc5_4 : LC 5 4 := fun k b c1 c2 => by kernel_rfl
theorem tk5_4 : TK 5 4 := fun Bs hL hr => by
  match Bs, hL, hr with
  | [r0, r1], _, hr =>
    match r0, hr r0 (by simp) with
    | [x0_0, x0_1, x0_2, x0_3], _ =>
    match r1, hr r1 (by simp) with
    | [x1_0, x1_1, x1_2, x1_3], _ =>
    intro k b c1 c2 c3 c4; kernel_rfl
theorem rb5_4 : RB 5 4 := by unfold RB; decide
theorem ch5_5 : CH 5 5 := fun o k b c1 c2 c3 => by kernel_rfl
theorem lc5_5 : LC 5 5 := fun k b c1 c2 => by kernel_rfl
theorem tk5_5 : TK 5 5 := fun Bs hL hr => by
  match Bs, hL, hr with
  | [r0], _, hr =>
    match r0, hr r0 (by simp) with
    | [x0_0, x0_1, x0_2, x0_3, x0_4], _ =>
    intro k b c1 c2 c3 c4; kernel_rfl
theorem rb5_5 : RB 5 5 := by unfold RB; decide
theorem ch6_1 : CH 6 1 := fun o k b c1 c2 c3 => by kernel_rfl
theorem lc6_1 : LC 6 1 := fun k b c1 c2 => by kernel_rfl
theorem tk6_1 : TK 6 1 := fun Bs hL hr => by
  match Bs, hL, hr with
  | [r0, r1, r2, r3, r4, r5], _, hr =>
    match r0, hr r0 (by simp) with
    | [x0_0], _ =>
    match r1, hr r1 (by simp) with
    | [x1_0], _ =>
    match r2, hr r2 (by simp) with
    | [x2_0], _ =>
    match r3, hr r3 (by simp) with
    | [x3_0], _ =>
    match r4, hr r4 (by simp) with
    | [x4_0], _ =>
    match r5, hr r5 (by simp) with
    | [x5_0], _ =>
    intro k b c1 c2 c3 c4; kernel_rfl
theorem rb6_1 : RB 6 1 := by unfold RB; decide
theorem ch6_2 : CH 6 2 := fun o k b c1 c2 c3 => by kernel_rfl
theorem lc6_2 : LC 6 2 := fun k b c1 c2 => by kernel_rfl
theorem tk6_2 : TK 6 2 := fun Bs hL hr => by
  match Bs, hL, hr with
  | [r0, r1, r2], _, hr =>
    match r0, hr r0 (by simp) with
    | [x0_0, x0_1], _ =>
    match r1, hr r1 (by simp) with
    | [x1_0, x1_1], _ =>
    match r2, hr r2 (by simp) with
    | [x2_0, x2_1], _ =>
    intro k b c1 c2 c3 c4; kernel_rfl
theorem rb6_2 : RB 6 2 := by unfold RB; decide
theorem ch6_3 : CH 6 3 := fun o k b c1 c2 c3 => by kernel_rfl
theorem lc6_3 : LC 6 3 := fun k b c1 c2 => by kernel_rfl
theorem tk6_3 : TK 6 3 := fun Bs hL hr => by
  match Bs, hL, hr with
  | [r0, r1], _, hr =>
    match r0, hr r0 (by simp) with
    | [x0_0, x0_1, x0_2], _ =>
    match r1, hr r1 (by simp) with
    | [x1_0, x1_1, x1_2], _ =>
    intro k b c1 c2 c3 c4; kernel_rfl
theorem rb6_3 : RB 6 3 := by unfold RB; decide
theorem ch6_4 : CH 6 4 := fun o k b c1 c2 c3 => by kernel_rfl
theorem lc6_4 : LC 6 4 := fun k b c1 c2 => by kernel_rfl
theorem tk6_4 : TK 6 4 := fun Bs hL hr => by
  match Bs, hL, hr with
  | [r0, r1], _, hr =>
    match r0, hr r0 (by simp) with
    | [x0_0, x0_1, x0_2, x0_3], _ =>
    match r1, hr r1 (by simp) with
    | [x1_0, x1_1, x1_2, x1_3], _ =>
    intro k b c1 c2 c3 c4; kernel_rfl
theorem rb6_4 : RB 6 4 := by unfold RB; decide
theorem ch6_5 : CH 6 5 := fun o k b c1 c2 c3 => by kernel_rfl
theorem lc6_5 : LC 6 5 := fun k b c1 c2 => by kernel_rfl
theorem tk6_5 : TK 6 5 := fun Bs hL hr => by
  match Bs, hL, hr with
  | [r0, r1], _, hr =>
    match r0, hr r0 (by simp) with
    | [x0_0, x0_1, x0_2, x0_3, x0_4], _ =>
    match r1, hr r1 (by simp) with
    | [x1_0, x1_1, x1_2, x1_3, x1_4], _ =>
    intro k b c1 c2 c3 c4; kernel_rfl
theorem rb6_5 : RB 6 5 := by unfold RB; decide
theorem ch6_6 : CH 6 6 := fun o k b c1 c2 c3 => by kernel_rfl
theorem lc6_6 : LC 6 6 := fun k b c1 c2 => by kernel_rfl
theorem tk6_6 : TK 6 6 := fun Bs hL hr => by
  match Bs, hL, hr with
  | [r0], _, hr =>
    match r0, hr r0 (by simp) with
    | [x0_0, x0_1, x0_2, x0_3, x0_4, x0_5], _ =>
    intro k b c1 c2 c3 c4; kernel_rfl
theorem rb6_6 : RB 6 6 := by unfold RB; decide
theorem ch7_1 : CH 7 1 := fun o k b c1 c2 c3 => by kernel_rfl
theorem lc7_1 : LC 7 1 := fun k b c1 c2 => by kernel_rfl
theorem tk7_1 : TK 7 1 := fun Bs hL hr => by
  match Bs, hL, hr with
  | [r0, r1, r2, r3, r4, r5, r6], _, hr =>
    match r0, hr r0 (by simp) with
    | [x0_0], _ =>
    match r1, hr r1 (by simp) with
    | [x1_0], _ =>
    match r2, hr r2 (by simp) with
    | [x2_0], _ =>
    match r3, hr r3 (by simp) with
    | [x3_0], _ =>
    match r4, hr r4 (by simp) with
    | [x4_0], _ =>
    match r5, hr r5 (by simp) with
    | [x5_0], _ =>
    match r6, hr r6 (by simp) with
    | [x6_0], _ =>
    intro k b c1 c2 c3 c4; kernel_rfl
theorem rb7_1 : RB 7 1 := by unfold RB; decide
theorem ch7_2 : CH 7 2 := fun o k b c1 c2 c3 => by kernel_rfl
theorem lc7_2 : LC 7 2 := fun k b c1 c2 => by kernel_rfl
theorem tk7_2 : TK 7 2 := fun Bs hL hr => by
  match Bs, hL, hr with
  | [r0, r1, r2, r3], _, hr =>
    match r0, hr r0 (by simp) with
    | [x0_0, x0_1], _ =>
    match r1, hr r1 (by simp) with
    | [x1_0, x1_1], _ =>
    match r2, hr r2 (by simp) with
    | [x2_0, x2_1], _ =>
    match r3, hr r3 (by simp) with
    | [x3_0, x3_1], _ =>
    intro k b c1 c2 c3 c4; kernel_rfl
theorem rb7_2 : RB 7 2 := by unfold RB; decide
theorem ch7_3 : CH 7 3 := fun o k b c1 c2 c3 => by kernel_rfl
theorem lc7_3 : LC 7 3 := fun k b c1 c2 => by kernel_rfl
theorem tk7_3 : TK 7 3 := fun Bs hL hr => by
  match Bs, hL, hr with
  | [r0, r1, r2], _, hr =>
    match r0, hr r0 (by simp) with
    | [x0_0, x0_1, x0_2], _ =>
    match r1, hr r1 (by simp) with
    | [x1_0, x1_1, x1_2], _ =>
    match r2, hr r2 (by simp) with
    | [x2_0, x2_1, x2_2], _ =>
    intro k b c1 c2 c3 c4; kernel_rfl
theorem rb7_3 : RB 7 3 := by unfold RB; decide
theorem ch7_4 : CH 7 4 := fun o k b c1 c2 c3 => by kernel_rfl
theorem lc7_4 : LC 7 4 := fun k b c1 c2 => by kernel_rfl
theorem tk7_4 : TK 7 4 := fun Bs hL hr => by
  match Bs, hL, hr with
  | [r0, r1], _, hr =>
    match r0, hr r0 (by simp) with
    | [x0_0, x0_1, x0_2, x0_3], _ =>
    match r1, hr r1 (by simp) with
    | [x1_0, x1_1, x1_2, x1_3], _ =>
    intro k b c1 c2 c3 c4; kernel_rfl
theorem rb7_4 : RB 7 4 := by unfold RB; decide
theorem ch7_5 : CH 7 5 := fun o k b c1 c2 c3 => by kernel_rfl
theorem lc7_5 : LC 7 5 := fun k b c1 c2 => by kernel_rfl
theorem tk7_5 : TK 7 5 := fun Bs hL hr => by
  match Bs, hL, hr with
  | [r0, r1], _, hr =>
    match r0, hr r0 (by simp) with
    | [x0_0, x0_1, x0_2, x0_3, x0_4], _ =>
    match r1, hr r1 (by simp) with
    | [x1_0, x1_1, x1_2, x1_3, x1_4], _ =>
    intro k b c1 c2 c3 c4; kernel_rfl
theorem rb7_5 : RB 7 5 := by unfold RB; decide
theorem ch7_6 : CH 7 6 := fun o k b c1 c2 c3 => by kernel_rfl
theorem lc7_6 : LC 7 6 := fun k b c1 c2 => by kernel_rfl
theorem tk7_6 : TK 7 6 := fun Bs hL hr => by
  match Bs, hL, hr with
  | [r0, r1], _, hr =>
    match r0, hr r0 (by simp) with
    | [x0_0, x0_1, x0_2, x0_3, x0_4, x0_5], _ =>
    match r1, hr r1 (by simp) with
    | [x1_0, x1_1, x1_2, x1_3, x1_4, x1_5], _ =>
    intro k b c1 c2 c3 c4; kernel_rfl
theorem rb7_6 : RB 7 6 := by unfold RB; decide
theorem ch7_7 : CH 7 7 := fun o k b c1 c2 c3 => by kernel_rfl
theorem lc7_7 : LC 7 7 := fun k b c1 c2 => by kernel_rfl
theorem tk7_7 : TK 7 7 := fun Bs hL hr => by
  match Bs, hL, hr with
  | [r0], _, hr =>
    match r0, hr r0 (by simp) with
    | [x0_0, x0_1, x0_2, x0_3, x0_4, x0_5, x0_6], _ =>
    intro k b c1 c2 c3 c4; kernel_rfl
theorem rb7_7 : RB 7 7 := by unfold RB; decide
theorem ch : ∀ n c, n < 8 → 0 < c → c ≤ max 1 n → CH n c
  | 0, 1, _, _, _ => ch0_1
  | 1, 1, _, _, _ => ch1_1
  | 2, 1, _, _, _ => ch2_1
  | 2, 2, _, _, _ => ch2_2
  | 3, 1, _, _, _ => ch3_1
  | 3, 2, _, _, _ => ch3_2
  | 3, 3, _, _, _ => ch3_3
  | 4, 1, _, _, _ => ch4_1
  | 4, 2, _, _, _ => ch4_2
  | 4, 3, _, _, _ => ch4_3
  | 4, 4, _, _, _ => ch4_4
  | 5, 1, _, _, _ => ch5_1
  | 5, 2, _, _, _ => ch5_2
  | 5, 3, _, _, _ => ch5_3
  | 5, 4, _, _, _ => ch5_4
  | 5, 5, _, _, _ => ch5_5
  | 6, 1, _, _, _ => ch6_1
  | 6, 2, _, _, _ => ch6_2
  | 6, 3, _, _, _ => ch6_3
  | 6, 4, _, _, _ => ch6_4
  | 6, 5, _, _, _ => ch6_5
  | 6, 6, _, _, _ => ch6_6
  | 7, 1, _, _, _ => ch7_1
  | 7, 2, _, _, _ => ch7_2
  | 7, 3, _, _, _ => ch7_3
  | 7, 4, _, _, _ => ch7_4
  | 7, 5, _, _, _ => ch7_5
  | 7, 6, _, _, _ => ch7_6
  | 7, 7, _, _, _ => ch7_7
  | 0, 0, _, h, _ => absurd h (by decide)
  | 0, c + 2, _, _, h => absurd h (by omega)
  | 1, 0, _, h, _ => absurd h (by decide)
  | 1, c + 2, _, _, h => absurd h (by omega)
  | 2, 0, _, h, _ => absurd h (by decide)
  | 2, c + 3, _, _, h => absurd h (by omega)
  | 3, 0, _, h, _ => absurd h (by decide)
  | 3, c + 4, _, _, h => absurd h (by omega)
  | 4, 0, _, h, _ => absurd h (by decide)
  | 4, c + 5, _, _, h => absurd h (by omega)
  | 5, 0, _, h, _ => absurd h (by decide)
  | 5, c + 6, _, _, h => absurd h (by omega)
  | 6, 0, _, h, _ => absurd h (by decide)
  | 6, c + 7, _, _, h => absurd h (by omega)
  | 7, 0, _, h, _ => absurd h (by decide)
  | 7, c + 8, _, _, h => absurd h (by omega)
  | n + 8, _, h, _, _ => absurd h (by omega)
theorem lc : ∀ n c, n < 8 → 0 < c → c ≤ max 1 n → LC n c
  | 0, 1, _, _, _ => lc0_1
  | 1, 1, _, _, _ => lc1_1
  | 2, 1, _, _, _ => lc2_1
  | 2, 2, _, _, _ => lc2_2
  | 3, 1, _, _, _ => lc3_1
  | 3, 2, _, _, _ => lc3_2
  | 3, 3, _, _, _ => lc3_3
  | 4, 1, _, _, _ => lc4_1
  | 4, 2, _, _, _ => lc4_2
  | 4, 3, _, _, _ => lc4_3
  | 4, 4, _, _, _ => lc4_4
  | 5, 1, _, _, _ => lc5_1
  | 5, 2, _, _, _ => lc5_2
  | 5, 3, _, _, _ => lc5_3
  | 5, 4, _, _, _ => lc5_4
  | 5, 5, _, _, _ => lc5_5
  | 6, 1, _, _, _ => lc6_1
  | 6, 2, _, _, _ => lc6_2
  | 6, 3, _, _, _ => lc6_3
  | 6, 4, _, _, _ => lc6_4
  | 6, 5, _, _, _ => lc6_5
  | 6, 6, _, _, _ => lc6_6
  | 7, 1, _, _, _ => lc7_1
  | 7, 2, _, _, _ => lc7_2
  | 7, 3, _, _, _ => lc7_3
  | 7, 4, _, _, _ => lc7_4
  | 7, 5, _, _, _ => lc7_5
  | 7, 6, _, _, _ => lc7_6
  | 7, 7, _, _, _ => lc7_7
  | 0, 0, _, h, _ => absurd h (by decide)
  | 0, c + 2, _, _, h => absurd h (by omega)
  | 1, 0, _, h, _ => absurd h (by decide)
  | 1, c + 2, _, _, h => absurd h (by omega)
  | 2, 0, _, h, _ => absurd h (by decide)
  | 2, c + 3, _, _, h => absurd h (by omega)
  | 3, 0, _, h, _ => absurd h (by decide)
  | 3, c + 4, _, _, h => absurd h (by omega)
  | 4, 0, _, h, _ => absurd h (by decide)
  | 4, c + 5, _, _, h => absurd h (by omega)
  | 5, 0, _, h, _ => absurd h (by decide)
  | 5, c + 6, _, _, h => absurd h (by omega)
  | 6, 0, _, h, _ => absurd h (by decide)
  | 6, c + 7, _, _, h => absurd h (by omega)
  | 7, 0, _, h, _ => absurd h (by decide)
  | 7, c + 8, _, _, h => absurd h (by omega)
  | n + 8, _, h, _, _ => absurd h (by omega)
theorem tk : ∀ n c, n < 8 → 0 < c → c ≤ max 1 n → TK n c
  | 0, 1, _, _, _ => tk0_1
  | 1, 1, _, _, _ => tk1_1
  | 2, 1, _, _, _ => tk2_1
  | 2, 2, _, _, _ => tk2_2
  | 3, 1, _, _, _ => tk3_1
  | 3, 2, _, _, _ => tk3_2
  | 3, 3, _, _, _ => tk3_3
  | 4, 1, _, _, _ => tk4_1
  | 4, 2, _, _, _ => tk4_2
  | 4, 3, _, _, _ => tk4_3
  | 4, 4, _, _, _ => tk4_4
  | 5, 1, _, _, _ => tk5_1
  | 5, 2, _, _, _ => tk5_2
  | 5, 3, _, _, _ => tk5_3
  | 5, 4, _, _, _ => tk5_4
  | 5, 5, _, _, _ => tk5_5
  | 6, 1, _, _, _ => tk6_1
  | 6, 2, _, _, _ => tk6_2
  | 6, 3, _, _, _ => tk6_3
  | 6, 4, _, _, _ => tk6_4
  | 6, 5, _, _, _ => tk6_5
  | 6, 6, _, _, _ => tk6_6
  | 7, 1, _, _, _ => tk7_1
  | 7, 2, _, _, _ => tk7_2
  | 7, 3, _, _, _ => tk7_3
  | 7, 4, _, _, _ => tk7_4
  | 7, 5, _, _, _ => tk7_5
  | 7, 6, _, _, _ => tk7_6
  | 7, 7, _, _, _ => tk7_7
  | 0, 0, _, h, _ => absurd h (by decide)
  | 0, c + 2, _, _, h => absurd h (by omega)
  | 1, 0, _, h, _ => absurd h (by decide)
  | 1, c + 2, _, _, h => absurd h (by omega)
  | 2, 0, _, h, _ => absurd h (by decide)
  | 2, c + 3, _, _, h => absurd h (by omega)
  | 3, 0, _, h, _ => absurd h (by decide)
  | 3, c + 4, _, _, h => absurd h (by omega)
  | 4, 0, _, h, _ => absurd h (by decide)
  | 4, c + 5, _, _, h => absurd h (by omega)
  | 5, 0, _, h, _ => absurd h (by decide)
  | 5, c + 6, _, _, h => absurd h (by omega)
  | 6, 0, _, h, _ => absurd h (by decide)
  | 6, c + 7, _, _, h => absurd h (by omega)
  | 7, 0, _, h, _ => absurd h (by decide)
  | 7, c + 8, _, _, h => absurd h (by omega)
  | n + 8, _, h, _, _ => absurd h (by omega)
theorem rb : ∀ n c, n < 8 → 0 < c → c ≤ max 1 n → RB n c
  | 0, 1, _, _, _ => rb0_1
  | 1, 1, _, _, _ => rb1_1
  | 2, 1, _, _, _ => rb2_1
  | 2, 2, _, _, _ => rb2_2
  | 3, 1, _, _, _ => rb3_1
  | 3, 2, _, _, _ => rb3_2
  | 3, 3, _, _, _ => rb3_3
  | 4, 1, _, _, _ => rb4_1
  | 4, 2, _, _, _ => rb4_2
  | 4, 3, _, _, _ => rb4_3
  | 4, 4, _, _, _ => rb4_4
  | 5, 1, _, _, _ => rb5_1
  | 5, 2, _, _, _ => rb5_2
  | 5, 3, _, _, _ => rb5_3
  | 5, 4, _, _, _ => rb5_4
  | 5, 5, _, _, _ => rb5_5
  | 6, 1, _, _, _ => rb6_1
  | 6, 2, _, _, _ => rb6_2
  | 6, 3, _, _, _ => rb6_3
  | 6, 4, _, _, _ => rb6_4
  | 6, 5, _, _, _ => rb6_5
  | 6, 6, _, _, _ => rb6_6
  | 7, 1, _, _, _ => rb7_1
  | 7, 2, _, _, _ => rb7_2
  | 7, 3, _, _, _ => rb7_3
  | 7, 4, _, _, _ => rb7_4
  | 7, 5, _, _, _ => rb7_5
  | 7, 6, _, _, _ => rb7_6
  | 7, 7, _, _, _ => rb7_7
  | 0, 0, _, h, _ => absurd h (by decide)
  | 0, c + 2, _, _, h => absurd h (by omega)
  | 1, 0, _, h, _ => absurd h (by decide)
  | 1, c + 2, _, _, h => absurd h (by omega)
  | 2, 0, _, h, _ => absurd h (by decide)
  | 2, c + 3, _, _, h => absurd h (by omega)
  | 3, 0, _, h, _ => absurd h (by decide)
  | 3, c + 4, _, _, h => absurd h (by omega)
  | 4, 0, _, h, _ => absurd h (by decide)
  | 4, c + 5, _, _, h => absurd h (by omega)
  | 5, 0, _, h, _ => absurd h (by decide)
  | 5, c + 6, _, _, h => absurd h (by omega)
  | 6, 0, _, h, _ => absurd h (by decide)
  | 6, c + 7, _, _, h => absurd h (by omega)
  | 7, 0, _, h, _ => absurd h (by decide)
  | 7, c + 8, _, _, h => absurd h (by omega)
  | n + 8, _, h, _, _ => absurd h (by omega)
end Lk56

/-! k56: the circuits, by the kernel (own text). -/
namespace Lk56
open PySem Vm
open L2 hiding tB
abbrev EN (x0 x1 x2 x3 x4 x5 x6 x7 x8 x9 x10 x11 x12 : Option Dt) : En := [x0, x1, x2, x3, x4, x5, x6, x7, x8, x9, x10, x11, x12]
abbrev regE : E := .bf .tuple (.cons (.comp false (.nm 5) (.rng (.cons (.v 2) .nil)) .nil (.tup (.cons (.bin .Add (.lit (.str "r")) (.bf .str (.cons (.v 5) .nil))) (.cons (.lit (.str "a")) .nil)))) .nil)
abbrev mkE : E := .fz (.make 0 11 (.cons (.tup (.cons (.lit (.str "a")) .nil)) (.cons (.v 4) (.cons (.tup .nil) (.cons (.bin .Mult (.tup (.cons (.lit (.str "a")) .nil)) (.v 3)) .nil)))))
def RG (n : Nat) : Prop := ∀ (c : Cell) (x0 x3 : Option Dt), ev (callK T 99) T.gl 0 regE (EN x0 (some (.ref 0)) (some (iN n)) x3 none none none none none none none none none) [c] = .ok (.tup (regs n)) [c]
def MK (o n : Nat) : Prop := ∀ (c : Cell) (x0 : Option Dt), ev (callK T 99) T.gl 0 mkE (EN x0 (some (.ref 0)) (some (iN n)) (some (iN o)) (some (.tup (regs n))) none none none none none none none none) [c] = .ok (circ o n) [c, .dead]
theorem rg0 : RG 0 := fun c x0 x3 => by kernel_rfl
theorem rg1 : RG 1 := fun c x0 x3 => by kernel_rfl
theorem rg2 : RG 2 := fun c x0 x3 => by kernel_rfl
theorem rg3 : RG 3 := fun c x0 x3 => by kernel_rfl
theorem rg4 : RG 4 := fun c x0 x3 => by kernel_rfl
theorem rg5 : RG 5 := fun c x0 x3 => by kernel_rfl
theorem rg6 : RG 6 := fun c x0 x3 => by kernel_rfl
theorem rg7 : RG 7 := fun c x0 x3 => by kernel_rfl
theorem rg : ∀ n, n < 8 → RG n
  | 0, _ => rg0
  | 1, _ => rg1
  | 2, _ => rg2
  | 3, _ => rg3
  | 4, _ => rg4
  | 5, _ => rg5
  | 6, _ => rg6
  | 7, _ => rg7
  | n + 8, h => absurd h (by omega)
theorem mk0_0 : MK 0 0 := fun c x0 => by kernel_rfl
theorem mk0_1 : MK 0 1 := fun c x0 => by kernel_rfl
theorem mk0_2 : MK 0 2 := fun c x0 => by kernel_rfl
theorem mk0_3 : MK 0 3 := fun c x0 => by kernel_rfl
theorem mk0_4 : MK 0 4 := fun c x0 => by kernel_rfl
theorem mk0_5 : MK 0 5 := fun c x0 => by kernel_rfl
theorem mk0_6 : MK 0 6 := fun c x0 => by kernel_rfl
theorem mk0_7 : MK 0 7 := fun c x0 => by kernel_rfl
theorem mk1_0 : MK 1 0 := fun c x0 => by kernel_rfl
theorem mk1_1 : MK 1 1 := fun c x0 => by kernel_rfl
theorem mk1_2 : MK 1 2 := fun c x0 => by kernel_rfl
theorem mk1_3 : MK 1 3 := fun c x0 => by kernel_rfl
theorem mk1_4 : MK 1 4 := fun c x0 => by kernel_rfl
theorem mk1_5 : MK 1 5 := fun c x0 => by kernel_rfl
theorem mk1_6 : MK 1 6 := fun c x0 => by kernel_rfl
theorem mk1_7 : MK 1 7 := fun c x0 => by kernel_rfl
theorem mk2_0 : MK 2 0 := fun c x0 => by kernel_rfl
theorem mk2_1 : MK 2 1 := fun c x0 => by kernel_rfl
theorem mk2_2 : MK 2 2 := fun c x0 => by kernel_rfl
theorem mk2_3 : MK 2 3 := fun c x0 => by kernel_rfl
theorem mk2_4 : MK 2 4 := fun c x0 => by kernel_rfl
theorem mk2_5 : MK 2 5 := fun c x0 => by kernel_rfl
theorem mk2_6 : MK 2 6 := fun c x0 => by kernel_rfl
theorem mk2_7 : MK 2 7 := fun c x0 => by kernel_rfl
theorem mk3_0 : MK 3 0 := fun c x0 => by kernel_rfl
theorem mk3_1 : MK 3 1 := fun c x0 => by kernel_rfl
theorem mk3_2 : MK 3 2 := fun c x0 => by kernel_rfl
theorem mk3_3 : MK 3 3 := fun c x0 => by kernel_rfl
theorem mk3_4 : MK 3 4 := fun c x0 => by kernel_rfl
theorem mk3_5 : MK 3 5 := fun c x0 => by kernel_rfl
theorem mk3_6 : MK 3 6 := fun c x0 => by kernel_rfl
theorem mk3_7 : MK 3 7 := fun c x0 => by kernel_rfl
theorem mk : ∀ o n, o < 4 → n < 8 → MK o n
  | 0, 0, _, _ => mk0_0
  | 0, 1, _, _ => mk0_1
  | 0, 2, _, _ => mk0_2
  | 0, 3, _, _ => mk0_3
  | 0, 4, _, _ => mk0_4
  | 0, 5, _, _ => mk0_5
  | 0, 6, _, _ => mk0_6
  | 0, 7, _, _ => mk0_7
  | 0, n + 8, _, h => absurd h (by omega)
  | 1, 0, _, _ => mk1_0
  | 1, 1, _, _ => mk1_1
  | 1, 2, _, _ => mk1_2
  | 1, 3, _, _ => mk1_3
  | 1, 4, _, _ => mk1_4
  | 1, 5, _, _ => mk1_5
  | 1, 6, _, _ => mk1_6
  | 1, 7, _, _ => mk1_7
  | 1, n + 8, _, h => absurd h (by omega)
  | 2, 0, _, _ => mk2_0
  | 2, 1, _, _ => mk2_1
  | 2, 2, _, _ => mk2_2
  | 2, 3, _, _ => mk2_3
  | 2, 4, _, _ => mk2_4
  | 2, 5, _, _ => mk2_5
  | 2, 6, _, _ => mk2_6
  | 2, 7, _, _ => mk2_7
  | 2, n + 8, _, h => absurd h (by omega)
  | 3, 0, _, _ => mk3_0
  | 3, 1, _, _ => mk3_1
  | 3, 2, _, _ => mk3_2
  | 3, 3, _, _ => mk3_3
  | 3, 4, _, _ => mk3_4
  | 3, 5, _, _ => mk3_5
  | 3, 6, _, _ => mk3_6
  | 3, 7, _, _ => mk3_7
  | 3, n + 8, _, h => absurd h (by omega)
  | o + 4, _, h, _ => absurd h (by omega)
end Lk56

/-! k56: entries of a log (own text). -/
namespace Lk56
open PySem Vm
open L2 hiding tB
inductive BadD : Dt → Prop
  | non : BadD .non
  | lst (xs : List Bool) : BadD (.lst (xs.map bN))
  | two (xs : List Bool) : xs.length ≤ 100 → BadD (.tup (xs.map bN ++ [.int 2]))
  | tru (xs : List Bool) : xs.length ≤ 100 → BadD (.tup (xs.map bN ++ [.bl true]))
inductive Et where
  | ok (xs : List Bool)
  | bad (d : Dt)
def etD : Et → Dt
  | .ok xs => tB xs
  | .bad d => d
def isB : Et → Nat → Bool
  | .ok xs, n => decide (xs.length = n)
  | .bad _, _ => false
def bitsOf : Et → List Bool
  | .ok xs => xs
  | .bad _ => []
def Wf : Et → Prop
  | .ok xs => xs.length ≤ 100
  | .bad d => BadD d
def SimD (d : Dt) : Prop := d = .int 0 ∨ d = .int 1 ∨ d = .int 2 ∨ d = .bl true
def pB : Dt → Bool
  | .int i => decide (i = 0) || decide (i = 1)
  | _ => false
theorem sim_bN (x : Bool) : SimD (bN x) := by cases x <;> simp [SimD, bN, boolI]
theorem pB_bN (x : Bool) : pB (bN x) = true := by cases x <;> rfl
section
variable {k b n : Nat} {h : Hq} {d : Dt}
theorem isBit_any (hd : SimD d) : callK T (k + 2) 2 b [d] h = .ok (.bl (pB d)) h := by
  rcases hd with e | e | e | e <;> subst e
  · exact isBit_run (T := T) (f := 1) (g := 2) (x := false) rfl rfl
  · exact isBit_run (T := T) (f := 1) (g := 2) (x := true) rfl rfl
  · rw [callK_in (T := T) (fd := f2) rfl rfl rfl]
    have e : exS (callK T (k + 1)) T.gl T.sub b b2 [some (.int 2)] h = .rt (.bl false) h := by
      refine x_seq_rt (x_ret ?_)
      exact (ev_call (ds := [.int 2, .int 0, .int 1]) (h1 := h) (evs_cons rfl (evs_cons rfl (evs_one rfl)))).trans (isInt_run (T := T) (f := 1) rfl)
    show finK (exS (callK T (k + 1)) T.gl T.sub b b2 [some (.int 2)] h) = _
    rw [e]; rfl
  · rw [callK_in (T := T) (fd := f2) rfl rfl rfl]
    have e1 : callK T (k + 1) 1 b [.bl true, .int 0, .int 1] h = .ok (.bl false) h := by
      rw [callK_in (T := T) (fd := f1) rfl rfl rfl]; rfl
    have e : exS (callK T (k + 1)) T.gl T.sub b b2 [some (.bl true)] h = .rt (.bl false) h := by
      refine x_seq_rt (x_ret ?_)
      exact (ev_call (ds := [.bl true, .int 0, .int 1]) (h1 := h) (evs_cons rfl (evs_cons rfl (evs_one rfl)))).trans e1
    show finK (exS (callK T (k + 1)) T.gl T.sub b b2 [some (.bl true)] h) = _
    rw [e]; rfl
theorem len_tup {ds : List Dt} : bfD .len [.tup ds] = some (iN ds.length) := rfl
theorem areBits_tup {ds : List Dt} (hd : ∀ d ∈ ds, SimD d) (hl : ds.length ≤ 1000) : callK T (k + 3) 3 b [.tup ds, iN n] h = .ok (.bl (decide (ds.length = n) && ds.all pB)) h := by
  rw [callK_in (T := T) (fd := f3) rfl rfl rfl]
  have ec : ev (callK T (k + 2)) T.gl b (.or (.nt (.isin [.tuple] (.v 0))) (.one (.cmp .NotEq (.bf .len (.cons (.v 0) .nil)) (.v 1)))) [some (.tup ds), some (iN n), none] h = .ok (.bl (!decide (ds.length = n))) h := by
    refine ev_or_f (c := false) (h1 := h) rfl rfl ?_
    exact ev_cmp (op := .NotEq) (d := iN ds.length) (e := iN n) (h1 := h) (ev_bf (f := .len) (ds := [.tup ds]) (evs_one rfl) len_tup) rfl (ne_iN _ _)
  have run : exS (callK T (k + 2)) T.gl T.sub b b3 [some (.tup ds), some (iN n), none] h = .rt (.bl (decide (ds.length = n) && ds.all pB)) h := by
    by_cases z : ds.length = n
    · rw [decide_eq_true z] at ec ⊢
      rw [Bool.true_and]
      refine (x_seq_nx (x_skip ec rfl)).trans (x_seq_rt (x_ret ?_))
      refine ev_bf (f := .all) (ds := [.lst (ds.map fun d => .bl (pB d))]) (h1 := h) (evs_one ?_) (all_map ds)
      refine ev_comp (ds := ds) (h1 := h) (evi_one (d := .tup ds) rfl rfl) ?_ (by rw [List.length_map, sizeLine_eq]; omega)
      rw [← flat_one]
      refine compL_pure (g := fun d => [.bl (pB d)]) fun d hd' => ?_
      refine turn_all (σ' := [some (.tup ds), some (iN n), some d]) rfl ?_
      exact (ev_call (ds := [d]) (h1 := h) (evs_one rfl)).trans (isBit_any (hd d hd'))
    · rw [decide_eq_false z] at ec ⊢
      exact x_seq_rt ((x_if_t' ec rfl).trans (x_seq_rt (x_ret rfl)))
  show finK (exS (callK T (k + 2)) T.gl T.sub b b3 [some (.tup ds), some (iN n), none] h) = _
  rw [run]; rfl
theorem cond_any (hd : SimD d) {x0 x1 : Option Dt} : ev (callK T k) T.gl b (.or (.isin [.bool] (.v 2)) (.or (.nt (.isin [.int] (.v 2))) (.one (.cmp .NotIn (.v 2) (.lst false (.cons (.lit (.int 0)) (.cons (.lit (.int 1)) .nil))))))) [x0, x1, some d] h = .ok (.bl (!pB d)) h := by
  rcases hd with e | e | e | e <;> subst e <;> rfl
theorem filt_all {p : Dt → Bool} : ∀ ds : List Dt, decide ((ds.flatMap fun d => if !p d then [d] else []).length = 0) = ds.all p
  | [] => rfl
  | d :: ds => by
    rw [List.flatMap_cons, List.length_append, List.all_cons, ← filt_all ds]
    cases p d
    · rw [Bool.false_and, decide_eq_false]
      show ¬ ([d].length + _ = 0)
      rw [List.length_singleton]; omega
    · rw [Bool.true_and]
      refine decide_eq_decide.mpr ?_
      show 0 + _ = 0 ↔ _
      omega
theorem filt_len {p : Dt → Bool} : ∀ ds : List Dt, (ds.flatMap fun d => if !p d then [d] else []).length ≤ ds.length
  | [] => Nat.le_refl _
  | d :: ds => by
    have := filt_len (p := p) ds
    rw [List.flatMap_cons, List.length_append, List.length_cons]
    cases p d
    · show [d].length + _ ≤ _
      rw [List.length_singleton]; omega
    · show 0 + _ ≤ _
      omega
theorem isBits_tup {ds : List Dt} (hd : ∀ d ∈ ds, SimD d) (hl : ds.length ≤ 1000) : callK T (k + 1) 26 b [.tup ds, iN n] h = .ok (.bl (decide (ds.length = n) && ds.all pB)) h := by
  rw [callK_in (T := T) (fd := f26) rfl rfl rfl]
  have ec : ev (callK T k) T.gl b (.or (.nt (.isin [.tuple] (.v 0))) (.one (.cmp .NotEq (.bf .len (.cons (.v 0) .nil)) (.v 1)))) [some (.tup ds), some (iN n), none] h = .ok (.bl (!decide (ds.length = n))) h := by
    refine ev_or_f (c := false) (h1 := h) rfl rfl ?_
    exact ev_cmp (op := .NotEq) (d := iN ds.length) (e := iN n) (h1 := h) (ev_bf (f := .len) (ds := [.tup ds]) (evs_one rfl) len_tup) rfl (ne_iN _ _)
  have run : exS (callK T k) T.gl T.sub b b26 [some (.tup ds), some (iN n), none] h = .rt (.bl (decide (ds.length = n) && ds.all pB)) h := by
    by_cases z : ds.length = n
    · rw [decide_eq_true z] at ec ⊢
      rw [Bool.true_and]
      refine (x_seq_nx (x_skip ec rfl)).trans (x_seq_rt (x_ret ?_))
      have e1 : ev (callK T k) T.gl b (.comp false (.nm 2) (.one (.v 0)) (.cons (.or (.isin [.bool] (.v 2)) (.or (.nt (.isin [.int] (.v 2))) (.one (.cmp .NotIn (.v 2) (.lst false (.cons (.lit (.int 0)) (.cons (.lit (.int 1)) .nil))))))) .nil) (.v 2)) [some (.tup ds), some (iN n), none] h = .ok (.lst (ds.flatMap fun d => if !pB d then [d] else [])) h := by
        refine ev_comp (ds := ds) (h1 := h) (evi_one (d := .tup ds) rfl rfl) (compL_pure fun d hd' => ?_) (by have := filt_len (p := pB) ds; exact sz (by omega))
        exact turn_if (σ' := [some (.tup ds), some (iN n), some d]) (y := d) rfl (cond_any (hd d hd')) (fun _ => rfl)
      refine (ev_cmp (op := .Eq) (d := iN (ds.flatMap fun d => if !pB d then [d] else []).length) (e := iN 0) (h1 := h) (ev_bf (f := .len) (evs_one e1) rfl) rfl (eqD_iN _ _)).trans ?_
      rw [filt_all]
    · rw [decide_eq_false z] at ec ⊢
      exact x_seq_rt ((x_if_t' ec rfl).trans (x_seq_rt (x_ret rfl)))
  show finK (exS (callK T k) T.gl T.sub b b26 [some (.tup ds), some (iN n), none] h) = _
  rw [run]; rfl
theorem all_bN (xs : List Bool) : (xs.map bN).all pB = true := by
  rw [List.all_map, List.all_eq_true]
  exact fun x _ => pB_bN x
theorem sim_map (xs : List Bool) : ∀ d ∈ xs.map bN, SimD d := fun d hd => by
  obtain ⟨x, _, rfl⟩ := List.mem_map.mp hd
  exact sim_bN x
theorem sim_app {xs : List Bool} {d : Dt} (hd : SimD d) : ∀ e ∈ xs.map bN ++ [d], SimD e := fun e he => by
  rcases List.mem_append.mp he with z | z
  · exact sim_map xs e z
  · rw [List.mem_singleton.mp z]; exact hd
theorem ab {e : Et} (hw : Wf e) : callK T (k + 3) 3 b [etD e, iN n] h = .ok (.bl (isB e n)) h := by
  cases e with
  | ok xs =>
    refine (areBits_tup (sim_map xs) (by rw [List.length_map]; exact Nat.le_trans hw (by decide))).trans ?_
    rw [all_bN, Bool.and_true, List.length_map]; rfl
  | bad d =>
    cases hw with
    | non => rw [callK_in (T := T) (fd := f3) rfl rfl rfl]; rfl
    | lst xs => rw [callK_in (T := T) (fd := f3) rfl rfl rfl]; rfl
    | two xs hl =>
      refine (areBits_tup (sim_app (.inr (.inr (.inl rfl)))) (by rw [List.length_append, List.length_map, List.length_singleton]; omega)).trans ?_
      rw [List.all_append, show [Dt.int 2].all pB = false from rfl, Bool.and_false, Bool.and_false]; rfl
    | tru xs hl =>
      refine (areBits_tup (sim_app (.inr (.inr (.inr rfl)))) (by rw [List.length_append, List.length_map, List.length_singleton]; omega)).trans ?_
      rw [List.all_append, show [Dt.bl true].all pB = false from rfl, Bool.and_false, Bool.and_false]; rfl
theorem lb {e : Et} (hw : Wf e) : callK T (k + 1) 26 b [etD e, iN n] h = .ok (.bl (isB e n)) h := by
  cases e with
  | ok xs =>
    refine (isBits_tup (sim_map xs) (by rw [List.length_map]; exact Nat.le_trans hw (by decide))).trans ?_
    rw [all_bN, Bool.and_true, List.length_map]; rfl
  | bad d =>
    cases hw with
    | non => rw [callK_in (T := T) (fd := f26) rfl rfl rfl]; rfl
    | lst xs => rw [callK_in (T := T) (fd := f26) rfl rfl rfl]; rfl
    | two xs hl =>
      refine (isBits_tup (sim_app (.inr (.inr (.inl rfl)))) (by rw [List.length_append, List.length_map, List.length_singleton]; omega)).trans ?_
      rw [List.all_append, show [Dt.int 2].all pB = false from rfl, Bool.and_false, Bool.and_false]; rfl
    | tru xs hl =>
      refine (isBits_tup (sim_app (.inr (.inr (.inr rfl)))) (by rw [List.length_append, List.length_map, List.length_singleton]; omega)).trans ?_
      rw [List.all_append, show [Dt.bl true].all pB = false from rfl, Bool.and_false, Bool.and_false]; rfl
end
/-! ### a log of the right length -/
def tf (p : Et × List Et) : List Et := p.1 :: p.2
theorem split_log {L : Nat} : ∀ (q : Nat) (log : List Et), log.length = q * (L + 1) + L → ∃ (B0 : List Et) (tl : List (Et × List Et)), B0.length = L ∧ tl.length = q ∧ (∀ p ∈ tl, p.2.length = L) ∧ log = B0 ++ tl.flatMap tf
  | 0, log, h => ⟨log, [], by omega, rfl, (fun p hp => by cases hp), by rw [List.flatMap_nil, List.append_nil]⟩
  | q + 1, log, h => by
    rw [Nat.add_one_mul] at h
    have hd : (log.drop L).length = q * (L + 1) + L + 1 := by rw [List.length_drop]; omega
    cases hr : log.drop L with
    | nil => rw [hr, List.length_nil] at hd; omega
    | cons e r =>
      rw [hr, List.length_cons] at hd
      obtain ⟨B1, tl, h1, h2, h3, h4⟩ := split_log (L := L) q r (by omega)
      refine ⟨log.take L, (e, B1) :: tl, by rw [List.length_take]; omega, by rw [List.length_cons, h2], fun p hp => ?_, ?_⟩
      · rcases List.mem_cons.mp hp with z | z
        · rw [z]; exact h1
        · exact h3 p z
      · rw [List.flatMap_cons]
        show log = log.take L ++ (e :: B1 ++ tl.flatMap tf)
        rw [List.cons_append, ← h4, ← hr, List.take_append_drop]
def vT (c o : Nat) (tl : List (Et × List Et)) : Bool := tl.all fun p => p.2.all (isB · c) && isB p.1 o
def resT (rows : List (List Nat)) (n : Nat) (tl : List (Et × List Et)) : List (List Bool) := tl.map fun p => bitsOf p.1 ++ tkF rows (p.2.map bitsOf) n
theorem ok_of {e : Et} {n : Nat} (h : isB e n = true) : e = .ok (bitsOf e) ∧ (bitsOf e).length = n := by
  cases e with
  | ok xs => exact ⟨rfl, of_decide_eq_true h⟩
  | bad d => cases h
theorem oks_of {B : List Et} {n : Nat} (h : B.all (isB · n) = true) : B.map etD = (B.map bitsOf).map tB ∧ ∀ r ∈ B.map bitsOf, r.length = n := by
  rw [List.all_eq_true] at h
  refine ⟨?_, fun r hr => ?_⟩
  · rw [List.map_map]
    refine List.map_congr_left fun e he => ?_
    obtain ⟨h1, h2⟩ := ok_of (h e he)
    show etD e = tB (bitsOf e)
    rw [h1]; rfl
  · obtain ⟨e, he, rfl⟩ := List.mem_map.mp hr
    exact (ok_of (h e he)).2
end Lk56

/-! k56: read_back (own text). -/
namespace Lk56
open PySem Vm
open L2 hiding tB
abbrev R11 (x0 x1 x2 x3 x4 x5 x6 x7 x8 x9 x10 : Option Dt) : En := [x0, x1, x2, x3, x4, x5, x6, x7, x8, x9, x10]
abbrev blE : E := .bf .all (.cons (.comp false (.nm 10) (.one (.v 9)) .nil (.call 3 (.cons (.v 10) (.cons (.v 1) .nil)))) .nil)
abbrev sepB : Vm.S := .seq (.ife (.nt (.call 3 (.cons (.ix (.v 2) (.bin .Sub (.v 8) (.lit (.int 1)))) (.cons (.bf .len (.cons (.fld 0 (.v 0) "outputs") .nil)) .nil)))) (.seq (.raise 2) .nil) .nil) (.seq (.exp (.append (.v 6) (.bin .Add (.ix (.v 2) (.bin .Sub (.v 8) (.lit (.int 1)))) (.call 6 (.cons (.v 3) (.cons (.v 9) .nil)))))) .nil)
abbrev rbB : Vm.S := .seq (.set 8 (.bin .Mult (.v 7) (.bin .Add (.v 4) (.lit (.int 1))))) (.seq (.set 9 (.sl (.v 2) (.one (.v 8)) (.one (.bin .Add (.v 8) (.v 4))))) (.seq (.ife (.nt blE) (.seq (.raise 2) .nil) .nil) (.seq (.ife (.cmp .Gt (.v 7) (.lit (.int 0))) sepB .nil) .nil)))
theorem sl_midL {xs : List Dt} {i j : Nat} (hi : i ≤ j) (h : j ≤ xs.length) : slD (.lst xs) (some (i : Int)) (some (j : Int)) = some (.lst ((xs.drop i).take (j - i))) := by
  show some (Dt.lst ((xs.drop (HT.sIx xs.length 0 (some (i : Int)))).take (HT.sIx xs.length xs.length (some (j : Int)) - HT.sIx xs.length 0 (some (i : Int))))) = _
  rw [sIx_nat, sIx_nat, Nat.min_eq_left h, Nat.min_eq_left (by omega)]
theorem forL_ex {f : Dt → En → Hq → Rs} {d : Dt} {ds : List Dt} {s s1 : En} {h h1 : Hq} {x : Ex} (e : f d s h = .ex x s1 h1) : forL f (d :: ds) s h = .ex x s1 h1 := by
  show (match f d s h with
    | .nx σ' h' => forL f ds σ' h'
    | .ct σ' h' => forL f ds σ' h'
    | .bk σ' h' => .nx σ' h'
    | r => r) = _
  rw [e]
abbrev rbF (k : Nat) : Dt → En → Hq → Rs := fun d σ hh => match (Tg.nm 7).set d σ with
  | none => .no
  | some σ' => exS (callK T (k + 3)) T.gl T.sub 3 rbB σ' hh
section
variable {o n c L k : Nat} {log : List Et} {h : Hq} {x0 x3 x5 x8 x9 x10 : Option Dt}
theorem rb_head {i : Nat} {B pre post : List Et} (hB : B.length = L) (hpre : pre.length = i * (L + 1)) (hlog : log = pre ++ (B ++ post)) (hw : ∀ e ∈ log, Wf e) (hl : log.length ≤ 1000) (hi : i ≤ 1000) :
    exS (callK T (k + 3)) T.gl T.sub 3 rbB (R11 x0 (some (iN c)) (some (.lst (log.map etD))) x3 (some (iN L)) x5 (some (.ref 3)) (some (iN i)) x8 x9 x10) h =
    if B.all (isB · c) then exS (callK T (k + 3)) T.gl T.sub 3 (.seq (.ife (.cmp .Gt (.v 7) (.lit (.int 0))) sepB .nil) .nil) (R11 x0 (some (iN c)) (some (.lst (log.map etD))) x3 (some (iN L)) x5 (some (.ref 3)) (some (iN i)) (some (iN (i * (L + 1)))) (some (.lst (B.map etD))) x10) h
    else .ex ⟨2, [], []⟩ (R11 x0 (some (iN c)) (some (.lst (log.map etD))) x3 (some (iN L)) x5 (some (.ref 3)) (some (iN i)) (some (iN (i * (L + 1)))) (some (.lst (B.map etD))) x10) h := by
  have hlen : (log.map etD).length = pre.length + (L + post.length) := by rw [List.length_map, hlog, List.length_append, List.length_append, hB]
  have e1 : ev (callK T (k + 3)) T.gl 3 (.bin .Mult (.v 7) (.bin .Add (.v 4) (.lit (.int 1)))) (R11 x0 (some (iN c)) (some (.lst (log.map etD))) x3 (some (iN L)) x5 (some (.ref 3)) (some (iN i)) x8 x9 x10) h = .ok (iN (i * (L + 1))) h :=
    ev_bin (op := .Mult) (d := iN i) (e := iN (L + 1)) (h1 := h) rfl rfl (mul_iN (by omega))
  have e2 : ev (callK T (k + 3)) T.gl 3 (.sl (.v 2) (.one (.v 8)) (.one (.bin .Add (.v 8) (.v 4)))) (R11 x0 (some (iN c)) (some (.lst (log.map etD))) x3 (some (iN L)) x5 (some (.ref 3)) (some (iN i)) (some (iN (i * (L + 1)))) x9 x10) h = .ok (.lst (B.map etD)) h := by
    have sd : slD (.lst (log.map etD)) (some ((i * (L + 1) : Nat) : Int)) (some ((i * (L + 1) + L : Nat) : Int)) = some (.lst (B.map etD)) := by
      refine (sl_midL (by omega) (by rw [hlen, ← hpre]; omega)).trans ?_
      rw [Nat.add_sub_cancel_left, ← hpre, hlog, List.map_append, List.drop_left' (by rw [List.length_map]), List.map_append, List.take_left' (by rw [List.length_map]; exact hB)]
    refine ev_sl (d := .lst (log.map etD)) (l := some ((i * (L + 1) : Nat) : Int)) (u := some ((i * (L + 1) + L : Nat) : Int)) (h1 := h) (h2 := h) (h3 := h) rfl (evo_one rfl) (evo_one ?_) sd
    exact ev_bin (op := .Add) (d := iN (i * (L + 1))) (e := iN L) (h1 := h) rfl rfl (add_iN _ _)
  have e3 : ev (callK T (k + 3)) T.gl 3 (.nt blE) (R11 x0 (some (iN c)) (some (.lst (log.map etD))) x3 (some (iN L)) x5 (some (.ref 3)) (some (iN i)) (some (iN (i * (L + 1)))) (some (.lst (B.map etD))) x10) h = .ok (.bl (!B.all (isB · c))) h := by
    refine ev_nt (ev_bf (f := .all) (ds := [.lst (B.map fun e => .bl (isB e c))]) (h1 := h) (evs_one ?_) (all_map B))
    refine ev_comp (ds := B.map etD) (h1 := h) (evi_one (d := .lst (B.map etD)) rfl rfl) (compL_map fun e he => ?_) (by rw [List.length_map, hB]; exact sz (by rw [List.length_map] at hlen; omega))
    refine turn_all (σ' := R11 x0 (some (iN c)) (some (.lst (log.map etD))) x3 (some (iN L)) x5 (some (.ref 3)) (some (iN i)) (some (iN (i * (L + 1)))) (some (.lst (B.map etD))) (some (etD e))) rfl ?_
    refine ev_callc (ds := [etD e, iN c]) (h1 := h) ?_ (ab (hw e ?_))
    · exact evs_cons (h1 := h) rfl (evs_one rfl)
    · rw [hlog]; exact List.mem_append_right _ (List.mem_append_left _ he)
  refine (x_seq_nx (x_set e1)).trans ?_
  refine (x_seq_nx (x_set e2)).trans ?_
  cases hb : B.all (isB · c) with
  | true =>
    rw [hb] at e3
    rw [if_pos rfl]
    exact x_seq_nx (x_skip e3 rfl)
  | false =>
    rw [hb] at e3
    rw [if_neg Bool.false_ne_true]
    exact x_seq_ex ((x_if_t' e3 rfl).trans (x_seq_ex rfl))
theorem rb_loop (hn : n < 8) (hc : 0 < c) (hc2 : c ≤ max 1 n) (hLr : L = ((rowsN n c).getD 0 []).length) (hw : ∀ e ∈ log, Wf e) (hl : log.length ≤ 1000) {c1 c3 : Cell} : ∀ (tl : List (Et × List Et)) (i : Nat) (pre : List Et) (fnd : List (List Bool)) (x7 x8 x9 x10 : Option Dt), 1 ≤ i → i + tl.length ≤ 1000 → pre.length + 1 = i * (L + 1) → log = pre ++ tl.flatMap tf → (∀ p ∈ tl, p.2.length = L) → fnd.length + tl.length ≤ 1000 →
    (vT c o tl = true → ∃ y7 y8 y9 y10, forL (rbF k) ((List.range' i tl.length).map iN) (R11 (some (circ o n)) (some (iN c)) (some (.lst (log.map etD))) (some (.lst ((rowsN n c).map tN))) (some (iN L)) x5 (some (.ref 3)) x7 x8 x9 x10) [c1, .dead, c3, .lst (fnd.map tB)] =
      .nx (R11 (some (circ o n)) (some (iN c)) (some (.lst (log.map etD))) (some (.lst ((rowsN n c).map tN))) (some (iN L)) x5 (some (.ref 3)) y7 y8 y9 y10) [c1, .dead, c3, .lst ((fnd ++ resT (rowsN n c) n tl).map tB)]) ∧
    (vT c o tl = false → ∃ s g, forL (rbF k) ((List.range' i tl.length).map iN) (R11 (some (circ o n)) (some (iN c)) (some (.lst (log.map etD))) (some (.lst ((rowsN n c).map tN))) (some (iN L)) x5 (some (.ref 3)) x7 x8 x9 x10) [c1, .dead, c3, .lst (fnd.map tB)] = .ex ⟨2, [], []⟩ s [c1, .dead, c3, g])
  | [], i, pre, fnd, x7, x8, x9, x10, _, _, _, _, _, _ => ⟨fun _ => ⟨x7, x8, x9, x10, by
      unfold resT
      rw [List.map_nil, List.append_nil]; rfl⟩, fun z => by cases z⟩
  | p :: tl, i, pre, fnd, x7, x8, x9, x10, hi, hi2, hpre, hlog, hp, hf => by
    rw [List.length_cons] at hi2 hf
    have p0 := hp p List.mem_cons_self
    have hlog2 : log = (pre ++ [p.1]) ++ (p.2 ++ tl.flatMap tf) := by
      rw [hlog, List.flatMap_cons]
      unfold tf
      simp only [List.append_assoc, List.cons_append, List.nil_append]
    have hpl : (pre ++ [p.1]).length = i * (L + 1) := by rw [List.length_append, List.length_singleton, hpre]
    have hd := rb_head (k := k) (c := c) (x0 := some (circ o n)) (x3 := some (.lst ((rowsN n c).map tN))) (x5 := x5) (x8 := x8) (x9 := x9) (x10 := x10) (h := [c1, .dead, c3, .lst (fnd.map tB)]) p0 hpl hlog2 hw hl (by omega)
    have hv : vT c o (p :: tl) = ((p.2.all (isB · c) && isB p.1 o) && vT c o tl) := rfl
    rw [show (List.range' i (p :: tl).length).map iN = iN i :: (List.range' (i + 1) tl.length).map iN from rfl]
    cases hB : p.2.all (isB · c) with
    | false =>
      rw [hB, if_neg Bool.false_ne_true] at hd
      refine ⟨fun z => (by rw [hv, hB] at z; cases z), fun _ => ⟨_, _, forL_ex hd⟩⟩
    | true =>
      rw [hB, if_pos rfl] at hd
      have e0 : ev (callK T (k + 3)) T.gl 3 (.cmp .Gt (.v 7) (.lit (.int 0))) (R11 (some (circ o n)) (some (iN c)) (some (.lst (log.map etD))) (some (.lst ((rowsN n c).map tN))) (some (iN L)) x5 (some (.ref 3)) (some (iN i)) (some (iN (i * (L + 1)))) (some (.lst (p.2.map etD))) x10) [c1, .dead, c3, .lst (fnd.map tB)] = .ok (.bl true) [c1, .dead, c3, .lst (fnd.map tB)] := by
        refine (ev_cmp (op := .Gt) (d := iN i) (e := iN 0) (h1 := [c1, .dead, c3, .lst (fnd.map tB)]) rfl rfl (gt_iN _ _)).trans ?_
        rw [decide_eq_true (by omega)]
      have g1 : log[pre.length]? = some p.1 := by
        rw [hlog2, List.append_assoc, List.getElem?_append_right (Nat.le_refl _), Nat.sub_self]; rfl
      have e1 : ev (callK T (k + 3)) T.gl 3 (.ix (.v 2) (.bin .Sub (.v 8) (.lit (.int 1)))) (R11 (some (circ o n)) (some (iN c)) (some (.lst (log.map etD))) (some (.lst ((rowsN n c).map tN))) (some (iN L)) x5 (some (.ref 3)) (some (iN i)) (some (iN (i * (L + 1)))) (some (.lst (p.2.map etD))) x10) [c1, .dead, c3, .lst (fnd.map tB)] = .ok (etD p.1) [c1, .dead, c3, .lst (fnd.map tB)] := by
        refine ev_ix (d := .lst (log.map etD)) (e := iN pre.length) (h1 := [c1, .dead, c3, .lst (fnd.map tB)]) rfl ?_ (ix_map g1)
        refine ev_bin (op := .Sub) (d := iN (i * (L + 1))) (e := .int 1) (h1 := [c1, .dead, c3, .lst (fnd.map tB)]) rfl rfl ?_
        rw [← hpre]
        exact iN_pred _
      have e2 : ev (callK T (k + 3)) T.gl 3 (.nt (.call 3 (.cons (.ix (.v 2) (.bin .Sub (.v 8) (.lit (.int 1)))) (.cons (.bf .len (.cons (.fld 0 (.v 0) "outputs") .nil)) .nil)))) (R11 (some (circ o n)) (some (iN c)) (some (.lst (log.map etD))) (some (.lst ((rowsN n c).map tN))) (some (iN L)) x5 (some (.ref 3)) (some (iN i)) (some (iN (i * (L + 1)))) (some (.lst (p.2.map etD))) x10) [c1, .dead, c3, .lst (fnd.map tB)] = .ok (.bl (!isB p.1 o)) [c1, .dead, c3, .lst (fnd.map tB)] := by
        refine ev_nt (ev_callc (ds := [etD p.1, iN o]) (h1 := [c1, .dead, c3, .lst (fnd.map tB)]) (evs_cons e1 (evs_one ?_)) (ab (hw _ ?_)))
        · refine ev_bf (f := .len) (ds := [.tup (outs o)]) (h1 := [c1, .dead, c3, .lst (fnd.map tB)]) (evs_one (ev_fld (d := circ o n) rfl (ns := cns) (ds := circD o n) rfl rfl)) ?_
          show some (Dt.int ((outs o).length : Nat)) = _
          unfold outs
          rw [List.length_replicate]; rfl
        · rw [hlog2]; simp
      cases hE : isB p.1 o with
      | false =>
        rw [hE] at e2
        refine ⟨fun z => (by rw [hv, hB, hE] at z; cases z), fun _ => ⟨_, _, forL_ex (hd.trans (x_seq_ex ((x_if_t e0).trans (x_seq_ex ((x_if_t' e2 rfl).trans (x_seq_ex rfl))))))⟩⟩
      | true =>
        rw [hE] at e2
        obtain ⟨q1, q2⟩ := oks_of hB
        obtain ⟨q3, q4⟩ := ok_of hE
        have e3 := tk n c hn hc hc2 (p.2.map bitsOf) (by rw [List.length_map, p0, hLr]) q2 (k + 2) 3 c1 .dead c3 (.lst (fnd.map tB))
        have hlen : (tkF (rowsN n c) (p.2.map bitsOf) n).length ≤ 1000 := by
          have hh : ∀ (l : List Nat) (f : List Bool → Nat → List Bool), (∀ t j, (f t j).length = t.length) → ∀ t : List Bool, (l.foldl f t).length = t.length := fun l f hf => by
            induction l with
            | nil => exact fun t => rfl
            | cons x l ih => exact fun t => (ih _).trans (hf t x)
          unfold tkF
          rw [hh _ _ (fun t j => by unfold tkI; exact hh _ _ (fun t j => List.length_set) t), List.length_replicate]
          omega
        have ho : (bitsOf p.1).length ≤ 1000 := by
          have := hw p.1 (by rw [hlog2]; simp)
          rw [q3] at this
          exact Nat.le_trans this (by decide)
        have e4 : ev (callK T (k + 3)) T.gl 3 (.append (.v 6) (.bin .Add (.ix (.v 2) (.bin .Sub (.v 8) (.lit (.int 1)))) (.call 6 (.cons (.v 3) (.cons (.v 9) .nil))))) (R11 (some (circ o n)) (some (iN c)) (some (.lst (log.map etD))) (some (.lst ((rowsN n c).map tN))) (some (iN L)) x5 (some (.ref 3)) (some (iN i)) (some (iN (i * (L + 1)))) (some (.lst (p.2.map etD))) x10) [c1, .dead, c3, .lst (fnd.map tB)] = .ok .non [c1, .dead, c3, .lst ((fnd ++ [bitsOf p.1 ++ tkF (rowsN n c) (p.2.map bitsOf) n]).map tB)] := by
          have ev1 : ev (callK T (k + 3)) T.gl 3 (.bin .Add (.ix (.v 2) (.bin .Sub (.v 8) (.lit (.int 1)))) (.call 6 (.cons (.v 3) (.cons (.v 9) .nil)))) (R11 (some (circ o n)) (some (iN c)) (some (.lst (log.map etD))) (some (.lst ((rowsN n c).map tN))) (some (iN L)) x5 (some (.ref 3)) (some (iN i)) (some (iN (i * (L + 1)))) (some (.lst (p.2.map etD))) x10) [c1, .dead, c3, .lst (fnd.map tB)] = .ok (tB (bitsOf p.1 ++ tkF (rowsN n c) (p.2.map bitsOf) n)) [c1, .dead, c3, .lst (fnd.map tB)] := by
            rw [q3] at e1
            refine ev_bin (op := .Add) (d := tB (bitsOf p.1)) (e := tB (tkF (rowsN n c) (p.2.map bitsOf) n)) (h1 := [c1, .dead, c3, .lst (fnd.map tB)]) e1 ?_ ?_
            · rw [← q1] at e3
              refine ev_callc (ds := [.lst ((rowsN n c).map tN), .lst (p.2.map etD)]) (h1 := [c1, .dead, c3, .lst (fnd.map tB)]) ?_ e3
              exact evs_cons (h1 := [c1, .dead, c3, .lst (fnd.map tB)]) rfl (evs_one rfl)
            · refine (add_tup' (by rw [List.length_map, List.length_map]; omega)).trans ?_
              unfold tB
              rw [List.map_append]
          refine (ev_append (n := 3) (ds0 := fnd.map tB) (ds := fnd.map tB) (h1 := [c1, .dead, c3, .lst (fnd.map tB)]) (h2 := [c1, .dead, c3, .lst (fnd.map tB)]) rfl rfl ev1 rfl (by rw [List.length_map]; omega) rfl).trans ?_
          rw [List.map_append]; rfl
        have run : rbF k (iN i) (R11 (some (circ o n)) (some (iN c)) (some (.lst (log.map etD))) (some (.lst ((rowsN n c).map tN))) (some (iN L)) x5 (some (.ref 3)) x7 x8 x9 x10) [c1, .dead, c3, .lst (fnd.map tB)] = .nx (R11 (some (circ o n)) (some (iN c)) (some (.lst (log.map etD))) (some (.lst ((rowsN n c).map tN))) (some (iN L)) x5 (some (.ref 3)) (some (iN i)) (some (iN (i * (L + 1)))) (some (.lst (p.2.map etD))) x10) [c1, .dead, c3, .lst ((fnd ++ [bitsOf p.1 ++ tkF (rowsN n c) (p.2.map bitsOf) n]).map tB)] := by
          refine hd.trans ((x_seq_nx ((x_if_t e0).trans ?_)).trans rfl)
          exact (x_seq_nx (x_skip e2 rfl)).trans ((x_seq_nx (x_exp e4)).trans rfl)
        obtain ⟨i1, i2⟩ := rb_loop hn hc hc2 hLr hw hl (c1 := c1) (c3 := c3) tl (i + 1) (pre ++ (p.1 :: p.2)) (fnd ++ [bitsOf p.1 ++ tkF (rowsN n c) (p.2.map bitsOf) n]) (some (iN i)) (some (iN (i * (L + 1)))) (some (.lst (p.2.map etD))) x10 (by omega) (by omega) (by rw [List.length_append, List.length_cons, p0, Nat.add_one_mul, ← hpre]; omega) (by rw [hlog2]; simp only [List.append_assoc, List.cons_append, List.nil_append]) (fun q hq => hp q (List.mem_cons_of_mem _ hq)) (by rw [List.length_append, List.length_singleton]; omega)
        rw [hv, hB, hE]
        refine ⟨fun z => ?_, fun z => ?_⟩
        · obtain ⟨y7, y8, y9, y10, e⟩ := i1 z
          refine ⟨y7, y8, y9, y10, (forL_step run).trans (e.trans ?_)⟩
          rw [List.append_assoc]; rfl
        · obtain ⟨s, g, e⟩ := i2 z
          exact ⟨s, g, (forL_step run).trans e⟩
end
end Lk56
namespace Lk56
open PySem Vm
open L2 hiding tB
/-- what read_back gives -/
theorem div_q {len q L : Nat} (h : len = q * (L + 1) + L) : ((len : Int) - (L : Int)) / ((L + 1 : Nat) : Int) = (q : Int) := by
  have e : (len : Int) - (L : Int) = (q : Int) * ((L + 1 : Nat) : Int) := by
    rw [h, Int.natCast_add, Int.natCast_mul]; omega
  rw [e, Int.mul_ediv_cancel _ (by omega)]
theorem no_q {len L : Nat} (h : ¬ ∃ q, len = q * (L + 1) + L) : (len : Int) ≠ ((len : Int) - (L : Int)) / ((L + 1 : Nat) : Int) * ((L + 1 : Nat) : Int) + (L : Int) := fun e => by
  generalize hm : ((len : Int) - (L : Int)) / ((L + 1 : Nat) : Int) = m at e
  by_cases z : 0 ≤ m
  · refine h ⟨m.toNat, ?_⟩
    have : ((len : Nat) : Int) = ((m.toNat * (L + 1) + L : Nat) : Int) := by
      rw [e, Int.natCast_add (m.toNat * (L + 1)) L, Int.natCast_mul m.toNat (L + 1), Int.toNat_of_nonneg z]
    omega
  · have : m * ((L + 1 : Nat) : Int) ≤ (-1) * ((L + 1 : Nat) : Int) := Int.mul_le_mul_of_nonneg_right (by omega) (by omega)
    omega
section
variable {o n c k : Nat} {log : List Et} {c1 c3 : Cell}
abbrev manyE : E := .bin .FloorDiv (.bin .Sub (.bf .len (.cons (.v 2) .nil)) (.v 4)) (.bin .Add (.v 4) (.lit (.int 1)))
abbrev condE : E := .or (.cmp .NotEq (.bf .len (.cons (.v 2) .nil)) (.bin .Add (.bin .Mult (.v 5) (.bin .Add (.v 4) (.lit (.int 1)))) (.v 4))) (.one (.cmp .Gt (.v 5) (.gl 4)))
theorem rb_pre (hn : n < 8) (hc : 0 < c) (hc2 : c ≤ max 1 n) {L : Nat} (hLr : L = ((rowsN n c).getD 0 []).length) (hl : log.length ≤ 1000) (body : Vm.S) :
    exS (callK T (k + 3)) T.gl T.sub 3 (.seq (.set 3 (.call 5 (.cons (.v 0) (.cons (.v 1) .nil)))) (.seq (.set 4 (.bf .len (.cons (.ix (.v 3) (.lit (.int 0))) .nil))) (.seq (.set 5 manyE) body))) (R11 (some (circ o n)) (some (iN c)) (some (.lst (log.map etD))) none none none none none none none none) [c1, .dead, c3] =
    exS (callK T (k + 3)) T.gl T.sub 3 body (R11 (some (circ o n)) (some (iN c)) (some (.lst (log.map etD))) (some (.lst ((rowsN n c).map tN))) (some (iN L)) (some (.int (((log.length : Int) - (L : Int)) / ((L + 1 : Nat) : Int)))) none none none none none) [c1, .dead, c3] := by
  obtain ⟨r1, r2, r3, r4⟩ := rb n c hn hc hc2
  have e1 := ch n c hn hc hc2 o (k + 1) 3 c1 .dead c3
  refine (x_seq_nx (x_set (d := .lst ((rowsN n c).map tN)) (h' := [c1, .dead, c3]) (ev_callc (ds := [circ o n, iN c]) (h1 := [c1, .dead, c3]) (evs_cons (h1 := [c1, .dead, c3]) rfl (evs_one rfl)) e1))).trans ?_
  have e2 : ev (callK T (k + 3)) T.gl 3 (.bf .len (.cons (.ix (.v 3) (.lit (.int 0))) .nil)) (R11 (some (circ o n)) (some (iN c)) (some (.lst (log.map etD))) (some (.lst ((rowsN n c).map tN))) none none none none none none none) [c1, .dead, c3] = .ok (iN L) [c1, .dead, c3] := by
    rw [hLr]
    exact ev_bf (f := .len) (ds := [tN ((rowsN n c).getD 0 [])]) (h1 := [c1, .dead, c3]) (evs_one (ev_ix (d := .lst ((rowsN n c).map tN)) (e := iN 0) (h1 := [c1, .dead, c3]) rfl rfl (ix_map (getD_get (by omega))))) (len_tN _)
  refine (x_seq_nx (x_set e2)).trans ?_
  have e3 : ev (callK T (k + 3)) T.gl 3 manyE (R11 (some (circ o n)) (some (iN c)) (some (.lst (log.map etD))) (some (.lst ((rowsN n c).map tN))) (some (iN L)) none none none none none none) [c1, .dead, c3] = .ok (.int (((log.length : Int) - (L : Int)) / ((L + 1 : Nat) : Int))) [c1, .dead, c3] := by
    refine ev_bin (op := .FloorDiv) (d := .int ((log.length : Int) - (L : Int))) (e := iN (L + 1)) (h1 := [c1, .dead, c3]) (ev_bin (op := .Sub) (d := iN log.length) (e := iN L) (h1 := [c1, .dead, c3]) (ev_bf (f := .len) (ds := [.lst (log.map etD)]) (h1 := [c1, .dead, c3]) (evs_one rfl) len_lst) rfl rfl) (ev_bin (op := .Add) (d := iN L) (e := .int 1) (h1 := [c1, .dead, c3]) rfl rfl (iN_succ L)) ?_
    show (if (decide ((0 : Int) < ((L + 1 : Nat) : Int)) && decide (((L + 1 : Nat) : Int) < 1073741824)) = true then some (Dt.int (((log.length : Int) - (L : Int)) / ((L + 1 : Nat) : Int))) else none) = _
    rw [if_pos (by rw [decide_eq_true (by omega), decide_eq_true (by omega)]; rfl)]
  exact x_seq_nx (x_set e3)
theorem cond_ev {L : Nat} {m : Int} {x0 x1 x3 x6 x7 x8 x9 x10 : Option Dt} (hL : L ≤ 1000) : ev (callK T (k + 3)) T.gl 3 (.cmp .NotEq (.bf .len (.cons (.v 2) .nil)) (.bin .Add (.bin .Mult (.v 5) (.bin .Add (.v 4) (.lit (.int 1)))) (.v 4))) (R11 x0 x1 (some (.lst (log.map etD))) x3 (some (iN L)) (some (.int m)) x6 x7 x8 x9 x10) [c1, .dead, c3] = .ok (.bl (!decide ((log.length : Int) = m * ((L + 1 : Nat) : Int) + (L : Int)))) [c1, .dead, c3] := by
  refine ev_cmp (op := .NotEq) (d := iN log.length) (e := .int (m * ((L + 1 : Nat) : Int) + (L : Int))) (h1 := [c1, .dead, c3]) (ev_bf (f := .len) (ds := [.lst (log.map etD)]) (h1 := [c1, .dead, c3]) (evs_one rfl) len_lst) ?_ ?_
  · refine ev_bin (op := .Add) (d := .int (m * ((L + 1 : Nat) : Int))) (e := iN L) (h1 := [c1, .dead, c3]) (ev_bin (op := .Mult) (d := .int m) (e := iN (L + 1)) (h1 := [c1, .dead, c3]) rfl (ev_bin (op := .Add) (d := iN L) (e := .int 1) (h1 := [c1, .dead, c3]) rfl rfl (iN_succ L)) ?_) rfl rfl
    show (if (Vm.small64 m || Vm.small64 ((L + 1 : Nat) : Int)) = true then some (Dt.int (m * ((L + 1 : Nat) : Int))) else none) = _
    rw [if_pos]
    have : Vm.small64 ((L + 1 : Nat) : Int) = true := by
      unfold Vm.small64
      rw [Bool.and_eq_true, decide_eq_true_eq, decide_eq_true_eq]
      have e1 : (-(2 : Int) ^ 64) = -18446744073709551616 := by decide
      have e2 : ((2 : Int) ^ 64) = 18446744073709551616 := by decide
      omega
    rw [this, Bool.or_true]
  · show (eqD (.int (log.length : Int)) (.int (m * ((L + 1 : Nat) : Int) + (L : Int)))).map (!·) = _
    rw [eqD_int]; rfl
theorem back_no (hn : n < 8) (hc : 0 < c) (hc2 : c ≤ max 1 n) (hno : ¬ ∃ q, log.length = q * (((rowsN n c).getD 0 []).length + 1) + ((rowsN n c).getD 0 []).length) (hl : log.length ≤ 1000) {b : Nat} : callK T (k + 4) 7 b [circ o n, iN c, .lst (log.map etD)] [c1, .dead, c3] = .exc ⟨2, [], []⟩ [c1, .dead, c3] := by
  rw [callK_reg (T := T) (fd := f7) rfl rfl rfl]
  obtain ⟨r1, r2, r3, r4⟩ := rb n c hn hc hc2
  generalize hL : ((rowsN n c).getD 0 []).length = L at *
  have ec := cond_ev (k := k) (c1 := c1) (c3 := c3) (log := log) (L := L) (m := ((log.length : Int) - (L : Int)) / ((L + 1 : Nat) : Int)) (x0 := some (circ o n)) (x1 := some (iN c)) (x3 := some (.lst ((rowsN n c).map tN))) (x6 := none) (x7 := none) (x8 := none) (x9 := none) (x10 := none) (by omega)
  rw [decide_eq_false (no_q hno)] at ec
  have run : exS (callK T (k + 3)) T.gl T.sub 3 b7 (R11 (some (circ o n)) (some (iN c)) (some (.lst (log.map etD))) none none none none none none none none) [c1, .dead, c3] = .ex ⟨2, [], []⟩ (R11 (some (circ o n)) (some (iN c)) (some (.lst (log.map etD))) (some (.lst ((rowsN n c).map tN))) (some (iN L)) (some (.int (((log.length : Int) - (L : Int)) / ((L + 1 : Nat) : Int)))) none none none none none) [c1, .dead, c3] := by
    refine (rb_pre (c1 := c1) (c3 := c3) hn hc hc2 hL.symm hl _).trans ?_
    exact x_seq_ex ((x_if_t' (ev_or_t ec rfl) rfl).trans (x_seq_ex rfl))
  show finR 3 (exS (callK T (k + 3)) T.gl T.sub 3 b7 (R11 (some (circ o n)) (some (iN c)) (some (.lst (log.map etD))) none none none none none none none none) [c1, .dead, c3]) = _
  rw [run]; rfl
theorem back_run (hn : n < 8) (hc : 0 < c) (hc2 : c ≤ max 1 n) {B0 : List Et} {tl : List (Et × List Et)} (hB : B0.length = ((rowsN n c).getD 0 []).length) (hp : ∀ p ∈ tl, p.2.length = ((rowsN n c).getD 0 []).length) (hlog : log = B0 ++ tl.flatMap tf) (hq : log.length = tl.length * (((rowsN n c).getD 0 []).length + 1) + ((rowsN n c).getD 0 []).length) (hw : ∀ e ∈ log, Wf e) (hl : log.length ≤ 500) {b : Nat} :
    ((B0.all (isB · c) && vT c o tl) = true → callK T (k + 4) 7 b [circ o n, iN c, .lst (log.map etD)] [c1, .dead, c3] = .ok (.lst ((resT (rowsN n c) n tl).map tB)) [c1, .dead, c3]) ∧
    ((B0.all (isB · c) && vT c o tl) = false → callK T (k + 4) 7 b [circ o n, iN c, .lst (log.map etD)] [c1, .dead, c3] = .exc ⟨2, [], []⟩ [c1, .dead, c3]) := by
  rw [callK_reg (T := T) (fd := f7) rfl rfl rfl]
  obtain ⟨r1, r2, r3, r4⟩ := rb n c hn hc hc2
  generalize hL : ((rowsN n c).getD 0 []).length = L at *
  have htl : tl.length ≤ 500 := by
    have : tl.length * 1 ≤ tl.length * (L + 1) := Nat.mul_le_mul_left _ (by omega)
    omega
  have ec := cond_ev (k := k) (c1 := c1) (c3 := c3) (log := log) (L := L) (m := ((log.length : Int) - (L : Int)) / ((L + 1 : Nat) : Int)) (x0 := some (circ o n)) (x1 := some (iN c)) (x3 := some (.lst ((rowsN n c).map tN))) (x6 := none) (x7 := none) (x8 := none) (x9 := none) (x10 := none) (by omega)
  have hpre : exS (callK T (k + 3)) T.gl T.sub 3 b7 (R11 (some (circ o n)) (some (iN c)) (some (.lst (log.map etD))) none none none none none none none none) [c1, .dead, c3] = exS (callK T (k + 3)) T.gl T.sub 3 (.seq (.ife condE (.seq (.raise 2) .nil) .nil) (.seq (.set 6 (.lst true .nil)) (.seq (.forS (.nm 7) (.rng (.cons (.bin .Add (.v 5) (.lit (.int 1))) .nil)) rbB) (.seq (.ret (.v 6)) .nil)))) (R11 (some (circ o n)) (some (iN c)) (some (.lst (log.map etD))) (some (.lst ((rowsN n c).map tN))) (some (iN L)) (some (iN tl.length)) none none none none none) [c1, .dead, c3] := by
    have := rb_pre (k := k) (o := o) (c1 := c1) (c3 := c3) (log := log) hn hc hc2 hL.symm (by omega) (.seq (.ife condE (.seq (.raise 2) .nil) .nil) (.seq (.set 6 (.lst true .nil)) (.seq (.forS (.nm 7) (.rng (.cons (.bin .Add (.v 5) (.lit (.int 1))) .nil)) rbB) (.seq (.ret (.v 6)) .nil))))
    rw [div_q hq] at this
    exact this
  rw [div_q hq] at ec
  have hcast : ((log.length : Nat) : Int) = ((tl.length : Nat) : Int) * ((L + 1 : Nat) : Int) + (L : Int) := by rw [hq, Int.natCast_add, Int.natCast_mul]
  rw [decide_eq_true hcast] at ec
  have e2 : ev (callK T (k + 3)) T.gl 3 (.cmp .Gt (.v 5) (.gl 4)) (R11 (some (circ o n)) (some (iN c)) (some (.lst (log.map etD))) (some (.lst ((rowsN n c).map tN))) (some (iN L)) (some (iN tl.length)) none none none none none) [c1, .dead, c3] = .ok (.bl false) [c1, .dead, c3] := by
    refine (ev_cmp (op := .Gt) (d := iN tl.length) (e := iN 1000) (h1 := [c1, .dead, c3]) rfl rfl (gt_iN _ _)).trans ?_
    rw [decide_eq_false (by omega)]
  have ei : evi (callK T (k + 3)) T.gl 3 (.rng (.cons (.bin .Add (.v 5) (.lit (.int 1))) .nil)) (R11 (some (circ o n)) (some (iN c)) (some (.lst (log.map etD))) (some (.lst ((rowsN n c).map tN))) (some (iN L)) (some (iN tl.length)) (some (.ref 3)) none none none none) [c1, .dead, c3, .lst []] = .ok (.its ((List.range (tl.length + 1)).map iN)) [c1, .dead, c3, .lst []] :=
    evi_nat (ev_bin (op := .Add) (d := iN tl.length) (e := .int 1) (h1 := [c1, .dead, c3, .lst []]) rfl rfl (iN_succ _)) (by omega)
  have hd := rb_head (k := k) (c := c) (L := L) (i := 0) (B := B0) (pre := []) (post := tl.flatMap tf) (log := log) (x0 := some (circ o n)) (x3 := some (.lst ((rowsN n c).map tN))) (x5 := some (iN tl.length)) (x8 := none) (x9 := none) (x10 := none) (h := [c1, .dead, c3, .lst []]) hB (by rw [Nat.zero_mul]; rfl) hlog hw (by omega) (by omega)
  obtain ⟨l1, l2⟩ := rb_loop (k := k) (o := o) (x5 := some (iN tl.length)) hn hc hc2 hL.symm hw (by omega) (c1 := c1) (c3 := c3) tl 1 B0 [] (some (iN 0)) (some (iN (0 * (L + 1)))) (some (.lst (B0.map etD))) none (Nat.le_refl _) (by omega) (by rw [hB, Nat.one_mul]) hlog hp (by rw [List.length_nil]; omega)
  have hrg : (List.range (tl.length + 1)).map iN = iN 0 :: (List.range' 1 tl.length).map iN := by rw [List.range_eq_range']; rfl
  rw [hrg] at ei
  have ecc : ev (callK T (k + 3)) T.gl 3 condE (R11 (some (circ o n)) (some (iN c)) (some (.lst (log.map etD))) (some (.lst ((rowsN n c).map tN))) (some (iN L)) (some (iN tl.length)) none none none none none) [c1, .dead, c3] = .ok (.bl false) [c1, .dead, c3] := ev_or_f ec rfl e2
  have el : ev (callK T (k + 3)) T.gl 3 (.lst true .nil) (R11 (some (circ o n)) (some (iN c)) (some (.lst (log.map etD))) (some (.lst ((rowsN n c).map tN))) (some (iN L)) (some (iN tl.length)) none none none none none) [c1, .dead, c3] = .ok (.ref 3) [c1, .dead, c3, .lst []] := rfl
  have hhead : exS (callK T (k + 3)) T.gl T.sub 3 b7 (R11 (some (circ o n)) (some (iN c)) (some (.lst (log.map etD))) none none none none none none none none) [c1, .dead, c3] = exS (callK T (k + 3)) T.gl T.sub 3 (.seq (.forS (.nm 7) (.rng (.cons (.bin .Add (.v 5) (.lit (.int 1))) .nil)) rbB) (.seq (.ret (.v 6)) .nil)) (R11 (some (circ o n)) (some (iN c)) (some (.lst (log.map etD))) (some (.lst ((rowsN n c).map tN))) (some (iN L)) (some (iN tl.length)) (some (.ref 3)) none none none none) [c1, .dead, c3, .lst []] := by
    rw [hpre]
    exact (x_seq_nx (x_skip ecc rfl)).trans (x_seq_nx (x_set el))
  have hnx : ∀ s' h', forL (rbF k) (iN 0 :: (List.range' 1 tl.length).map iN) (R11 (some (circ o n)) (some (iN c)) (some (.lst (log.map etD))) (some (.lst ((rowsN n c).map tN))) (some (iN L)) (some (iN tl.length)) (some (.ref 3)) none none none none) [c1, .dead, c3, .lst []] = .nx s' h' →
      exS (callK T (k + 3)) T.gl T.sub 3 b7 (R11 (some (circ o n)) (some (iN c)) (some (.lst (log.map etD))) none none none none none none none none) [c1, .dead, c3] = exS (callK T (k + 3)) T.gl T.sub 3 (.seq (.ret (.v 6)) .nil) s' h' := fun s' h' hr => by
    rw [hhead]
    exact x_seq_nx ((x_for (sub := T.sub) (t := .nm 7) (body := rbB) ei).trans hr)
  have hex : ∀ x s' h', forL (rbF k) (iN 0 :: (List.range' 1 tl.length).map iN) (R11 (some (circ o n)) (some (iN c)) (some (.lst (log.map etD))) (some (.lst ((rowsN n c).map tN))) (some (iN L)) (some (iN tl.length)) (some (.ref 3)) none none none none) [c1, .dead, c3, .lst []] = .ex x s' h' →
      exS (callK T (k + 3)) T.gl T.sub 3 b7 (R11 (some (circ o n)) (some (iN c)) (some (.lst (log.map etD))) none none none none none none none none) [c1, .dead, c3] = .ex x s' h' := fun x s' h' hr => by
    rw [hhead]
    exact x_seq_ex ((x_for (sub := T.sub) (t := .nm 7) (body := rbB) ei).trans hr)
  cases hb : B0.all (isB · c) with
  | false =>
    rw [hb, if_neg Bool.false_ne_true] at hd
    refine ⟨fun z => (by cases z), fun _ => ?_⟩
    have := hex _ _ _ (forL_ex hd)
    show finR 3 (exS (callK T (k + 3)) T.gl T.sub 3 b7 (R11 (some (circ o n)) (some (iN c)) (some (.lst (log.map etD))) none none none none none none none none) [c1, .dead, c3]) = _
    rw [this]; rfl
  | true =>
    rw [hb, if_pos rfl] at hd
    have run0 : rbF k (iN 0) (R11 (some (circ o n)) (some (iN c)) (some (.lst (log.map etD))) (some (.lst ((rowsN n c).map tN))) (some (iN L)) (some (iN tl.length)) (some (.ref 3)) none none none none) [c1, .dead, c3, .lst []] = .nx (R11 (some (circ o n)) (some (iN c)) (some (.lst (log.map etD))) (some (.lst ((rowsN n c).map tN))) (some (iN L)) (some (iN tl.length)) (some (.ref 3)) (some (iN 0)) (some (iN (0 * (L + 1)))) (some (.lst (B0.map etD))) none) [c1, .dead, c3, .lst []] :=
      hd.trans ((x_seq_nx (x_skip (k := false) (h' := [c1, .dead, c3, .lst []]) rfl rfl)).trans rfl)
    rw [Bool.true_and]
    refine ⟨fun z => ?_, fun z => ?_⟩
    · obtain ⟨y7, y8, y9, y10, e⟩ := l1 z
      have := hnx _ _ ((forL_step run0).trans e)
      show finR 3 (exS (callK T (k + 3)) T.gl T.sub 3 b7 (R11 (some (circ o n)) (some (iN c)) (some (.lst (log.map etD))) none none none none none none none none) [c1, .dead, c3]) = _
      rw [this]
      exact finR_one (h := [c1, .dead, c3]) (l := (resT (rowsN n c) n tl).map tB) (noRefs_map noRef_tB _)
    · obtain ⟨s, g, e⟩ := l2 z
      have := hex _ _ _ ((forL_step run0).trans e)
      show finR 3 (exS (callK T (k + 3)) T.gl T.sub 3 b7 (R11 (some (circ o n)) (some (iN c)) (some (.lst (log.map etD))) none none none none none none none none) [c1, .dead, c3]) = _
      rw [this]; rfl
end
end Lk56

/-! k56: what is due (own text). -/
namespace Lk56
open PySem Vm
open L2 hiding tB
abbrev D12 (x0 x1 x2 x3 x4 x5 x6 x7 x8 x9 x10 x11 : Option Dt) : En := [x0, x1, x2, x3, x4, x5, x6, x7, x8, x9, x10, x11]
abbrev bN_ : Vm.S := .seq (.setX (.v 8) (.ix (.v 10) (.bin .Sub (.bin .Sub (.bf .len (.cons (.v 10) .nil)) (.lit (.int 1))) (.v 11))) (.ix (.ix (.v 3) (.bin .Add (.bin .Add (.v 6) (.lit (.int 1))) (.v 11))) (.v 9))) .nil
abbrev bJ_ : Vm.S := .seq (.set 10 (.ix (.v 0) (.v 9))) (.seq (.forS (.nm 11) (.rng (.cons (.bf .len (.cons (.v 10) .nil)) .nil)) bN_) .nil)
abbrev b2_ : Vm.S := .seq (.set 8 (.addM .Mult (.lst false (.cons (.lit (.int 0)) .nil)) (.v 2))) (.seq (.forS (.nm 9) (.rng (.cons (.bf .len (.cons (.v 0) .nil)) .nil)) bJ_) (.seq (.exp (.append (.v 5) (.bin .Add (.ix (.v 3) (.v 6)) (.bf .tuple (.cons (.v 8) .nil))))) .nil))
abbrev b1_ : Vm.S := .seq (.set 7 (.bin .Mod (.bf .int (.cons (.v 6) .nil)) (.bin .Add (.v 4) (.lit (.int 1))))) (.seq (.ife (.nt (.call 26 (.cons (.ix (.v 3) (.v 6)) (.cons (.ife (.cmp .Eq (.v 7) (.v 4)) (.v 1) (.bf .len (.cons (.v 0) .nil))) .nil)))) (.seq (.ret (.lit (.str "refused"))) .nil) .nil) .nil)
theorem forL_rt {f : Dt → En → Hq → Rs} {d r : Dt} {ds : List Dt} {s : En} {h h1 : Hq} (e : f d s h = .rt r h1) : forL f (d :: ds) s h = .rt r h1 := by
  show (match f d s h with
    | .nx σ' h' => forL f ds σ' h'
    | .ct σ' h' => forL f ds σ' h'
    | .bk σ' h' => .nx σ' h'
    | r => r) = _
  rw [e]
/-! ### are the entries right? -/
def okL (L c o : Nat) : Nat → List Et → Bool
  | _, [] => true
  | k, e :: r => isB e (if k % (L + 1) = L then o else c) && okL L c o (k + 1) r
theorem mod_at {L i j : Nat} (h : j ≤ L) : (i * (L + 1) + j) % (L + 1) = j := by
  rw [Nat.add_comm, Nat.add_mul_mod_self_right, Nat.mod_eq_of_lt (by omega)]
theorem okL_block {L c o i : Nat} : ∀ (B rest : List Et) (j : Nat), j + B.length ≤ L → okL L c o (i * (L + 1) + j) (B ++ rest) = (B.all (isB · c) && okL L c o (i * (L + 1) + j + B.length) rest)
  | [], rest, j, _ => by rw [List.nil_append, List.all_nil, Bool.true_and]; rfl
  | e :: B, rest, j, h => by
    rw [List.length_cons] at h
    have ih := okL_block (L := L) (c := c) (o := o) (i := i) B rest (j + 1) (by omega)
    show (isB e (if (i * (L + 1) + j) % (L + 1) = L then o else c) && okL L c o (i * (L + 1) + j + 1) (B ++ rest)) = _
    rw [mod_at (by omega), if_neg (by omega), ← Nat.add_assoc] at *
    rw [ih, List.all_cons, Bool.and_assoc, List.length_cons]
    rw [show i * (L + 1) + j + (B.length + 1) = i * (L + 1) + j + 1 + B.length by omega]
theorem okL_tail {L c o : Nat} : ∀ (tl : List (Et × List Et)) (i : Nat), (∀ p ∈ tl, p.2.length = L) → okL L c o (i * (L + 1) + L) (tl.flatMap tf) = vT c o tl
  | [], i, _ => rfl
  | p :: tl, i, h => by
    have p0 := h p List.mem_cons_self
    have ih := okL_tail (L := L) (c := c) (o := o) tl (i + 1) (fun q hq => h q (List.mem_cons_of_mem _ hq))
    rw [List.flatMap_cons]
    show (isB p.1 (if (i * (L + 1) + L) % (L + 1) = L then o else c) && okL L c o (i * (L + 1) + L + 1) (p.2 ++ tl.flatMap tf)) = ((p.2.all (isB · c) && isB p.1 o) && vT c o tl)
    rw [mod_at (Nat.le_refl _), if_pos rfl, show i * (L + 1) + L + 1 = (i + 1) * (L + 1) + 0 by rw [Nat.add_one_mul]; omega, okL_block p.2 _ 0 (by omega), p0, Nat.add_zero, ih]
    cases isB p.1 o <;> cases p.2.all (isB · c) <;> rfl
section
variable {o n c L k : Nat} {log : List Et} {lg : Dt} {c1 c3 : Cell} {rows : List (List Nat)}
theorem d1_loop (hc : rows.length = c) (hL : L ≤ 1000) (hv : ∀ hh : Hq, hh[2]? = some c3 → vw hh lg = .lst (log.map etD)) (hw : ∀ e ∈ log, Wf e) {x5 x8 x9 x10 x11 : Option Dt} {h : Hq} (h2 : h[2]? = some c3) : ∀ (rest : List Et) (pre : List Et) (x6 x7 : Option Dt), log = pre ++ rest →
    (okL L c o pre.length rest = true → ∃ y6 y7, forL (fun d σ hh => match (Tg.nm 6).set d σ with
      | none => .no
      | some σ' => exS (callK T (k + 1)) T.gl T.sub 3 b1_ σ' hh) ((List.range' pre.length rest.length).map iN) (D12 (some (.lst (rows.map tN))) (some (iN o)) (some (iN n)) (some lg) (some (iN L)) x5 x6 x7 x8 x9 x10 x11) h = .nx (D12 (some (.lst (rows.map tN))) (some (iN o)) (some (iN n)) (some lg) (some (iN L)) x5 y6 y7 x8 x9 x10 x11) h) ∧
    (okL L c o pre.length rest = false → forL (fun d σ hh => match (Tg.nm 6).set d σ with
      | none => .no
      | some σ' => exS (callK T (k + 1)) T.gl T.sub 3 b1_ σ' hh) ((List.range' pre.length rest.length).map iN) (D12 (some (.lst (rows.map tN))) (some (iN o)) (some (iN n)) (some lg) (some (iN L)) x5 x6 x7 x8 x9 x10 x11) h = .rt (.str "refused") h)
  | [], pre, x6, x7, _ => ⟨fun _ => ⟨x6, x7, rfl⟩, fun z => by cases z⟩
  | e :: rest, pre, x6, x7, hlog => by
    have e1 : ev (callK T (k + 1)) T.gl 3 (.bin .Mod (.bf .int (.cons (.v 6) .nil)) (.bin .Add (.v 4) (.lit (.int 1)))) (D12 (some (.lst (rows.map tN))) (some (iN o)) (some (iN n)) (some lg) (some (iN L)) x5 (some (iN pre.length)) x7 x8 x9 x10 x11) h = .ok (iN (pre.length % (L + 1))) h := by
      refine ev_bin (op := .Mod) (d := iN pre.length) (e := iN (L + 1)) (h1 := h) rfl rfl ?_
      show (if decide ((0 : Int) < ((L + 1 : Nat) : Int)) = true then some (Dt.int ((pre.length : Int) % ((L + 1 : Nat) : Int))) else none) = _
      rw [if_pos (decide_eq_true (by omega))]
      rfl
    have g1 : log[pre.length]? = some e := by
      rw [hlog, List.getElem?_append_right (Nat.le_refl _), Nat.sub_self]; rfl
    have e2 : ev (callK T (k + 1)) T.gl 3 (.ife (.cmp .Eq (.v 7) (.v 4)) (.v 1) (.bf .len (.cons (.v 0) .nil))) (D12 (some (.lst (rows.map tN))) (some (iN o)) (some (iN n)) (some lg) (some (iN L)) x5 (some (iN pre.length)) (some (iN (pre.length % (L + 1)))) x8 x9 x10 x11) h = .ok (iN (if pre.length % (L + 1) = L then o else c)) h := by
      have ec : ev (callK T (k + 1)) T.gl 3 (.cmp .Eq (.v 7) (.v 4)) (D12 (some (.lst (rows.map tN))) (some (iN o)) (some (iN n)) (some lg) (some (iN L)) x5 (some (iN pre.length)) (some (iN (pre.length % (L + 1)))) x8 x9 x10 x11) h = .ok (.bl (decide (pre.length % (L + 1) = L))) h :=
        ev_cmp (op := .Eq) (d := iN (pre.length % (L + 1))) (e := iN L) (h1 := h) rfl rfl (eqD_iN _ _)
      by_cases z : pre.length % (L + 1) = L
      · rw [if_pos z]
        exact ev_ife_t ec (decide_eq_true z) rfl
      · rw [if_neg z, ← hc]
        exact ev_ife_f ec (decide_eq_false z) (ev_bf (f := .len) (ds := [.lst (rows.map tN)]) (h1 := h) (evs_one rfl) len_lst)
    have e3 : ev (callK T (k + 1)) T.gl 3 (.nt (.call 26 (.cons (.ix (.v 3) (.v 6)) (.cons (.ife (.cmp .Eq (.v 7) (.v 4)) (.v 1) (.bf .len (.cons (.v 0) .nil))) .nil)))) (D12 (some (.lst (rows.map tN))) (some (iN o)) (some (iN n)) (some lg) (some (iN L)) x5 (some (iN pre.length)) (some (iN (pre.length % (L + 1)))) x8 x9 x10 x11) h = .ok (.bl (!isB e (if pre.length % (L + 1) = L then o else c))) h := by
      refine ev_nt (ev_callc (ds := [etD e, iN (if pre.length % (L + 1) = L then o else c)]) (h1 := h) (evs_cons (h1 := h) ?_ (evs_one e2)) (lb (hw e (by rw [hlog]; simp))))
      refine ev_ix (d := lg) (e := iN pre.length) (h1 := h) rfl rfl ?_
      rw [hv h h2]
      exact ix_map g1
    have hr : (List.range' pre.length (e :: rest).length).map iN = iN pre.length :: (List.range' (pre ++ [e]).length rest.length).map iN := by
      rw [List.length_append]; rfl
    rw [hr]
    have hv2 : okL L c o pre.length (e :: rest) = (isB e (if pre.length % (L + 1) = L then o else c) && okL L c o (pre ++ [e]).length rest) := by
      rw [List.length_append]; rfl
    rw [hv2]
    cases hE : isB e (if pre.length % (L + 1) = L then o else c) with
    | false =>
      rw [hE] at e3
      refine ⟨fun z => (by cases z), fun _ => forL_rt ?_⟩
      exact (x_seq_nx (x_set e1)).trans (x_seq_rt ((x_if_t' e3 rfl).trans (x_seq_rt (x_ret rfl))))
    | true =>
      rw [hE] at e3
      obtain ⟨i1, i2⟩ := d1_loop hc hL hv hw (x5 := x5) (x8 := x8) (x9 := x9) (x10 := x10) (x11 := x11) h2 rest (pre ++ [e]) (some (iN pre.length)) (some (iN (pre.length % (L + 1)))) (by rw [hlog, List.append_assoc]; rfl)
      have run : exS (callK T (k + 1)) T.gl T.sub 3 b1_ (D12 (some (.lst (rows.map tN))) (some (iN o)) (some (iN n)) (some lg) (some (iN L)) x5 (some (iN pre.length)) x7 x8 x9 x10 x11) h = .nx (D12 (some (.lst (rows.map tN))) (some (iN o)) (some (iN n)) (some lg) (some (iN L)) x5 (some (iN pre.length)) (some (iN (pre.length % (L + 1)))) x8 x9 x10 x11) h :=
        (x_seq_nx (x_set e1)).trans ((x_seq_nx (x_skip e3 rfl)).trans rfl)
      refine ⟨fun z => ?_, fun z => ?_⟩
      · obtain ⟨y6, y7, e⟩ := i1 z
        exact ⟨y6, y7, (forL_step run).trans e⟩
      · exact (forL_step run).trans (i2 z)
/-! ### what is taken -/
variable {s : Nat} {Bs : List (List Bool)}
theorem n_loop (hv : ∀ hh : Hq, hh[2]? = some c3 → vw hh lg = .lst (log.map etD)) {j Tn : Nat} {row : List Nat} (hT : 3 ≤ Tn) (hrow : row.length ≤ L) (hg : ∀ i, i < L → log[s + 1 + i]? = some (.ok (Bs.getD i []))) (hj : ∀ i, i < L → j < (Bs.getD i []).length) {x0 x1 x2 x4 x5 x7 : Option Dt} : ∀ (m nn : Nat) (tk : List Bool) (x11 : Option Dt) (h : Hq), nn + m = row.length → h[2]? = some c3 → h[Tn]? = some (.lst (tk.map bN)) → (∀ r ∈ row, r < tk.length) →
    ∃ y11, forL (fun d σ hh => match (Tg.nm 11).set d σ with
      | none => .no
      | some σ' => exS (callK T (k + 1)) T.gl T.sub 3 bN_ σ' hh) ((List.range' nn m).map iN) (D12 x0 x1 x2 (some lg) x4 x5 (some (iN s)) x7 (some (.ref Tn)) (some (iN j)) (some (tN row)) x11) h =
      .nx (D12 x0 x1 x2 (some lg) x4 x5 (some (iN s)) x7 (some (.ref Tn)) (some (iN j)) (some (tN row)) y11) (h.set Tn (.lst (((List.range' nn m).foldl (fun tk n => tk.set (row.getD (row.length - 1 - n) 0) ((Bs.getD n []).getD j false)) tk).map bN)))
  | 0, nn, tk, x11, h, _, _, hTn, _ => ⟨x11, by
    show Rs.nx _ h = Rs.nx _ (h.set Tn (.lst (tk.map bN)))
    rw [set_self hTn]⟩
  | m + 1, nn, tk, x11, h, hm, h2, hTn, hr => by
    have e1 : ev (callK T (k + 1)) T.gl 3 (.ix (.ix (.v 3) (.bin .Add (.bin .Add (.v 6) (.lit (.int 1))) (.v 11))) (.v 9)) (D12 x0 x1 x2 (some lg) x4 x5 (some (iN s)) x7 (some (.ref Tn)) (some (iN j)) (some (tN row)) (some (iN nn))) h = .ok (bN ((Bs.getD nn []).getD j false)) h := by
      have hx : ixD (tB (Bs.getD nn [])) (iN j) = some (bN ((Bs.getD nn []).getD j false)) := by
        have := ix_map (f := bN) (r := Bs.getD nn []) (getD_get (d := false) (hj nn (by omega)))
        exact this
      refine ev_ix (d := tB (Bs.getD nn [])) (e := iN j) (h1 := h) ?_ rfl hx
      refine ev_ix (d := lg) (e := iN (s + 1 + nn)) (h1 := h) rfl ?_ ?_
      · exact ev_bin (op := .Add) (d := iN (s + 1)) (e := iN nn) (h1 := h) (ev_bin (op := .Add) (d := iN s) (e := .int 1) (h1 := h) rfl rfl (iN_succ s)) rfl (add_iN _ _)
      · rw [hv h h2]
        exact ix_map (f := etD) (hg nn (by omega))
    have e2 : ev (callK T (k + 1)) T.gl 3 (.ix (.v 10) (.bin .Sub (.bin .Sub (.bf .len (.cons (.v 10) .nil)) (.lit (.int 1))) (.v 11))) (D12 x0 x1 x2 (some lg) x4 x5 (some (iN s)) x7 (some (.ref Tn)) (some (iN j)) (some (tN row)) (some (iN nn))) h = .ok (iN (row.getD (row.length - 1 - nn) 0)) h := by
      have hx : ixD (tN row) (iN (row.length - 1 - nn)) = some (iN (row.getD (row.length - 1 - nn) 0)) := by
        have := ix_map (f := iN) (r := row) (getD_get (d := 0) (show row.length - 1 - nn < row.length by omega))
        exact this
      refine ev_ix (d := tN row) (e := iN (row.length - 1 - nn)) (h1 := h) rfl ?_ hx
      refine ev_bin (op := .Sub) (d := iN (row.length - 1)) (e := iN nn) (h1 := h) ?_ rfl (sub_iN (by omega))
      exact ev_bin (op := .Sub) (d := iN row.length) (e := iN 1) (h1 := h) (ev_bf (f := .len) (ds := [tN row]) (h1 := h) (evs_one rfl) (len_tN row)) rfl (sub_iN (by omega))
    have hin : row.getD (row.length - 1 - nn) 0 < tk.length := by
      refine hr _ ?_
      rw [List.getD_eq_getElem?_getD, List.getElem?_eq_getElem (show row.length - 1 - nn < row.length by omega)]
      exact List.getElem_mem _
    have st := store_lst' (d := bN ((Bs.getD nn []).getD j false)) (b := 3) rfl hTn (show row.getD (row.length - 1 - nn) 0 < (tk.map bN).length by rw [List.length_map]; exact hin)
    rw [← List.map_set] at st
    have run : exS (callK T (k + 1)) T.gl T.sub 3 bN_ (D12 x0 x1 x2 (some lg) x4 x5 (some (iN s)) x7 (some (.ref Tn)) (some (iN j)) (some (tN row)) (some (iN nn))) h = .nx (D12 x0 x1 x2 (some lg) x4 x5 (some (iN s)) x7 (some (.ref Tn)) (some (iN j)) (some (tN row)) (some (iN nn))) (h.set Tn (.lst ((tk.set (row.getD (row.length - 1 - nn) 0) ((Bs.getD nn []).getD j false)).map bN))) :=
      (x_seq_nx (x_setX (n := Tn) (d := bN ((Bs.getD nn []).getD j false)) (kd := iN (row.getD (row.length - 1 - nn) 0)) (h1 := h) (h2 := h) (h3 := h) e1 rfl e2 st)).trans rfl
    obtain ⟨y11, e⟩ := n_loop hv hT hrow hg hj (x0 := x0) (x1 := x1) (x2 := x2) (x4 := x4) (x5 := x5) (x7 := x7) m (nn + 1) (tk.set (row.getD (row.length - 1 - nn) 0) ((Bs.getD nn []).getD j false)) (some (iN nn)) (h.set Tn (.lst ((tk.set (row.getD (row.length - 1 - nn) 0) ((Bs.getD nn []).getD j false)).map bN))) (by omega) (by rw [List.getElem?_set_ne (by omega)]; exact h2) (set_cell hTn) (fun r hr' => by rw [List.length_set]; exact hr r hr')
    refine ⟨y11, (forL_step (ds := (List.range' (nn + 1) m).map iN) run).trans (e.trans ?_)⟩
    rw [List.set_set]; rfl
theorem tkI_len (row : List Nat) (Bs : List (List Bool)) (j : Nat) (tk : List Bool) : (tkI row Bs j tk).length = tk.length := by
  unfold tkI
  generalize List.range row.length = l
  induction l generalizing tk with
  | nil => rfl
  | cons x l ih => exact (ih _).trans List.length_set
theorem j_loop (hv : ∀ hh : Hq, hh[2]? = some c3 → vw hh lg = .lst (log.map etD)) {Tn : Nat} (hT : 3 ≤ Tn) (hrl : ∀ r ∈ rows, r.length ≤ L) (hri : ∀ r ∈ rows, ∀ i ∈ r, i < n) (hL : L ≤ 1000) (hg : ∀ i, i < L → log[s + 1 + i]? = some (.ok (Bs.getD i []))) (hj : ∀ i, i < L → (Bs.getD i []).length = rows.length) {x1 x2 x4 x5 x7 : Option Dt} : ∀ (m j : Nat) (tk : List Bool) (x9 x10 x11 : Option Dt) (h : Hq), j + m = rows.length → h[2]? = some c3 → h[Tn]? = some (.lst (tk.map bN)) → tk.length = n →
    ∃ y9 y10 y11, forL (fun d σ hh => match (Tg.nm 9).set d σ with
      | none => .no
      | some σ' => exS (callK T (k + 1)) T.gl T.sub 3 bJ_ σ' hh) ((List.range' j m).map iN) (D12 (some (.lst (rows.map tN))) x1 x2 (some lg) x4 x5 (some (iN s)) x7 (some (.ref Tn)) x9 x10 x11) h =
      .nx (D12 (some (.lst (rows.map tN))) x1 x2 (some lg) x4 x5 (some (iN s)) x7 (some (.ref Tn)) y9 y10 y11) (h.set Tn (.lst (((List.range' j m).foldl (fun tk j => tkI (rows.getD j []) Bs j tk) tk).map bN)))
  | 0, j, tk, x9, x10, x11, h, _, _, hTn, _ => ⟨x9, x10, x11, by
    show Rs.nx _ h = Rs.nx _ (h.set Tn (.lst (tk.map bN)))
    rw [set_self hTn]⟩
  | m + 1, j, tk, x9, x10, x11, h, hm, h2, hTn, ht => by
    have hjl : j < rows.length := by omega
    have hmem : rows.getD j [] ∈ rows := by
      rw [List.getD_eq_getElem?_getD, List.getElem?_eq_getElem hjl]
      exact List.getElem_mem _
    generalize hrow : rows.getD j [] = row at hmem
    have e1 : ev (callK T (k + 1)) T.gl 3 (.ix (.v 0) (.v 9)) (D12 (some (.lst (rows.map tN))) x1 x2 (some lg) x4 x5 (some (iN s)) x7 (some (.ref Tn)) (some (iN j)) x10 x11) h = .ok (tN row) h := by
      rw [← hrow]
      exact ev_ix (d := .lst (rows.map tN)) (e := iN j) (h1 := h) rfl rfl (ix_map (getD_get hjl))
    obtain ⟨y11, e2⟩ := n_loop (k := k) (s := s) hv (j := j) (Tn := Tn) (row := row) hT (hrl row hmem) hg (fun i hi => by rw [hj i hi]; exact hjl) (x0 := some (.lst (rows.map tN))) (x1 := x1) (x2 := x2) (x4 := x4) (x5 := x5) (x7 := x7) row.length 0 tk x11 h (by omega) h2 hTn (fun r hr => by rw [ht]; exact hri row hmem r hr)
    have e2 : forL (fun d σ hh => match (Tg.nm 11).set d σ with
      | none => .no
      | some σ' => exS (callK T (k + 1)) T.gl T.sub 3 bN_ σ' hh) ((List.range row.length).map iN) (D12 (some (.lst (rows.map tN))) x1 x2 (some lg) x4 x5 (some (iN s)) x7 (some (.ref Tn)) (some (iN j)) (some (tN row)) x11) h = .nx (D12 (some (.lst (rows.map tN))) x1 x2 (some lg) x4 x5 (some (iN s)) x7 (some (.ref Tn)) (some (iN j)) (some (tN row)) y11) (h.set Tn (.lst ((tkI row Bs j tk).map bN))) := by
      unfold tkI
      rw [List.range_eq_range']
      exact e2
    have ei : evi (callK T (k + 1)) T.gl 3 (.rng (.cons (.bf .len (.cons (.v 10) .nil)) .nil)) (D12 (some (.lst (rows.map tN))) x1 x2 (some lg) x4 x5 (some (iN s)) x7 (some (.ref Tn)) (some (iN j)) (some (tN row)) x11) h = .ok (.its ((List.range row.length).map iN)) h :=
      evi_nat (ev_bf (f := .len) (ds := [tN row]) (h1 := h) (evs_one rfl) (len_tN row)) (by have := hrl row hmem; omega)
    have run : exS (callK T (k + 1)) T.gl T.sub 3 bJ_ (D12 (some (.lst (rows.map tN))) x1 x2 (some lg) x4 x5 (some (iN s)) x7 (some (.ref Tn)) (some (iN j)) x10 x11) h = .nx (D12 (some (.lst (rows.map tN))) x1 x2 (some lg) x4 x5 (some (iN s)) x7 (some (.ref Tn)) (some (iN j)) (some (tN row)) y11) (h.set Tn (.lst ((tkI row Bs j tk).map bN))) := by
      refine (x_seq_nx (x_set e1)).trans ?_
      exact (x_seq_nx ((x_for (sub := T.sub) (t := .nm 11) (body := bN_) ei).trans e2)).trans rfl
    obtain ⟨y9, y10, y11', e3⟩ := j_loop hv hT hrl hri hL hg hj (x1 := x1) (x2 := x2) (x4 := x4) (x5 := x5) (x7 := x7) m (j + 1) (tkI row Bs j tk) (some (iN j)) (some (tN row)) y11 (h.set Tn (.lst ((tkI row Bs j tk).map bN))) (by omega) (by rw [List.getElem?_set_ne (by omega)]; exact h2) (set_cell hTn) (by rw [tkI_len]; exact ht)
    refine ⟨y9, y10, y11', (forL_step (ds := (List.range' (j + 1) m).map iN) run).trans (e3.trans ?_)⟩
    rw [List.set_set, ← hrow]; rfl
end
end Lk56

/-! k56: what is due, the whole (own text). -/
namespace Lk56
open PySem Vm
open L2 hiding tB
def itG (d : Nat) : Nat → Nat → List Dt
  | _, 0 => []
  | s, q + 1 => iN s :: itG d (s + d) q
theorem it_eq (d : Nat) : ∀ (q s : Nat), ((List.range q).map fun (k : Nat) => Dt.int ((s : Int) + (k : Int) * (d : Int))) = itG d s q
  | 0, _ => rfl
  | q + 1, s => by
    rw [List.range_succ_eq_map, List.map_cons, List.map_map]
    have e : ((fun (k : Nat) => Dt.int ((s : Int) + (k : Int) * (d : Int))) ∘ Nat.succ) = fun (k : Nat) => Dt.int (((s + d : Nat) : Int) + (k : Int) * (d : Int)) := by
      funext k
      show Dt.int ((s : Int) + ((k + 1 : Nat) : Int) * (d : Int)) = _
      rw [Int.natCast_add k 1, Int.add_mul, Int.natCast_add s d]
      refine congrArg Dt.int ?_
      show (s : Int) + ((k : Int) * (d : Int) + 1 * (d : Int)) = _
      rw [Int.one_mul]
      omega
    rw [e, it_eq d q (s + d)]
    show Dt.int ((s : Int) + ((0 : Nat) : Int) * (d : Int)) :: _ = _
    rw [show ((0 : Nat) : Int) = 0 from rfl, Int.zero_mul, Int.add_zero]
    rfl
theorem cnt_q {q L : Nat} : cntC (L : Int) ((q * (L + 1) + L : Nat) : Int) ((L + 1 : Nat) : Int) = q := by
  unfold cntC
  rw [Int.natCast_add (q * (L + 1)) L, Int.natCast_mul q (L + 1)]
  cases q with
  | zero => rw [show ((0 : Nat) : Int) = 0 from rfl, Int.zero_mul, if_neg (by omega)]
  | succ q =>
    have e : ((q + 1 : Nat) : Int) * ((L + 1 : Nat) : Int) + (L : Int) - (L : Int) - 1 = (L : Int) + (q : Int) * ((L + 1 : Nat) : Int) := by
      rw [Int.natCast_add q 1, Int.add_mul]
      show (q : Int) * ((L + 1 : Nat) : Int) + 1 * ((L + 1 : Nat) : Int) + (L : Int) - (L : Int) - 1 = _
      rw [Int.one_mul]
      omega
    have h0 : (0 : Int) ≤ (q : Int) * ((L + 1 : Nat) : Int) := Int.mul_nonneg (by omega) (by omega)
    rw [if_pos (by omega), e, Int.add_mul_ediv_right _ _ (by omega), Int.ediv_eq_zero_of_lt (by omega) (by omega)]
    omega
theorem rng_step {q L len : Nat} (h : len = q * (L + 1) + L) (hl : len < 100000) : rngD [iN L, iN len, iN (L + 1)] = some (itG (L + 1) L q) := by
  show (if (bnd62 (L : Int) && bnd62 (len : Int) && decide (((L + 1 : Nat) : Int) = -1)) = true then some ((List.range ((L : Int) - (len : Int)).toNat).map fun (k : Nat) => Dt.int ((L : Int) + (k : Int) * (-1))) else
    if ((decide (0 ≤ (L : Int)) && decide ((L : Int) < 1000000) && decide (0 ≤ (len : Int)) && decide ((len : Int) < 1000000)) && (decide (0 < ((L + 1 : Nat) : Int)) && decide (((L + 1 : Nat) : Int) < 1000000))) = true then some ((List.range (cntC (L : Int) (len : Int) ((L + 1 : Nat) : Int))).map fun (k : Nat) => Dt.int ((L : Int) + (k : Int) * ((L + 1 : Nat) : Int))) else none) = _
  have hL : L ≤ len := by omega
  rw [decide_eq_false (show ¬ (((L + 1 : Nat) : Int) = -1) by omega), Bool.and_false, if_neg Bool.false_ne_true]
  rw [decide_eq_true (show (0 : Int) ≤ (L : Int) by omega), decide_eq_true (show (L : Int) < 1000000 by omega), decide_eq_true (show (0 : Int) ≤ (len : Int) by omega), decide_eq_true (show (len : Int) < 1000000 by omega), decide_eq_true (show (0 : Int) < ((L + 1 : Nat) : Int) by omega), decide_eq_true (show ((L + 1 : Nat) : Int) < 1000000 by omega)]
  refine (if_pos rfl).trans ?_
  rw [it_eq, h, cnt_q]
theorem zer : ∀ n, n < 8 → binD .Mult (.lst [.int 0]) (iN n) = some (.lst ((List.replicate n false).map bN))
  | 0, _ => rfl
  | 1, _ => rfl
  | 2, _ => rfl
  | 3, _ => rfl
  | 4, _ => rfl
  | 5, _ => rfl
  | 6, _ => rfl
  | 7, _ => rfl
  | n + 8, h => absurd h (by omega)
section
variable {o n c L k : Nat} {log : List Et} {lg : Dt} {c1 c3 : Cell} {rows : List (List Nat)}
theorem tkF_len (rows : List (List Nat)) (Bs : List (List Bool)) (n : Nat) : (tkF rows Bs n).length = n := by
  unfold tkF
  have : ∀ (l : List Nat) (t : List Bool), (l.foldl (fun tk j => tkI (rows.getD j []) Bs j tk) t).length = t.length := fun l => by
    induction l with
    | nil => exact fun t => rfl
    | cons x l ih => exact fun t => (ih _).trans (tkI_len _ _ _ _)
  rw [this, List.length_replicate]
theorem t2_loop (hn : n < 8) (hc : rows.length = c) (hc2 : c ≤ 1000) (hv : ∀ hh : Hq, hh[2]? = some c3 → vw hh lg = .lst (log.map etD)) (hw : ∀ e ∈ log, Wf e) (hrl : ∀ r ∈ rows, r.length ≤ L) (hri : ∀ r ∈ rows, ∀ i ∈ r, i < n) (hL : L ≤ 1000) {x1 x7 : Option Dt} : ∀ (tl : List (Et × List Et)) (pre : List Et) (fnd : List (List Bool)) (junk : Hq) (x6 x8 x9 x10 x11 : Option Dt), log = pre ++ tl.flatMap tf → (∀ p ∈ tl, p.2.length = L) → vT c o tl = true → fnd.length + tl.length ≤ 1000 →
    ∃ y6 y8 y9 y10 y11 junk', forL (fun d σ hh => match (Tg.nm 6).set d σ with
      | none => .no
      | some σ' => exS (callK T (k + 1)) T.gl T.sub 3 b2_ σ' hh) (itG (L + 1) pre.length tl.length) (D12 (some (.lst (rows.map tN))) x1 (some (iN n)) (some lg) (some (iN L)) (some (.ref 3)) x6 x7 x8 x9 x10 x11) (c1 :: .dead :: c3 :: .lst (fnd.map tB) :: junk) =
      .nx (D12 (some (.lst (rows.map tN))) x1 (some (iN n)) (some lg) (some (iN L)) (some (.ref 3)) y6 x7 y8 y9 y10 y11) (c1 :: .dead :: c3 :: .lst ((fnd ++ resT rows n tl).map tB) :: junk')
  | [], pre, fnd, junk, x6, x8, x9, x10, x11, _, _, _, _ => ⟨x6, x8, x9, x10, x11, junk, by
      unfold resT
      rw [List.map_nil, List.append_nil]; rfl⟩
  | p :: tl, pre, fnd, junk, x6, x8, x9, x10, x11, hlog, hp, hvt, hf => by
    rw [List.length_cons] at hf
    have p0 := hp p List.mem_cons_self
    have hv1 : ((p.2.all (isB · c) && isB p.1 o) && vT c o tl) = true := hvt
    obtain ⟨hv1, hv3⟩ := and2 hv1
    obtain ⟨hB, hE⟩ := and2 hv1
    obtain ⟨q1, q2⟩ := oks_of hB
    obtain ⟨q3, q4⟩ := ok_of hE
    have hlog2 : log = pre ++ (p.1 :: (p.2 ++ tl.flatMap tf)) := by
      rw [hlog, List.flatMap_cons]; rfl
    have g1 : log[pre.length]? = some p.1 := by
      rw [hlog2, List.getElem?_append_right (Nat.le_refl _), Nat.sub_self]; rfl
    have hg : ∀ i, i < L → log[pre.length + 1 + i]? = some (.ok ((p.2.map bitsOf).getD i [])) := fun i hi => by
      rw [hlog2, List.getElem?_append_right (by omega), show pre.length + 1 + i - pre.length = i + 1 by omega, List.getElem?_cons_succ, List.getElem?_append_left (by omega), List.getD_eq_getElem?_getD, List.getElem?_map]
      have hi' : i < p.2.length := by omega
      rw [List.getElem?_eq_getElem hi']
      have := (ok_of ((List.all_eq_true.mp hB) _ (List.getElem_mem hi'))).1
      rw [this]; rfl
    have hj : ∀ i, i < L → ((p.2.map bitsOf).getD i []).length = rows.length := fun i hi => by
      rw [hc]
      refine q2 _ ?_
      rw [List.getD_eq_getElem?_getD, List.getElem?_eq_getElem (show i < (p.2.map bitsOf).length by rw [List.length_map]; omega)]
      exact List.getElem_mem _
    generalize hh : (c1 :: Cell.dead :: c3 :: Cell.lst (fnd.map tB) :: junk : Hq) = h
    have hlen : 4 ≤ h.length := by rw [← hh]; simp only [List.length_cons]; omega
    have h2 : ∀ l, (h ++ l)[2]? = some c3 := fun l => by rw [← hh]; rfl
    have h3 : ∀ l, (h ++ l)[3]? = some (.lst (fnd.map tB)) := fun l => by rw [← hh]; rfl
    have e1 : ev (callK T (k + 1)) T.gl 3 (.addM .Mult (.lst false (.cons (.lit (.int 0)) .nil)) (.v 2)) (D12 (some (.lst (rows.map tN))) x1 (some (iN n)) (some lg) (some (iN L)) (some (.ref 3)) (some (iN pre.length)) x7 x8 x9 x10 x11) h = .ok (.ref h.length) (h ++ [.lst ((List.replicate n false).map bN)]) :=
      ev_addM (d := .lst [.int 0]) (e := iN n) (h1 := h) (h2 := h) rfl rfl (zer n hn)
    obtain ⟨y9, y10, y11, e2⟩ := j_loop (k := k) (s := pre.length) (Bs := p.2.map bitsOf) (L := L) hv (Tn := h.length) (by omega) hrl hri hL hg hj (x1 := x1) (x2 := some (iN n)) (x4 := some (iN L)) (x5 := some (.ref 3)) (x7 := x7) rows.length 0 (List.replicate n false) x9 x10 x11 (h ++ [.lst ((List.replicate n false).map bN)]) (by omega) (h2 _) (by simp) List.length_replicate
    rw [← List.range_eq_range', List.set_append_right _ _ (Nat.le_refl _), Nat.sub_self] at e2
    generalize hT : tkF rows (p.2.map bitsOf) n = tk
    have e2 : forL (fun d σ hh => match (Tg.nm 9).set d σ with
      | none => .no
      | some σ' => exS (callK T (k + 1)) T.gl T.sub 3 bJ_ σ' hh) ((List.range rows.length).map iN) (D12 (some (.lst (rows.map tN))) x1 (some (iN n)) (some lg) (some (iN L)) (some (.ref 3)) (some (iN pre.length)) x7 (some (.ref h.length)) x9 x10 x11) (h ++ [.lst ((List.replicate n false).map bN)]) = .nx (D12 (some (.lst (rows.map tN))) x1 (some (iN n)) (some lg) (some (iN L)) (some (.ref 3)) (some (iN pre.length)) x7 (some (.ref h.length)) y9 y10 y11) (h ++ [.lst (tk.map bN)]) := by
      rw [← hT]; exact e2
    have htk : tk.length = n := by rw [← hT]; exact tkF_len _ _ _
    have ei : evi (callK T (k + 1)) T.gl 3 (.rng (.cons (.bf .len (.cons (.v 0) .nil)) .nil)) (D12 (some (.lst (rows.map tN))) x1 (some (iN n)) (some lg) (some (iN L)) (some (.ref 3)) (some (iN pre.length)) x7 (some (.ref h.length)) x9 x10 x11) (h ++ [.lst ((List.replicate n false).map bN)]) = .ok (.its ((List.range rows.length).map iN)) (h ++ [.lst ((List.replicate n false).map bN)]) :=
      evi_nat (ev_bf (f := .len) (ds := [.lst (rows.map tN)]) (evs_one rfl) len_lst) (by omega)
    have ho : (bitsOf p.1).length ≤ 1000 := by
      have := hw p.1 (by rw [hlog2]; simp)
      rw [q3] at this
      exact Nat.le_trans this (by decide)
    have e3 : ev (callK T (k + 1)) T.gl 3 (.bin .Add (.ix (.v 3) (.v 6)) (.bf .tuple (.cons (.v 8) .nil))) (D12 (some (.lst (rows.map tN))) x1 (some (iN n)) (some lg) (some (iN L)) (some (.ref 3)) (some (iN pre.length)) x7 (some (.ref h.length)) y9 y10 y11) (h ++ [.lst (tk.map bN)]) = .ok (tB (bitsOf p.1 ++ tk)) (h ++ [.lst (tk.map bN)]) := by
      refine ev_bin (op := .Add) (d := tB (bitsOf p.1)) (e := tB tk) (h1 := h ++ [.lst (tk.map bN)]) ?_ ?_ ?_
      · refine ev_ix (d := lg) (e := iN pre.length) (h1 := h ++ [.lst (tk.map bN)]) rfl rfl ?_
        rw [hv _ (h2 _)]
        refine (ix_map (f := etD) g1).trans ?_
        rw [q3]; rfl
      · refine ev_bf (f := .tuple) (ds := [.ref h.length]) (h1 := h ++ [.lst (tk.map bN)]) ?_ ?_
        · exact evs_one rfl
        show bfD .tuple [vw (h ++ [.lst (tk.map bN)]) (.ref h.length)] = _
        rw [vw_lst (ds := tk.map bN) (by simp)]
        rfl
      · refine (add_tup' (by rw [List.length_map, List.length_map]; omega)).trans ?_
        unfold tB
        rw [List.map_append]
    have e4 : ev (callK T (k + 1)) T.gl 3 (.append (.v 5) (.bin .Add (.ix (.v 3) (.v 6)) (.bf .tuple (.cons (.v 8) .nil)))) (D12 (some (.lst (rows.map tN))) x1 (some (iN n)) (some lg) (some (iN L)) (some (.ref 3)) (some (iN pre.length)) x7 (some (.ref h.length)) y9 y10 y11) (h ++ [.lst (tk.map bN)]) = .ok .non (c1 :: .dead :: c3 :: .lst ((fnd ++ [bitsOf p.1 ++ tk]).map tB) :: (junk ++ [.lst (tk.map bN)])) := by
      refine (ev_append (n := 3) (ds0 := fnd.map tB) (ds := fnd.map tB) (h1 := h ++ [.lst (tk.map bN)]) (h2 := h ++ [.lst (tk.map bN)]) rfl (h3 _) e3 (h3 _) (by rw [List.length_map]; omega) rfl).trans ?_
      rw [← hh, List.map_append]; rfl
    have run : exS (callK T (k + 1)) T.gl T.sub 3 b2_ (D12 (some (.lst (rows.map tN))) x1 (some (iN n)) (some lg) (some (iN L)) (some (.ref 3)) (some (iN pre.length)) x7 x8 x9 x10 x11) h = .nx (D12 (some (.lst (rows.map tN))) x1 (some (iN n)) (some lg) (some (iN L)) (some (.ref 3)) (some (iN pre.length)) x7 (some (.ref h.length)) y9 y10 y11) (c1 :: .dead :: c3 :: .lst ((fnd ++ [bitsOf p.1 ++ tk]).map tB) :: (junk ++ [.lst (tk.map bN)])) := by
      refine (x_seq_nx (x_set e1)).trans ?_
      refine (x_seq_nx ((x_for (sub := T.sub) (t := .nm 9) (body := bJ_) ei).trans e2)).trans ?_
      exact (x_seq_nx (x_exp e4)).trans rfl
    obtain ⟨z6, z8, z9, z10, z11, junk', e5⟩ := t2_loop hn hc hc2 hv hw hrl hri hL (x1 := x1) (x7 := x7) tl (pre ++ (p.1 :: p.2)) (fnd ++ [bitsOf p.1 ++ tk]) (junk ++ [.lst (tk.map bN)]) (some (iN pre.length)) (some (.ref h.length)) y9 y10 y11 (by rw [hlog2]; simp only [List.append_assoc, List.cons_append, List.nil_append]) (fun q hq => hp q (List.mem_cons_of_mem _ hq)) hv3 (by rw [List.length_append, List.length_singleton]; omega)
    have hit : itG (L + 1) pre.length (p :: tl).length = iN pre.length :: itG (L + 1) (pre ++ (p.1 :: p.2)).length tl.length := by
      rw [List.length_append, show (p.1 :: p.2).length = L + 1 by rw [List.length_cons, p0]]; rfl
    refine ⟨z6, z8, z9, z10, z11, junk', ?_⟩
    rw [hit]
    have hres : fnd ++ [bitsOf p.1 ++ tk] ++ resT rows n tl = fnd ++ resT rows n (p :: tl) := by
      rw [List.append_assoc, ← hT]; rfl
    rw [hres] at e5
    refine (forL_step ?_).trans e5
    exact run
abbrev dcE : E := .or (.cmp .Lt (.bf .len (.cons (.v 3) .nil)) (.v 4)) (.one (.cmp .NotEq (.bin .Mod (.bf .int (.cons (.bin .Sub (.bf .len (.cons (.v 3) .nil)) (.v 4)) .nil)) (.bin .Add (.v 4) (.lit (.int 1)))) (.lit (.int 0))))
theorem dc_ev (hv : ∀ hh : Hq, hh[2]? = some c3 → vw hh lg = .lst (log.map etD)) {x0 x1 x2 x5 x6 x7 x8 x9 x10 x11 : Option Dt} : ∃ d : Bool, ev (callK T (k + 1)) T.gl 3 dcE (D12 x0 x1 x2 (some lg) (some (iN L)) x5 x6 x7 x8 x9 x10 x11) [c1, .dead, c3] = .ok (.bl d) [c1, .dead, c3] ∧ (d = false ↔ ∃ q, log.length = q * (L + 1) + L) := by
  have el : ev (callK T (k + 1)) T.gl 3 (.bf .len (.cons (.v 3) .nil)) (D12 x0 x1 x2 (some lg) (some (iN L)) x5 x6 x7 x8 x9 x10 x11) [c1, .dead, c3] = .ok (iN log.length) [c1, .dead, c3] := by
    refine ev_bf (f := .len) (ds := [lg]) (h1 := [c1, .dead, c3]) (evs_one rfl) ?_
    show bfD .len [vw [c1, .dead, c3] lg] = _
    rw [hv _ rfl]
    exact len_lst
  have e1 : ev (callK T (k + 1)) T.gl 3 (.cmp .Lt (.bf .len (.cons (.v 3) .nil)) (.v 4)) (D12 x0 x1 x2 (some lg) (some (iN L)) x5 x6 x7 x8 x9 x10 x11) [c1, .dead, c3] = .ok (.bl (decide (log.length < L))) [c1, .dead, c3] := ev_cmp (op := .Lt) (d := iN log.length) (e := iN L) (h1 := [c1, .dead, c3]) el rfl (lt_iN _ _)
  by_cases z : log.length < L
  · exact ⟨true, ev_or_t e1 (decide_eq_true z), ⟨fun h => (by cases h), fun ⟨q, e⟩ => (by omega)⟩⟩
  · have e2 : ev (callK T (k + 1)) T.gl 3 (.bin .Mod (.bf .int (.cons (.bin .Sub (.bf .len (.cons (.v 3) .nil)) (.v 4)) .nil)) (.bin .Add (.v 4) (.lit (.int 1)))) (D12 x0 x1 x2 (some lg) (some (iN L)) x5 x6 x7 x8 x9 x10 x11) [c1, .dead, c3] = .ok (iN ((log.length - L) % (L + 1))) [c1, .dead, c3] := by
      refine ev_bin (op := .Mod) (d := iN (log.length - L)) (e := iN (L + 1)) (h1 := [c1, .dead, c3]) ?_ rfl ?_
      · exact ev_bf (f := .int) (ds := [iN (log.length - L)]) (h1 := [c1, .dead, c3]) (evs_one (ev_bin (op := .Sub) (d := iN log.length) (e := iN L) (h1 := [c1, .dead, c3]) el rfl (sub_iN (by omega)))) rfl
      · show (if decide ((0 : Int) < ((L + 1 : Nat) : Int)) = true then some (Dt.int (((log.length - L : Nat) : Int) % ((L + 1 : Nat) : Int))) else none) = _
        rw [if_pos (decide_eq_true (by omega))]
        rfl
    have e3 : ev (callK T (k + 1)) T.gl 3 (.cmp .NotEq (.bin .Mod (.bf .int (.cons (.bin .Sub (.bf .len (.cons (.v 3) .nil)) (.v 4)) .nil)) (.bin .Add (.v 4) (.lit (.int 1)))) (.lit (.int 0))) (D12 x0 x1 x2 (some lg) (some (iN L)) x5 x6 x7 x8 x9 x10 x11) [c1, .dead, c3] = .ok (.bl (!decide ((log.length - L) % (L + 1) = 0))) [c1, .dead, c3] := ev_cmp (op := .NotEq) (d := iN ((log.length - L) % (L + 1))) (e := iN 0) (h1 := [c1, .dead, c3]) e2 rfl (ne_iN _ _)
    refine ⟨_, ev_or_f e1 (decide_eq_false z) e3, ?_⟩
    by_cases y : (log.length - L) % (L + 1) = 0
    · refine ⟨fun _ => ⟨(log.length - L) / (L + 1), ?_⟩, fun _ => by rw [decide_eq_true y]; rfl⟩
      have := Nat.div_add_mod (log.length - L) (L + 1)
      rw [y, Nat.mul_comm] at this
      omega
    · refine ⟨fun h => (by rw [decide_eq_false y] at h; cases h), fun ⟨q, e⟩ => absurd ?_ y⟩
      rw [e, Nat.add_sub_cancel, Nat.mul_mod_left]
end
end Lk56

/-! k56: what is due, as a call (own text). -/
namespace Lk56
open PySem Vm
open L2 hiding tB
section
variable {o n c k : Nat} {log : List Et} {lg : Dt} {c1 c3 : Cell}
abbrev t27 : Vm.S := .seq (.set 5 (.lst true .nil)) (.seq (.forS (.nm 6) (.rng (.cons (.bf .len (.cons (.v 3) .nil)) .nil)) b1_) (.seq (.forS (.nm 6) (.rng (.cons (.v 4) (.cons (.bf .len (.cons (.v 3) .nil)) (.cons (.bin .Add (.v 4) (.lit (.int 1))) .nil)))) b2_) (.seq (.ret (.v 5)) .nil)))
theorem due_pre (hn : n < 8) (hc : 0 < c) (hc2 : c ≤ max 1 n) (hv : ∀ hh : Hq, hh[2]? = some c3 → vw hh lg = .lst (log.map etD)) : ∃ d : Bool,
    exS (callK T (k + 1)) T.gl T.sub 3 b27 (D12 (some (.lst ((rowsN n c).map tN))) (some (iN o)) (some (iN n)) (some lg) none none none none none none none none) [c1, .dead, c3] =
    (if d then .rt (.str "refused") [c1, .dead, c3] else exS (callK T (k + 1)) T.gl T.sub 3 t27 (D12 (some (.lst ((rowsN n c).map tN))) (some (iN o)) (some (iN n)) (some lg) (some (iN ((rowsN n c).getD 0 []).length)) none none none none none none none) [c1, .dead, c3]) ∧
    (d = false ↔ ∃ q, log.length = q * (((rowsN n c).getD 0 []).length + 1) + ((rowsN n c).getD 0 []).length) := by
  obtain ⟨r1, r2, r3, r4⟩ := rb n c hn hc hc2
  have e1 : ev (callK T (k + 1)) T.gl 3 (.bf .len (.cons (.ix (.v 0) (.lit (.int 0))) .nil)) (D12 (some (.lst ((rowsN n c).map tN))) (some (iN o)) (some (iN n)) (some lg) none none none none none none none none) [c1, .dead, c3] = .ok (iN ((rowsN n c).getD 0 []).length) [c1, .dead, c3] :=
    ev_bf (f := .len) (ds := [tN ((rowsN n c).getD 0 [])]) (h1 := [c1, .dead, c3]) (evs_one (ev_ix (d := .lst ((rowsN n c).map tN)) (e := iN 0) (h1 := [c1, .dead, c3]) rfl rfl (ix_map (getD_get (by omega))))) (len_tN _)
  obtain ⟨d, e2, hd⟩ := dc_ev (k := k) (L := ((rowsN n c).getD 0 []).length) (c1 := c1) hv (x0 := some (.lst ((rowsN n c).map tN))) (x1 := some (iN o)) (x2 := some (iN n)) (x5 := none) (x6 := none) (x7 := none) (x8 := none) (x9 := none) (x10 := none) (x11 := none)
  refine ⟨d, ?_, hd⟩
  refine (x_seq_nx (x_set e1)).trans ?_
  cases d with
  | true =>
    rw [if_pos rfl]
    exact x_seq_rt ((x_if_t e2).trans (x_seq_rt (x_ret rfl)))
  | false =>
    rw [if_neg Bool.false_ne_true]
    exact x_seq_nx (x_skip e2 rfl)
theorem due_no (hn : n < 8) (hc : 0 < c) (hc2 : c ≤ max 1 n) (hv : ∀ hh : Hq, hh[2]? = some c3 → vw hh lg = .lst (log.map etD)) (hno : ¬ ∃ q, log.length = q * (((rowsN n c).getD 0 []).length + 1) + ((rowsN n c).getD 0 []).length) {b : Nat} :
    callK T (k + 2) 27 b [.lst ((rowsN n c).map tN), iN o, iN n, lg] [c1, .dead, c3] = .ok (.str "refused") [c1, .dead, c3] := by
  rw [callK_reg (T := T) (fd := f27) rfl rfl rfl]
  obtain ⟨d, e, hd⟩ := due_pre (k := k) (o := o) (c1 := c1) hn hc hc2 hv
  cases d with
  | false => exact absurd (hd.mp rfl) hno
  | true =>
    show finR 3 (exS (callK T (k + 1)) T.gl T.sub 3 b27 (D12 (some (.lst ((rowsN n c).map tN))) (some (iN o)) (some (iN n)) (some lg) none none none none none none none none) [c1, .dead, c3]) = _
    rw [e]; rfl
theorem due_run (hn : n < 8) (hc : 0 < c) (hc2 : c ≤ max 1 n) (hv : ∀ hh : Hq, hh[2]? = some c3 → vw hh lg = .lst (log.map etD)) {B0 : List Et} {tl : List (Et × List Et)} (hB : B0.length = ((rowsN n c).getD 0 []).length) (hp : ∀ p ∈ tl, p.2.length = ((rowsN n c).getD 0 []).length) (hlog : log = B0 ++ tl.flatMap tf) (hq : log.length = tl.length * (((rowsN n c).getD 0 []).length + 1) + ((rowsN n c).getD 0 []).length) (hw : ∀ e ∈ log, Wf e) (hl : log.length ≤ 500) {b : Nat} :
    ((B0.all (isB · c) && vT c o tl) = true → callK T (k + 2) 27 b [.lst ((rowsN n c).map tN), iN o, iN n, lg] [c1, .dead, c3] = .ok (.lst ((resT (rowsN n c) n tl).map tB)) [c1, .dead, c3]) ∧
    ((B0.all (isB · c) && vT c o tl) = false → callK T (k + 2) 27 b [.lst ((rowsN n c).map tN), iN o, iN n, lg] [c1, .dead, c3] = .ok (.str "refused") [c1, .dead, c3]) := by
  rw [callK_reg (T := T) (fd := f27) rfl rfl rfl]
  obtain ⟨r1, r2, r3, r4⟩ := rb n c hn hc hc2
  obtain ⟨d, e0, hd⟩ := due_pre (k := k) (o := o) (c1 := c1) hn hc hc2 hv
  have hdf := hd.mpr ⟨tl.length, hq⟩
  subst hdf
  rw [if_neg Bool.false_ne_true] at e0
  generalize hL : ((rowsN n c).getD 0 []).length = L at *
  generalize hR : rowsN n c = rows at *
  have htl : tl.length ≤ 500 := by
    have : tl.length * 1 ≤ tl.length * (L + 1) := Nat.mul_le_mul_left _ (by omega)
    omega
  have hok : okL L c o ([] : List Et).length log = (B0.all (isB · c) && vT c o tl) := by
    have h1 := okL_block (L := L) (c := c) (o := o) (i := 0) B0 (tl.flatMap tf) 0 (by omega)
    have h2 := okL_tail (L := L) (c := c) (o := o) tl 0 hp
    rw [Nat.zero_mul, Nat.zero_add] at h2
    rw [Nat.zero_mul, Nat.zero_add, Nat.zero_add, hB, h2, ← hlog] at h1
    exact h1
  have hc2' : c ≤ 8 := by omega
  obtain ⟨l1, l2⟩ := d1_loop (k := k) (o := o) (n := n) (L := L) (c := c) (rows := rows) (h := [c1, .dead, c3, .lst []]) r1 (by omega) hv hw rfl (x5 := some (.ref 3)) (x8 := none) (x9 := none) (x10 := none) (x11 := none) log [] none none rfl
  rw [hok] at l1 l2
  have hit : (List.range' ([] : List Et).length log.length).map iN = (List.range log.length).map iN := by rw [List.range_eq_range']; rfl
  rw [hit] at l1 l2
  have el : ∀ (h : Hq), h[2]? = some c3 → ∀ x5 x6 x7 x8 x9 x10 x11 : Option Dt, ev (callK T (k + 1)) T.gl 3 (.bf .len (.cons (.v 3) .nil)) (D12 (some (.lst (rows.map tN))) (some (iN o)) (some (iN n)) (some lg) (some (iN L)) x5 x6 x7 x8 x9 x10 x11) h = .ok (iN log.length) h := fun h h2 x5 x6 x7 x8 x9 x10 x11 => by
    refine ev_bf (f := .len) (ds := [lg]) (h1 := h) (evs_one rfl) ?_
    show bfD .len [vw h lg] = _
    rw [hv _ h2]
    exact len_lst
  have ei1 : evi (callK T (k + 1)) T.gl 3 (.rng (.cons (.bf .len (.cons (.v 3) .nil)) .nil)) (D12 (some (.lst (rows.map tN))) (some (iN o)) (some (iN n)) (some lg) (some (iN L)) (some (.ref 3)) none none none none none none) [c1, .dead, c3, .lst []] = .ok (.its ((List.range log.length).map iN)) [c1, .dead, c3, .lst []] := evi_nat (el _ rfl _ _ _ _ _ _ _) (by omega)
  have es : ev (callK T (k + 1)) T.gl 3 (.lst true .nil) (D12 (some (.lst (rows.map tN))) (some (iN o)) (some (iN n)) (some lg) (some (iN L)) none none none none none none none) [c1, .dead, c3] = .ok (.ref 3) [c1, .dead, c3, .lst []] := rfl
  refine ⟨fun z => ?_, fun z => ?_⟩
  · obtain ⟨y6, y7, e1⟩ := l1 z
    have hvt : vT c o tl = true := (and2 z).2
    obtain ⟨z6, z8, z9, z10, z11, junk, e2⟩ := t2_loop (k := k) (o := o) (L := L) (c1 := c1) (c3 := c3) (rows := rows) hn r1 (by omega) hv hw (fun r hr => r4 r hr) r2 (by omega) (x1 := some (iN o)) (x7 := y7) tl B0 [] [] y6 none none none none hlog hp hvt (by rw [List.length_nil]; omega)
    rw [hB, List.nil_append] at e2
    have ei2 : evi (callK T (k + 1)) T.gl 3 (.rng (.cons (.v 4) (.cons (.bf .len (.cons (.v 3) .nil)) (.cons (.bin .Add (.v 4) (.lit (.int 1))) .nil)))) (D12 (some (.lst (rows.map tN))) (some (iN o)) (some (iN n)) (some lg) (some (iN L)) (some (.ref 3)) y6 y7 none none none none) [c1, .dead, c3, .lst []] = .ok (.its (itG (L + 1) L tl.length)) [c1, .dead, c3, .lst []] := by
      refine evi_rng (ds := [iN L, iN log.length, iN (L + 1)]) ?_ (rng_step hq (by omega))
      exact evs_cons (h1 := [c1, .dead, c3, .lst []]) rfl (evs_cons (el _ rfl _ _ _ _ _ _ _) (evs_one (ev_bin (op := .Add) (d := iN L) (e := .int 1) (h1 := [c1, .dead, c3, .lst []]) rfl rfl (iN_succ L))))
    have run : exS (callK T (k + 1)) T.gl T.sub 3 b27 (D12 (some (.lst (rows.map tN))) (some (iN o)) (some (iN n)) (some lg) none none none none none none none none) [c1, .dead, c3] = .rt (.ref 3) (c1 :: .dead :: c3 :: .lst ((resT rows n tl).map tB) :: junk) := by
      rw [e0]
      refine (x_seq_nx (x_set es)).trans ?_
      refine (x_seq_nx ((x_for (sub := T.sub) (t := .nm 6) (body := b1_) ei1).trans e1)).trans ?_
      refine (x_seq_nx ((x_for (sub := T.sub) (t := .nm 6) (body := b2_) ei2).trans e2)).trans ?_
      exact x_seq_rt (x_ret rfl)
    show finR 3 (exS (callK T (k + 1)) T.gl T.sub 3 b27 (D12 (some (.lst (rows.map tN))) (some (iN o)) (some (iN n)) (some lg) none none none none none none none none) [c1, .dead, c3]) = _
    rw [run]
    exact finR_junk (h := [c1, .dead, c3]) (l := (resT rows n tl).map tB) (junk := junk) (noRefs_map noRef_tB _)
  · have e1 := l2 z
    have run : exS (callK T (k + 1)) T.gl T.sub 3 b27 (D12 (some (.lst (rows.map tN))) (some (iN o)) (some (iN n)) (some lg) none none none none none none none none) [c1, .dead, c3] = .rt (.str "refused") [c1, .dead, c3, .lst []] := by
      rw [e0]
      refine (x_seq_nx (x_set es)).trans ?_
      exact x_seq_rt ((x_for (sub := T.sub) (t := .nm 6) (body := b1_) ei1).trans e1)
    show finR 3 (exS (callK T (k + 1)) T.gl T.sub 3 b27 (D12 (some (.lst (rows.map tN))) (some (iN o)) (some (iN n)) (some lg) none none none none none none none none) [c1, .dead, c3]) = _
    rw [run]; rfl
end
/-! ### the change -/
theorem iN_cases {v : Nat} (h : v < 8) : v = 0 ∨ v = 1 ∨ v = 2 ∨ v = 3 ∨ v = 4 ∨ v = 5 ∨ v = 6 ∨ v = 7 := by omega
theorem sl_drop' {xs : List Dt} {k : Nat} : slD (.lst xs) (some (k : Int)) none = some (.lst (xs.drop k)) := by
  show some (Dt.lst ((xs.drop (HT.sIx xs.length 0 (some (k : Int)))).take (xs.length - HT.sIx xs.length 0 (some (k : Int))))) = _
  rw [sIx_nat, List.take_of_length_le (by rw [List.length_drop]; exact Nat.le_refl _)]
  by_cases h : k ≤ xs.length
  · rw [Nat.min_eq_left h]
  · rw [Nat.min_eq_right (by omega), List.drop_of_length_le (Nat.le_refl _), List.drop_of_length_le (by omega)]
theorem slT_init {xs : List Bool} : slD (tB xs) none (some (-1)) = some (tB xs.dropLast) := by
  show some (Dt.tup (((xs.map bN).drop 0).take (HT.sIx (xs.map bN).length (xs.map bN).length (some (-1)) - 0))) = _
  unfold tB
  rw [List.drop_zero, Nat.sub_zero, List.dropLast_eq_take, List.map_take]
  refine congrArg (fun k => some (Dt.tup ((xs.map bN).take k))) ?_
  unfold HT.sIx
  simp
  omega
end Lk56

/-! k56: the law (own text). -/
namespace Lk56
open PySem Vm
open L2 hiding tB
theorem map_ok (LG : List (List Bool)) : (LG.map Et.ok).map etD = LG.map tB := by rw [List.map_map]; rfl
theorem ev_ltake {cl : Nat → Nat → List Dt → Hq → Res Dt} {gl : List Dt} {b i j k : Nat} {s : En} {h : Hq} {xs : List Dt} {d : Dt} (hi : s[i]? = some (some d)) (hd : vw h d = .lst xs) (hj : s[j]? = some (some (iN k))) (hk : k ≤ xs.length) : ev cl gl b (.sl (.v i) .nil (.one (.v j))) s h = .ok (.lst (xs.take k)) h := by
  refine ev_sl (d := d) (l := none) (u := some (k : Int)) (h1 := h) (h2 := h) (h3 := h) (ev_v hi) evo_nil (evo_one (ev_v hj)) ?_
  rw [hd]; exact sl_take hk
theorem ev_ldrop {cl : Nat → Nat → List Dt → Hq → Res Dt} {gl : List Dt} {b i k : Nat} {s : En} {h : Hq} {xs : List Dt} {d : Dt} {e : E} (hi : s[i]? = some (some d)) (hd : vw h d = .lst xs) (he : ev cl gl b e s h = .ok (iN k) h) : ev cl gl b (.sl (.v i) (.one e) .nil) s h = .ok (.lst (xs.drop k)) h := by
  refine ev_sl (d := d) (l := some (k : Int)) (u := none) (h1 := h) (h2 := h) (h3 := h) (ev_v hi) (evo_one he) evo_nil ?_
  rw [hd]; exact sl_drop'
section
variable {ns : List Int} {k : Nat} {LG : List (List Bool)} {h : Hq}
abbrev C6 (x0 x1 x2 x3 x4 x5 : Option Dt) : En := [x0, x1, x2, x3, x4, x5]
theorem chg_run (hd : Dr ns [.dead, .lst (LG.map tB)] h) (hl : LG.length ≤ 200) (hx : ∀ x ∈ LG, x.length ≤ 50) : ∃ (log : List Et) (h' : Hq), Dr ns [.dead, .lst (LG.map tB)] h' ∧ log.length ≤ 400 ∧ (∀ e ∈ log, Wf e) ∧ callK T (k + 2) 28 0 [.ref 0, .ref 2] h = .ok (.lst (log.map etD)) h' := by
  obtain ⟨at_, h1, d1, ha, q1⟩ := dr_call (T := T) (f := 22) (k := k) (b := 0) (lim := ((LG.length + 1 : Nat) : Int)) rfl hd (by omega) (by omega)
  obtain ⟨v, h2, d2, hv, q2⟩ := dr_call (T := T) (f := 22) (k := k) (b := 0) (lim := 8) rfl d1 (by decide) (by decide)
  have ha : at_ ≤ LG.length := by omega
  have vwd : ∀ hh : Hq, Dr ns [.dead, .lst (LG.map tB)] hh → vw hh (.ref 2) = .lst (LG.map tB) := fun hh ⟨c, _, e⟩ => by rw [e]; rfl
  -- the entry
  obtain ⟨en, hen, e3⟩ : ∃ en : List Bool, en.length ≤ 50 ∧ ev (callK T (k + 1)) T.gl 0 (.ife (.cmp .Lt (.v 2) (.bf .len (.cons (.v 1) .nil))) (.ix (.v 1) (.v 2)) (.tup (.cons (.lit (.int 1)) .nil))) (C6 (some (.ref 0)) (some (.ref 2)) (some (iN at_)) none none none) h1 = .ok (tB en) h1 := by
    have ec : ev (callK T (k + 1)) T.gl 0 (.cmp .Lt (.v 2) (.bf .len (.cons (.v 1) .nil))) (C6 (some (.ref 0)) (some (.ref 2)) (some (iN at_)) none none none) h1 = .ok (.bl (decide (at_ < LG.length))) h1 := by
      refine ev_cmp (op := .Lt) (d := iN at_) (e := iN LG.length) (h1 := h1) rfl (ev_bf (f := .len) (ds := [.ref 2]) (h1 := h1) (evs_one rfl) ?_) (lt_iN _ _)
      show bfD .len [vw h1 (.ref 2)] = _
      rw [vwd h1 d1]
      exact len_lst
    by_cases z : at_ < LG.length
    · refine ⟨LG.getD at_ [], ?_, ev_ife_t ec (decide_eq_true z) ?_⟩
      · refine hx _ ?_
        rw [List.getD_eq_getElem?_getD, List.getElem?_eq_getElem z]
        exact List.getElem_mem _
      · refine ev_ix (d := .ref 2) (e := iN at_) (h1 := h1) rfl rfl ?_
        rw [vwd h1 d1]
        exact ix_map (getD_get z)
    · exact ⟨[true], by decide, ev_ife_f ec (decide_eq_false z) rfl⟩
  have hlm : (LG.map tB).length = LG.length := List.length_map _
  have t1 : ∀ x3 x4 x5, ev (callK T (k + 1)) T.gl 0 (.sl (.v 1) .nil (.one (.v 2))) (C6 (some (.ref 0)) (some (.ref 2)) (some (iN at_)) x3 x4 x5) h2 = .ok (.lst ((LG.map tB).take at_)) h2 := fun x3 x4 x5 => ev_ltake (d := .ref 2) rfl (vwd h2 d2) rfl (by omega)
  have t2 : ∀ x3 x4 x5, ev (callK T (k + 1)) T.gl 0 (.sl (.v 1) (.one (.bin .Add (.v 2) (.lit (.int 1)))) .nil) (C6 (some (.ref 0)) (some (.ref 2)) (some (iN at_)) x3 x4 x5) h2 = .ok (.lst ((LG.map tB).drop (at_ + 1))) h2 := fun x3 x4 x5 => ev_ldrop (d := .ref 2) rfl (vwd h2 d2) (ev_bin (op := .Add) (d := iN at_) (e := .int 1) (h1 := h2) rfl rfl (iN_succ _))
  have t3 : ∀ x3 x4 x5, ev (callK T (k + 1)) T.gl 0 (.sl (.v 1) (.one (.v 2)) .nil) (C6 (some (.ref 0)) (some (.ref 2)) (some (iN at_)) x3 x4 x5) h2 = .ok (.lst ((LG.map tB).drop at_)) h2 := fun x3 x4 x5 => ev_ldrop (d := .ref 2) rfl (vwd h2 d2) rfl
  have l1 : ((LG.map tB).take at_).length ≤ 200 := by rw [List.length_take]; omega
  have l2 : ((LG.map tB).drop (at_ + 1)).length ≤ 200 := by rw [List.length_drop]; omega
  have l3 : ((LG.map tB).drop at_).length ≤ 200 := by rw [List.length_drop]; omega
  have m1 : (((LG.take at_).map Et.ok).map etD) = (LG.map tB).take at_ := by rw [map_ok, List.map_take]
  have m2 : (((LG.drop (at_ + 1)).map Et.ok).map etD) = (LG.map tB).drop (at_ + 1) := by rw [map_ok, List.map_drop]
  have m3 : (((LG.drop at_).map Et.ok).map etD) = (LG.map tB).drop at_ := by rw [map_ok, List.map_drop]
  have w1 : ∀ e ∈ (LG.take at_).map Et.ok, Wf e := fun e he => by
    obtain ⟨x, hxm, rfl⟩ := List.mem_map.mp he
    exact Nat.le_trans (hx x (List.mem_of_mem_take hxm)) (by decide)
  have w2 : ∀ j, ∀ e ∈ (LG.drop j).map Et.ok, Wf e := fun j e he => by
    obtain ⟨x, hxm, rfl⟩ := List.mem_map.mp he
    exact Nat.le_trans (hx x (List.mem_of_mem_drop hxm)) (by decide)
  have pre : ∀ (body : Vm.S) (r : Rs), exS (callK T (k + 1)) T.gl T.sub 0 body (C6 (some (.ref 0)) (some (.ref 2)) (some (iN at_)) (some (tB en)) (some (iN v)) none) h2 = r → exS (callK T (k + 1)) T.gl T.sub 0 (.seq (.set 2 (.call 22 (.cons (.v 0) (.cons (.bin .Add (.bf .len (.cons (.v 1) .nil)) (.lit (.int 1))) .nil)))) (.seq (.set 3 (.ife (.cmp .Lt (.v 2) (.bf .len (.cons (.v 1) .nil))) (.ix (.v 1) (.v 2)) (.tup (.cons (.lit (.int 1)) .nil)))) (.seq (.set 4 (.call 22 (.cons (.v 0) (.cons (.lit (.int 8)) .nil)))) body))) (C6 (some (.ref 0)) (some (.ref 2)) none none none none) h = r := fun body r hr => by
    have e2 : ev (callK T (k + 1)) T.gl 0 (.call 22 (.cons (.v 0) (.cons (.bin .Add (.bf .len (.cons (.v 1) .nil)) (.lit (.int 1))) .nil))) (C6 (some (.ref 0)) (some (.ref 2)) none none none none) h = .ok (iN at_) h1 := by
      refine ev_callc (ds := [.ref 0, iN (LG.length + 1)]) (h1 := h) (evs_cons (h1 := h) rfl (evs_one ?_)) q1
      refine ev_bin (op := .Add) (d := iN LG.length) (e := .int 1) (h1 := h) (ev_bf (f := .len) (ds := [.ref 2]) (h1 := h) (evs_one rfl) ?_) rfl (iN_succ _)
      show bfD .len [vw h (.ref 2)] = _
      rw [vwd h hd]
      exact len_lst
    refine (x_seq_nx (x_set e2)).trans ?_
    refine (x_seq_nx (x_set e3)).trans ?_
    refine (x_seq_nx (x_set (d := iN v) (h' := h2) (ev_callc (ds := [.ref 0, .int 8]) (h1 := h1) (evs_cons (h1 := h1) rfl (evs_one rfl)) q2))).trans ?_
    exact hr
  have fin : ∀ log : List Et, exS (callK T (k + 1)) T.gl T.sub 0 b28 (C6 (some (.ref 0)) (some (.ref 2)) none none none none) h = .rt (.lst (log.map etD)) h2 → callK T (k + 2) 28 0 [.ref 0, .ref 2] h = .ok (.lst (log.map etD)) h2 := fun log hr => by
    rw [callK_in (T := T) (fd := f28) rfl rfl rfl]
    show finK (exS (callK T (k + 1)) T.gl T.sub 0 b28 (C6 (some (.ref 0)) (some (.ref 2)) none none none none) h) = _
    rw [hr]; rfl
  have c0 : ∀ x5, ev (callK T (k + 1)) T.gl 0 (.cmp .Eq (.v 4) (.lit (.int 0))) (C6 (some (.ref 0)) (some (.ref 2)) (some (iN at_)) (some (tB en)) (some (iN v)) x5) h2 = .ok (.bl (decide (v = 0))) h2 := fun x5 => ev_cmp (op := .Eq) (d := iN v) (e := iN 0) (h1 := h2) rfl rfl (eqD_iN _ _)
  have c1 : ∀ x5, ev (callK T (k + 1)) T.gl 0 (.cmp .Eq (.v 4) (.lit (.int 1))) (C6 (some (.ref 0)) (some (.ref 2)) (some (iN at_)) (some (tB en)) (some (iN v)) x5) h2 = .ok (.bl (decide (v = 1))) h2 := fun x5 => ev_cmp (op := .Eq) (d := iN v) (e := iN 1) (h1 := h2) rfl rfl (eqD_iN _ _)
  by_cases v0 : v = 0
  · refine ⟨(LG.take at_).map Et.ok ++ (LG.drop (at_ + 1)).map Et.ok, h2, d2, ?_, fun e he => ?_, fin _ (pre _ _ ?_)⟩
    · rw [List.length_append, List.length_map, List.length_map, List.length_take, List.length_drop]; omega
    · exact (List.mem_append.mp he).elim (w1 e) (w2 _ e)
    · refine x_seq_rt ((x_if_t' (c0 none) (decide_eq_true v0)).trans (x_seq_rt (x_ret ?_)))
      rw [List.map_append, m1, m2]
      exact ev_bin (op := .Add) (d := .lst ((LG.map tB).take at_)) (e := .lst ((LG.map tB).drop (at_ + 1))) (h1 := h2) (t1 _ _ _) (t2 _ _ _) (add_lst' (by omega))
  · by_cases v1 : v = 1
    · refine ⟨(LG.take at_).map Et.ok ++ [.ok en] ++ (LG.drop at_).map Et.ok, h2, d2, ?_, fun e he => ?_, fin _ (pre _ _ ?_)⟩
      · rw [List.length_append, List.length_append, List.length_map, List.length_map, List.length_take, List.length_drop, List.length_singleton]; omega
      · rcases List.mem_append.mp he with he | he
        · rcases List.mem_append.mp he with he | he
          · exact w1 e he
          · rw [List.mem_singleton.mp he]
            exact Nat.le_trans hen (by decide)
        · exact w2 _ e he
      · refine (x_seq_nx (x_skip (c0 none) (decide_eq_false v0))).trans ?_
        refine x_seq_rt ((x_if_t' (c1 none) (decide_eq_true v1)).trans (x_seq_rt (x_ret ?_)))
        rw [List.map_append, List.map_append, m1, m3]
        refine ev_bin (op := .Add) (d := .lst ((LG.map tB).take at_ ++ [tB en])) (e := .lst ((LG.map tB).drop at_)) (h1 := h2) (ev_bin (op := .Add) (d := .lst ((LG.map tB).take at_)) (e := .lst [tB en]) (h1 := h2) (t1 _ _ _) ?_ (add_lst' (by rw [List.length_singleton]; omega))) (t3 _ _ _) (add_lst' (by rw [List.length_append, List.length_singleton]; omega))
        exact ev_lst (ds := [tB en]) (evs_one rfl) (by show 1 ≤ 10000; decide)
    · have hi : slD (tB en) none (some (-1)) = some (tB en.dropLast) := slT_init
      have ei : ∀ x4 x5, ev (callK T (k + 1)) T.gl 0 (.sl (.v 3) .nil (.one (.neg (.lit (.int 1))))) (C6 (some (.ref 0)) (some (.ref 2)) (some (iN at_)) (some (tB en)) x4 x5) h2 = .ok (tB en.dropLast) h2 := fun x4 x5 =>
        ev_sl (d := tB en) (l := none) (u := some (-1)) (h1 := h2) (h2 := h2) (h3 := h2) rfl rfl (evo_one rfl) hi
      have hdl : en.dropLast.length ≤ 50 := by rw [List.length_dropLast]; omega
      have ea : ∀ (xs : List Bool) (d : Dt), xs.length ≤ 50 → binD .Add (tB xs) (.tup [d]) = some (.tup (xs.map bN ++ [d])) := fun xs d hx => add_tup' (by rw [List.length_map, List.length_singleton]; omega)
      have e5 : ev (callK T (k + 1)) T.gl 0 (.lst false (.cons (.bin .Add (.v 3) (.tup (.cons (.lit (.int 0)) .nil))) (.cons (.sl (.v 3) .nil (.one (.neg (.lit (.int 1))))) (.cons (.listOf false (.v 3)) (.cons (.lit (.non)) (.cons (.bin .Add (.sl (.v 3) .nil (.one (.neg (.lit (.int 1))))) (.tup (.cons (.lit (.int 2)) .nil))) (.cons (.bin .Add (.sl (.v 3) .nil (.one (.neg (.lit (.int 1))))) (.tup (.cons (.lit (.bl true)) .nil))) .nil))))))) (C6 (some (.ref 0)) (some (.ref 2)) (some (iN at_)) (some (tB en)) (some (iN v)) none) h2 = .ok (.lst [.tup (en.map bN ++ [.int 0]), tB en.dropLast, .lst (en.map bN), .non, .tup (en.dropLast.map bN ++ [.int 2]), .tup (en.dropLast.map bN ++ [.bl true])]) h2 := by
        refine ev_lst ?_ (by show 6 ≤ 10000; decide)
        refine evs_cons (h1 := h2) (ev_bin (op := .Add) (d := tB en) (e := .tup [.int 0]) (h1 := h2) rfl rfl (ea _ _ hen)) ?_
        refine evs_cons (h1 := h2) (ei _ _) ?_
        refine evs_cons (h1 := h2) (d := .lst (en.map bN)) rfl ?_
        refine evs_cons (h1 := h2) (d := .non) rfl ?_
        refine evs_cons (h1 := h2) (ev_bin (op := .Add) (d := tB en.dropLast) (e := .tup [.int 2]) (h1 := h2) (ei _ _) rfl (ea _ _ hdl)) ?_
        exact evs_one (ev_bin (op := .Add) (d := tB en.dropLast) (e := .tup [.bl true]) (h1 := h2) (ei _ _) rfl (ea _ _ hdl))
      generalize hW : Dt.lst [.tup (en.map bN ++ [.int 0]), tB en.dropLast, .lst (en.map bN), .non, .tup (en.dropLast.map bN ++ [.int 2]), .tup (en.dropLast.map bN ++ [.bl true])] = WL at e5
      obtain ⟨w, hw, hi2⟩ : ∃ w : Et, Wf w ∧ ixD WL (.int ((v : Int) - 2)) = some (etD w) := by
        rcases iN_cases (v := v) (by omega) with e | e | e | e | e | e | e | e
        · exact absurd e v0
        · exact absurd e v1
        all_goals subst e; rw [← hW]
        · refine ⟨.ok (en ++ [false]), ?_, ?_⟩
          · show (en ++ [false]).length ≤ 100
            rw [List.length_append, List.length_singleton]; omega
          · show some (Dt.tup (en.map bN ++ [.int 0])) = some (tB (en ++ [false]))
            unfold tB
            rw [List.map_append]; rfl
        · exact ⟨.ok en.dropLast, Nat.le_trans hdl (by decide), rfl⟩
        · exact ⟨.bad (.lst (en.map bN)), .lst en, rfl⟩
        · exact ⟨.bad .non, .non, rfl⟩
        · exact ⟨.bad (.tup (en.dropLast.map bN ++ [Dt.int 2])), BadD.two _ (Nat.le_trans hdl (by decide)), rfl⟩
        · exact ⟨.bad (.tup (en.dropLast.map bN ++ [Dt.bl true])), BadD.tru _ (Nat.le_trans hdl (by decide)), rfl⟩
      have hvw : vw h2 WL = WL := by rw [← hW]; rfl
      refine ⟨(LG.take at_).map Et.ok ++ [w] ++ (LG.drop (at_ + 1)).map Et.ok, h2, d2, ?_, fun e he => ?_, fin _ (pre _ _ ?_)⟩
      · rw [List.length_append, List.length_append, List.length_map, List.length_map, List.length_take, List.length_drop, List.length_singleton]; omega
      · rcases List.mem_append.mp he with he | he
        · rcases List.mem_append.mp he with he | he
          · exact w1 e he
          · rw [List.mem_singleton.mp he]; exact hw
        · exact w2 _ e he
      · refine (x_seq_nx (x_skip (c0 none) (decide_eq_false v0))).trans ?_
        refine (x_seq_nx (x_skip (c1 none) (decide_eq_false v1))).trans ?_
        refine (x_seq_nx (x_set e5)).trans (x_seq_rt (x_ret ?_))
        rw [List.map_append, List.map_append, m1, m2]
        refine ev_bin (op := .Add) (d := .lst ((LG.map tB).take at_ ++ [etD w])) (e := .lst ((LG.map tB).drop (at_ + 1))) (h1 := h2) (ev_bin (op := .Add) (d := .lst ((LG.map tB).take at_)) (e := .lst [etD w]) (h1 := h2) (t1 _ _ _) ?_ (add_lst' (by rw [List.length_singleton]; omega))) (t2 _ _ _) (add_lst' (by rw [List.length_append, List.length_singleton]; omega))
        refine ev_lst (ds := [etD w]) (evs_one ?_) (by show 1 ≤ 10000; decide)
        refine ev_ix (d := WL) (e := .int ((v : Int) - 2)) (h1 := h2) rfl rfl ?_
        rw [hvw]; exact hi2
end
end Lk56

/-! k56: the law, joined (own text). -/
namespace Lk56
open PySem Vm
open L2 hiding tB
theorem max_iN {n : Nat} : bfD .max [.int 1, iN n] = some (iN (max 1 n)) := by
  show some (Dt.int (if (n : Int) > 1 then (n : Int) else 1)) = some (Dt.int ((max 1 n : Nat) : Int))
  refine congrArg some (congrArg Dt.int ?_)
  split <;> omega
abbrev endB : Vm.S := .seq (.set 11 (.call 27 (.cons (.v 8) (.cons (.v 3) (.cons (.v 2) (.cons (.v 9) .nil)))))) (.seq (.try1 2 (.seq (.set 12 (.call 7 (.cons (.v 6) (.cons (.v 7) (.cons (.listOf false (.v 9)) .nil))))) .nil) (.seq (.ret (.cmp .Eq (.v 11) (.lit (.str "refused")))) .nil)) (.seq (.ret (.call 23 (.cons (.v 12) (.cons (.v 11) .nil)))) .nil))
section
variable {o n c : Nat} {log : List Et} {lg : Dt} {c1 c3 : Cell} {x0 x1 x4 x5 x10 : Option Dt}
theorem end_run (ho : o < 4) (hn : n < 8) (hc : 0 < c) (hc2 : c ≤ max 1 n) (hv : ∀ hh : Hq, hh[2]? = some c3 → vw hh lg = .lst (log.map etD)) (hw : ∀ e ∈ log, Wf e) (hl : log.length ≤ 400) :
    exS (callK T 99) T.gl T.sub 0 endB (EN x0 x1 (some (iN n)) (some (iN o)) x4 x5 (some (circ o n)) (some (iN c)) (some (.lst ((rowsN n c).map tN))) (some lg) x10 none none) [c1, .dead, c3] = .rt (.bl true) [c1, .dead, c3] := by
  obtain ⟨r1, r2, r3, r4⟩ := rb n c hn hc hc2
  have ed : ∀ r, callK T 99 27 0 [.lst ((rowsN n c).map tN), iN o, iN n, lg] [c1, .dead, c3] = .ok r [c1, .dead, c3] → ev (callK T 99) T.gl 0 (.call 27 (.cons (.v 8) (.cons (.v 3) (.cons (.v 2) (.cons (.v 9) .nil))))) (EN x0 x1 (some (iN n)) (some (iN o)) x4 x5 (some (circ o n)) (some (iN c)) (some (.lst ((rowsN n c).map tN))) (some lg) x10 none none) [c1, .dead, c3] = .ok r [c1, .dead, c3] := fun r h => by
    refine ev_callc (ds := [.lst ((rowsN n c).map tN), iN o, iN n, lg]) (h1 := [c1, .dead, c3]) ?_ h
    exact evs_cons (h1 := [c1, .dead, c3]) rfl (evs_cons (h1 := [c1, .dead, c3]) rfl (evs_cons (h1 := [c1, .dead, c3]) rfl (evs_one rfl)))
  have ea : ∀ r, evs (callK T 99) T.gl 0 (.cons (.v 6) (.cons (.v 7) (.cons (.listOf false (.v 9)) .nil))) (EN x0 x1 (some (iN n)) (some (iN o)) x4 x5 (some (circ o n)) (some (iN c)) (some (.lst ((rowsN n c).map tN))) (some lg) x10 (some r) none) [c1, .dead, c3] = .ok [circ o n, iN c, .lst (log.map etD)] [c1, .dead, c3] := fun r => by
    have el : ev (callK T 99) T.gl 0 (.listOf false (.v 9)) (EN x0 x1 (some (iN n)) (some (iN o)) x4 x5 (some (circ o n)) (some (iN c)) (some (.lst ((rowsN n c).map tN))) (some lg) x10 (some r) none) [c1, .dead, c3] = .ok (.lst (log.map etD)) [c1, .dead, c3] := by
      show (match sqOf (vw [c1, .dead, c3] lg) with
        | some ds => newL false ds [c1, .dead, c3]
        | none => .no) = _
      rw [hv _ rfl]; rfl
    exact evs_cons (h1 := [c1, .dead, c3]) rfl (evs_cons (h1 := [c1, .dead, c3]) rfl (evs_one el))
  -- refused by both
  have bad : callK T 99 27 0 [.lst ((rowsN n c).map tN), iN o, iN n, lg] [c1, .dead, c3] = .ok (.str "refused") [c1, .dead, c3] → callK T 99 7 0 [circ o n, iN c, .lst (log.map etD)] [c1, .dead, c3] = .exc ⟨2, [], []⟩ [c1, .dead, c3] → exS (callK T 99) T.gl T.sub 0 endB (EN x0 x1 (some (iN n)) (some (iN o)) x4 x5 (some (circ o n)) (some (iN c)) (some (.lst ((rowsN n c).map tN))) (some lg) x10 none none) [c1, .dead, c3] = .rt (.bl true) [c1, .dead, c3] := fun h1 h2 => by
    refine (x_seq_nx (x_set (ed _ h1))).trans ?_
    refine x_seq_rt ?_
    refine x_try_ex (x := ⟨2, [], []⟩) (s1 := EN x0 x1 (some (iN n)) (some (iN o)) x4 x5 (some (circ o n)) (some (iN c)) (some (.lst ((rowsN n c).map tN))) (some lg) x10 (some (.str "refused")) none) (h1 := [c1, .dead, c3]) (x_seq_ex ?_) rfl (x_seq_rt (x_ret ?_))
    · show Rs.of _ (ev (callK T 99) T.gl 0 (.call 7 (.cons (.v 6) (.cons (.v 7) (.cons (.listOf false (.v 9)) .nil)))) (EN x0 x1 (some (iN n)) (some (iN o)) x4 x5 (some (circ o n)) (some (iN c)) (some (.lst ((rowsN n c).map tN))) (some lg) x10 (some (.str "refused")) none) [c1, .dead, c3]) _ = _
      rw [ev_call_ex (ea _) h2]; rfl
    · exact ev_cmp (op := .Eq) (d := .str "refused") (e := .str "refused") (h1 := [c1, .dead, c3]) rfl rfl (eqD_refl (show plain (.str "refused") = true by decide +kernel))
  by_cases hq : ∃ q, log.length = q * (((rowsN n c).getD 0 []).length + 1) + ((rowsN n c).getD 0 []).length
  · obtain ⟨q, hq⟩ := hq
    obtain ⟨B0, tl, hB, htl, hp, hlog⟩ := split_log q log hq
    rw [← htl] at hq
    obtain ⟨d1, d2⟩ := due_run (k := 97) (o := o) (c1 := c1) (b := 0) hn hc hc2 hv hB hp hlog hq hw (by omega)
    obtain ⟨b1, b2⟩ := back_run (k := 95) (o := o) (c1 := c1) (c3 := c3) (b := 0) hn hc hc2 hB hp hlog hq hw (by omega)
    cases hV : B0.all (isB · c) && vT c o tl with
    | false => exact bad (d2 hV) (b2 hV)
    | true =>
      have hlen : tl.length ≤ 400 := by
        have : tl.length * 1 ≤ tl.length * (((rowsN n c).getD 0 []).length + 1) := Nat.mul_le_mul_left _ (by omega)
        omega
      have hs := same_bits (T := T) (f := 23) (k := 94) (b := 0) (h := [c1, .dead, c3]) (l := resT (rowsN n c) n tl) rfl (by unfold resT; rw [List.length_map]; omega) (fun r hr => by
        unfold resT at hr
        obtain ⟨p, hpm, rfl⟩ := List.mem_map.mp hr
        have h1 := (List.all_eq_true.mp (and2 hV).2) p hpm
        have h2 := (ok_of (and2 h1).2).2
        rw [List.length_append, tkF_len]
        omega)
      refine (x_seq_nx (x_set (ed _ (d1 hV)))).trans ?_
      refine (x_seq_nx (s' := EN x0 x1 (some (iN n)) (some (iN o)) x4 x5 (some (circ o n)) (some (iN c)) (some (.lst ((rowsN n c).map tN))) (some lg) x10 (some (.lst ((resT (rowsN n c) n tl).map tB))) (some (.lst ((resT (rowsN n c) n tl).map tB)))) (h' := [c1, .dead, c3]) (x_try_nx ?_)).trans ?_
      · exact (x_seq_nx (x_set (ev_callc (ea _) (b1 hV)))).trans rfl
      · refine x_seq_rt (x_ret (ev_callc (ds := [.lst ((resT (rowsN n c) n tl).map tB), .lst ((resT (rowsN n c) n tl).map tB)]) (h1 := [c1, .dead, c3]) ?_ hs))
        exact evs_cons (h1 := [c1, .dead, c3]) rfl (evs_one rfl)
  · exact bad (due_no (k := 97) (b := 0) hn hc hc2 hv hq) (back_no (k := 95) (b := 0) hn hc hc2 hq (by omega))
end
/-! ### the log that is drawn -/
abbrev logB : Vm.S := .seq (.exp (.append (.v 9) (.call 25 (.cons (.v 1) (.cons (.v 3) .nil))))) (.seq (.exp (.extend (.v 9) (.comp false (.nm 10) (.rng (.cons (.bf .len (.cons (.ix (.v 8) (.lit (.int 0))) .nil)) .nil)) .nil (.call 25 (.cons (.v 1) (.cons (.v 7) .nil)))))) .nil)
theorem ev_extend {cl : Nat → Nat → List Dt → Hq → Res Dt} {gl : List Dt} {b n : Nat} {s : En} {h h1 h2 : Hq} {o x : E} {ds0 ds es : List Dt} (ho : ev cl gl b o s h = .ok (.ref n) h1) (h0 : h1[n]? = some (.lst ds0)) (hx : ev cl gl b x s h1 = .ok (.lst es) h2) (hn : h2[n]? = some (.lst ds)) (hl : ds.length + es.length ≤ 100000) (hb : b ≤ n) :
    ev cl gl b (.extend o x) s h = .ok .non (h2.set n (.lst (ds ++ es))) := by
  show (ev cl gl b o s h).bind _ = _
  rw [ho]
  show (Res.opt h1 (lcell h1 (.ref n))).bind _ = _
  have : lcell h1 (.ref n) = some n := by unfold lcell; simp only []; rw [h0]
  rw [this]
  show (ev cl gl b x s h1).bind _ = _
  rw [hx]
  show (match Dt.lst es, h2[n]? with
      | .lst es, some (.lst ds) => if decide (ds.length + es.length ≤ sizeLine) && (decide (b ≤ n) || noRefs es) then Res.ok Dt.non (h2.set n (.lst (ds ++ es))) else .no
      | _, _ => .no) = _
  rw [hn]
  show (if (decide (ds.length + es.length ≤ sizeLine) && (decide (b ≤ n) || noRefs es)) = true then Res.ok Dt.non (h2.set n (.lst (ds ++ es))) else .no) = _
  rw [decide_eq_true (sz hl), decide_eq_true hb]; rfl
section
variable {ns : List Int} {rest h : Hq} {L c n : Nat}
theorem rows_ev {x0 x2 x3 x4 x5 x6 x7 x9 x10 x11 x12 : Option Dt} {rows : List (List Nat)} (hr : 0 < rows.length) {hh : Hq} : ev (callK T 99) T.gl 0 (.bf .len (.cons (.ix (.v 8) (.lit (.int 0))) .nil)) (EN x0 (some (.ref 0)) x2 x3 x4 x5 x6 x7 (some (.lst (rows.map tN))) x9 x10 x11 x12) hh = .ok (iN (rows.getD 0 []).length) hh :=
  ev_bf (f := .len) (ds := [tN (rows.getD 0 [])]) (h1 := hh) (evs_one (ev_ix (d := .lst (rows.map tN)) (e := iN 0) (h1 := hh) rfl rfl (ix_map (getD_get hr)))) (len_tN _)
/-- a block of drawn rows -/
theorem blk {s : En} {s' : Dt → En} {i j : Nat} {it : E} (hd : Dr ns rest h) (hi : ev (callK T 99) T.gl 0 it s h = .ok (iN L) h) (hL : L ≤ 1000) (hc : c ≤ 1000) (ht : ∀ x, (Tg.nm i).set x (wipeE s [i]) = some (s' x)) (h1 : ∀ x, (s' x)[1]? = some (some (.ref 0))) (h7 : ∀ x, (s' x)[j]? = some (some (iN c))) :
    ∃ (ys : List (List Bool)) (h' : Hq), ys.length = L ∧ (∀ y ∈ ys, y.length = c) ∧ Dr ns rest h' ∧ evi (callK T 99) T.gl 0 (.rng (.cons it .nil)) s h = .ok (.its ((List.range L).map iN)) h ∧ compL (turn (callK T 99) T.gl 0 s (.nm i) .nil (.call 25 (.cons (.v 1) (.cons (.v j) .nil)))) ((List.range L).map iN) h = .ok (ys.map tB) h' := by
  obtain ⟨ys, h3, ly, ry, ec, d3⟩ := compL_ex (g := tB) (R := fun y => y.length = c) (f := turn (callK T 99) T.gl 0 s (.nm i) .nil (.call 25 (.cons (.v 1) (.cons (.v j) .nil)))) (P := Dr ns rest) (ds := (List.range L).map iN) (fun x hx hh dh => by
    obtain ⟨r, h4, d4, lr, q4⟩ := bits_run (T := T) (d := 22) (q := 25) (k := 97) (b := 0) rfl rfl dh hc
    refine ⟨r, h4, turn_all (σ' := s' x) (ht x) (ev_callc (ds := [.ref 0, iN c]) (h1 := hh) ?_ q4), d4, lr⟩
    exact evs_cons (h1 := hh) (ev_v (h1 x)) (evs_one (ev_v (h7 x)))) hd
  rw [List.length_map, List.length_range] at ly
  exact ⟨ys, h3, ly, ry, d3, evi_nat hi (by omega), ec⟩
end
end Lk56

/-! k56: the law, as it stands (own text). -/
namespace Lk56
open PySem Vm
open L2 hiding tB
section
variable {ns : List Int} {o n c : Nat} {x0 : Option Dt}
abbrev EL (x0 : Option Dt) (o n c : Nat) (x5 : Option Dt) (x9 : Option Dt) : En := EN x0 (some (.ref 0)) (some (iN n)) (some (iN o)) (some (.tup (regs n))) x5 (some (circ o n)) (some (iN c)) (some (.lst ((rowsN n c).map tN))) x9 none none none
theorem dr_at {LG : List (List Bool)} {h : Hq} (hd : Dr ns [.dead, .lst (LG.map tB)] h) : h[2]? = some (.lst (LG.map tB)) := by
  obtain ⟨c, _, rfl⟩ := hd; rfl
theorem dr_set {LG LG' : List (List Bool)} {h : Hq} (hd : Dr ns [.dead, .lst (LG.map tB)] h) : Dr ns [.dead, .lst (LG'.map tB)] (h.set 2 (.lst (LG'.map tB))) := by
  obtain ⟨c, hc, rfl⟩ := hd; exact ⟨c, hc, rfl⟩
theorem log_step (ho : o < 4) (hn : n < 8) (hc : 0 < c) (hc2 : c ≤ max 1 n) {LG : List (List Bool)} {d : Dt} {x5 : Option Dt} {h : Hq} (hd : Dr ns [.dead, .lst (LG.map tB)] h) (hl : LG.length ≤ 500) (hx : ∀ x ∈ LG, x.length ≤ 50) :
    ∃ (LG' : List (List Bool)) (h' : Hq), exS (callK T 99) T.gl T.sub 0 logB (EL x0 o n c (some d) (some (.ref 2))) h = .nx (EL x0 o n c (some d) (some (.ref 2))) h' ∧ Dr ns [.dead, .lst (LG'.map tB)] h' ∧ LG'.length ≤ LG.length + 10 ∧ ∀ x ∈ LG', x.length ≤ 50 := by
  obtain ⟨r1, r2, r3, r4⟩ := rb n c hn hc hc2
  obtain ⟨r, h1, d1, lr, q1⟩ := bits_run (T := T) (d := 22) (q := 25) (k := 97) (b := 0) (n := o) rfl rfl hd (by omega)
  have e1 : ev (callK T 99) T.gl 0 (.append (.v 9) (.call 25 (.cons (.v 1) (.cons (.v 3) .nil)))) (EL x0 o n c (some d) (some (.ref 2))) h = .ok .non (h1.set 2 (.lst ((LG ++ [r]).map tB))) := by
    refine (ev_append (n := 2) (ds0 := LG.map tB) (ds := LG.map tB) (h1 := h) (h2 := h1) (d := tB r) rfl (dr_at hd) ?_ (dr_at d1) (by rw [List.length_map]; omega) rfl).trans ?_
    · refine ev_callc (ds := [.ref 0, iN o]) (h1 := h) ?_ q1
      exact evs_cons (h1 := h) rfl (evs_one rfl)
    · rw [List.map_append]; rfl
  have d2 := dr_set (LG' := LG ++ [r]) d1
  generalize h1.set 2 (.lst ((LG ++ [r]).map tB)) = h2 at e1 d2
  obtain ⟨ys, h3, ly, ry, d3, ei, ec⟩ := blk (i := 10) (j := 7) (L := ((rowsN n c).getD 0 []).length) (c := c) (s := EL x0 o n c (some d) (some (.ref 2))) (s' := fun y => EN x0 (some (.ref 0)) (some (iN n)) (some (iN o)) (some (.tup (regs n))) (some d) (some (circ o n)) (some (iN c)) (some (.lst ((rowsN n c).map tN))) (some (.ref 2)) (some y) none none) d2 (rows_ev (by omega)) (by omega) (by omega) (fun _ => rfl) (fun _ => rfl) (fun _ => rfl)
  have e2 : ev (callK T 99) T.gl 0 (.comp false (.nm 10) (.rng (.cons (.bf .len (.cons (.ix (.v 8) (.lit (.int 0))) .nil)) .nil)) .nil (.call 25 (.cons (.v 1) (.cons (.v 7) .nil)))) (EL x0 o n c (some d) (some (.ref 2))) h2 = .ok (.lst (ys.map tB)) h3 :=
    ev_comp ei ec (by rw [List.length_map, ly]; exact sz (by omega))
  have e3 : ev (callK T 99) T.gl 0 (.extend (.v 9) (.comp false (.nm 10) (.rng (.cons (.bf .len (.cons (.ix (.v 8) (.lit (.int 0))) .nil)) .nil)) .nil (.call 25 (.cons (.v 1) (.cons (.v 7) .nil))))) (EL x0 o n c (some d) (some (.ref 2))) h2 = .ok .non (h3.set 2 (.lst ((LG ++ [r] ++ ys).map tB))) := by
    refine (ev_extend (n := 2) (ds0 := (LG ++ [r]).map tB) (ds := (LG ++ [r]).map tB) (es := ys.map tB) (h1 := h2) (h2 := h3) rfl (dr_at d2) e2 (dr_at d3) (by rw [List.length_map, List.length_map, List.length_append, List.length_singleton, ly]; omega) (Nat.zero_le _)).trans ?_
    rw [← List.map_append]
  refine ⟨LG ++ [r] ++ ys, _, (x_seq_nx (x_exp e1)).trans ((x_seq_nx (x_exp e3)).trans rfl), dr_set d3, ?_, fun x hxm => ?_⟩
  · rw [List.length_append, List.length_append, List.length_singleton, ly]; omega
  · rcases List.mem_append.mp hxm with z | z
    · rcases List.mem_append.mp z with z | z
      · exact hx x z
      · rw [List.mem_singleton.mp z, lr]; omega
    · rw [ry x z]; omega
theorem log_loop (ho : o < 4) (hn : n < 8) (hc : 0 < c) (hc2 : c ≤ max 1 n) : ∀ (ds : List Dt) (LG : List (List Bool)) (x5 : Option Dt) (h : Hq), Dr ns [.dead, .lst (LG.map tB)] h → LG.length + ds.length * 10 ≤ 200 → (∀ x ∈ LG, x.length ≤ 50) →
    ∃ (y5 : Option Dt) (LG' : List (List Bool)) (h' : Hq), forL (fun d σ hh => match (Tg.nm 5).set d σ with
      | none => .no
      | some σ' => exS (callK T 99) T.gl T.sub 0 logB σ' hh) ds (EL x0 o n c x5 (some (.ref 2))) h = .nx (EL x0 o n c y5 (some (.ref 2))) h' ∧ Dr ns [.dead, .lst (LG'.map tB)] h' ∧ LG'.length ≤ 200 ∧ ∀ x ∈ LG', x.length ≤ 50
  | [], LG, x5, h, hd, hl, hx => ⟨x5, LG, h, rfl, hd, by rw [List.length_nil] at hl; omega, hx⟩
  | d :: ds, LG, x5, h, hd, hl, hx => by
    rw [List.length_cons] at hl
    obtain ⟨LG1, h1, e1, d1, l1, x1⟩ := log_step (x0 := x0) ho hn hc hc2 (d := d) (x5 := x5) hd (by omega) hx
    obtain ⟨y5, LG2, h2, e2, d2, l2, x2⟩ := log_loop ho hn hc hc2 ds LG1 (some d) h1 d1 (by omega) x1
    exact ⟨y5, LG2, h2, (forL_step e1).trans e2, d2, l2, x2⟩
end
theorem law_ok (ns : List Int) (hl : ns.length ≤ 63) : ∃ hq, callK pk.T (99 + 1) 29 0 [.frl (ns.map .int)] [] = .ok (.bl true) hq := by
  have e1 : ev (callK T 99) T.gl 0 (.call 21 (.cons (.v 0) .nil)) (EN (some (.frl (ns.map .int))) none none none none none none none none none none none none) [] = .ok (.ref 0) [DrawSt ns 0 0 1] :=
    draws_run (T := T) (f := 21) (k := 98) (b := 0) (ns := ns) (h := []) rfl
  have d0 : Dr ns [] [DrawSt ns 0 0 1] := ⟨_, ⟨0, 0, 1, Nat.zero_le _, rfl⟩, rfl⟩
  obtain ⟨n, h1, d1, hn, q1⟩ := dr_call (T := T) (f := 22) (k := 98) (b := 0) (lim := 8) rfl d0 (by decide) (by decide)
  obtain ⟨o, h2, d2, ho, q2⟩ := dr_call (T := T) (f := 22) (k := 98) (b := 0) (lim := 4) rfl d1 (by decide) (by decide)
  obtain ⟨c2, ic2, rfl⟩ := d2
  have hn : n < 8 := by omega
  have ho : o < 4 := by omega
  have d3 : Dr ns [.dead] [c2, .dead] := ⟨_, ic2, rfl⟩
  obtain ⟨v, h3, d4, hv, q3⟩ := dr_call (T := T) (f := 22) (k := 98) (b := 0) (lim := ((max 1 n : Nat) : Int)) rfl d3 (by omega) (by omega)
  have hc : 0 < 1 + v := by omega
  have hc2 : 1 + v ≤ max 1 n := by omega
  generalize hcc : 1 + v = c at hc hc2
  obtain ⟨r1, r2, r3, r4⟩ := rb n c hn hc hc2
  obtain ⟨c4, ic4, rfl⟩ := d4
  have e8 := lc n c hn hc hc2 98 0 c4 .dead
  obtain ⟨ys, h5, ly, ry, d5, ei5, ec5⟩ := blk (ns := ns) (rest := [.dead]) (h := [c4, .dead]) (i := 5) (j := 7) (L := ((rowsN n c).getD 0 []).length) (c := c) (s := EL (some (.frl (ns.map .int))) o n c none none) (s' := fun y => EL (some (.frl (ns.map .int))) o n c (some y) none) ⟨_, ic4, rfl⟩ (rows_ev (by omega)) (by omega) (by omega) (fun _ => rfl) (fun _ => rfl) (fun _ => rfl)
  obtain ⟨c5, ic5, rfl⟩ := d5
  have e9 := ev_compM (cl := callK T 99) (gl := T.gl) (b := 0) ei5 ec5 (by rw [List.length_map, ly]; exact sz (by omega))
  have d6 : Dr ns [.dead, .lst (ys.map tB)] [c5, .dead, .lst (ys.map tB)] := ⟨_, ic5, rfl⟩
  obtain ⟨w, h7, d7, hw7, q7⟩ := dr_call (T := T) (f := 22) (k := 98) (b := 0) (lim := 6) rfl d6 (by decide) (by decide)
  obtain ⟨y5, LG, h8, e10, d8, lLG, xLG⟩ := log_loop (x0 := some (.frl (ns.map .int))) ho hn hc hc2 ((List.range w).map iN) ys none h7 d7 (by rw [ly, List.length_map, List.length_range]; omega) (fun x hx => by rw [ry x hx]; omega)
  obtain ⟨u, h9, d9, hu, q9⟩ := dr_call (T := T) (f := 22) (k := 98) (b := 0) (lim := 2) rfl d8 (by decide) (by decide)
  have ec : ev (callK T 99) T.gl 0 (.cmp .Eq (.call 22 (.cons (.v 1) (.cons (.lit (.int 2)) .nil))) (.lit (.int 0))) (EL (some (.frl (ns.map .int))) o n c y5 (some (.ref 2))) h8 = .ok (.bl (decide (u = 0))) h9 := by
    refine ev_cmp (op := .Eq) (d := iN u) (e := iN 0) (h1 := h9) (ev_callc (ds := [.ref 0, .int 2]) (h1 := h8) ?_ q9) rfl (eqD_iN _ _)
    exact evs_cons (h1 := h8) rfl (evs_one rfl)
  -- what is left, from a log by value or in its cell
  obtain ⟨lg, log, h10, e11, d10, hv10, hw10, hl10⟩ : ∃ (lg : Dt) (log : List Et) (h10 : Hq), exS (callK T 99) T.gl T.sub 0 (.ife (.cmp .Eq (.call 22 (.cons (.v 1) (.cons (.lit (.int 2)) .nil))) (.lit (.int 0))) (.seq (.set 9 (.call 28 (.cons (.v 1) (.cons (.v 9) .nil)))) .nil) .nil) (EL (some (.frl (ns.map .int))) o n c y5 (some (.ref 2))) h8 = .nx (EL (some (.frl (ns.map .int))) o n c y5 (some lg)) h10 ∧ Dr ns [.dead, .lst (LG.map tB)] h10 ∧ (∀ hh : Hq, hh[2]? = some (.lst (LG.map tB)) → vw hh lg = .lst (log.map etD)) ∧ (∀ e ∈ log, Wf e) ∧ log.length ≤ 400 := by
    by_cases z : u = 0
    · obtain ⟨log, h10, d10, l10, w10, q10⟩ := chg_run (k := 97) d9 lLG xLG
      refine ⟨.lst (log.map etD), log, h10, ?_, d10, fun _ _ => rfl, w10, l10⟩
      refine (x_if_t' ec (decide_eq_true z)).trans ((x_seq_nx (x_set (ev_callc (ds := [.ref 0, .ref 2]) (h1 := h9) ?_ q10))).trans rfl)
      exact evs_cons (h1 := h9) rfl (evs_one rfl)
    · refine ⟨.ref 2, LG.map Et.ok, h9, (x_if_f' ec (decide_eq_false z)).trans rfl, d9, fun hh h2 => ?_, fun e he => ?_, by rw [List.length_map]; omega⟩
      · rw [vw_lst h2, map_ok]
      · obtain ⟨x, hxm, rfl⟩ := List.mem_map.mp he
        exact Nat.le_trans (xLG x hxm) (by decide)
  obtain ⟨cA, icA, rfl⟩ := d10
  have e12 := end_run (c1 := cA) (x0 := some (.frl (ns.map .int))) (x1 := some (.ref 0)) (x4 := some (.tup (regs n))) (x5 := y5) (x10 := none) ho hn hc hc2 hv10 hw10 hl10
  refine ⟨[cA, .dead, .lst (LG.map tB)], ?_⟩
  rw [callK_in (T := pk.T) (fd := f29) rfl rfl rfl]
  have run : exS (callK T 99) T.gl T.sub 0 f29.body (startE f29.n [.frl (ns.map .int)]) [] = .rt (.bl true) [cA, .dead, .lst (LG.map tB)] := by
    refine (x_seq_nx (x_set e1)).trans ?_
    refine (x_seq_nx (x_set (d := iN n) (h' := h1) (ev_callc (ds := [.ref 0, .int 8]) (h1 := [DrawSt ns 0 0 1]) (evs_cons rfl (evs_one rfl)) q1))).trans ?_
    refine (x_seq_nx (x_set (d := iN o) (h' := [c2]) (ev_callc (ds := [.ref 0, .int 4]) (h1 := h1) (evs_cons (h1 := h1) rfl (evs_one rfl)) q2))).trans ?_
    refine (x_seq_nx (x_set (rg n hn c2 (some (.frl (ns.map .int))) (some (iN o))))).trans ?_
    refine (x_seq_nx (x_set (mk o n ho hn c2 (some (.frl (ns.map .int)))))).trans ?_
    have e7 : ev (callK T 99) T.gl 0 (.bin .Add (.lit (.int 1)) (.call 22 (.cons (.v 1) (.cons (.bf .max (.cons (.lit (.int 1)) (.cons (.v 2) .nil))) .nil)))) (EN (some (.frl (ns.map .int))) (some (.ref 0)) (some (iN n)) (some (iN o)) (some (.tup (regs n))) none (some (circ o n)) none none none none none none) [c2, .dead] = .ok (iN c) [c4, .dead] := by
      refine ev_bin (op := .Add) (d := iN 1) (e := iN v) (h1 := [c2, .dead]) rfl (ev_callc (ds := [.ref 0, iN (max 1 n)]) (h1 := [c2, .dead]) ?_ q3) ((add_iN 1 v).trans (by rw [hcc]))
      exact evs_cons (h1 := [c2, .dead]) rfl (evs_one (ev_bf (f := .max) (ds := [.int 1, iN n]) (h1 := [c2, .dead]) (evs_cons (h1 := [c2, .dead]) rfl (evs_one rfl)) max_iN))
    refine (x_seq_nx (x_set e7)).trans ?_
    refine (x_seq_nx (x_set (d := .lst ((rowsN n c).map tN)) (h' := [c4, .dead]) (ev_callc (ds := [iN n, iN c]) (h1 := [c4, .dead]) (evs_cons (h1 := [c4, .dead]) rfl (evs_one rfl)) e8))).trans ?_
    refine (x_seq_nx (x_set e9)).trans ?_
    have ei : evi (callK T 99) T.gl 0 (.rng (.cons (.call 22 (.cons (.v 1) (.cons (.lit (.int 6)) .nil))) .nil)) (EL (some (.frl (ns.map .int))) o n c none (some (.ref 2))) [c5, .dead, .lst (ys.map tB)] = .ok (.its ((List.range w).map iN)) h7 := by
      refine evi_nat (ev_callc (ds := [.ref 0, .int 6]) (h1 := [c5, .dead, .lst (ys.map tB)]) ?_ q7) (by omega)
      exact evs_cons (h1 := [c5, .dead, .lst (ys.map tB)]) rfl (evs_one rfl)
    refine (x_seq_nx ((x_for (sub := T.sub) (t := .nm 5) (body := logB) ei).trans e10)).trans ?_
    refine (x_seq_nx e11).trans ?_
    exact e12
  show finK (exS (callK T 99) T.gl T.sub 0 f29.body (startE f29.n [.frl (ns.map .int)]) []) = _
  rw [run]; rfl
end Lk56

open PySem PySem.W PySem.Calls PyProof.Rows
theorem PySem.Challenge.cw_probewright_k56_logs_are_read_strictly_holds : PySem.Challenge.rw_probewright_k56_logs_are_read_strictly.Holds := by
  w_on; o_law
  refine HandSHeadRun.head_any (r := OpenLaw.row PySem.Challenge.rw_probewright_k56_logs_are_read_strictly) (q := view (OpenLaw.row PySem.Challenge.rw_probewright_k56_logs_are_read_strictly).prog [36]) (H := Lk56.hk) (ob := Lk56.ob) (M := 6000) (loose := Lk56.loose) (d := HandSHeadRun.topDef (OpenLaw.row PySem.Challenge.rw_probewright_k56_logs_are_read_strictly).prog 36) (kwd := []) Lk56.ob_eq
    (by kernel_rfl) (fun s => by kernel_rfl) Lk56.run (by kernel_rfl) (by kernel_rfl) (by kernel_rfl) (by rfl) (by first | assumption | decide +kernel) (by decide +kernel) ⟨rfl, rfl, rfl, rfl, rfl, by decide +kernel⟩ ?hw ?hc
  case hw => w_witness2
  case hc =>
    refine Vm.walk_ofV (l := PySem.Challenge.rw_probewright_k56_logs_are_read_strictly) (n := 63) (k := 2 * (99 + 1)) (x := "_law_script") (CX := fun w => L2.CX (PySem.Challenge.rw_probewright_k56_logs_are_read_strictly).prog w) rfl (by decide) (by kernel_rfl) ⟨rfl, by decide, by decide⟩ ?F (fun _ _ _ _ _ z => Vm.cx_never z)
    intro w mg fa h Y G hmg0
    have hmg : mg ("law" : PySem.Str) = some (.ref fa) := by
      have e : (HandSHeadRun.topDef (OpenLaw.row PySem.Challenge.rw_probewright_k56_logs_are_read_strictly).prog 36).name = ("law" : PySem.Str) := by kernel_rfl
      rw [← e]
      exact hmg0
    exact Vm.law_facts (p := Lk56.pk) (P := (PySem.Challenge.rw_probewright_k56_logs_are_read_strictly).prog) (k := 99) (i := 29) (d := Lk56.d29) (.inr Y) G hmg rfl rfl rfl rfl Lk56.chk Lk56.bnd Lk56.law_ok

