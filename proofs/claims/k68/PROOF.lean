import PyProof.Rows.All
import Wide.All
import OpenK.AllK
import Wide.FinOn
import KE.KStateDown
import HandS.ForMost
import HandS.Zip
import HandS.Deep
import HandS.Conv
import HandS.TupAny
import HandS.TupMul
import HandS.TupLe
import HandS.SortRule
import HandS.Flow
import HandS.Style
import KE.DataCmp
import KE.SortData
import KE.DataMinMax
import HandS.TupLen
import HandS.SortInts
import PyProof.ListStr
import HandS.Words
import HandS.Exc
import HandS.Defaults
import HandS.Ends
import HandS.HeadEnd
import HandS.HeadHook1
import HandS.HeadHook2
import HandS.Head0
import HandS.Head1
import HandS.Head2
import PySem.Challenge.RW_termtide_k68_whole_words_put_together
set_option Elab.async false
set_option linter.all false
section
/-! EvA: a small core language for defs in a plain style, by value: values, core terms, the evaluator. Plain Lean, no imports. -/
set_option linter.all false
namespace Ev

/-- the most items of a list, signs of a text -/
def SZ : Nat := 16777216

/-- values; a text is its list of code points; scr: the script, read only -/
inductive EV where
  | non | bl (b : Bool) | int (i : Int) | str (s : List Nat)
  | tup (xs : List EV) | lst (xs : List EV) | dct (t : Nat) (kvs : List (EV × EV)) | scr (ns : List Int)
  deriving Inhabited

def EV.isCon : EV → Bool
  | .lst _ => true
  | .dct _ _ => true
  | _ => false

inductive Op where | add | sub | mul | fdiv | mod | shl
  deriving DecidableEq
inductive Cm where | eq | ne | lt | le | gt | ge | isin | notin
  deriving DecidableEq
inductive Bi where | len | sum | any | all | min | max | abs | int | bool | sorted | list | tuple | listR
  deriving DecidableEq
inductive Me where | join | index | get1 | get2 | count
  deriving DecidableEq
/-- what is walked: a value's items; a range; enumerate; zip of two -/
inductive ItK where | val | rng1 | rng2 | rng3 | enum | zip | seq
  deriving DecidableEq
inductive Pt where
  | nm (i : Nat) | tp (ps : List Pt)

/-- expressions -/
inductive CE where
  | lit (v : EV)
  | glb (g : Nat)
  | var (i : Nat)
  | tup (es : List CE)
  | lst (es : List CE)
  | dct0 (t : Nat)
  | op (o : Op) (a b : CE)
  | neg (a : CE)
  | cmp (o : Cm) (a b : CE)
  | chn (o o' : Cm) (a b c : CE)
  | isc (neg : Bool) (a : CE) (v : EV)
  | and (a b : CE)
  | or (a b : CE)
  | not (a : CE)
  | ite (t a b : CE)
  | ix (a b : CE)
  | sl (a : CE) (lo hi : List CE)
  | rev (a : CE)
  | call (f : Nat) (md : List (Option Nat)) (es : List CE)
  | bi (b : Bi) (es : List CE)
  | met (m : Me) (a : CE) (es : List CE)
  | pop (i : Nat) (es : List CE)
  | comp (vs : List Nat) (k : ItK) (it : List CE) (tg : Pt) (ifs : List CE) (e : CE)
  | dcomp (t : Nat) (vs : List Nat) (k : ItK) (it : List CE) (tg : Pt) (ifs : List CE) (ke ve : CE)

/-- a slot: not to be read; shared; borrowed; owned; in and out -/
inductive Sta where | N | S | B | O | I
  deriving DecidableEq
/-- statements -/
inductive CS where
  | pass
  | never
  | brk
  | cnt
  | ret (fr : Bool) (e : CE)
  | expr (e : CE)
  | asg (p : Pt) (own : Bool) (e : CE)
  | mov (i j : Nat)
  | shr (i : Nat)
  | aug (i : Nat) (o : Op) (e : CE)
  | setIx (i : Nat) (k v : CE)
  | augIx (i : Nat) (k : CE) (o : Op) (v : CE)
  | app (i : Nat) (e : CE)
  | ext (i : Nat) (e : CE)
  | ife (t : CE) (a b : List CS)
  | whl (iv : List Sta) (t : CE) (b : List CS)
  | for (iv : List Sta) (p : Pt) (k : ItK) (it : List CE) (b : List CS)
  /-- try: b, except ..: what is never come to -/
  | tryr (b : List CS)

abbrev Env := List (Option EV)
inductive Fl where | nx | brk | cnt | ret (v : EV)

/-! ### plain data, equality, order -/
mutual
def plain : EV → Bool
  | .non => true
  | .bl _ => true
  | .int _ => true
  | .str s => s.all fun c => decide (c < 1114112)
  | .tup xs => plains xs
  | .lst xs => plains xs
  | .dct _ _ => false
  | .scr _ => false
def plains : List EV → Bool
  | [] => true
  | x :: xs => plain x && plains xs
end
mutual
def depth : EV → Nat
  | .tup xs => depths xs + 1
  | .lst xs => depths xs + 1
  | _ => 0
def depths : List EV → Nat
  | [] => 0
  | x :: xs => Nat.max (depth x) (depths xs)
end
mutual
/-- == of plain data -/
def eqE : EV → EV → Bool
  | .non, y => match y with | .non => true | _ => false
  | .bl a, y => match y with | .bl b => a == b | .int b => decide ((if a then 1 else 0) = b) | _ => false
  | .int a, y => match y with | .int b => decide (a = b) | .bl b => decide (a = (if b then 1 else 0)) | _ => false
  | .str a, y => match y with | .str b => decide (a = b) | _ => false
  | .tup a, y => match y with | .tup b => eqEs a b | _ => false
  | .lst a, y => match y with | .lst b => eqEs a b | _ => false
  | .dct _ _, _ => false
  | .scr _, _ => false
def eqEs : List EV → List EV → Bool
  | [], y => match y with | [] => true | _ => false
  | a :: as, y => match y with | b :: bs => eqE a b && eqEs as bs | [] => false
end
def lexS : List Nat → List Nat → Bool
  | [], y => match y with | [] => false | _ :: _ => true
  | a :: as, y => match y with | [] => false | b :: bs => if a < b then true else if a = b then lexS as bs else false
mutual
/-- may be compared by <, place by place -/
def alikeE : EV → EV → Bool
  | .non, y => match y with | .non => true | _ => false
  | .bl _, y => match y with | .bl _ => true | _ => false
  | .int _, y => match y with | .int _ => true | _ => false
  | .str _, y => match y with | .str _ => true | _ => false
  | .tup a, y => match y with | .tup b => alikeEs a b | _ => false
  | .lst a, y => match y with | .lst b => alikeEs a b | _ => false
  | .dct _ _, _ => false
  | .scr _, _ => false
def alikeEs : List EV → List EV → Bool
  | [], _ => true
  | a :: as, y => match y with | b :: bs => alikeE a b && alikeEs as bs | [] => true
end
mutual
/-- < of alike data -/
def ltE : EV → EV → Bool
  | .non, _ => false
  | .bl a, y => match y with | .bl b => !a && b | _ => false
  | .int a, y => match y with | .int b => decide (a < b) | _ => false
  | .str a, y => match y with | .str b => lexS a b | _ => false
  | .tup a, y => match y with | .tup b => ltEs a b | _ => false
  | .lst a, y => match y with | .lst b => ltEs a b | _ => false
  | .dct _ _, _ => false
  | .scr _, _ => false
def ltEs : List EV → List EV → Bool
  | [], y => match y with | [] => false | _ :: _ => true
  | a :: as, y => match y with | [] => false | b :: bs => if eqE a b then ltEs as bs else ltE a b
end
mutual
/-- of one shape -/
def shE : EV → EV → Bool
  | .non, y => match y with | .non => true | _ => false
  | .bl _, y => match y with | .bl _ => true | _ => false
  | .int _, y => match y with | .int _ => true | _ => false
  | .str _, y => match y with | .str _ => true | _ => false
  | .tup a, y => match y with | .tup b => shEs a b | _ => false
  | .lst a, y => match y with | .lst b => shEs a b | _ => false
  | .dct _ _, _ => false
  | .scr _, _ => false
def shEs : List EV → List EV → Bool
  | [], y => match y with | [] => true | _ :: _ => false
  | a :: as, y => match y with | b :: bs => shE a b && shEs as bs | [] => false
end
def isTup1 : EV → Bool
  | .tup (_ :: _) => true
  | _ => false
def noTup : EV → Bool
  | .tup _ => false
  | .non => false
  | _ => true
def okD (x : EV) : Bool := plain x && decide (depth x ≤ 60)
/-- what sorted takes -/
def sortOk (xs : List EV) : Bool := xs.all okD && (xs.all isTup1 || xs.all noTup) &&
  ((match xs with | [] => true | x :: r => r.all (shE x)) || xs.all fun x => xs.all fun y => alikeE x y)
def insE (x : EV) : List EV → List EV
  | [] => [x]
  | y :: ys => if ltE y x then y :: insE x ys else x :: y :: ys
/-- stable -/
def sortE : List EV → List EV
  | [] => []
  | x :: xs => insE x (sortE xs)

/-! ### sequences -/
def ixN (n : Nat) (i : Int) : Option Nat := if 0 ≤ i then (if i < n then some i.toNat else none) else if -(n : Int) ≤ i then some (i + n).toNat else none
def atE {α : Type} (xs : List α) (i : Int) : Option α := match ixN xs.length i with | some j => xs[j]? | none => none
def sIx (n d : Nat) : Option Int → Nat
  | none => d
  | some v => if v < 0 then (v + (n : Int)).toNat else min v.toNat n
def cut {α : Type} (xs : List α) (lo hi : Option Int) : List α :=
  (xs.drop (sIx xs.length 0 lo)).take (sIx xs.length xs.length hi - sIx xs.length 0 lo)
def rngL (a : Int) (c : Int) : Nat → List EV
  | 0 => []
  | n + 1 => .int a :: rngL (a + c) c n
def chars : List Nat → List EV
  | [] => []
  | c :: cs => .str [c] :: chars cs
def intsE : List Int → List EV
  | [] => []
  | c :: cs => .int c :: intsE cs
def enumL (i : Int) : List EV → List EV
  | [] => []
  | x :: xs => .tup [.int i, x] :: enumL (i + 1) xs
def zipL : List EV → List EV → List EV
  | x :: xs, y :: ys => .tup [x, y] :: zipL xs ys
  | _, _ => []
/-- keys that a dict may have here: tuples of plain flat data, or ints and texts -/
def dGet : List (EV × EV) → EV → Option EV
  | [], _ => none
  | (k, v) :: r, x => if eqE k x then some v else dGet r x
def dHas (x : EV) : List (EV × EV) → Bool
  | [] => false
  | (k, _) :: r => eqE k x || dHas x r
def dRep (x w : EV) : List (EV × EV) → List (EV × EV)
  | [] => []
  | (k, v) :: r => (if eqE k x then (k, w) else (k, v)) :: dRep x w r
def dPut (kvs : List (EV × EV)) (x w : EV) : List (EV × EV) := if dHas x kvs then dRep x w kvs else kvs ++ [(x, w)]
def keysOf : List (EV × EV) → List EV
  | [] => []
  | (k, _) :: r => k :: keysOf r
def itemsOf : List (EV × EV) → List EV
  | [] => []
  | (k, v) :: r => .tup [k, v] :: itemsOf r
def leafK : EV → Bool
  | .int _ => true
  | .str _ => true
  | _ => false
/-- the keys that a dict of kind t has: 0 ints and texts, 1 flat tuples of these -/
def keyOk (t : Nat) (k : EV) : Bool := if t = 0 then leafK k else if t = 1 then (match k with | .tup xs => xs.all leafK | _ => false) else false
/-- the items of what a for walks -/
def seqOf : EV → Option (List EV)
  | .lst xs => some xs
  | .tup xs => some xs
  | .str s => some (chars s)
  | .dct _ kvs => some (keysOf kvs)
  | .scr ns => some (intsE ns)
  | _ => none
@[irreducible] def lim62 (i : Int) : Bool := decide (-(2 ^ 62) ≤ i) && decide (i < 2 ^ 62)
@[irreducible] def lim64 (i : Int) : Bool := decide (-(2 ^ 64) < i) && decide (i < 2 ^ 64)
@[irreducible] def lim63 (i : Int) : Bool := decide (-(2 ^ 63) ≤ i) && decide (i < 2 ^ 63)
@[irreducible] def divOk (j : Int) : Bool := decide (0 < j) && decide (j < 1073741824)
@[irreducible] def shlOk (i j : Int) : Bool := decide (0 ≤ j) && decide (j ≤ 1000000) && decide (i.natAbs < 2 ^ 64)
def itE : ItK → List EV → Option (List EV)
  | .val, [x] => seqOf x
  | .seq, [x] => (match x with | .dct _ _ => none | _ => seqOf x)
  | .rng1, [.int n] => if lim62 n then some (rngL 0 1 n.toNat) else none
  | .rng2, [.int a, .int b] => if lim62 a && lim62 b then some (rngL a 1 (b - a).toNat) else none
  | .enum, [.lst xs] => some (enumL 0 xs)
  | .zip, [.lst xs, .lst ys] => some (zipL xs ys)
  | .zip, [.tup xs, .tup ys] => some (zipL xs ys)
  | _, _ => none

/-! ### operators, built-ins -/
def opE : Op → EV → EV → Option EV
  | .add, .int i, .int j => some (.int (i + j))
  | .add, .str a, .str b => if a.length + b.length ≤ SZ then some (.str (a ++ b)) else none
  | .add, .tup a, .tup b => if a.length + b.length ≤ SZ then some (.tup (a ++ b)) else none
  | .add, .lst a, .lst b => if a.length + b.length ≤ SZ then some (.lst (a ++ b)) else none
  | .sub, .int i, .int j => some (.int (i - j))
  | .mul, .int i, .int j => if lim64 i || lim64 j then some (.int (i * j)) else none
  | .mul, .lst a, .int k => if lim63 k && decide (a.length * k.toNat ≤ SZ) then some (.lst (List.replicate k.toNat a).flatten) else none
  | .fdiv, .int i, .int j => if divOk j then some (.int (i / j)) else none
  | .mod, .int i, .int j => if decide (0 < j) then some (.int (i % j)) else none
  | .shl, .int i, .int j => if shlOk i j then some (.int (i * 2 ^ j.toNat)) else none
  | _, _, _ => none
def anyE (x : EV) : List EV → Bool
  | [] => false
  | y :: ys => eqE y x || anyE x ys
def flatT : EV → Bool
  | .non => true
  | .bl _ => true
  | .int _ => true
  | _ => false
def tr0 : EV → Bool
  | .bl b => b
  | .int i => i != 0
  | _ => false
def flat : EV → Bool
  | .non => true
  | .bl _ => true
  | .int _ => true
  | .str s => decide (s.length ≤ SZ)
  | _ => false
def isPre : List Nat → List Nat → Bool
  | [], _ => true
  | _ :: _, [] => false
  | a :: as, b :: bs => decide (a = b) && isPre as bs
def isSub (a : List Nat) : List Nat → Bool
  | [] => isPre a []
  | b :: bs => isPre a (b :: bs) || isSub a bs
def inE (x : EV) : EV → Option Bool
  | .lst ys => if okD x && okD (.lst ys) then some (anyE x ys) else none
  | .tup ys => if flat x && ys.all flat then some (anyE x ys) else none
  | .dct t kvs => if keyOk t x then some (dGet kvs x).isSome else none
  | .str b => match x with
    | .str a => some (isSub a b)
    | _ => none
  | _ => none
def cmpOk (x y : EV) : Bool := okD x && okD y && alikeE x y && (match x with | .non => false | _ => true)
def cmE : Cm → EV → EV → Option Bool
  | .eq, x, y => if okD x && okD y then some (eqE x y) else none
  | .ne, x, y => if okD x && okD y then some (!eqE x y) else none
  | .lt, x, y => if cmpOk x y then some (ltE x y) else none
  | .gt, x, y => if cmpOk x y then some (ltE y x) else none
  | .le, x, y => if cmpOk x y then some (!ltE y x) else none
  | .ge, x, y => if cmpOk x y then some (!ltE x y) else none
  | .isin, x, y => inE x y
  | .notin, x, y => match inE x y with | some b => some (!b) | none => none
def truE : EV → Option Bool
  | .non => some false
  | .bl b => some b
  | .int i => some (i != 0)
  | .str s => if s.length ≤ SZ then some (!s.isEmpty) else none
  | .tup xs => some (!xs.isEmpty)
  | .lst xs => some (!xs.isEmpty)
  | .dct t kvs => if t = 0 then some (!kvs.isEmpty) else none
  | .scr _ => none
def sumE : List EV → Option Int
  | [] => some 0
  | .int i :: r => match sumE r with | some j => some (i + j) | none => none
  | _ :: _ => none
def allInt : List EV → Option (List Int)
  | [] => some []
  | .int i :: r => match allInt r with | some l => some (i :: l) | none => none
  | _ :: _ => none
def maxI : Int → List Int → Int
  | m, [] => m
  | m, x :: r => maxI (if x > m then x else m) r
def minI : Int → List Int → Int
  | m, [] => m
  | m, x :: r => minI (if x < m then x else m) r
def lenE : EV → Option EV
  | .str s => if s.length ≤ SZ then some (.int s.length) else none
  | .tup xs => some (.int xs.length)
  | .lst xs => some (.int xs.length)
  | .scr xs => some (.int xs.length)
  | .dct t kvs => if t < 2 then some (.int kvs.length) else none
  | _ => none
def sum1 : EV → Option EV
  | .lst xs => match sumE xs with | some i => some (.int i) | none => none
  | _ => none
def any1 : EV → Option EV
  | .lst xs => if xs.all flatT then some (.bl (xs.any tr0)) else none
  | .tup xs => if xs.all flatT then some (.bl (xs.any tr0)) else none
  | _ => none
def all1 : EV → Option EV
  | .lst xs => if xs.all flatT then some (.bl (xs.all tr0)) else none
  | .tup xs => if xs.all flatT then some (.bl (xs.all tr0)) else none
  | _ => none
def maxL (xs : List EV) : Option EV := match allInt xs with | some (x :: r) => some (.int (maxI x r)) | _ => none
def minL (xs : List EV) : Option EV := match allInt xs with | some (x :: r) => some (.int (minI x r)) | _ => none
def max1 : EV → Option EV
  | .lst xs => maxL xs
  | .tup xs => if depths xs ≤ 60 then maxL xs else none
  | _ => none
def min1 : EV → Option EV
  | .lst xs => minL xs
  | .tup xs => if depths xs ≤ 60 then minL xs else none
  | _ => none
def abs1 : EV → Option EV
  | .int i => some (.int (if i < 0 then -i else i))
  | _ => none
def int1 : EV → Option EV
  | .int i => some (.int i)
  | .bl b => some (.int (if b then 1 else 0))
  | _ => none
def bool1 : EV → Option EV
  | .int i => some (.bl (i != 0))
  | .bl b => some (.bl b)
  | _ => none
def sorted1 : EV → Option EV
  | .lst xs => if sortOk xs then some (.lst (sortE xs)) else none
  | _ => none
def list1 : EV → Option EV
  | .lst xs => some (.lst xs)
  | .tup xs => some (.lst xs)
  | .scr ns => some (.lst (intsE ns))
  | .str s => if s.length ≤ SZ then some (.lst (chars s)) else none
  | _ => none
def tuple1 : EV → Option EV
  | .lst xs => some (.tup xs)
  | .tup xs => some (.tup xs)
  | _ => none
@[irreducible] def lim24 (a b : Int) : Bool := lim62 a && lim62 b && decide ((b - a).toNat ≤ SZ)
def listR (a b : EV) : Option EV := match a with
  | .int i => match b with
    | .int j => if lim24 i j then some (.lst (rngL i 1 (j - i).toNat)) else none
    | _ => none
  | _ => none
def max2 (a b : EV) : Option EV := match a with
  | .int i => match b with
    | .int j => some (.int (if j > i then j else i))
    | _ => none
  | _ => none
def min2 (a b : EV) : Option EV := match a with
  | .int i => match b with
    | .int j => some (.int (if j < i then j else i))
    | _ => none
  | _ => none
def bi1 : Bi → EV → Option EV
  | .len => lenE
  | .sum => sum1
  | .any => any1
  | .all => all1
  | .max => max1
  | .min => min1
  | .abs => abs1
  | .int => int1
  | .bool => bool1
  | .sorted => sorted1
  | .list => list1
  | .tuple => tuple1
  | .listR => listR (.int 0)
def bi2 : Bi → EV → EV → Option EV
  | .max => max2
  | .min => min2
  | .listR => listR
  | _ => fun _ _ => none
def biE (b : Bi) (xs : List EV) : Option EV := match xs with
  | [] => none
  | x :: r => match r with
    | [] => bi1 b x
    | y :: r => match r with
      | [] => bi2 b x y
      | _ :: _ => none
def joinS (sep : List Nat) : List (List Nat) → List Nat
  | [] => []
  | [x] => x
  | x :: y :: r => x ++ sep ++ joinS sep (y :: r)
def allStr : List EV → Option (List (List Nat))
  | [] => some []
  | .str i :: r => match allStr r with | some l => some (i :: l) | none => none
  | _ :: _ => none
def meE : Me → EV → List EV → Option EV
  | .join, .str s, [.lst xs] => match allStr xs with
    | some l => if (l.map List.length).sum + l.length * s.length ≤ SZ then some (.str (joinS s l)) else none
    | none => none
  | _, _, _ => none
def ixE : EV → EV → Option EV
  | .tup xs, .int i => atE xs i
  | .lst xs, .int i => atE xs i
  | .str s, .int i => if s.length ≤ SZ then (match atE s i with | some c => some (.str [c]) | none => none) else none
  | .dct t kvs, k => if keyOk t k then dGet kvs k else none
  | _, _ => none
def slE : EV → Option Int → Option Int → Option EV
  | .tup xs, lo, hi => some (.tup (cut xs lo hi))
  | .lst xs, lo, hi => some (.lst (cut xs lo hi))
  | .str s, lo, hi => if s.length ≤ SZ then some (.str (cut s lo hi)) else none
  | _, _, _ => none

/-- x is v, v None or a bool -/
def iscE (x : EV) : EV → Option Bool
  | .non => match x with
    | .non => some true
    | _ => some false
  | .bl q => match x with
    | .bl p => some (decide (p = q))
    | _ => none
  | _ => none

/-! ### the evaluator -/
mutual
def bindP : Pt → EV → Env → Option Env
  | .nm i, v, s => some (s.set i (some v))
  | .tp ps, v, s => match v with
    | .tup xs => bindPs ps xs s
    | _ => none
def bindPs : List Pt → List EV → Env → Option Env
  | [], vs, s => match vs with | [] => some s | _ :: _ => none
  | p :: ps, vs, s => match vs with
    | [] => none
    | v :: vs => match bindP p v s with
      | some s' => bindPs ps vs s'
      | none => none
end
def restore : List Nat → Env → Env → Env
  | [], _, s => s
  | v :: vs, s0, s => (restore vs s0 s).set v ((s0[v]?).join)
/-- what is handed in and out is read when the call begins -/
def reload : List (Option Nat) → List EV → Env → List EV
  | some i :: md, v :: vs, s => (match s[i]? with | some (some x) => x | _ => v) :: reload md vs s
  | none :: md, v :: vs, s => v :: reload md vs s
  | [], vs, _ => vs
  | _ :: _, [], _ => []
def outs : List (Option Nat) → List EV → Env → Env
  | [], _, s => s
  | none :: md, vs, s => outs md vs s
  | some i :: md, vs, s => match vs with
    | [] => s
    | v :: vs => outs md vs (s.set i (some v))
abbrev Cf := Nat → List EV → Option (EV × List EV)
abbrev Gb := Nat → Option EV
/-- a dict filled by pairs -/
def dAll (t : Nat) : List EV → List (EV × EV) → Option (List (EV × EV))
  | [], d => some d
  | .tup [k, v] :: r, d => if keyOk t k then dAll t r (dPut d k v) else none
  | _ :: _, _ => none
def compL (b : EV → Env → Option (Option EV × Env)) : List EV → Env → Option (List EV × Env)
  | [], s => some ([], s)
  | x :: xs, s => match b x s with
    | some (r, s1) => match compL b xs s1 with
      | some (ys, s2) => some ((match r with | some y => y :: ys | none => ys), s2)
      | none => none
    | none => none
section
variable (cf : Cf) (gb : Gb)
mutual
def ev : CE → Env → Option (EV × Env)
  | .lit v, s => some (v, s)
  | .glb g, s => match gb g with | some v => some (v, s) | none => none
  | .var i, s => match s[i]? with | some (some v) => some (v, s) | _ => none
  | .tup es, s => match evs es s with
    | some (vs, s1) => if vs.length ≤ SZ then some (.tup vs, s1) else none
    | none => none
  | .lst es, s => match evs es s with
    | some (vs, s1) => if vs.length ≤ SZ then some (.lst vs, s1) else none
    | none => none
  | .dct0 t, s => some (.dct t [], s)
  | .op o a b, s => match ev a s with
    | some (x, s1) => match ev b s1 with
      | some (y, s2) => match opE o x y with
        | some z => some (z, s2)
        | none => none
      | none => none
    | none => none
  | .neg a, s => match ev a s with
    | some (.int i, s1) => some (.int (-i), s1)
    | _ => none
  | .cmp o a b, s => match ev a s with
    | some (x, s1) => match ev b s1 with
      | some (y, s2) => match cmE o x y with
        | some z => some (.bl z, s2)
        | none => none
      | none => none
    | none => none
  | .chn o o' a b c, s => match ev a s with
    | some (x, s1) => match ev b s1 with
      | some (y, s2) => match cmE o x y with
        | some true => match ev c s2 with
          | some (z, s3) => match cmE o' y z with
            | some r => some (.bl r, s3)
            | none => none
          | none => none
        | some false => some (.bl false, s2)
        | none => none
      | none => none
    | none => none
  | .isc ng a v, s => match ev a s with
    | some (x, s1) => match iscE x v with
      | some r => some (.bl (if ng then !r else r), s1)
      | none => none
    | none => none
  | .and a b, s => match ev a s with
    | some (x, s1) => match truE x with
      | some true => ev b s1
      | some false => some (x, s1)
      | none => none
    | none => none
  | .or a b, s => match ev a s with
    | some (x, s1) => match truE x with
      | some true => some (x, s1)
      | some false => ev b s1
      | none => none
    | none => none
  | .not a, s => match ev a s with
    | some (x, s1) => match truE x with
      | some t => some (.bl (!t), s1)
      | none => none
    | none => none
  | .ite t a b, s => match ev t s with
    | some (x, s1) => match truE x with
      | some true => ev a s1
      | some false => ev b s1
      | none => none
    | none => none
  | .ix a b, s => match ev a s with
    | some (x, s1) => match ev b s1 with
      | some (y, s2) => match ixE x y with
        | some z => some (z, s2)
        | none => none
      | none => none
    | none => none
  | .sl a lo hi, s => match ev a s with
    | some (x, s1) => match evs lo s1 with
      | some (l, s2) => match evs hi s2 with
        | some (h, s3) => match l, h with
          | [], [] => match slE x none none with | some z => some (z, s3) | none => none
          | [.int i], [] => match slE x (some i) none with | some z => some (z, s3) | none => none
          | [], [.int j] => match slE x none (some j) with | some z => some (z, s3) | none => none
          | [.int i], [.int j] => match slE x (some i) (some j) with | some z => some (z, s3) | none => none
          | _, _ => none
        | none => none
      | none => none
    | none => none
  | .rev a, s => match ev a s with
    | some (.str x, s1) => if x.length ≤ SZ then some (.str x.reverse, s1) else none
    | some (.lst x, s1) => some (.lst x.reverse, s1)
    | some (.tup x, s1) => some (.tup x.reverse, s1)
    | _ => none
  | .call f md es, s => match evs es s with
    | some (vs, s1) => match cf f (reload md vs s1) with
      | some (r, os) => some (r, outs md os s1)
      | none => none
    | none => none
  | .bi b es, s => match evs es s with
    | some (vs, s1) => match biE b vs with
      | some r => some (r, s1)
      | none => none
    | none => none
  | .met m a es, s => match ev a s with
    | some (x, s1) => match evs es s1 with
      | some (vs, s2) => match meE m x vs with
        | some r => some (r, s2)
        | none => none
      | none => none
    | none => none
  | .pop i es, s => match evs es s with
    | some (vs, s1) => match s1[i]? with
      | some (some (.lst xs)) => match vs with
        | [] => match xs.getLast? with
          | some y => some (y, s1.set i (some (.lst xs.dropLast)))
          | none => none
        | [.int k] => match ixN xs.length k with
          | some j => match xs[j]? with
            | some y => some (y, s1.set i (some (.lst (xs.eraseIdx j))))
            | none => none
          | none => none
        | _ => none
      | _ => none
    | none => none
  | .comp vs k it tg ifs e, s => match evs it s with
    | some (ws, s1) => match itE k ws with
      | some xs => match compL (fun x t => match bindP tg x t with
          | some t1 => match tsts ifs t1 with
            | some (true, t2) => match ev e t2 with
              | some (y, t3) => some (some y, t3)
              | none => none
            | some (false, t2) => some (none, t2)
            | none => none
          | none => none) xs s1 with
        | some (ys, s2) => if ys.length ≤ SZ then some (.lst ys, restore vs s1 s2) else none
        | none => none
      | none => none
    | none => none
  | .dcomp t vs k it tg ifs ke ve, s => match evs it s with
    | some (ws, s1) => match itE k ws with
      | some xs => match compL (fun x u => match bindP tg x u with
          | some t1 => match tsts ifs t1 with
            | some (true, t2) => match ev ke t2 with
              | some (y, t3) => match ev ve t3 with
                | some (z, t4) => some (some (.tup [y, z]), t4)
                | none => none
              | none => none
            | some (false, t2) => some (none, t2)
            | none => none
          | none => none) xs s1 with
        | some (ys, s2) => match dAll t ys [] with
          | some d => if d.length ≤ SZ then some (.dct t d, restore vs s1 s2) else none
          | none => none
        | none => none
      | none => none
    | none => none
def evs : List CE → Env → Option (List EV × Env)
  | [], s => some ([], s)
  | e :: es, s => match ev e s with
    | some (v, s1) => match evs es s1 with
      | some (vs, s2) => some (v :: vs, s2)
      | none => none
    | none => none
def tsts : List CE → Env → Option (Bool × Env)
  | [], s => some (true, s)
  | e :: es, s => match ev e s with
    | some (x, s1) => match truE x with
      | some true => tsts es s1
      | some false => some (false, s1)
      | none => none
    | none => none
end
end
/-! ### statements -/
def forL (p : Pt) (b : Env → Option (Fl × Env)) : List EV → Env → Option (Fl × Env)
  | [], s => some (.nx, s)
  | x :: xs, s => match bindP p x s with
    | some s1 => match b s1 with
      | some (.nx, s2) => forL p b xs s2
      | some (.cnt, s2) => forL p b xs s2
      | some (.brk, s2) => some (.nx, s2)
      | some (.ret v, s2) => some (.ret v, s2)
      | none => none
    | none => none
def whlL (c : Env → Option (EV × Env)) (b : Env → Option (Fl × Env)) : Nat → Env → Option (Fl × Env)
  | 0, _ => none
  | n + 1, s => match c s with
    | some (x, s1) => match truE x with
      | some true => match b s1 with
        | some (.nx, s2) => whlL c b n s2
        | some (.cnt, s2) => whlL c b n s2
        | some (.brk, s2) => some (.nx, s2)
        | some (.ret v, s2) => some (.ret v, s2)
        | none => none
      | some false => some (.nx, s1)
      | none => none
    | none => none
section
variable (cf : Cf) (gb : Gb) (W : Nat)
mutual
def ex : CS → Env → Option (Fl × Env)
  | .pass, s => some (.nx, s)
  | .never, _ => none
  | .brk, s => some (.brk, s)
  | .cnt, s => some (.cnt, s)
  | .ret fr e, s => match ev cf gb e s with
    | some (v, s1) => if fr && !v.isCon then none else some (.ret v, s1)
    | none => none
  | .expr e, s => match ev cf gb e s with
    | some (_, s1) => some (.nx, s1)
    | none => none
  | .asg p o e, s => match ev cf gb e s with
    | some (v, s1) => if o && !v.isCon then none else match bindP p v s1 with
      | some s2 => some (.nx, s2)
      | none => none
    | none => none
  | .mov i j, s => match s[j]? with
    | some (some v) => some (.nx, s.set i (some v))
    | _ => none
  | .shr _, s => some (.nx, s)
  | .aug i o e, s => match s[i]? with
    | some (some x) => match ev cf gb e s with
      | some (y, s1) => match x, y with
        | .int _, .int _ => match opE o x y with
          | some z => some (.nx, s1.set i (some z))
          | none => none
        | _, _ => none
      | none => none
    | _ => none
  | .setIx i k v, s => match ev cf gb v s with
    | some (w, s1) => match ev cf gb k s1 with
      | some (y, s2) => match s2[i]? with
        | some (some (.lst xs)) => match y with
          | .int n => match ixN xs.length n with
            | some j => some (.nx, s2.set i (some (.lst (xs.set j w))))
            | none => none
          | _ => none
        | some (some (.dct t kvs)) => if keyOk t y && decide (kvs.length < SZ) then some (.nx, s2.set i (some (.dct t (dPut kvs y w)))) else none
        | _ => none
      | none => none
    | none => none
  | .augIx i k o v, s => match ev cf gb k s with
    | some (y, s1) => match s1[i]? with
      | some (some (.lst xs)) => match y with
        | .int n => match ixN xs.length n with
          | some j => match xs[j]? with
            | some (.int x) => match ev cf gb v s1 with
              | some (.int w, s2) => match opE o (.int x) (.int w) with
                | some z => some (.nx, s2.set i (some (.lst (xs.set j z))))
                | none => none
              | _ => none
            | _ => none
          | none => none
        | _ => none
      | _ => none
    | none => none
  | .app i e, s => match s[i]? with
    | some (some (.lst _)) => match ev cf gb e s with
      | some (v, s1) => match s1[i]? with
        | some (some (.lst xs)) => if xs.length < SZ then some (.nx, s1.set i (some (.lst (xs ++ [v])))) else none
        | _ => none
      | none => none
    | _ => none
  | .ext i e, s => match s[i]? with
    | some (some (.lst _)) => match ev cf gb e s with
      | some (.lst ys, s1) => match s1[i]? with
        | some (some (.lst xs)) => if xs.length + ys.length ≤ SZ then some (.nx, s1.set i (some (.lst (xs ++ ys)))) else none
        | _ => none
      | _ => none
    | _ => none
  | .ife t a b, s => match ev cf gb t s with
    | some (x, s1) => match truE x with
      | some true => exs a s1
      | some false => exs b s1
      | none => none
    | none => none
  | .whl _ t b, s => whlL (fun s => ev cf gb t s) (fun s => exs b s) W s
  | .for _ p k it b, s => match evs cf gb it s with
    | some (ws, s1) => match itE k ws with
      | some xs => forL p (fun s => exs b s) xs s1
      | none => none
    | none => none
  | .tryr b, s => exs b s
def exs : List CS → Env → Option (Fl × Env)
  | [], s => some (.nx, s)
  | c :: cs, s => match ex c s with
    | some (.nx, s1) => exs cs s1
    | some (.brk, s1) => some (.brk, s1)
    | some (.cnt, s1) => some (.cnt, s1)
    | some (.ret v, s1) => some (.ret v, s1)
    | none => none
end
end
/-- a def: its slots in all, its parameters' modes, its body. Modes: 0 shared, 1 borrowed, 2 in and out -/
structure Fn where
  n : Nat
  md : List Nat
  body : List CS
def ioOf : Nat → List Nat → Env → List EV
  | _, [], _ => []
  | i, m :: ms, s => if m = 2 then (match s[i]? with | some (some v) => v :: ioOf (i + 1) ms s | _ => ioOf (i + 1) ms s) else ioOf (i + 1) ms s
def startE (n : Nat) (vs : List EV) : Env := vs.map some ++ List.replicate (n - vs.length) none
/-- what is borrowed or handed in and out is a container -/
def chkE : List Nat → List EV → Bool
  | [], [] => true
  | m :: ms, v :: vs => (m == 0 || v.isCon) && chkE ms vs
  | _, _ => false
def run (P : List Fn) (gb : Gb) (W : Nat) : Nat → Cf
  | 0 => fun _ _ => none
  | d + 1 => fun f vs => match P[f]? with
    | some F => if chkE F.md vs then (match exs (run P gb W d) gb W F.body (startE F.n vs) with
      | some (.ret v, s) => some (v, ioOf 0 F.md s)
      | some (.nx, s) => some (.non, ioOf 0 F.md s)
      | _ => none) else none
    | none => none
end Ev
end

section
set_option Elab.async false
set_option linter.all false
set_option maxRecDepth 100000
set_option maxHeartbeats 4000000
/-! EvB: how a value of the core language stands in the abstract heap; the frame's invariant. -/
namespace Ev
open PySem PySem.Spec PyProof.Rows L2

def sv (s : List Nat) : Str := ⟨s.toArray⟩
theorem sv_cps (s : List Nat) : (sv s).cps.toList = s := by simp [sv]
theorem sv_len (s : List Nat) : (sv s).length = s.length := by simp [sv, Str.length]
theorem sv_inj {a b : List Nat} (h : sv a = sv b) : a = b := by
  have := congrArg (fun x : Str => x.cps.toList) h
  simpa [sv] using this
theorem sv_eq_iff {a b : List Nat} : sv a = sv b ↔ a = b := ⟨sv_inj, fun h => by rw [h]⟩
theorem SZ_eq : SZ = sizeLine := by rw [sizeLine_eq]; rfl

/-- a key -/
inductive KeyR : Key → EV → Prop
  | int (i : Int) : KeyR (.inl i) (.int i)
  | str (s : List Nat) : KeyR (.inr (sv s)) (.str s)
inductive KeysR : List Key → List EV → Prop
  | nil : KeysR [] []
  | cons {k e ks es} : KeyR k e → KeysR ks es → KeysR (k :: ks) (e :: es)
inductive TKeyR : List Key → EV → Prop
  | tup {ks es} : KeysR ks es → TKeyR ks (.tup es)

/-- a list of the module's own -/
def KL (K : PySem.W.Frag) (a : Addr) (xs : List V) : Prop := ∃ (o : Obj) (its : Array Value) (n : Nat), K.lookup a = some o ∧ o.cls = .type "list" ∧ o.dict = none ∧ o.data = .seq its n ∧ its.size ≤ sizeLine ∧ Vals xs its.toList
section
variable (K : PySem.W.Frag) (H : Hp) (A : Addr → Prop)
mutual
/-- a value, not to be written by others: all that it leads to avoids A -/
inductive Rep : V → EV → Prop
  | non : Rep .non .non
  | bl (b : Bool) : Rep (.bl b) (.bl b)
  | int (i : Int) : Rep (.int i) (.int i)
  | str (s : List Nat) : Rep (.str (sv s)) (.str s)
  | tup {a vs xs} : H a = some (.tup vs) → Reps vs xs → Rep (.ref a) (.tup xs)
  | lst {a vs xs} : ¬ A a → H a = some (.lst vs) → Reps vs xs → Rep (.ref a) (.lst xs)
  | dK {a kv xs} : ¬ A a → Rd H a (.dK kv) → RepK kv xs → Rep (.ref a) (.dct 0 xs)
  | dT {a kv xs} : ¬ A a → Rd H a (.dT kv) → RepT kv xs → Rep (.ref a) (.dct 1 xs)
  | scr {a ns} : (¬ A a ∧ Rd H a (.lst (ns.map V.int))) ∨ KL K a (ns.map V.int) → Rep (.ref a) (.scr ns)
inductive Reps : List V → List EV → Prop
  | nil : Reps [] []
  | cons {v x vs xs} : Rep v x → Reps vs xs → Reps (v :: vs) (x :: xs)
inductive RepK : List (Key × V) → List (EV × EV) → Prop
  | nil : RepK [] []
  | cons {k e v x r s} : KeyR k e → Rep v x → RepK r s → RepK ((k, v) :: r) ((e, x) :: s)
inductive RepT : List (List Key × V) → List (EV × EV) → Prop
  | nil : RepT [] []
  | cons {k e v x r s} : TKeyR k e → Rep v x → RepT r s → RepT ((k, v) :: r) ((e, x) :: s)
end
/-- a container at a, what it holds avoids A -/
def RepC (a : Addr) : EV → Prop
  | .lst xs => ∃ vs, H a = some (.lst vs) ∧ Reps K H A vs xs
  | .dct t xs => (t = 0 ∧ ∃ kv, Rd H a (.dK kv) ∧ RepK K H A kv xs) ∨ (t = 1 ∧ ∃ kv, Rd H a (.dT kv) ∧ RepT K H A kv xs)
  | _ => False
/-- a value that is only looked at: a container's own address may be in A -/
def RepP (v : V) (x : EV) : Prop := (x.isCon = true ∧ ∃ a, v = .ref a ∧ RepC K H A a x) ∨ (x.isCon = false ∧ Rep K H A v x)
end

section
variable {K : PySem.W.Frag} {H H' : Hp} {A A' : Addr → Prop} {v : V} {x : EV}
theorem rep_con (hc : x.isCon = true) : Rep K H A v x ↔ ∃ a, v = .ref a ∧ ¬ A a ∧ RepC K H A a x := by
  constructor
  · intro h
    cases h with
    | lst na h r => exact ⟨_, rfl, na, _, h, r⟩
    | dK na h r => exact ⟨_, rfl, na, .inl ⟨rfl, _, h, r⟩⟩
    | dT na h r => exact ⟨_, rfl, na, .inr ⟨rfl, _, h, r⟩⟩
    | _ => cases hc
  · rintro ⟨a, rfl, na, h⟩
    cases x with
    | lst xs => obtain ⟨vs, h, r⟩ := h; exact .lst na h r
    | dct t xs =>
      rcases h with ⟨rfl, kv, h, r⟩ | ⟨rfl, kv, h, r⟩
      · exact .dK na h r
      · exact .dT na h r
    | _ => cases hc
theorem Rep.peek (h : Rep K H A v x) : RepP K H A v x := by
  cases hc : x.isCon with
  | true =>
    obtain ⟨a, e, _, r⟩ := (rep_con hc).mp h
    exact .inl ⟨hc, a, e, r⟩
  | false => exact .inr ⟨hc, h⟩

theorem nf_lst {xs : List V} (o : Obj) (w : HO) : HO.lst xs ≠ .frz o w := fun h => nomatch h
theorem nf_dK {kv : List (Key × V)} (o : Obj) (w : HO) : HO.dK kv ≠ .frz o w := fun h => nomatch h
theorem nf_dT {kv : List (List Key × V)} (o : Obj) (w : HO) : HO.dT kv ≠ .frz o w := fun h => nomatch h
/-- what keeps values standing -/
structure Keep (A : Addr → Prop) (H H' : Hp) : Prop where
  rd : ∀ a u, ¬ A a → (∀ o w, u ≠ .frz o w) → Rd H a u → Rd H' a u
  lst : ∀ a vs, ¬ A a → H a = some (.lst vs) → H' a = some (.lst vs)
  tup : ∀ a vs, H a = some (.tup vs) → H' a = some (.tup vs)
theorem Keep.rfl : Keep A H H := ⟨fun _ _ _ _ h => h, fun _ _ _ h => h, fun _ _ h => h⟩
theorem Rd.tracked {a : Addr} {u : HO} (h : Rd H a u) : H a ≠ none := by rcases h with h | ⟨o, h⟩ <;> (rw [h]; simp)
mutual
theorem Rep.mono : ∀ {v : V} {x : EV}, Rep K H A v x → Keep A H H' → (∀ a, ¬ A a → H a ≠ none → ¬ A' a) → Rep K H' A' v x
  | _, _, .non, _, _ => .non
  | _, _, .bl b, _, _ => .bl b
  | _, _, .int i, _, _ => .int i
  | _, _, .str s, _, _ => .str s
  | _, _, .tup h r, k, ha => .tup (k.tup _ _ h) (r.mono k ha)
  | _, _, .lst na h r, k, ha => .lst (ha _ na (by rw [h]; simp)) (k.lst _ _ na h) (r.mono k ha)
  | _, _, .dK na h r, k, ha => .dK (ha _ na (Rd.tracked h)) (k.rd _ _ na nf_dK h) (r.mono k ha)
  | _, _, .dT na h r, k, ha => .dT (ha _ na (Rd.tracked h)) (k.rd _ _ na nf_dT h) (r.mono k ha)
  | _, _, .scr h, k, ha => .scr (h.imp (fun h => ⟨ha _ h.1 (Rd.tracked h.2), k.rd _ _ h.1 nf_lst h.2⟩) id)
theorem Reps.mono : ∀ {v : List V} {x : List EV}, Reps K H A v x → Keep A H H' → (∀ a, ¬ A a → H a ≠ none → ¬ A' a) → Reps K H' A' v x
  | _, _, .nil, _, _ => .nil
  | _, _, .cons h r, k, ha => .cons (h.mono k ha) (r.mono k ha)
theorem RepK.mono : ∀ {v : List (Key × V)} {x : List (EV × EV)}, RepK K H A v x → Keep A H H' → (∀ a, ¬ A a → H a ≠ none → ¬ A' a) → RepK K H' A' v x
  | _, _, .nil, _, _ => .nil
  | _, _, .cons e h r, k, ha => .cons e (h.mono k ha) (r.mono k ha)
theorem RepT.mono : ∀ {v : List (List Key × V)} {x : List (EV × EV)}, RepT K H A v x → Keep A H H' → (∀ a, ¬ A a → H a ≠ none → ¬ A' a) → RepT K H' A' v x
  | _, _, .nil, _, _ => .nil
  | _, _, .cons e h r, k, ha => .cons e (h.mono k ha) (r.mono k ha)
end
end
end Ev
end

section
set_option Elab.async false
set_option linter.all false
set_option maxRecDepth 100000
set_option maxHeartbeats 4000000
/-! EvC: the frame's invariant. -/
namespace Ev
open PySem PySem.Spec PyProof.Rows L2

/-- what stays through a frame: the heap at the entry; what callers hold for themselves; what of this may be written here; values that are kept; slots that are fixed -/
structure Frm where
  H0 : Hp
  A0 : Addr → Prop
  M : Addr → Prop
  kp : List (V × EV)
  fx : List (Nat × Addr × EV)
  /-- the parameters handed in and out -/
  io : List Nat
  /-- .. where they stand -/
  ia : List (Nat × Addr)
def Sta.own : Sta → Bool
  | .O => true
  | .I => true
  | _ => false
def OwnA (S : List Sta) (σ : L2.St) (a : Addr) : Prop := ∃ (i : Nat) (st : Sta), S[i]? = some st ∧ st.own = true ∧ σ[i]? = some (some (.ref a))
def Av (F : Frm) (E : Addr → Prop) (S : List Sta) (σ : L2.St) (a : Addr) : Prop := F.A0 a ∨ E a ∨ OwnA S σ a
/-- may be written -/
def Wr (H : Hp) (a : Addr) : Prop := ∃ u, H a = some u ∧ ∀ o w, u ≠ .frz o w
def plusA (E : Addr → Prop) (p : Addr) : Addr → Prop := fun a => E a ∨ a = p

section
variable (K : PySem.W.Frag)
def SlotOk (H : Hp) (A : Addr → Prop) : Sta → Option EV → Option V → Prop
  | .N, _, _ => True
  | .S, e, v => ∃ x u, e = some x ∧ v = some u ∧ Rep K H A u x
  | .B, e, v => ∃ x a, e = some x ∧ v = some (.ref a) ∧ x.isCon = true ∧ RepC K H A a x
  | .O, e, v => ∃ x a, e = some x ∧ v = some (.ref a) ∧ x.isCon = true ∧ RepC K H A a x ∧ Wr H a
  | .I, e, v => ∃ x a, e = some x ∧ v = some (.ref a) ∧ x.isCon = true ∧ RepC K H A a x ∧ Wr H a
structure Rel (F : Frm) (E : Addr → Prop) (S : List Sta) (env : Env) (σ : L2.St) (H : Hp) : Prop where
  le : env.length = S.length
  ls : σ.length = S.length
  slot : ∀ (i : Nat) (st : Sta), S[i]? = some st → ∃ e v, env[i]? = some e ∧ σ[i]? = some v ∧ SlotOk K H (Av F E S σ) st e v
  uniq : ∀ (i j : Nat) (a : Addr) (st st' : Sta), i ≠ j → S[i]? = some st → st.own = true → S[j]? = some st' → (st'.own = true ∨ st' = .B) → σ[i]? = some (some (.ref a)) → σ[j]? ≠ some (some (.ref a))
  pres : ∀ a o, F.H0 a = some o → ¬ F.M a → H a = some o
  live : ∀ a, F.H0 a ≠ none → H a ≠ none
  a0 : ∀ a, F.A0 a → F.H0 a ≠ none
  m0 : ∀ a, F.M a → F.A0 a
  eT : ∀ a, E a → H a ≠ none
  eD : ∀ a, E a → ¬ OwnA S σ a
  fresh : ∀ (i : Nat) a, S[i]? = some .O → σ[i]? = some (some (.ref a)) → F.H0 a = none
  inn : ∀ (i : Nat) a, S[i]? = some .I → σ[i]? = some (some (.ref a)) → F.M a
  kept : ∀ p ∈ F.kp, Rep K H (Av F E S σ) p.1 p.2
  fix : ∀ p ∈ F.fx, S[p.1]? = some .B ∧ σ[p.1]? = some (some (.ref p.2.1)) ∧ env[p.1]? = some (some p.2.2)
  ios : ∀ (i : Nat), i ∈ F.io → S[i]? = some .I ∨ S[i]? = some .B
  bx : ∀ (i : Nat), S[i]? = some .B → ∃ p ∈ F.fx, p.1 = i
  ioa : ∀ p ∈ F.ia, p.1 ∈ F.io ∧ σ[p.1]? = some (some (.ref p.2))
end

section
variable {K : PySem.W.Frag} {F : Frm} {E E' : Addr → Prop} {S S' : List Sta} {env env' : Env} {σ σ' : L2.St} {H H' : Hp} {A A' : Addr → Prop} {a p : Addr} {x : EV} {v : V} {i : Nat}

theorem RepC.tracked (h : RepC K H A a x) : H a ≠ none := by
  cases x with
  | lst xs => obtain ⟨vs, h, _⟩ := h; rw [h]; simp
  | dct t xs => rcases h with ⟨_, kv, h, _⟩ | ⟨_, kv, h, _⟩ <;> exact Rd.tracked h
  | _ => exact h.elim
theorem RepC.mono' (h : RepC K H A a x) (k : Keep A H H') (ha : ∀ b, ¬ A b → H b ≠ none → ¬ A' b) (hl : ∀ vs, H a = some (.lst vs) → H' a = some (.lst vs)) (hr : ∀ u, (∀ o w, u ≠ .frz o w) → Rd H a u → Rd H' a u) : RepC K H' A' a x := by
  cases x with
  | lst xs => obtain ⟨vs, h, r⟩ := h; exact ⟨vs, hl vs h, r.mono k ha⟩
  | dct t xs =>
    rcases h with ⟨e, kv, h, r⟩ | ⟨e, kv, h, r⟩
    · exact .inl ⟨e, kv, hr _ nf_dK h, r.mono k ha⟩
    · exact .inr ⟨e, kv, hr _ nf_dT h, r.mono k ha⟩
  | _ => exact h.elim
theorem RepP.mono' (h : RepP K H A v x) (k : Keep A H H') (ha : ∀ b, ¬ A b → H b ≠ none → ¬ A' b) (hl : ∀ a, v = .ref a → ∀ vs, H a = some (.lst vs) → H' a = some (.lst vs)) (hr : ∀ a, v = .ref a → ∀ u, (∀ o w, u ≠ .frz o w) → Rd H a u → Rd H' a u) : RepP K H' A' v x := by
  rcases h with ⟨hc, a, e, h⟩ | ⟨hc, h⟩
  · exact .inl ⟨hc, a, e, h.mono' k ha (hl a e) (hr a e)⟩
  · exact .inr ⟨hc, h.mono k ha⟩

/-- nothing that stands is changed -/
def Ext (H H' : Hp) : Prop := ∀ a o, H a = some o → H' a = some o
theorem Ext.rfl : Ext H H := fun _ _ h => h
theorem Ext.trans {H'' : Hp} (h : Ext H H') (k : Ext H' H'') : Ext H H'' := fun a o e => k a o (h a o e)
theorem Ext.upd {o : HO} (h : H p = none) : Ext H (upd H p o) := fun a u e => by rw [upd_ne (ne_of_none e h)]; exact e
theorem Ext.rd (h : Ext H H') {u : HO} (r : Rd H a u) : Rd H' a u := r.imp (h a _) fun ⟨o, e⟩ => ⟨o, h a _ e⟩
theorem Ext.keep (h : Ext H H') : Keep A H H' := ⟨fun a u _ _ r => h.rd r, fun a vs _ e => h a _ e, fun a vs e => h a _ e⟩
theorem Ext.live (h : Ext H H') (e : H a ≠ none) : H' a ≠ none := by
  cases q : H a with
  | none => exact absurd q e
  | some o => rw [h a o q]; simp

theorem Rel.own_at (R : Rel K F E S env σ H) (h : OwnA S σ a) : ∃ (i : Nat) (st : Sta) (x : EV), S[i]? = some st ∧ st.own = true ∧ σ[i]? = some (some (.ref a)) ∧ env[i]? = some (some x) ∧ x.isCon = true ∧ RepC K H (Av F E S σ) a x ∧ Wr H a := by
  obtain ⟨i, st, h1, h2, h3⟩ := h
  obtain ⟨e, v, e1, e2, ok⟩ := R.slot i st h1
  rw [h3] at e2
  cases e2
  cases st with
  | O => obtain ⟨x, b, rfl, q, c, r, w⟩ := ok; cases q; exact ⟨i, _, x, h1, h2, h3, e1, c, r, w⟩
  | I => obtain ⟨x, b, rfl, q, c, r, w⟩ := ok; cases q; exact ⟨i, _, x, h1, h2, h3, e1, c, r, w⟩
  | _ => cases h2
theorem RepC.notup (h : RepC K H A a x) (vs : List V) : H a ≠ some (.tup vs) := fun e => by
  cases x with
  | lst xs => obtain ⟨vs, h, _⟩ := h; rw [h] at e; cases e
  | dct t xs => rcases h with ⟨_, kv, h, _⟩ | ⟨_, kv, h, _⟩ <;> (rcases h with h | ⟨o, h⟩ <;> (rw [h] at e; cases e))
  | _ => exact h.elim
theorem Rel.own_tup (R : Rel K F E S env σ H) (h : OwnA S σ a) (vs : List V) : H a ≠ some (.tup vs) := by
  obtain ⟨_, _, x, _, _, _, _, _, r, _⟩ := R.own_at h
  exact r.notup vs
theorem Rel.av_tracked (R : Rel K F E S env σ H) (h : Av F E S σ a) : H a ≠ none := by
  rcases h with h | h | h
  · exact R.live a (R.a0 a h)
  · exact R.eT a h
  · obtain ⟨_, _, x, _, _, _, _, _, r, _⟩ := R.own_at h
    exact r.tracked
theorem Rel.new_av (R : Rel K F E S env σ H) (h : H p = none) : ¬ Av F E S σ p := fun q => R.av_tracked q h
theorem SlotOk.mono {st : Sta} {e : Option EV} {u : Option V} (h : SlotOk K H A st e u) (k : Keep A H H') (ha : ∀ b, ¬ A b → H b ≠ none → ¬ A' b) (hx : ∀ a, u = some (.ref a) → ∀ o, H a = some o → H' a = some o) : SlotOk K H' A' st e u := by
  cases st with
  | N => trivial
  | S => obtain ⟨x, u, h1, h2, r⟩ := h; exact ⟨x, u, h1, h2, r.mono k ha⟩
  | B =>
    obtain ⟨x, a, h1, h2, c, r⟩ := h
    exact ⟨x, a, h1, h2, c, r.mono' k ha (fun vs q => hx a h2 _ q) fun o _ q => q.imp (hx a h2 _) fun ⟨ob, z⟩ => ⟨ob, hx a h2 _ z⟩⟩
  | O =>
    obtain ⟨x, a, h1, h2, c, r, u, w1, w2⟩ := h
    exact ⟨x, a, h1, h2, c, r.mono' k ha (fun vs q => hx a h2 _ q) fun o _ q => q.imp (hx a h2 _) fun ⟨ob, z⟩ => ⟨ob, hx a h2 _ z⟩, u, hx a h2 _ w1, w2⟩
  | I =>
    obtain ⟨x, a, h1, h2, c, r, u, w1, w2⟩ := h
    exact ⟨x, a, h1, h2, c, r.mono' k ha (fun vs q => hx a h2 _ q) fun o _ q => q.imp (hx a h2 _) fun ⟨ob, z⟩ => ⟨ob, hx a h2 _ z⟩, u, hx a h2 _ w1, w2⟩
/-- the heap grows; E may be more by what was not there -/
theorem Rel.ext (R : Rel K F E S env σ H) (x : Ext H H') (h1 : ∀ a, E a → E' a) (h2 : ∀ a, E' a → E a ∨ H a = none) (h3 : ∀ a, E' a → H' a ≠ none) : Rel K F E' S env σ H' := by
  have hA : ∀ b, ¬ Av F E S σ b → H b ≠ none → ¬ Av F E' S σ b := fun b n t q => by
    rcases q with q | q | q
    · exact n (.inl q)
    · rcases h2 b q with z | z
      · exact n (.inr (.inl z))
      · exact t z
    · exact n (.inr (.inr q))
  refine ⟨R.le, R.ls, fun i st h => ?_, R.uniq, fun a o h n => x a o (R.pres a o h n), fun a h => x.live (R.live a h), R.a0, R.m0, h3, fun a h q => ?_, R.fresh, R.inn, fun p hp => (R.kept p hp).mono x.keep hA, R.fix, R.ios, R.bx, R.ioa⟩
  · obtain ⟨e, v, e1, e2, ok⟩ := R.slot i st h
    exact ⟨e, v, e1, e2, ok.mono x.keep hA fun a _ o => x a o⟩
  · rcases h2 a h with z | z
    · exact R.eD a z q
    · exact R.av_tracked (.inr (.inr q)) z
theorem Rel.grow (R : Rel K F E S env σ H) (x : Ext H H') : Rel K F E S env σ H' := R.ext x (fun _ h => h) (fun _ h => .inl h) fun a h => x.live (R.eT a h)
theorem Rel.alloc (R : Rel K F E S env σ H) {o : HO} (h : H p = none) : Rel K F E S env σ (upd H p o) := R.grow (Ext.upd h)
theorem Rel.allocE (R : Rel K F E S env σ H) {o : HO} (h : H p = none) : Rel K F (plusA E p) S env σ (upd H p o) :=
  R.ext (Ext.upd h) (fun _ q => .inl q) (fun a q => q.imp id fun e => by rw [e]; exact h) fun a q => by
    rcases q with q | rfl
    · exact (Ext.upd h).live (R.eT a q)
    · rw [upd_same]; simp
theorem Rel.lessE (R : Rel K F E S env σ H) (h : ∀ a, E' a → E a) : Rel K F E' S env σ H := by
  have hA : ∀ b, ¬ Av F E S σ b → H b ≠ none → ¬ Av F E' S σ b := fun b n _ q => n (q.imp id (Or.imp (h b) id))
  refine ⟨R.le, R.ls, fun i st q => ?_, R.uniq, R.pres, R.live, R.a0, R.m0, fun a q => R.eT a (h a q), fun a q => R.eD a (h a q), R.fresh, R.inn, fun p hp => (R.kept p hp).mono .rfl hA, R.fix, R.ios, R.bx, R.ioa⟩
  obtain ⟨e, v, e1, e2, ok⟩ := R.slot i st q
  exact ⟨e, v, e1, e2, ok.mono .rfl hA fun a _ o z => z⟩
theorem keep_upd {o : HO} (h : A a) (ht : ∀ vs, H a ≠ some (.tup vs)) : Keep A H (upd H a o) := ⟨fun b u n _ r => by
    have ne : b ≠ a := fun e => n (e ▸ h)
    exact r.imp (fun r => by rw [upd_ne ne]; exact r) fun ⟨ob, r⟩ => ⟨ob, by rw [upd_ne ne]; exact r⟩, fun b vs n r => by
    have ne : b ≠ a := fun e => n (e ▸ h)
    rw [upd_ne ne]; exact r, fun b vs r => by
    have ne : b ≠ a := fun e => ht vs (e ▸ r)
    rw [upd_ne ne]; exact r⟩
theorem set_get {α : Type} {l : List α} {i j : Nat} {y z : α} (h : (l.set i y)[j]? = some z) : (i = j ∧ y = z) ∨ (i ≠ j ∧ l[j]? = some z) := by
  by_cases e : i = j
  · subst e
    rw [List.getElem?_set_self'] at h
    cases q : l[i]? with
    | none => rw [q] at h; cases h
    | some w => rw [q] at h; exact .inl ⟨rfl, Option.some.inj h⟩
  · rw [List.getElem?_set_ne e] at h
    exact .inr ⟨e, h⟩
theorem get_lt {α : Type} {l : List α} {i : Nat} {y : α} (h : l[i]? = some y) : i < l.length := (List.getElem?_eq_some_iff.mp h).1
/-- an owned container is written -/
theorem Rel.write (R : Rel K F E S env σ H) {st : Sta} {o : HO} (hi : S[i]? = some st) (ho : st.own = true) (hs : σ[i]? = some (some (.ref a))) (hc : x.isCon = true)
    (hn : RepC K (upd H a o) (Av F E S σ) a x) (hw : ∀ ob w, o ≠ .frz ob w) : Rel K F E S (env.set i (some x)) σ (upd H a o) := by
  have own : OwnA S σ a := ⟨i, st, hi, ho, hs⟩
  have av : Av F E S σ a := .inr (.inr own)
  have ht : ∀ vs, H a ≠ some (.tup vs) := R.own_tup own
  have kp : Keep (Av F E S σ) H (upd H a o) := keep_upd av ht
  have tr : H a ≠ none := R.av_tracked av
  have liv : ∀ b, H b ≠ none → upd H a o b ≠ none := fun b hb => by
    by_cases e : b = a
    · subst e; rw [upd_same]; simp
    · rw [upd_ne e]; exact hb
  refine ⟨by rw [List.length_set]; exact R.le, R.ls, fun j st' h => ?_, fun j k b st1 st2 ne h1 h2 h3 h4 h5 => ?_, fun b ob h n => ?_, fun b h => liv b (R.live b h), R.a0, R.m0, fun b h => liv b (R.eT b h), R.eD, R.fresh, R.inn, fun p hp => (R.kept p hp).mono kp fun b n _ => n, fun p hp => ?_, R.ios, R.bx, R.ioa⟩
  · obtain ⟨e, v, e1, e2, ok⟩ := R.slot j st' h
    by_cases hj : i = j
    · subst hj
      rw [hi] at h
      cases h
      refine ⟨some x, v, by rw [List.getElem?_set_self (get_lt e1)], e2, ?_⟩
      rw [hs] at e2
      cases e2
      cases st with
      | O => exact ⟨x, a, rfl, rfl, hc, hn, o, upd_same, hw⟩
      | I => exact ⟨x, a, rfl, rfl, hc, hn, o, upd_same, hw⟩
      | _ => cases ho
    · refine ⟨e, v, by rw [List.getElem?_set_ne hj]; exact e1, e2, ?_⟩
      have ne : ∀ b, v = some (.ref b) → (st'.own = true ∨ st' = .B) → b ≠ a := fun b eb k q => by
        subst q
        refine R.uniq i j b st st' hj hi ho h k hs ?_
        rw [e2, eb]
      have cc : ∀ {y : EV} {b : Addr}, b ≠ a → RepC K H (Av F E S σ) b y → RepC K (upd H a o) (Av F E S σ) b y := fun {y b} nb r =>
        r.mono' kp (fun b n _ => n) (fun vs q => by rw [upd_ne nb]; exact q) fun u _ q => q.imp (fun q => by rw [upd_ne nb]; exact q) fun ⟨ob, q⟩ => ⟨ob, by rw [upd_ne nb]; exact q⟩
      cases st' with
      | N => trivial
      | S => obtain ⟨y, u, h1, h2, r⟩ := ok; exact ⟨y, u, h1, h2, r.mono kp fun b n _ => n⟩
      | B =>
        obtain ⟨y, b, h1, h2, c, r⟩ := ok
        exact ⟨y, b, h1, h2, c, cc (ne b h2 (.inr rfl)) r⟩
      | O =>
        obtain ⟨y, b, h1, h2, c, r, u, w1, w2⟩ := ok
        have nb := ne b h2 (.inl rfl)
        exact ⟨y, b, h1, h2, c, cc nb r, u, by rw [upd_ne nb]; exact w1, w2⟩
      | I =>
        obtain ⟨y, b, h1, h2, c, r, u, w1, w2⟩ := ok
        have nb := ne b h2 (.inl rfl)
        exact ⟨y, b, h1, h2, c, cc nb r, u, by rw [upd_ne nb]; exact w1, w2⟩
  · exact R.uniq j k b st1 st2 ne h1 h2 h3 h4 h5
  · have nb : b ≠ a := fun e => by
      subst e
      cases st with
      | O => rw [R.fresh i b hi hs] at h; cases h
      | I => exact n (R.inn i b hi hs)
      | _ => cases ho
    rw [upd_ne nb]
    exact R.pres b ob h n
  · obtain ⟨f1, f2, f3⟩ := R.fix p hp
    refine ⟨f1, f2, ?_⟩
    have ne : i ≠ p.1 := fun e => by
      rw [← e, hi] at f1
      cases f1
      cases ho
    rw [List.getElem?_set_ne ne]
    exact f3

/-- a slot takes a shared value -/
theorem own_set {st : Sta} (hst : st.own = false) {w : Option V} (h : OwnA (S.set i st) (σ.set i w) a) : OwnA S σ a := by
  obtain ⟨j, st', h1, h2, h3⟩ := h
  rcases set_get h1 with ⟨e1, e2⟩ | ⟨n, h1⟩
  · rw [e2] at hst; rw [hst] at h2; cases h2
  · rcases set_get h3 with ⟨e1, _⟩ | ⟨_, h3⟩
    · exact absurd e1 n
    · exact ⟨j, st', h1, h2, h3⟩
theorem ios_set {st st' : Sta} {j : Nat} (hi : S[i]? = some st) (h1 : st ≠ .I) (h2 : st ≠ .B) (h : S[j]? = some .I ∨ S[j]? = some .B) : (S.set i st')[j]? = some .I ∨ (S.set i st')[j]? = some .B := by
  have ne : i ≠ j := fun e => by
    subst e
    rw [hi] at h
    rcases h with h | h
    · cases h; exact h1 rfl
    · cases h; exact h2 rfl
  rw [List.getElem?_set_ne ne]
  exact h
theorem ioa_set {st : Sta} {j : Nat} {w : Option V} {P : Prop} {b : Addr} (hi : S[i]? = some st) (h1 : st ≠ .I) (h2 : st ≠ .B) (h : S[j]? = some .I ∨ S[j]? = some .B) (k : P ∧ σ[j]? = some (some (.ref b))) : P ∧ (σ.set i w)[j]? = some (some (.ref b)) := by
  have ne : i ≠ j := fun e => by
    subst e
    rw [hi] at h
    rcases h with h | h
    · cases h; exact h1 rfl
    · cases h; exact h2 rfl
  rw [List.getElem?_set_ne ne]
  exact k
theorem b_set {st : Sta} {j : Nat} (n : st ≠ .B) (h : (S.set i st)[j]? = some .B) : S[j]? = some .B := by
  rcases set_get h with ⟨_, e⟩ | ⟨_, h⟩
  · exact absurd e n
  · exact h
theorem Rel.setS (R : Rel K F E S env σ H) {st : Sta} (hi : S[i]? = some st) (h1 : st ≠ .I) (h2 : st ≠ .B) (r : Rep K H (Av F E S σ) v x) : Rel K F E (S.set i .S) (env.set i (some x)) (σ.set i (some v)) H := by
  have hA : ∀ b, ¬ Av F E S σ b → H b ≠ none → ¬ Av F E (S.set i .S) (σ.set i (some v)) b := fun b n _ q => n (q.imp id (Or.imp id (own_set rfl)))
  have li : i < S.length := get_lt hi
  refine ⟨by simp [R.le], by simp [R.ls], fun j st' h => ?_, fun j k b st1 st2 ne q1 q2 q3 q4 q5 => ?_, R.pres, R.live, R.a0, R.m0, R.eT, fun b hb q => R.eD b hb (own_set rfl q), fun j b q1 q2 => ?_, fun j b q1 q2 => ?_, fun p hp => (R.kept p hp).mono .rfl hA, fun p hp => ?_, fun j hj => ios_set hi h1 h2 (R.ios j hj), fun j hj => R.bx j (b_set (by decide) hj), fun p hp => ioa_set hi h1 h2 (R.ios p.1 (R.ioa p hp).1) (R.ioa p hp)⟩
  · by_cases hj : i = j
    · subst hj
      rw [List.getElem?_set_self li] at h
      cases h
      exact ⟨some x, some v, List.getElem?_set_self (by rw [R.le]; exact li), List.getElem?_set_self (by rw [R.ls]; exact li), x, v, rfl, rfl, r.mono .rfl hA⟩
    · rw [List.getElem?_set_ne hj] at h
      obtain ⟨e, v', e1, e2, ok⟩ := R.slot j st' h
      exact ⟨e, v', by rw [List.getElem?_set_ne hj]; exact e1, by rw [List.getElem?_set_ne hj]; exact e2, ok.mono .rfl hA fun _ _ _ z => z⟩
  · rcases set_get q1 with ⟨e1, e2⟩ | ⟨n1, q1⟩
    · rw [← e2] at q2; cases q2
    rcases set_get q5 with ⟨e1, _⟩ | ⟨_, q5⟩
    · exact absurd e1 n1
    rcases set_get q3 with ⟨e1, e2⟩ | ⟨n3, q3⟩
    · rw [← e2] at q4; rcases q4 with q4 | q4 <;> cases q4
    rw [List.getElem?_set_ne n3]
    exact R.uniq j k b st1 st2 ne q1 q2 q3 q4 q5
  · rcases set_get q1 with ⟨_, e2⟩ | ⟨n1, q1⟩
    · cases e2
    rcases set_get q2 with ⟨e1, _⟩ | ⟨_, q2⟩
    · exact absurd e1 n1
    exact R.fresh j b q1 q2
  · rcases set_get q1 with ⟨_, e2⟩ | ⟨n1, q1⟩
    · cases e2
    rcases set_get q2 with ⟨e1, _⟩ | ⟨_, q2⟩
    · exact absurd e1 n1
    exact R.inn j b q1 q2
  · obtain ⟨f1, f2, f3⟩ := R.fix p hp
    have ne : i ≠ p.1 := fun e => by rw [← e, hi] at f1; cases f1; exact h2 rfl
    exact ⟨by rw [List.getElem?_set_ne ne]; exact f1, by rw [List.getElem?_set_ne ne]; exact f2, by rw [List.getElem?_set_ne ne]; exact f3⟩

/-- a slot takes a container that is nobody else's -/
theorem own_setO (h : OwnA (S.set i .O) (σ.set i (some (.ref p))) a) : OwnA S σ a ∨ a = p := by
  obtain ⟨j, st', h1, h2, h3⟩ := h
  rcases set_get h3 with ⟨e1, e2⟩ | ⟨n, h3⟩
  · cases e2; exact .inr rfl
  · rcases set_get h1 with ⟨e1, _⟩ | ⟨_, h1⟩
    · exact absurd e1 n
    · exact .inl ⟨j, st', h1, h2, h3⟩
theorem Rel.setO (R : Rel K F (plusA E p) S env σ H) {st : Sta} (hi : S[i]? = some st) (h1 : st ≠ .I) (h2 : st ≠ .B) (hc : x.isCon = true) (r : RepC K H (Av F (plusA E p) S σ) p x) (w : Wr H p)
    (h0 : F.H0 p = none) (hE : ¬ E p) (hB : ∀ (j : Nat), S[j]? = some .B → σ[j]? ≠ some (some (.ref p))) :
    Rel K F E (S.set i .O) (env.set i (some x)) (σ.set i (some (.ref p))) H := by
  have hA : ∀ b, ¬ Av F (plusA E p) S σ b → H b ≠ none → ¬ Av F E (S.set i .O) (σ.set i (some (.ref p))) b := fun b n _ q => n (by
    rcases q with q | q | q
    · exact .inl q
    · exact .inr (.inl (.inl q))
    · rcases own_setO q with q | q
      · exact .inr (.inr q)
      · exact .inr (.inl (.inr q)))
  have li : i < S.length := get_lt hi
  have nown : ¬ OwnA S σ p := R.eD p (.inr rfl)
  refine ⟨by simp [R.le], by simp [R.ls], fun j st' h => ?_, fun j k b st1 st2 ne q1 q2 q3 q4 q5 => ?_, R.pres, R.live, R.a0, R.m0, fun a h => R.eT a (.inl h), fun b hb q => ?_, fun j b q1 q2 => ?_, fun j b q1 q2 => ?_, fun p hp => (R.kept p hp).mono .rfl hA, fun p' hp => ?_, fun j hj => ios_set hi h1 h2 (R.ios j hj), fun j hj => R.bx j (b_set (by decide) hj), fun p hp => ioa_set hi h1 h2 (R.ios p.1 (R.ioa p hp).1) (R.ioa p hp)⟩
  · by_cases hj : i = j
    · subst hj
      rw [List.getElem?_set_self li] at h
      cases h
      exact ⟨some x, some (.ref p), List.getElem?_set_self (by rw [R.le]; exact li), List.getElem?_set_self (by rw [R.ls]; exact li), x, p, rfl, rfl, hc, r.mono' .rfl hA (fun _ q => q) fun _ _ q => q, w⟩
    · rw [List.getElem?_set_ne hj] at h
      obtain ⟨e, v', e1, e2, ok⟩ := R.slot j st' h
      exact ⟨e, v', by rw [List.getElem?_set_ne hj]; exact e1, by rw [List.getElem?_set_ne hj]; exact e2, ok.mono .rfl hA fun _ _ _ z => z⟩
  · intro q6
    rcases set_get q5 with ⟨e1, e2⟩ | ⟨n1, q5⟩
    · cases e2
      rcases set_get q6 with ⟨e3, _⟩ | ⟨n3, q6⟩
      · exact ne (e1.symm.trans e3)
      rw [List.getElem?_set_ne n3] at q3
      rcases q4 with q4 | q4
      · exact nown ⟨k, st2, q3, q4, q6⟩
      · subst q4
        exact hB k q3 q6
    · rw [List.getElem?_set_ne n1] at q1
      rcases set_get q6 with ⟨e3, e4⟩ | ⟨n3, q6⟩
      · cases e4
        exact nown ⟨j, st1, q1, q2, q5⟩
      · rw [List.getElem?_set_ne n3] at q3
        exact R.uniq j k b st1 st2 ne q1 q2 q3 q4 q5 q6
  · rcases own_setO q with q | q
    · exact R.eD b (.inl hb) q
    · subst q; exact hE hb
  · rcases set_get q2 with ⟨e1, e2⟩ | ⟨n1, q2⟩
    · cases e2; exact h0
    rw [List.getElem?_set_ne n1] at q1
    exact R.fresh j b q1 q2
  · rcases set_get q2 with ⟨e1, e2⟩ | ⟨n1, q2⟩
    · subst e1
      rw [List.getElem?_set_self li] at q1
      cases q1
    rw [List.getElem?_set_ne n1] at q1
    exact R.inn j b q1 q2
  · obtain ⟨f1, f2, f3⟩ := R.fix p' hp
    have ne : i ≠ p'.1 := fun e => by rw [← e, hi] at f1; cases f1; exact h2 rfl
    exact ⟨by rw [List.getElem?_set_ne ne]; exact f1, by rw [List.getElem?_set_ne ne]; exact f2, by rw [List.getElem?_set_ne ne]; exact f3⟩

/-- what may be forgotten of slots -/
def Sta.le : Sta → Sta → Bool
  | .N, .N => true
  | .S, .S => true
  | .S, .N => true
  | .B, .B => true
  | .O, .O => true
  | .O, .S => true
  | .O, .N => true
  | .I, .I => true
  | _, _ => false
def stsLe : List Sta → List Sta → Bool
  | [], [] => true
  | a :: as, b :: bs => a.le b && stsLe as bs
  | _, _ => false
theorem stsLe_get : ∀ {S S' : List Sta} {i : Nat} {st' : Sta}, stsLe S S' = true → S'[i]? = some st' → ∃ st, S[i]? = some st ∧ st.le st' = true
  | [], [], _, _, _, h => by simp at h
  | a :: as, b :: bs, 0, st', h, e => by
    unfold stsLe at h
    rw [Bool.and_eq_true] at h
    simp at e
    subst e
    exact ⟨a, by simp, h.1⟩
  | a :: as, b :: bs, i + 1, st', h, e => by
    unfold stsLe at h
    rw [Bool.and_eq_true] at h
    obtain ⟨st, h1, h2⟩ := stsLe_get (i := i) h.2 (by simpa using e)
    exact ⟨st, by simpa using h1, h2⟩
  | [], _ :: _, _, _, h, _ => by cases h
  | _ :: _, [], _, _, h, _ => by cases h
theorem stsLe_back : ∀ {S S' : List Sta} {i : Nat} {st : Sta}, stsLe S S' = true → S[i]? = some st → ∃ st', S'[i]? = some st' ∧ st.le st' = true
  | [], [], _, _, _, h => by simp at h
  | a :: as, b :: bs, 0, st', h, e => by
    unfold stsLe at h
    rw [Bool.and_eq_true] at h
    simp at e
    subst e
    exact ⟨b, by simp, h.1⟩
  | a :: as, b :: bs, i + 1, st', h, e => by
    unfold stsLe at h
    rw [Bool.and_eq_true] at h
    obtain ⟨st, h1, h2⟩ := stsLe_back (i := i) h.2 (by simpa using e)
    exact ⟨st, by simpa using h1, h2⟩
  | [], _ :: _, _, _, h, _ => by cases h
  | _ :: _, [], _, _, h, _ => by cases h
theorem stsLe_len : ∀ {S S' : List Sta}, stsLe S S' = true → S.length = S'.length
  | [], [], _ => rfl
  | a :: as, b :: bs, h => by
    unfold stsLe at h
    rw [Bool.and_eq_true] at h
    simp [stsLe_len h.2]
  | [], _ :: _, h => by cases h
  | _ :: _, [], h => by cases h
theorem stsLe_refl : ∀ (S : List Sta), stsLe S S = true
  | [] => rfl
  | a :: as => by unfold stsLe; rw [stsLe_refl as]; cases a <;> rfl
theorem Sta.le_own {st st' : Sta} (h : st.le st' = true) (o : st'.own = true) : st = st' := by cases st <;> cases st' <;> first | rfl | exact absurd h (by decide) | exact absurd o (by decide)
theorem Sta.le_B {st : Sta} (h : st.le .B = true) : st = .B := by cases st <;> first | rfl | exact absurd h (by decide)
theorem Sta.B_le {st : Sta} (h : Sta.le .B st = true) : st = .B := by cases st <;> first | rfl | exact absurd h (by decide)
theorem Sta.I_le {st : Sta} (h : Sta.le .I st = true) : st = .I := by cases st <;> first | rfl | exact absurd h (by decide)
theorem own_weak (h : stsLe S S' = true) (o : OwnA S' σ a) : OwnA S σ a := by
  obtain ⟨i, st, h1, h2, h3⟩ := o
  obtain ⟨st', q1, q2⟩ := stsLe_get h h1
  rw [Sta.le_own q2 h2] at q1
  exact ⟨i, st, q1, h2, h3⟩
theorem Rel.weak (R : Rel K F E S env σ H) (h : stsLe S S' = true) : Rel K F E S' env σ H := by
  have hA : ∀ b, ¬ Av F E S σ b → H b ≠ none → ¬ Av F E S' σ b := fun b n _ q => n (q.imp id (Or.imp id (own_weak h)))
  refine ⟨R.le.trans (stsLe_len h), R.ls.trans (stsLe_len h), fun i st' hi => ?_, fun j k b st1 st2 ne q1 q2 q3 q4 q5 => ?_, R.pres, R.live, R.a0, R.m0, R.eT, fun a q z => R.eD a q (own_weak h z), fun i a q1 q2 => ?_, fun i a q1 q2 => ?_, fun p hp => (R.kept p hp).mono .rfl hA, fun p hp => ?_, fun i hi => ?_, fun i hi => ?_, R.ioa⟩
  · obtain ⟨st, q1, q2⟩ := stsLe_get h hi
    obtain ⟨e, v, e1, e2, ok⟩ := R.slot i st q1
    refine ⟨e, v, e1, e2, ?_⟩
    by_cases hh : st = st'
    · subst hh
      exact ok.mono .rfl hA fun _ _ _ z => z
    · cases st' with
      | N => trivial
      | S =>
        cases st with
        | O =>
          obtain ⟨x, a, rfl, rfl, c, r, w⟩ := ok
          have na : ¬ Av F E S' σ a := by
            rintro (z | z | ⟨j, s2, z1, z2, z3⟩)
            · exact R.a0 a z (R.fresh i a q1 e2)
            · exact R.eD a z ⟨i, .O, q1, rfl, e2⟩
            · have nj : i ≠ j := fun ej => by subst ej; rw [hi] at z1; cases z1; cases z2
              obtain ⟨s3, y1, y2⟩ := stsLe_get h z1
              rw [Sta.le_own y2 z2] at y1
              exact R.uniq i j a .O s2 nj q1 rfl y1 (.inl z2) e2 z3
          refine ⟨x, .ref a, rfl, rfl, (rep_con c).mpr ⟨a, rfl, na, r.mono' .rfl hA (fun _ q => q) fun _ _ q => q⟩⟩
        | S => exact absurd rfl hh
        | _ => cases q2
      | B => exact absurd (Sta.le_B q2) hh
      | O => exact absurd (Sta.le_own q2 rfl) hh
      | I => exact absurd (Sta.le_own q2 rfl) hh
  · obtain ⟨s1, y1, y2⟩ := stsLe_get h q1
    rw [Sta.le_own y2 q2] at y1
    obtain ⟨s3, z1, z2⟩ := stsLe_get h q3
    refine R.uniq j k b st1 st2 ne y1 q2 ?_ q4 q5
    rcases q4 with q4 | q4
    · rw [Sta.le_own z2 q4] at z1; exact z1
    · subst q4; rw [Sta.le_B z2] at z1; exact z1
  · obtain ⟨s1, y1, y2⟩ := stsLe_get h q1
    rw [Sta.le_own y2 rfl] at y1
    exact R.fresh i a y1 q2
  · obtain ⟨s1, y1, y2⟩ := stsLe_get h q1
    rw [Sta.le_own y2 rfl] at y1
    exact R.inn i a y1 q2
  · obtain ⟨f1, f2, f3⟩ := R.fix p hp
    obtain ⟨s1, y1, y2⟩ := stsLe_back h f1
    rw [Sta.B_le y2] at y1
    exact ⟨y1, f2, f3⟩
  · rcases R.ios i hi with q | q
    · obtain ⟨s1, y1, y2⟩ := stsLe_back h q
      rw [Sta.I_le y2] at y1
      exact .inl y1
    · obtain ⟨s1, y1, y2⟩ := stsLe_back h q
      rw [Sta.B_le y2] at y1
      exact .inr y1
  · obtain ⟨s1, y1, y2⟩ := stsLe_get h hi
    rw [Sta.le_B y2] at y1
    exact R.bx i y1
end
end Ev
end

section
set_option Elab.async false
set_option linter.all false
set_option maxRecDepth 100000
set_option maxHeartbeats 4000000
/-! EvD: what is looked at before a core term is run (who is written, who is borrowed); the readings. -/
namespace Ev
open PySem PySem.Spec PyProof.Rows L2

structure Sig where
  md : List Nat
  fr : Bool
/-- how a value is wanted: looked at; shared; new if a container -/
inductive Md where | pk | sh | fr
  deriving DecidableEq

def scal : EV → Bool
  | .non => true
  | .bl _ => true
  | .int _ => true
  | .str _ => true
  | _ => false
def somes : List (Option Nat) → List Nat
  | [] => []
  | some i :: r => i :: somes r
  | none :: r => somes r
def nodupB : List Nat → Bool
  | [] => true
  | a :: r => !r.contains a && nodupB r
mutual
/-- the slots whose containers an expression writes -/
def mu : CE → List Nat
  | .lit _ => []
  | .glb _ => []
  | .var _ => []
  | .tup es => mus es
  | .lst es => mus es
  | .dct0 _ => []
  | .op _ a b => mu a ++ mu b
  | .neg a => mu a
  | .cmp _ a b => mu a ++ mu b
  | .chn _ _ a b c => mu a ++ (mu b ++ mu c)
  | .isc _ a _ => mu a
  | .and a b => mu a ++ mu b
  | .or a b => mu a ++ mu b
  | .not a => mu a
  | .ite t a b => mu t ++ (mu a ++ mu b)
  | .ix a b => mu a ++ mu b
  | .sl a l h => mu a ++ (mus l ++ mus h)
  | .rev a => mu a
  | .call _ md es => mus es ++ somes md
  | .bi _ es => mus es
  | .met _ a es => mu a ++ mus es
  | .pop i es => mus es ++ [i]
  | .comp _ _ it _ ifs e => mus it ++ (mus ifs ++ mu e)
  | .dcomp _ _ _ it _ ifs k v => mus it ++ (mus ifs ++ (mu k ++ mu v))
def mus : List CE → List Nat
  | [] => []
  | e :: es => mu e ++ mus es
end
/-- the slots whose containers an expression may hand on as they are -/
def pv : CE → List Nat
  | .var i => [i]
  | .ite _ a b => pv a ++ pv b
  | .and a b => pv a ++ pv b
  | .or a b => pv a ++ pv b
  | _ => []
def disj (a b : List Nat) : Bool := a.all fun x => !b.contains x
mutual
def ptVars : Pt → List Nat
  | .nm i => [i]
  | .tp ps => ptsVars ps
def ptsVars : List Pt → List Nat
  | [] => []
  | p :: ps => ptVars p ++ ptsVars ps
end
def setAll (S : List Sta) (st : Sta) : List Nat → List Sta
  | [] => S
  | v :: vs => setAll (S.set v st) st vs
/-- the statuses while c is walked -/
def bor1 (S : List Sta) : CE → List Sta
  | .var i => match S[i]? with
    | some .O => S.set i .B
    | some .I => S.set i .B
    | _ => S
  | _ => S
def unb1 (S : List Sta) (c : CE) (S2 : List Sta) : List Sta := match c with
  | .var i => match S[i]? with
    | some .O => S2.set i .O
    | some .I => S2.set i .I
    | _ => S2
  | _ => S2
/-- what is walked is borrowed while it is walked -/
def borS (S : List Sta) : List CE → List Sta
  | [] => S
  | c :: r => borS (bor1 S c) r
def unbS (S : List Sta) : List CE → List Sta → List Sta
  | [], S2 => S2
  | c :: r, S2 => unb1 S c (unbS (bor1 S c) r S2)
def rngK : ItK → Bool
  | .rng1 => true
  | .rng2 => true
  | .rng3 => true
  | _ => false
def borW (k : ItK) (S : List Sta) (it : List CE) : List Sta := if rngK k then S else borS S it
def unbW (k : ItK) (S : List Sta) (it : List CE) (S2 : List Sta) : List Sta := if rngK k then S2 else unbS S it S2
def isVar : CE → Bool
  | .var _ => true
  | _ => false
def freeSl (S : List Sta) (v : Nat) : Bool := match S[v]? with | some .N => true | some .S => true | _ => false
def okV (c : CE) (S : List Sta) : Bool := match c with
  | .var i => decide (S[i]? ≠ some .N) && decide (i < S.length)
  | _ => false
section
variable (sg : Nat → Option Sig)
mutual
/-- may the expression stand where its value is wanted so -/
def okE : CE → List Sta → Md → Bool
  | .lit v, _, _ => scal v
  | .glb _, _, _ => true
  | .var i, S, m => match S[i]? with
    | some .S => decide (m ≠ .fr)
    | some .B => decide (m = .pk)
    | some .O => decide (m = .pk)
    | some .I => decide (m = .pk)
    | _ => false
  | .tup es, S, _ => okEs es S .sh
  | .lst es, S, _ => okEs es S .sh
  | .dct0 t, _, _ => decide (t < 2)
  | .op _ a b, S, _ => okE a S .pk && okE b S .pk && disj (pv a) (mu b)
  | .neg a, S, _ => okE a S .pk
  | .cmp _ a b, S, _ => okE a S .pk && okE b S .pk && disj (pv a) (mu b)
  | .chn _ _ a b c, S, _ => okE a S .pk && okE b S .pk && okE c S .pk && disj (pv a) (mu b ++ mu c) && disj (pv b) (mu c)
  | .isc _ a _, S, _ => okE a S .pk
  | .and a b, S, m => okE a S m && okE b S m
  | .or a b, S, m => okE a S m && okE b S m
  | .not a, S, _ => okE a S .pk
  | .ite t a b, S, m => okE t S .pk && okE a S m && okE b S m
  | .ix a b, S, m => decide (m ≠ .fr) && okE a S .pk && okE b S .pk && disj (pv a) (mu b)
  | .sl a l h, S, _ => okE a S .pk && okEs l S .pk && okEs h S .pk && disj (pv a) (mus l ++ mus h)
  | .rev a, S, _ => okE a S .pk
  | .call f md es, S, m => match sg f with
    | some s => (s.fr || decide (m ≠ .fr)) && okArgs (somes md) s.md md es S && nodupB (somes md)
    | none => false
  | .bi _ es, S, _ => okEs es S .pk
  | .met o a es, S, m => (decide (o = .join) || decide (m ≠ .fr)) && okE a S .pk && okEs es S .pk && disj (pv a) (mus es)
  | .pop i es, S, m => decide (m ≠ .fr) && okEs es S .pk && (match S[i]? with | some .O => true | some .I => true | _ => false)
  | .comp vs k it tg ifs e, S, _ => okIt k it S && vs.all (freeSl S) && (ptVars tg).all (fun v => vs.contains v) && okEs ifs (setAll (setAll (borW k S it) .N vs) .S (ptVars tg)) .pk && okE e (setAll (setAll (borW k S it) .N vs) .S (ptVars tg)) .sh
  | .dcomp t vs k it tg ifs ke ve, S, _ => decide (t < 2) && okIt k it S && vs.all (freeSl S) && (ptVars tg).all (fun v => vs.contains v) && okEs ifs (setAll (setAll (borW k S it) .N vs) .S (ptVars tg)) .pk
      && okE ke (setAll (setAll (borW k S it) .N vs) .S (ptVars tg)) .sh && okE ve (setAll (setAll (borW k S it) .N vs) .S (ptVars tg)) .sh
def okEs : List CE → List Sta → Md → Bool
  | [], _, _ => true
  | e :: es, S, m => okE e S m && okEs es S m && disj (pv e) (mus es)
def okArgs (L : List Nat) : List Nat → List (Option Nat) → List CE → List Sta → Bool
  | [], [], [], _ => true
  | 0 :: ms, none :: md, e :: es, S => okE e S .sh && okArgs L ms md es S
  | 1 :: ms, none :: md, e :: es, S => okE e S .pk && disj (pv e) (mus es ++ L) && okArgs L ms md es S
  | 2 :: ms, some i :: md, e :: es, S => (match e with | .var j => decide (i = j) | _ => false) && (match S[i]? with | some .O => true | some .I => true | _ => false) && okArgs L ms md es S
  | _, _, _, _ => false
def okIt : ItK → List CE → List Sta → Bool
  | .rng1, [a], S => okE a S .pk
  | .rng2, [a, b], S => okE a S .pk && okE b S .pk && disj (pv a) (mu b)
  | .val, [a], S => isVar a && (okV a S || (!isVar a && okE a S .sh))
  | .seq, [a], S => okV a S || (!isVar a && okE a S .sh)
  | .enum, [a], S => okV a S || (!isVar a && okE a S .sh)
  | .zip, [a, b], S => (okV a S || (!isVar a && okE a S .sh)) && (okV b S || (!isVar b && okE b S .sh)) && (isVar b || (match a with | .var i => decide (S[i]? = some .S) | _ => true)) && (mu b).isEmpty
  | _, _, _ => false
end
def okIt1 (c : CE) (S : List Sta) : Bool := okV c S || (!isVar c && okE sg c S .sh)
theorem okIt1_var {sg : Nat → Option Sig} {i : Nat} {S : List Sta} : okIt1 sg (.var i) S = true ↔ S[i]? ≠ some .N ∧ i < S.length := by
  unfold okIt1 okV isVar
  simp
end
end Ev
end

section
set_option Elab.async false
set_option linter.all false
set_option maxRecDepth 100000
set_option maxHeartbeats 4000000
/-! EvE: the readings of expressions by the evaluator. -/
namespace Ev
open PySem PySem.Spec PyProof.Rows L2

structure Glob where
  K : PySem.W.Frag
  cf : Cf
  gb : Gb
  sg : Nat → Option Sig
  fname : Nat → Str
  gname : Nat → Str
  free : List Str
/-- the containers of the owned slots of a list -/
def WA (l : List Nat) (S : List Sta) (σ : L2.St) (a : Addr) : Prop := ∃ j, j ∈ l ∧ ∃ st : Sta, S[j]? = some st ∧ st.own = true ∧ σ[j]? = some (some (.ref a))
structure Step (W : Addr → Prop) (H H' : Hp) : Prop where
  kp : ∀ a o, ¬ W a → H a = some o → H' a = some o
  lv : ∀ a, H a ≠ none → H' a ≠ none
  tup : ∀ a vs, H a = some (.tup vs) → H' a = some (.tup vs)
def Safe (pvs : List Nat) (S : List Sta) (σ : L2.St) (v : V) (x : EV) : Prop := x.isCon = true → ∀ a, v = .ref a → OwnA S σ a → WA pvs S σ a
def Post (K : PySem.W.Frag) (F : Frm) (E : Addr → Prop) (S : List Sta) (σ : L2.St) (m : Md) (l pvs : List Nat) (H : Hp) (env' : Env) (x : EV) (v : V) (H' : Hp) : Prop :=
  Step (WA l S σ) H H' ∧ match m with
  | .pk => Rel K F E S env' σ H' ∧ RepP K H' (Av F E S σ) v x ∧ Safe pvs S σ v x
  | .sh => Rel K F E S env' σ H' ∧ Rep K H' (Av F E S σ) v x
  | .fr => (x.isCon = false ∧ Rel K F E S env' σ H' ∧ Rep K H' (Av F E S σ) v x) ∨
      (x.isCon = true ∧ ∃ p, v = .ref p ∧ H p = none ∧ Wr H' p ∧ Rel K F (plusA E p) S env' σ H' ∧ RepC K H' (Av F (plusA E p) S σ) p x)
def tE (G : Glob) (S : List Sta) (m : Md) (c : CE) : TE := fun σ H Q => ∃ (F : Frm) (E : Addr → Prop) (env env' : Env) (x : EV),
  Rel G.K F E S env σ H ∧ ev G.cf G.gb c env = some (x, env') ∧ ∀ v H', Post G.K F E S σ m (mu c) (pv c) H env' x v H' → Q v H'
def RepM (K : PySem.W.Frag) (H : Hp) (A : Addr → Prop) (S : List Sta) (σ : L2.St) (m : Md) (pvs : List Nat) (v : V) (x : EV) : Prop := match m with
  | .pk => RepP K H A v x ∧ Safe pvs S σ v x
  | _ => Rep K H A v x
inductive RepMs (K : PySem.W.Frag) (H : Hp) (A : Addr → Prop) (S : List Sta) (σ : L2.St) : List Md → List CE → List V → List EV → Prop
  | nil : RepMs K H A S σ [] [] [] []
  | cons {m c v x ms cs vs xs} : RepM K H A S σ m (pv c) v x → RepMs K H A S σ ms cs vs xs → RepMs K H A S σ (m :: ms) (c :: cs) (v :: vs) (x :: xs)
def tA (G : Glob) (S : List Sta) (ms : List Md) (cs : List CE) : TA := fun σ H Q => ∃ (F : Frm) (E : Addr → Prop) (env env' : Env) (xs : List EV),
  Rel G.K F E S env σ H ∧ evs G.cf G.gb cs env = some (xs, env') ∧ ∀ vs H', Step (WA (mus cs) S σ) H H' → Rel G.K F E S env' σ H' → RepMs G.K H' (Av F E S σ) S σ ms cs vs xs → Q vs H'
def tT (G : Glob) (S : List Sta) (c : CE) : TT := fun σ H Q => ∃ (F : Frm) (E : Addr → Prop) (env env' : Env) (x : EV) (b : Bool),
  Rel G.K F E S env σ H ∧ ev G.cf G.gb c env = some (x, env') ∧ truE x = some b ∧ ∀ H', Step (WA (mu c) S σ) H H' → Rel G.K F E S env' σ H' → Q b H'

section
variable {K : PySem.W.Frag} {F : Frm} {E E' : Addr → Prop} {S S' : List Sta} {env env' : Env} {σ σ' : L2.St} {H H' H'' : Hp} {A A' W W' : Addr → Prop} {a p : Addr} {x y : EV} {v : V} {i : Nat} {l l' pvs : List Nat} {m : Md}
theorem Step.rfl : Step W H H := ⟨fun _ _ _ h => h, fun _ h => h, fun _ _ h => h⟩
theorem Step.of_ext (h : Ext H H') : Step W H H' := ⟨fun a o _ e => h a o e, fun a e => h.live e, fun a vs e => h a _ e⟩
theorem Step.mono (h : Step W H H') (k : ∀ a, W a → W' a) : Step W' H H' := ⟨fun a o n e => h.kp a o (fun q => n (k a q)) e, h.lv, h.tup⟩
theorem Step.trans (h : Step W H H') (k : Step W H' H'') : Step W H H'' := ⟨fun a o n e => k.kp a o n (h.kp a o n e), fun a e => k.lv a (h.lv a e), fun a vs e => k.tup a vs (h.tup a vs e)⟩
theorem Step.rd (h : Step W H H') (n : ¬ W a) {u : HO} (r : Rd H a u) : Rd H' a u := r.imp (h.kp a _ n) fun ⟨o, e⟩ => ⟨o, h.kp a _ n e⟩
theorem Step.keep (h : Step W H H') (k : ∀ a, W a → A a) : Keep A H H' := ⟨fun a u n _ r => h.rd (fun q => n (k a q)) r, fun a vs n e => h.kp a _ (fun q => n (k a q)) e, h.tup⟩
theorem WA.own (h : WA l S σ a) : OwnA S σ a := by
  obtain ⟨j, _, st, h1, h2, h3⟩ := h
  exact ⟨j, st, h1, h2, h3⟩
theorem WA.av (h : WA l S σ a) : Av F E S σ a := .inr (.inr h.own)
theorem WA.left (h : WA l S σ a) : WA (l ++ l') S σ a := by
  obtain ⟨j, h0, r⟩ := h
  exact ⟨j, List.mem_append_left _ h0, r⟩
theorem WA.right (h : WA l' S σ a) : WA (l ++ l') S σ a := by
  obtain ⟨j, h0, r⟩ := h
  exact ⟨j, List.mem_append_right _ h0, r⟩
theorem Step.stay (h : Step (WA l S σ) H H') (r : Rep K H (Av F E S σ) v x) : Rep K H' (Av F E S σ) v x := r.mono (h.keep fun _ q => q.av) fun _ n _ => n
theorem disj_iff {a b : List Nat} : disj a b = true ↔ ∀ x, x ∈ a → x ∉ b := by
  unfold disj
  simp
/-- what is looked at stays while another expression runs -/
theorem Rel.pend (R : Rel K F E S env σ H) (r : RepP K H (Av F E S σ) v x) (s : Safe pvs S σ v x) (h : Step (WA l S σ) H H') (d : disj pvs l = true) : RepP K H' (Av F E S σ) v x := by
  have kp : Keep (Av F E S σ) H H' := h.keep fun _ q => q.av
  rcases r with ⟨hc, a, e, r⟩ | ⟨hc, r⟩
  · have na : ¬ WA l S σ a := fun q => by
      obtain ⟨i, hi, st, h1, h2, h3⟩ := s hc a e q.own
      obtain ⟨j, hj, st', k1, k2, k3⟩ := q
      by_cases ij : i = j
      · subst ij; exact disj_iff.mp d i hi hj
      · exact R.uniq i j a st st' ij h1 h2 k1 (.inl k2) h3 k3
    exact .inl ⟨hc, a, e, r.mono' kp (fun _ n _ => n) (fun vs q => h.kp a _ na q) fun u _ q => h.rd na q⟩
  · exact .inr ⟨hc, r.mono kp fun _ n _ => n⟩
theorem Safe.of_rep (R : Rel K F E S env σ H) (r : Rep K H (Av F E S σ) v x) : Safe pvs S σ v x := fun hc a e o => by
  obtain ⟨b, e', n, _⟩ := (rep_con hc).mp r
  rw [e] at e'
  cases e'
  exact absurd (.inr (.inr o)) n
/-- a stronger end is enough -/
theorem Post.toSh (R0 : Rel K F E S env σ H) (h : Post K F E S σ .fr l pvs H env' x v H') : Post K F E S σ .sh l pvs H env' x v H' := by
  obtain ⟨s, h⟩ := h
  refine ⟨s, ?_⟩
  rcases h with ⟨_, R, r⟩ | ⟨hc, p, e, hp, w, R, r⟩
  · exact ⟨R, r⟩
  · have hA : ∀ b, ¬ Av F (plusA E p) S σ b → H' b ≠ none → ¬ Av F E S σ b := fun b n _ q => n (q.imp id (Or.imp .inl id))
    exact ⟨R.lessE fun _ q => .inl q, (rep_con hc).mpr ⟨p, e, R0.new_av hp, r.mono' .rfl hA (fun _ q => q) fun _ _ q => q⟩⟩
theorem Post.toPk (h : Post K F E S σ .sh l pvs H env' x v H') : Post K F E S σ .pk l pvs H env' x v H' := ⟨h.1, h.2.1, h.2.2.peek, .of_rep h.2.1 h.2.2⟩
end
theorem _root_.L2.PE.imp {X : Cx} {e : Expr} {t t' : TE} (h : PE X e t) (k : ∀ σ H Q, t' σ H Q → t σ H Q) : PE X e t' := ⟨fun pins s σ H Q I q => h.run pins s σ H Q I (k σ H Q q)⟩
theorem _root_.L2.PT.imp {X : Cx} {e : Expr} {t t' : TT} (h : PT X e t) (k : ∀ σ H Q, t' σ H Q → t σ H Q) : PT X e t' := ⟨fun pins s σ H Q I q => h.run pins s σ H Q I (k σ H Q q)⟩
theorem _root_.L2.PA.imp {X : Cx} {e : List Expr} {t t' : TA} (h : PA X e t) (k : ∀ σ H Q, t' σ H Q → t σ H Q) : PA X e t' := ⟨fun pos pins s σ H Q I q => h.run pos pins s σ H Q I (k σ H Q q)⟩
section
variable {G : Glob} {S : List Sta} {X : Cx} {e e' e2 e3 : Expr} {c c2 c3 : CE} {m : Md} {pos : Pos}
theorem sh_of (h : PE X e (tE G S .fr c)) : PE X e (tE G S .sh c) := h.imp fun σ H Q ⟨F, E, env, env', x, R, ee, q⟩ => ⟨F, E, env, env', x, R, ee, fun v H' p => q v H' (p.toSh R)⟩
theorem pk_of (h : PE X e (tE G S .sh c)) : PE X e (tE G S .pk c) := h.imp fun σ H Q ⟨F, E, env, env', x, R, ee, q⟩ => ⟨F, E, env, env', x, R, ee, fun v H' p => q v H' p.toPk⟩
/-- every wish, from the strongest -/
theorem all_of (h : PE X e (tE G S .fr c)) (m : Md) : PE X e (tE G S m c) := match m with
  | .fr => h
  | .sh => sh_of h
  | .pk => pk_of (sh_of h)
theorem all_sh (h : PE X e (tE G S .sh c)) (n : m ≠ .fr) : PE X e (tE G S m c) := match m, n with
  | .sh, _ => h
  | .pk, _ => pk_of h
  | .fr, n => absurd rfl n
/-- two in a row, looked at -/
theorem two {F : Frm} {E : Addr → Prop} {env env1 env2 : Env} {σ : L2.St} {H : Hp} {x y : EV} {R : V → V → Hp → Prop} (r : Rel G.K F E S env σ H) (h1 : ev G.cf G.gb c env = some (x, env1)) (h2 : ev G.cf G.gb c2 env1 = some (y, env2)) (d : disj (pv c) (mu c2) = true)
    (k : ∀ v w H2, Step (WA (mu c ++ mu c2) S σ) H H2 → Rel G.K F E S env2 σ H2 → RepP G.K H2 (Av F E S σ) v x → RepP G.K H2 (Av F E S σ) w y → Safe (pv c) S σ v x → Safe (pv c2) S σ w y → R v w H2) :
    tE G S .pk c σ H fun v H1 => tE G S .pk c2 σ H1 fun w H2 => R v w H2 :=
  ⟨F, E, env, env1, x, r, h1, fun v H1 ⟨s1, r1, p1, a1⟩ => ⟨F, E, env1, env2, y, r1, h2, fun w H2 ⟨s2, r2, p2, a2⟩ =>
    k v w H2 ((s1.mono fun _ q => q.left).trans (s2.mono fun _ q => q.right)) r2 (r1.pend p1 a1 s2 d) p2 a1 a2⟩⟩
/-- what a reading of a scalar, a tuple gives: any wish -/
theorem post_flat {K : PySem.W.Frag} {F : Frm} {E : Addr → Prop} {env' : Env} {σ : L2.St} {H H' : Hp} {x : EV} {v : V} {l pvs : List Nat} (s : Step (WA l S σ) H H') (r : Rel K F E S env' σ H') (hc : x.isCon = false) (p : Rep K H' (Av F E S σ) v x) : Post K F E S σ .fr l pvs H env' x v H' := ⟨s, .inl ⟨hc, r, p⟩⟩
/-- a new container -/
theorem post_new {K : PySem.W.Frag} {F : Frm} {E : Addr → Prop} {env' : Env} {σ : L2.St} {H H1 : Hp} {x : EV} {l pvs : List Nat} {p : Addr} {o : HO} (s : Step (WA l S σ) H H1) (r : Rel K F E S env' σ H1) (hp : H1 p = none) (hc : x.isCon = true)
    (hx : ∀ A', (∀ a, Av F E S σ a → A' a) → (∀ a, A' a → Av F E S σ a ∨ a = p) → RepC K (upd H1 p o) A' p x) (hw : ∀ ob w, o ≠ .frz ob w) : Post K F E S σ .fr l pvs H env' x (.ref p) (upd H1 p o) := by
  refine ⟨s.trans (.of_ext (.upd hp)), .inr ⟨hc, p, rfl, ?_, ⟨o, upd_same, hw⟩, r.allocE hp, hx _ (fun a q => q.imp id (Or.imp .inl id)) fun a q => ?_⟩⟩
  · cases z : H p with
    | none => rfl
    | some u => exact absurd hp (s.lv p (by rw [z]; simp))
  · rcases q with q | (q | q) | q
    · exact .inl (.inl q)
    · exact .inl (.inr (.inl q))
    · exact .inr q
    · exact .inl (.inr (.inr q))
/-- items carried over to the heap with a new object -/
theorem Reps.new {K : PySem.W.Frag} {H1 : Hp} {A A' : Addr → Prop} {vs : List V} {xs : List EV} {p : Addr} {o : HO} (r : Reps K H1 A vs xs) (hp : H1 p = none) (h : ∀ a, A' a → A a ∨ a = p) : Reps K (upd H1 p o) A' vs xs :=
  r.mono (Ext.upd hp).keep fun b n t q => (h b q).elim n fun e => t (by rw [e]; exact hp)

theorem pa_nil' : PA X [] (tA G S [] []) := pa_nil.imp fun σ H Q ⟨F, E, env, env', xs, R, ee, q⟩ => by
  cases ee
  exact q [] H .rfl R .nil
end
end Ev
end

section
set_option Elab.async false
set_option linter.all false
set_option maxRecDepth 100000
set_option maxHeartbeats 4000000
/-! EvF: operators, comparisons, truth, by values. -/
namespace Ev
open PySem PySem.Spec PyProof.Rows L2

section
variable {K : PySem.W.Frag} {H H' : Hp} {A A' : Addr → Prop} {v w : V}
theorem RepP.flat {x : EV} (h : RepP K H A v x) (hc : x.isCon = false) : Rep K H A v x := by
  rcases h with ⟨h1, _⟩ | ⟨_, h⟩
  · rw [hc] at h1; cases h1
  · exact h
theorem RepP.non (h : RepP K H A v .non) : v = .non := by cases h.flat rfl; rfl
theorem RepP.bl {b : Bool} (h : RepP K H A v (.bl b)) : v = .bl b := by cases h.flat rfl; rfl
theorem RepP.int {i : Int} (h : RepP K H A v (.int i)) : v = .int i := by cases h.flat rfl; rfl
theorem RepP.str {s : List Nat} (h : RepP K H A v (.str s)) : v = .str (sv s) := by cases h.flat rfl; rfl
theorem RepP.tup {xs : List EV} (h : RepP K H A v (.tup xs)) : ∃ a vs, v = .ref a ∧ H a = some (.tup vs) ∧ Reps K H A vs xs := by
  cases h.flat rfl with
  | tup h1 r1 => exact ⟨_, _, rfl, h1, r1⟩
theorem RepP.lst {xs : List EV} (h : RepP K H A v (.lst xs)) : ∃ a vs, v = .ref a ∧ H a = some (.lst vs) ∧ Reps K H A vs xs := by
  rcases h with ⟨_, a, e, vs, h, r⟩ | ⟨h, _⟩
  · exact ⟨a, vs, e, h, r⟩
  · cases h
theorem RepP.dct {t : Nat} {xs : List (EV × EV)} (h : RepP K H A v (.dct t xs)) : ∃ a, v = .ref a ∧ ((t = 0 ∧ ∃ kv, Rd H a (.dK kv) ∧ RepK K H A kv xs) ∨ (t = 1 ∧ ∃ kv, Rd H a (.dT kv) ∧ RepT K H A kv xs)) := by
  rcases h with ⟨_, a, e, h⟩ | ⟨h, _⟩
  · exact ⟨a, e, h⟩
  · cases h
theorem RepP.scr {ns : List Int} (h : RepP K H A v (.scr ns)) : ∃ a, v = .ref a ∧ SqL K H a (ns.map V.int) := by
  cases h.flat rfl with
  | scr h1 => exact ⟨_, rfl, h1.imp And.right id⟩
theorem Reps.length {vs : List V} {xs : List EV} : Reps K H A vs xs → vs.length = xs.length
  | .nil => rfl
  | .cons _ r => congrArg (· + 1) r.length
theorem Reps.get : ∀ {vs : List V} {xs : List EV} {i : Nat} {x : EV}, Reps K H A vs xs → xs[i]? = some x → ∃ v, vs[i]? = some v ∧ Rep K H A v x
  | _, _, _, _, .nil, e => by simp at e
  | _, _, 0, _, .cons r _, e => by simp at e; subst e; exact ⟨_, rfl, r⟩
  | _, _, i + 1, x, .cons _ t, e => by
    obtain ⟨u, h1, h2⟩ := Reps.get (i := i) (x := x) t (by simpa using e)
    exact ⟨u, by simpa using h1, h2⟩
theorem Reps.getV : ∀ {vs : List V} {xs : List EV} {i : Nat} {v : V}, Reps K H A vs xs → vs[i]? = some v → ∃ x, xs[i]? = some x ∧ Rep K H A v x
  | _, _, _, _, .nil, e => by simp at e
  | _, _, 0, _, .cons r _, e => by simp at e; subst e; exact ⟨_, rfl, r⟩
  | _, _, i + 1, x, .cons _ t, e => by
    obtain ⟨u, h1, h2⟩ := Reps.getV (i := i) t (by simpa using e)
    exact ⟨u, by simpa using h1, h2⟩
theorem Reps.append : ∀ {vs ws : List V} {xs ys : List EV}, Reps K H A vs xs → Reps K H A ws ys → Reps K H A (vs ++ ws) (xs ++ ys)
  | _, _, _, _, .nil, s => s
  | _, _, _, _, .cons r t, s => .cons r (Reps.append t s)
theorem Reps.take : ∀ {vs : List V} {xs : List EV} (n : Nat), Reps K H A vs xs → Reps K H A (vs.take n) (xs.take n)
  | _, _, 0, _ => .nil
  | _, _, _ + 1, .nil => .nil
  | _, _, n + 1, .cons r t => .cons r (Reps.take n t)
theorem Reps.drop : ∀ {vs : List V} {xs : List EV} (n : Nat), Reps K H A vs xs → Reps K H A (vs.drop n) (xs.drop n)
  | _, _, 0, r => r
  | _, _, _ + 1, .nil => .nil
  | _, _, n + 1, .cons _ t => Reps.drop n t
theorem Reps.rep {vs : List V} {xs : List EV} (r : Reps K H A vs xs) : ∀ (n : Nat), Reps K H A (List.replicate n vs).flatten (List.replicate n xs).flatten
  | 0 => .nil
  | n + 1 => by
    rw [List.replicate_succ, List.replicate_succ, List.flatten_cons, List.flatten_cons]
    exact r.append (r.rep n)
theorem Reps.reverse {vs : List V} {xs : List EV} : Reps K H A vs xs → Reps K H A vs.reverse xs.reverse
  | .nil => .nil
  | .cons r t => by rw [List.reverse_cons, List.reverse_cons]; exact (Reps.reverse t).append (.cons r .nil)
theorem Reps.set {v : V} {x : EV} (r : Rep K H A v x) : ∀ {vs : List V} {xs : List EV} (i : Nat), Reps K H A vs xs → Reps K H A (vs.set i v) (xs.set i x)
  | _, _, _, .nil => .nil
  | _, _, 0, .cons _ t => .cons r t
  | _, _, i + 1, .cons q t => .cons q (Reps.set r i t)
theorem Reps.eraseIdx : ∀ {vs : List V} {xs : List EV} (i : Nat), Reps K H A vs xs → Reps K H A (vs.eraseIdx i) (xs.eraseIdx i)
  | _, _, _, .nil => .nil
  | _, _, 0, .cons _ t => t
  | _, _, i + 1, .cons q t => .cons q (Reps.eraseIdx i t)
theorem Reps.intsE : ∀ {ns : List Int}, Reps K H A (ns.map V.int) (intsE ns)
  | [] => .nil
  | n :: ns => .cons (.int n) Reps.intsE
theorem cut_len {α : Type} (xs : List α) (lo hi : Option Int) : (cut xs lo hi).length ≤ xs.length := by
  unfold cut
  rw [List.length_take, List.length_drop]
  omega
theorem sIx_eq (n d : Nat) (o : Option Int) : sIx n d o = HT.sIx n d o := by cases o <;> rfl
theorem Reps.cut {vs : List V} {xs : List EV} (r : Reps K H A vs xs) (lo hi : Option Int) : Reps K H A (cutV vs lo hi) (cut xs lo hi) := by
  unfold cutV Ev.cut
  rw [r.length, sIx_eq, sIx_eq]
  exact (r.drop _).take _

/-- what comes out of an operation by values -/
def ROut (K : PySem.W.Frag) (A : Addr → Prop) (H : Hp) (u : V) (H' : Hp) (z : EV) : Prop :=
  (z.isCon = false ∧ Ext H H' ∧ Rep K H' A u z) ∨
    (z.isCon = true ∧ ∃ p o, H p = none ∧ u = .ref p ∧ H' = upd H p o ∧ (∀ ob w, o ≠ .frz ob w) ∧ ∀ A' : Addr → Prop, (∀ a, A a → A' a) → (∀ a, A' a → A a ∨ a = p) → RepC K (upd H p o) A' p z)
theorem ROut.post {F : Frm} {E : Addr → Prop} {S : List Sta} {σ : L2.St} {env' : Env} {H0 : Hp} {l pvs : List Nat} {z : EV} {u : V} (h : ROut K (Av F E S σ) H u H' z) (s : Step (WA l S σ) H0 H) (r : Rel K F E S env' σ H) : Post K F E S σ .fr l pvs H0 env' z u H' := by
  rcases h with ⟨hc, x, p⟩ | ⟨hc, p, o, hp, rfl, rfl, hw, hx⟩
  · exact post_flat (s.trans (.of_ext x)) (r.grow x) hc p
  · exact post_new s r hp hc hx hw
theorem rout_flat {z : EV} (hc : z.isCon = false) (r : Rep K H A v z) : ROut K A H v H z := .inl ⟨hc, .rfl, r⟩
/-- a new list -/
theorem rout_lst {vs : List V} {xs : List EV} {p : Addr} (r : Reps K H A vs xs) (hp : H p = none) : ROut K A H (.ref p) (upd H p (.lst vs)) (.lst xs) :=
  .inr ⟨rfl, p, _, hp, rfl, rfl, (fun _ _ z => nomatch z), fun A' _ h => ⟨vs, upd_same, r.new hp h⟩⟩
/-- a new tuple -/
theorem rout_tup {vs : List V} {xs : List EV} {p : Addr} (r : Reps K H A vs xs) (hp : H p = none) (hA : ∀ a, A a → H a ≠ none) : ROut K A H (.ref p) (upd H p (.tup vs)) (.tup xs) :=
  .inl ⟨rfl, .upd hp, .tup upd_same (r.mono (Ext.upd hp).keep fun _ n _ => n)⟩
/-- an operation by values -/
def rO2 (K : PySem.W.Frag) (f : EV → EV → Option EV) : R2 := fun v w H Q => ∃ (A : Addr → Prop) (x y z : EV), RepP K H A v x ∧ RepP K H A w y ∧ f x y = some z ∧ (∀ a, A a → H a ≠ none) ∧ ∀ u H', ROut K A H u H' z → Q u H'
end

section
variable {X : Cx}
theorem op_add' : OpR X (binaryOp .Add) (rO2 X.K (opE .add)) := by
  intro pins s σ H v w v' w' Q I rv rw' h
  obtain ⟨A, x, y, z, rx, ry, hz, hA, q⟩ := h
  cases x with
  | int i =>
    cases y with
    | int j =>
      cases rx.int; cases ry.int; cases hz
      exact op_add pins s σ H _ _ _ _ Q I rv rw' ⟨i, j, rfl, rfl, q _ _ (rout_flat rfl (.int _))⟩
    | _ => cases hz
  | str a =>
    cases y with
    | str b =>
      cases rx.str; cases ry.str
      simp only [opE] at hz
      split at hz
      · rename_i hl
        cases hz
        refine op_add_str pins s σ H _ _ _ _ Q I rv rw' ⟨sv a, sv b, rfl, rfl, by rw [sv_len, sv_len, ← SZ_eq]; exact hl, ?_⟩
        have e : sv a ++ sv b = sv (a ++ b) := by
          show Str.mk (a.toArray ++ b.toArray) = Str.mk (a ++ b).toArray
          rw [List.append_toArray]
        rw [e]
        exact q _ _ (rout_flat rfl (.str _))
      · cases hz
    | _ => cases hz
  | tup a =>
    cases y with
    | tup b =>
      obtain ⟨p, vs, rfl, hp, r1⟩ := rx.tup
      obtain ⟨p2, ws, rfl, hp2, r2⟩ := ry.tup
      simp only [opE] at hz
      split at hz
      · rename_i hl
        cases hz
        refine op_catA pins s σ H _ _ _ _ Q I rv rw' ⟨p, p2, vs, ws, rfl, rfl, .inl (.inl hp), .inl (.inl hp2), by rw [r1.length, r2.length, ← SZ_eq]; exact hl, fun e => ?_, fun e1 e2 => ?_, fun _ _ t ht => q _ _ (rout_tup (r1.append r2) ht hA)⟩
        · subst e
          cases r1
          exact q _ _ (rout_flat rfl (ry.flat rfl))
        · subst e2
          cases r2
          rw [List.append_nil] at q
          exact q _ _ (rout_flat rfl (rx.flat rfl))
      · cases hz
    | _ => cases hz
  | lst a =>
    cases y with
    | lst b =>
      obtain ⟨p, vs, rfl, hp, r1⟩ := rx.lst
      obtain ⟨p2, ws, rfl, hp2, r2⟩ := ry.lst
      simp only [opE] at hz
      split at hz
      · rename_i hl
        cases hz
        exact op_cat pins s σ H _ _ _ _ Q I rv rw' ⟨p, p2, vs, ws, rfl, rfl, hp, hp2, by rw [r1.length, r2.length, ← SZ_eq]; exact hl, fun t ht => q _ _ (rout_lst (r1.append r2) ht)⟩
      · cases hz
    | _ => cases hz
  | _ => cases hz
theorem op_sub' : OpR X (binaryOp .Sub) (rO2 X.K (opE .sub)) := by
  intro pins s σ H v w v' w' Q I rv rw' h
  obtain ⟨A, x, y, z, rx, ry, hz, hA, q⟩ := h
  cases x with
  | int i =>
    cases y with
    | int j =>
      cases rx.int; cases ry.int; cases hz
      exact op_sub pins s σ H _ _ _ _ Q I rv rw' ⟨i, j, rfl, rfl, q _ _ (rout_flat rfl (.int _))⟩
    | _ => cases hz
  | _ => cases hz
theorem op_mul' : OpR X (binaryOp .Mult) (rO2 X.K (opE .mul)) := by
  intro pins s σ H v w v' w' Q I rv rw' h
  obtain ⟨A, x, y, z, rx, ry, hz, hA, q⟩ := h
  cases x with
  | int i =>
    cases y with
    | int j =>
      cases rx.int; cases ry.int
      simp only [opE] at hz
      split at hz
      · rename_i hl
        cases hz
        simp only [lim64, Bool.or_eq_true, Bool.and_eq_true, decide_eq_true_eq] at hl
        exact op_mul pins s σ H _ _ _ _ Q I rv rw' ⟨i, j, rfl, rfl, hl, q _ _ (rout_flat rfl (.int _))⟩
      · cases hz
    | _ => cases hz
  | lst a =>
    cases y with
    | int k =>
      obtain ⟨p, vs, rfl, hp, r1⟩ := rx.lst
      cases ry.int
      simp only [opE] at hz
      split at hz
      · rename_i hl
        cases hz
        simp only [lim63, divOk, shlOk, Bool.and_eq_true, decide_eq_true_eq] at hl
        exact op_rep pins s σ H _ _ _ _ Q I rv rw' ⟨p, k, vs, rfl, rfl, hp, hl.1.1, hl.1.2, by rw [r1.length, ← SZ_eq]; exact hl.2, fun t ht => q _ _ (rout_lst (r1.rep _) ht)⟩
      · cases hz
    | _ => cases hz
  | _ => cases hz
theorem op_fdiv' : OpR X (binaryOp .FloorDiv) (rO2 X.K (opE .fdiv)) := by
  intro pins s σ H v w v' w' Q I rv rw' h
  obtain ⟨A, x, y, z, rx, ry, hz, hA, q⟩ := h
  cases x with
  | int i =>
    cases y with
    | int j =>
      cases rx.int; cases ry.int
      simp only [opE] at hz
      split at hz
      · rename_i hl
        cases hz
        simp only [lim63, divOk, shlOk, Bool.and_eq_true, decide_eq_true_eq] at hl
        exact op_fdiv pins s σ H _ _ _ _ Q I rv rw' ⟨i, j, rfl, rfl, hl, q _ _ (rout_flat rfl (.int _))⟩
      · cases hz
    | _ => cases hz
  | _ => cases hz
theorem op_mod' : OpR X (binaryOp .Mod) (rO2 X.K (opE .mod)) := by
  intro pins s σ H v w v' w' Q I rv rw' h
  obtain ⟨A, x, y, z, rx, ry, hz, hA, q⟩ := h
  cases x with
  | int i =>
    cases y with
    | int j =>
      cases rx.int; cases ry.int
      simp only [opE] at hz
      split at hz
      · rename_i hl
        cases hz
        simp only [decide_eq_true_eq] at hl
        exact op_mod pins s σ H _ _ _ _ Q I rv rw' ⟨i, j, rfl, rfl, hl, q _ _ (rout_flat rfl (.int _))⟩
      · cases hz
    | _ => cases hz
  | _ => cases hz
theorem op_shl' : OpR X (binaryOp .LShift) (rO2 X.K (opE .shl)) := by
  intro pins s σ H v w v' w' Q I rv rw' h
  obtain ⟨A, x, y, z, rx, ry, hz, hA, q⟩ := h
  cases x with
  | int i =>
    cases y with
    | int j =>
      cases rx.int; cases ry.int
      simp only [opE] at hz
      split at hz
      · rename_i hl
        cases hz
        simp only [lim63, divOk, shlOk, Bool.and_eq_true, decide_eq_true_eq] at hl
        exact op_shl pins s σ H _ _ _ _ Q I rv rw' ⟨i, j, rfl, rfl, ⟨hl.1.1, hl.1.2, hl.2⟩, q _ _ (rout_flat rfl (.int _))⟩
      · cases hz
    | _ => cases hz
  | _ => cases hz
def opOf : Op → Operator
  | .add => .Add
  | .sub => .Sub
  | .mul => .Mult
  | .fdiv => .FloorDiv
  | .mod => .Mod
  | .shl => .LShift
theorem op_all : ∀ o : Op, OpR X (binaryOp (opOf o)) (rO2 X.K (opE o))
  | .add => op_add'
  | .sub => op_sub'
  | .mul => op_mul'
  | .fdiv => op_fdiv'
  | .mod => op_mod'
  | .shl => op_shl'
end
end Ev
end

section
set_option Elab.async false
set_option linter.all false
set_option maxRecDepth 100000
set_option maxHeartbeats 4000000
/-! EvG: equality, order, membership, truth. -/
namespace Ev
open PySem PySem.Spec PyProof.Rows L2
/-! ### a text in a text -/
theorem isPre_iff : ∀ {a b : List Nat}, isPre a b = true ↔ b.take a.length = a
  | [], b => by simp [isPre]
  | x :: a, [] => by simp [isPre]
  | x :: a, y :: b => by
    rw [isPre, Bool.and_eq_true, decide_eq_true_eq, isPre_iff]
    simp only [List.length_cons, List.take_succ_cons, List.cons.injEq]
    exact and_congr_left' eq_comm
theorem isSub_iff {a : List Nat} : ∀ {b : List Nat}, isSub a b = true ↔ ∃ i, i + a.length ≤ b.length ∧ (b.drop i).take a.length = a
  | [] => by
    rw [isSub, isPre_iff]
    constructor
    · intro h
      have hl : a = [] := by simpa using h.symm
      exact ⟨0, by simp [hl], by simp [hl]⟩
    · rintro ⟨i, h1, h2⟩
      simpa using h2
  | y :: b => by
    rw [isSub, Bool.or_eq_true, isPre_iff, isSub_iff (b := b)]
    constructor
    · rintro (h | ⟨i, h1, h2⟩)
      · have hl := congrArg List.length h
        rw [List.length_take] at hl
        exact ⟨0, by omega, by simpa using h⟩
      · exact ⟨i + 1, by simp only [List.length_cons]; omega, by simpa using h2⟩
    · rintro ⟨i, h1, h2⟩
      cases i with
      | zero => exact .inl (by simpa using h2)
      | succ i => exact .inr ⟨i, by simp only [List.length_cons] at h1; omega, by simpa using h2⟩
theorem occ_sub (a b : List Nat) : (!(Builtin.Str.occurrences (sv b) (sv a) 0 (sv b).length 1).isEmpty) = isSub a b := by
  have at_iff : ∀ i, PySem.StrLaws.At (sv b) (sv a) (sv b).length i ↔ i + a.length ≤ b.length ∧ (b.drop i).take a.length = a := fun i => by
    unfold PySem.StrLaws.At
    rw [PySem.StrLaws.subAt_eq, sv_cps, sv_cps, sv_len, sv_len, beq_iff_eq]
  rw [Bool.eq_iff_iff, isSub_iff]
  rcases PySem.StrLaws.occ_head (sv b) (sv a) 1 (Nat.le_refl 1) with ⟨h0, hn⟩ | ⟨i, r, h0, hi, _⟩
  · rw [h0]
    simp only [List.isEmpty_nil, Bool.not_true, Bool.false_eq_true, false_iff, not_exists]
    exact fun i hi => hn i ((at_iff i).mpr hi)
  · rw [h0]
    simp only [List.isEmpty_cons, Bool.not_false, true_iff]
    exact ⟨i, (at_iff i).mp hi⟩

mutual
def toD : EV → PyData
  | .non => .none
  | .bl b => .bool b
  | .int i => .int i
  | .str s => .str (sv s)
  | .tup xs => .tuple (toDs xs)
  | .lst xs => .list (toDs xs)
  | .dct _ _ => .none
  | .scr _ => .none
def toDs : List EV → List PyData
  | [] => []
  | x :: xs => toD x :: toDs xs
end
mutual
theorem eqv_toD : ∀ (x y : EV), plain x = true → plain y = true → PyData.eqv (toD x) (toD y) = eqE x y
  | .non, y, _, hy => by cases y <;> first | rfl | cases hy
  | .bl a, y, _, hy => by cases y <;> first | rfl | cases hy | (simp [toD, PyData.eqv, eqE, Bool.beq_eq_decide_eq]; done)
  | .int a, y, _, hy => by cases y <;> first | rfl | cases hy | (simp [toD, PyData.eqv, eqE, Bool.beq_eq_decide_eq]; done)
  | .str a, y, _, hy => by
    cases y with
    | str b =>
      show (sv a == sv b) = decide (a = b)
      by_cases e : a = b
      · subst e; simp
      · rw [decide_eq_false e]
        exact beq_eq_false_iff_ne.mpr fun q => e (sv_inj q)
    | dct _ _ => cases hy
    | scr _ => cases hy
    | _ => rfl
  | .tup a, y, hx, hy => by
    cases y with
    | tup b => exact eqv_toDs a b hx hy
    | dct _ _ => cases hy
    | scr _ => cases hy
    | _ => rfl
  | .lst a, y, hx, hy => by
    cases y with
    | lst b => exact eqv_toDs a b hx hy
    | dct _ _ => cases hy
    | scr _ => cases hy
    | _ => rfl
  | .dct _ _, _, hx, _ => by cases hx
  | .scr _, _, hx, _ => by cases hx
theorem eqv_toDs : ∀ (x y : List EV), plains x = true → plains y = true → PyData.eqvAll (toDs x) (toDs y) = eqEs x y
  | [], [], _, _ => rfl
  | [], _ :: _, _, _ => rfl
  | _ :: _, [], _, _ => rfl
  | a :: as, b :: bs, hx, hy => by
    simp only [plains, Bool.and_eq_true] at hx hy
    show (PyData.eqv (toD a) (toD b) && PyData.eqvAll (toDs as) (toDs bs)) = (eqE a b && eqEs as bs)
    rw [eqv_toD a b hx.1 hy.1, eqv_toDs as bs hx.2 hy.2]
end
mutual
theorem lay_toD : ∀ (x : EV), plain x = true → (toD x).canLay0 = true
  | .non, _ => rfl
  | .bl _, _ => rfl
  | .int _, _ => rfl
  | .str s, h => by
    show ((sv s).cps.all fun c => decide (c < 0x110000)) = true
    simp only [plain] at h
    simpa [sv] using h
  | .tup xs, h => lay_toDs xs h
  | .lst xs, h => lay_toDs xs h
  | .dct _ _, h => by cases h
  | .scr _, h => by cases h
theorem lay_toDs : ∀ (x : List EV), plains x = true → PyData.canLayAll0 (toDs x) = true
  | [], _ => rfl
  | a :: as, h => by
    simp only [plains, Bool.and_eq_true] at h
    show ((toD a).canLay0 && PyData.canLayAll0 (toDs as)) = true
    rw [lay_toD a h.1, lay_toDs as h.2]
    rfl
end
mutual
theorem depth_toD : ∀ (x : EV), plain x = true → (toD x).depth = depth x
  | .non, _ => rfl
  | .bl _, _ => rfl
  | .int _, _ => rfl
  | .str s, h => rfl
  | .tup xs, h => congrArg (· + 1) (depth_toDs xs h)
  | .lst xs, h => congrArg (· + 1) (depth_toDs xs h)
  | .dct _ _, h => by cases h
  | .scr _, h => by cases h
theorem depth_toDs : ∀ (x : List EV), plains x = true → PyData.depthAll (toDs x) = depths x
  | [], _ => rfl
  | a :: as, h => by
    simp only [plains, Bool.and_eq_true] at h
    show max (toD a).depth (PyData.depthAll (toDs as)) = max (depth a) (depths as)
    rw [depth_toD a h.1, depth_toDs as h.2]
end
theorem shaped_toD {x : EV} (h : okD x = true) : SeqAt.shaped (toD x) = true := by
  simp only [okD, Bool.and_eq_true, decide_eq_true_eq] at h
  unfold SeqAt.shaped
  rw [lay_toD x h.1, depth_toD x h.1, Bool.true_and, decide_eq_true_eq]
  omega
section
variable {K : PySem.W.Frag} {H H' : Hp} {A A' : Addr → Prop}
mutual
theorem Rep.dp : ∀ {v : V} {x : EV}, Rep K H A v x → plain x = true → Dp K H v (toD x)
  | _, _, .non, _ => .non
  | _, _, .bl b, _ => .bl b
  | _, _, .int i, _ => .int i
  | _, _, .str s, _ => .str _
  | _, _, .tup h r, p => .tup (.inl (.inl h)) (Reps.dp r p)
  | _, _, .lst na h r, p => .lst (.inl (.inl h)) (Reps.dp r p)
  | _, _, .dK _ _ _, p => by cases p
  | _, _, .dT _ _ _, p => by cases p
  | _, _, .scr _, p => by cases p
theorem Reps.dp : ∀ {v : List V} {x : List EV}, Reps K H A v x → plains x = true → DpAll K H v (toDs x)
  | _, _, .nil, _ => .nil
  | _, _, .cons h r, p => by
    simp only [plains, Bool.and_eq_true] at p
    exact .cons (Rep.dp h p.1) (Reps.dp r p.2)
end
theorem RepP.dp {v : V} {x : EV} (h : RepP K H A v x) (p : plain x = true) : Dp K H v (toD x) := by
  rcases h with ⟨hc, a, e, h⟩ | ⟨_, h⟩
  · cases x with
    | lst xs =>
      obtain ⟨vs, h, r⟩ := h
      rw [e]
      exact .lst (.inl (.inl h)) (r.dp p)
    | dct t xs => cases p
    | _ => cases hc
  · exact h.dp p
/-- a comparison by values -/
def rC2 (K : PySem.W.Frag) (f : EV → EV → Option Bool) : R2 := fun v w H Q => ∃ (A : Addr → Prop) (x y : EV) (b : Bool), RepP K H A v x ∧ RepP K H A w y ∧ f x y = some b ∧ Q (.bl b) H
theorem plain_of {x : EV} (h : okD x = true) : plain x = true := by
  simp only [okD, Bool.and_eq_true, decide_eq_true_eq] at h
  exact h.1
theorem anyE_eq (x : EV) (hx : plain x = true) : ∀ ys : List EV, plains ys = true → ((toDs ys).any fun z => PyData.eqv z (toD x)) = anyE x ys
  | [], _ => rfl
  | y :: ys, h => by
    simp only [plains, Bool.and_eq_true] at h
    show (PyData.eqv (toD y) (toD x) || (toDs ys).any _) = (eqE y x || anyE x ys)
    rw [eqv_toD y x h.1 hx, anyE_eq x hx ys h.2]
end
section
variable {X : Cx}
theorem cm_eq (hu : X.A.units + 64 < cLine) : OpR X (compareOp .Eq) (rC2 X.K (cmE .eq)) := by
  intro pins s σ H v w v' w' Q I rv rw' h
  obtain ⟨A, x, y, b, rx, ry, hb, q⟩ := h
  simp only [cmE] at hb
  split at hb
  · rename_i hp
    cases hb
    rw [Bool.and_eq_true] at hp
    refine op_eqD hu pins s σ H _ _ _ _ Q I rv rw' ⟨toD x, toD y, rx.dp (plain_of hp.1), ry.dp (plain_of hp.2), shaped_toD hp.1, shaped_toD hp.2, ?_⟩
    rw [eqv_toD x y (plain_of hp.1) (plain_of hp.2)]
    exact q
  · cases hb
theorem cm_ne (hu : X.A.units + 64 < cLine) : OpR X (compareOp .NotEq) (rC2 X.K (cmE .ne)) := by
  intro pins s σ H v w v' w' Q I rv rw' h
  obtain ⟨A, x, y, b, rx, ry, hb, q⟩ := h
  simp only [cmE] at hb
  split at hb
  · rename_i hp
    cases hb
    rw [Bool.and_eq_true] at hp
    refine op_neD hu pins s σ H _ _ _ _ Q I rv rw' ⟨toD x, toD y, rx.dp (plain_of hp.1), ry.dp (plain_of hp.2), shaped_toD hp.1, shaped_toD hp.2, ?_⟩
    rw [eqv_toD x y (plain_of hp.1) (plain_of hp.2)]
    exact q
  · cases hb

theorem lexS_eq : ∀ (a b : List Nat), lexS a b = decide (a < b)
  | [], [] => by simp [lexS]
  | [], _ :: _ => by simp [lexS]
  | _ :: _, [] => by simp [lexS]
  | a :: as, b :: bs => by
    show (if a < b then true else if a = b then lexS as bs else false) = decide (a :: as < b :: bs)
    rw [lexS_eq as bs]
    by_cases h : a < b
    · rw [if_pos h]
      exact (decide_eq_true (List.cons_lt_cons_iff.mpr (.inl h))).symm
    · rw [if_neg h]
      by_cases e : a = b
      · subst e
        rw [if_pos rfl]
        simp [List.cons_lt_cons_iff]
      · rw [if_neg e]
        refine (decide_eq_false fun q => ?_).symm
        rcases List.cons_lt_cons_iff.mp q with q | q
        · exact h q
        · exact e q.1
mutual
theorem alike_comm' : ∀ (x y : PyData), PySem.W.alike x y = true → PySem.W.alike y x = true
  | .none, y, h => by cases y <;> first | rfl | cases h
  | .bool _, y, h => by cases y <;> first | rfl | cases h
  | .int _, y, h => by cases y <;> first | rfl | cases h
  | .str _, y, h => by cases y <;> first | rfl | cases h
  | .list a, y, h => by
    cases y with
    | list b => exact alikeAll_comm' a b h
    | _ => cases h
  | .tuple a, y, h => by
    cases y with
    | tuple b => exact alikeAll_comm' a b h
    | _ => cases h
  | .dict _, y, h => by cases y <;> cases h
theorem alikeAll_comm' : ∀ (x y : List PyData), PySem.W.alikeAll x y = true → PySem.W.alikeAll y x = true
  | [], [], _ => rfl
  | [], _ :: _, _ => rfl
  | _ :: _, [], _ => rfl
  | a :: as, b :: bs, h => by
    have h' : (PySem.W.alike a b && PySem.W.alikeAll as bs) = true := h
    rw [Bool.and_eq_true] at h'
    show (PySem.W.alike b a && PySem.W.alikeAll bs as) = true
    rw [alike_comm' a b h'.1, alikeAll_comm' as bs h'.2]
    rfl
end
mutual
theorem alike_toD : ∀ (x y : EV), plain x = true → plain y = true → PySem.W.alike (toD x) (toD y) = alikeE x y
  | .non, y, _, hy => by cases y <;> first | rfl | cases hy
  | .bl a, y, _, hy => by cases y <;> first | rfl | cases hy
  | .int a, y, _, hy => by cases y <;> first | rfl | cases hy
  | .str a, y, _, hy => by cases y <;> first | rfl | cases hy
  | .tup a, y, hx, hy => by
    cases y with
    | tup b => exact alike_toDs a b hx hy
    | dct _ _ => cases hy
    | scr _ => cases hy
    | _ => rfl
  | .lst a, y, hx, hy => by
    cases y with
    | lst b => exact alike_toDs a b hx hy
    | dct _ _ => cases hy
    | scr _ => cases hy
    | _ => rfl
  | .dct _ _, _, hx, _ => by cases hx
  | .scr _, _, hx, _ => by cases hx
theorem alike_toDs : ∀ (x y : List EV), plains x = true → plains y = true → PySem.W.alikeAll (toDs x) (toDs y) = alikeEs x y
  | [], [], _, _ => rfl
  | [], _ :: _, _, _ => rfl
  | _ :: _, [], _, _ => rfl
  | a :: as, b :: bs, hx, hy => by
    simp only [plains, Bool.and_eq_true] at hx hy
    show (PySem.W.alike (toD a) (toD b) && PySem.W.alikeAll (toDs as) (toDs bs)) = (alikeE a b && alikeEs as bs)
    rw [alike_toD a b hx.1 hy.1, alike_toDs as bs hx.2 hy.2]
end
theorem row_nil_nil : PySem.W.rowLt [] [] = false := by decide +kernel
theorem row_nil_cons (y : PyData) (ys : List PyData) : PySem.W.rowLt [] (y :: ys) = true := by
  unfold PySem.W.rowLt
  rw [PySem.W.keyToksAll, PySem.W.keyToksAll, PySem.W.lex_atom (by simp)]
  decide +kernel
theorem row_cons_nil (y : PyData) (ys : List PyData) : PySem.W.rowLt (y :: ys) [] = false := by
  unfold PySem.W.rowLt
  rw [PySem.W.keyToksAll, PySem.W.keyToksAll, PySem.W.lex_atom (by simp)]
  decide +kernel
mutual
theorem lt_toD : ∀ (x y : EV), plain x = true → plain y = true → alikeE x y = true → PySem.W.dataLt (toD x) (toD y) = ltE x y
  | .non, y, _, _, h => by
    cases y with
    | non => show PySem.W.dataLt .none .none = false; decide +kernel
    | _ => cases h
  | .bl a, y, _, _, h => by
    cases y with
    | bl b =>
      show PySem.W.dataLt (.bool a) (.bool b) = (!a && b)
      rw [PySem.W.dataLt_bool]
      cases a <;> cases b <;> decide
    | _ => cases h
  | .int a, y, _, _, h => by
    cases y with
    | int b => exact PySem.W.dataLt_int a b
    | _ => cases h
  | .str a, y, _, _, h => by
    cases y with
    | str b =>
      show PySem.W.dataLt (.str (sv a)) (.str (sv b)) = lexS a b
      rw [PySem.W.dataLt_str, sv_cps, sv_cps, lexS_eq]
    | _ => cases h
  | .tup a, y, hx, hy, h => by
    cases y with
    | tup b =>
      show PySem.W.dataLt (.tuple (toDs a)) (.tuple (toDs b)) = ltEs a b
      rw [PySem.W.dataLt_tuple]
      exact lt_toDs a b hx hy h
    | _ => cases h
  | .lst a, y, hx, hy, h => by
    cases y with
    | lst b =>
      show PySem.W.dataLt (.list (toDs a)) (.list (toDs b)) = ltEs a b
      rw [PySem.W.dataLt_list]
      exact lt_toDs a b hx hy h
    | _ => cases h
  | .dct _ _, _, hx, _, _ => by cases hx
  | .scr _, _, hx, _, _ => by cases hx
theorem lt_toDs : ∀ (x y : List EV), plains x = true → plains y = true → alikeEs x y = true → PySem.W.rowLt (toDs x) (toDs y) = ltEs x y
  | [], [], _, _, _ => row_nil_nil
  | [], _ :: _, _, _, _ => row_nil_cons _ _
  | _ :: _, [], _, _, _ => row_cons_nil _ _
  | a :: as, b :: bs, hx, hy, h => by
    simp only [plains, Bool.and_eq_true] at hx hy
    have h' : (alikeE a b && alikeEs as bs) = true := h
    rw [Bool.and_eq_true] at h'
    show PySem.W.rowLt (toD a :: toDs as) (toD b :: toDs bs) = if eqE a b then ltEs as bs else ltE a b
    have al : PySem.W.alike (toD a) (toD b) = true := by rw [alike_toD a b hx.1 hy.1]; exact h'.1
    have e := PySem.W.dataLt_cons al (toDs as) (toDs bs)
    unfold PySem.W.rowLt
    rw [e, eqv_toD a b hx.1 hy.1]
    split
    · exact lt_toDs as bs hx.2 hy.2 h'.2
    · exact lt_toD a b hx.1 hy.1 h'.1
end
theorem depth_of {x : EV} (h : okD x = true) : (toD x).depth ≤ 60 := by
  simp only [okD, Bool.and_eq_true, decide_eq_true_eq] at h
  rw [depth_toD x h.1]
  exact h.2
theorem toD_non {x : EV} (p : plain x = true) (e : toD x = .none) : x = .non := by
  cases x <;> first | rfl | (exact (Bool.false_ne_true (show false = true from p)).elim) | cases e
theorem cm_ord {op : CmpOp} {c : Cm} {f : EV → EV → Bool} (hc : ∀ x y b, cmE c x y = some b → cmpOk x y = true ∧ b = f x y)
    (rule : ∀ {prog : Program} {w : World} {A : Around} {E : Value → Shared → Prop} {s : Shared} {a b : Value} {x y : EV} {as bs : List Addr} {Q : Value → Shared → Prop}, Reads s.heap a (toD x) as → Reads s.heap b (toD y) bs → plain x = true → plain y = true → alikeE x y = true →
      toD x ≠ .none → A.units + min (toD x).depth (toD y).depth < cLine → Q (.bool (f x y)) s → wpAny (model prog w) A (compareOp op a b) Q E s) (hu : X.A.units + 64 < cLine) : OpR X (compareOp op) (rC2 X.K (cmE c)) := by
  intro pins s σ H v w v' w' Q I rv rw' hh
  obtain ⟨A, x, y, b, rx, ry, hb, q⟩ := hh
  obtain ⟨ok, rfl⟩ := hc x y b hb
  simp only [cmpOk, Bool.and_eq_true] at ok
  obtain ⟨⟨⟨o1, o2⟩, o3⟩, o4⟩ := ok
  obtain ⟨as, r1⟩ := Dp.reads I _ _ _ (rx.dp (plain_of o1)) rv
  obtain ⟨bs, r2⟩ := Dp.reads I _ _ _ (ry.dp (plain_of o2)) rw'
  refine rule r1 r2 (plain_of o1) (plain_of o2) o3 (fun e => ?_) ?_ ⟨.bl _, H, I, rfl, q⟩
  · rw [toD_non (plain_of o1) e] at o4
    cases o4
  · have := depth_of o1
    have h2 : min (toD x).depth (toD y).depth ≤ (toD x).depth := Nat.min_le_left _ _
    omega
theorem cmp_of {x y : EV} {b f : Bool} (h : (if cmpOk x y then some f else none) = some b) : cmpOk x y = true ∧ b = f := by
  split at h
  · rename_i q; cases h; exact ⟨q, rfl⟩
  · cases h
theorem cm_lt (hu : X.A.units + 64 < cLine) : OpR X (compareOp .Lt) (rC2 X.K (cmE .lt)) := cm_ord (f := fun x y => ltE x y) (fun x y b h => cmp_of h)
  (fun r1 r2 p1 p2 al hn hu q => PySem.W.lt_data r1 r2 (by rw [alike_toD _ _ p1 p2]; exact al) hn hu (by rw [lt_toD _ _ p1 p2 al]; exact q)) hu
theorem alikeE_comm {x y : EV} (p1 : plain x = true) (p2 : plain y = true) (h : alikeE x y = true) : alikeE y x = true := by
  rw [← alike_toD _ _ p2 p1]
  rw [← alike_toD _ _ p1 p2] at h
  exact alike_comm' _ _ h
theorem cm_gt (hu : X.A.units + 64 < cLine) : OpR X (compareOp .Gt) (rC2 X.K (cmE .gt)) := cm_ord (f := fun x y => ltE y x) (fun x y b h => cmp_of h)
  (fun r1 r2 p1 p2 al hn hu q => PySem.W.gt_data r1 r2 (by rw [alike_toD _ _ p1 p2]; exact al) hn hu (by rw [lt_toD _ _ p2 p1 (alikeE_comm p1 p2 al)]; exact q)) hu
theorem cm_le (hu : X.A.units + 64 < cLine) : OpR X (compareOp .LtE) (rC2 X.K (cmE .le)) := cm_ord (f := fun x y => !ltE y x) (fun x y b h => cmp_of h)
  (fun r1 r2 p1 p2 al hn hu q => PySem.W.le_data r1 r2 (by rw [alike_toD _ _ p1 p2]; exact al) hn hu (by rw [lt_toD _ _ p2 p1 (alikeE_comm p1 p2 al)]; exact q)) hu
theorem cm_ge (hu : X.A.units + 64 < cLine) : OpR X (compareOp .GtE) (rC2 X.K (cmE .ge)) := cm_ord (f := fun x y => !ltE x y) (fun x y b h => cmp_of h)
  (fun r1 r2 p1 p2 al hn hu q => PySem.W.ge_data r1 r2 (by rw [alike_toD _ _ p1 p2]; exact al) hn hu (by rw [lt_toD _ _ p1 p2 al]; exact q)) hu

/-! ### in -/
section
variable {K : PySem.W.Frag} {H H' : Hp} {A A' : Addr → Prop}
theorem Rep.flatV {v : V} {x : EV} (r : Rep K H A v x) (h : flat x = true) : L2.flatV v = true := by
  cases r <;> first | rfl | cases h
theorem flat_con {x : EV} (h : flat x = true) : x.isCon = false := by cases x <;> first | rfl | cases h
theorem Rep.eqV {v w : V} {x y : EV} (r : Rep K H A v x) (q : Rep K H A w y) (h : flat x = true) (k : flat y = true) : L2.eqV v w = eqE x y := by
  cases r <;> first | (exact (Bool.false_ne_true (show false = true from h)).elim) | skip
  all_goals (cases q <;> first | rfl | (exact (Bool.false_ne_true (show false = true from k)).elim) | (simp [L2.eqV, eqE, Bool.beq_eq_decide_eq]; done) | skip)
  show (sv _ == sv _) = decide _
  rw [Bool.eq_iff_iff, beq_iff_eq, decide_eq_true_eq]
  exact sv_eq_iff
theorem Reps.allFlat : ∀ {vs : List V} {xs : List EV}, Reps K H A vs xs → xs.all Ev.flat = true → vs.all L2.flatV = true
  | _, _, .nil, _ => rfl
  | _, _, .cons r t, h => by
    simp only [List.all_cons, Bool.and_eq_true] at h ⊢
    exact ⟨r.flatV h.1, Reps.allFlat t h.2⟩
theorem Reps.inV {v : V} {x : EV} (r : Rep K H A v x) (h : flat x = true) : ∀ {vs : List V} {xs : List EV}, Reps K H A vs xs → xs.all Ev.flat = true → L2.inV v vs = anyE x xs
  | _, _, .nil, _ => rfl
  | _, _, .cons q t, k => by
    simp only [List.all_cons, Bool.and_eq_true] at k
    show (L2.eqV _ v || _) = (eqE _ x || _)
    rw [q.eqV r k.1 h]
    exact congrArg _ (Reps.inV r h t k.2)
theorem KeyR.leaf {k : Key} {e : EV} (h : KeyR k e) : leafK e = true := by cases h <;> rfl
theorem KeyR.of {v : V} {x : EV} (r : Rep K H A v x) (h : leafK x = true) : ∃ k, v = kV k ∧ KeyR k x := by
  cases r <;> first | cases h | skip
  · exact ⟨.inl _, rfl, .int _⟩
  · exact ⟨.inr _, rfl, .str _⟩
theorem KeyR.eq {k k' : Key} {x y : EV} (h : KeyR k x) (q : KeyR k' y) : decide (k = k') = eqE x y := by
  cases h with
  | int i =>
    cases q with
    | int j => simp [eqE]
    | str t => simp [eqE]
  | str s =>
    cases q with
    | int j => simp [eqE]
    | str t => simp [eqE, sv_eq_iff]
theorem KeysR.of : ∀ {vs : List V} {xs : List EV}, Reps K H A vs xs → xs.all leafK = true → ∃ ks : List Key, vs = ks.map kV ∧ KeysR ks xs
  | _, _, .nil, _ => ⟨[], rfl, .nil⟩
  | _, _, .cons r t, h => by
    simp only [List.all_cons, Bool.and_eq_true] at h
    obtain ⟨k, e, hk⟩ := KeyR.of r h.1
    obtain ⟨ks, es, hks⟩ := KeysR.of t h.2
    exact ⟨k :: ks, by rw [e, es]; rfl, .cons hk hks⟩
theorem KeysR.eq : ∀ {k k' : List Key} {x y : List EV}, KeysR k x → KeysR k' y → decide (k = k') = eqEs x y
  | _, _, _, _, .nil, .nil => rfl
  | _, _, _, _, .nil, .cons _ _ => rfl
  | _, _, _, _, .cons _ _, .nil => by simp [eqEs]
  | _, _, _, _, .cons (k := a) (ks := as) (e := ea) (es := eas) h t, .cons (k := b) (ks := bs) (e := eb) (es := ebs) q u => by
    show decide (a :: as = b :: bs) = (eqE ea eb && eqEs eas ebs)
    rw [← h.eq q, ← KeysR.eq t u]
    simp [List.cons.injEq]
theorem TKeyR.eq {k k' : List Key} {x y : EV} (h : TKeyR k x) (q : TKeyR k' y) : decide (k = k') = eqE x y := by
  cases h with
  | tup h => cases q with
    | tup q => exact h.eq q
theorem RepK.get {k : Key} {x : EV} (hk : KeyR k x) : ∀ {kv : List (Key × V)} {xs : List (EV × EV)}, RepK K H A kv xs → match dGet xs x with | some z => ∃ v, valV kv k = some v ∧ Rep K H A v z | none => valV kv k = none
  | _, _, .nil => rfl
  | _, _, .cons (k := k1) (e := e1) (v := v1) (x := x1) (r := r1) (s := s1) h r t => by
    have e := h.eq hk
    unfold dGet valV
    rw [List.find?_cons]
    cases q : eqE e1 x with
    | true =>
      rw [q] at e
      simp only [e, if_true, Option.map_some]
      exact ⟨v1, rfl, r⟩
    | false =>
      rw [q] at e
      simp only [e, Bool.false_eq_true, if_false]
      exact RepK.get hk t
theorem RepT.get {k : List Key} {x : EV} (hk : TKeyR k x) : ∀ {kv : List (List Key × V)} {xs : List (EV × EV)}, RepT K H A kv xs → match dGet xs x with | some z => ∃ v, valV kv k = some v ∧ Rep K H A v z | none => valV kv k = none
  | _, _, .nil => rfl
  | _, _, .cons (k := k1) (e := e1) (v := v1) (x := x1) (r := r1) (s := s1) h r t => by
    have e := h.eq hk
    unfold dGet valV
    rw [List.find?_cons]
    cases q : eqE e1 x with
    | true =>
      rw [q] at e
      simp only [e, if_true, Option.map_some]
      exact ⟨v1, rfl, r⟩
    | false =>
      rw [q] at e
      simp only [e, Bool.false_eq_true, if_false]
      exact RepT.get hk t
/-- what a dict holds at a key -/
theorem dct_get {v w : V} {t : Nat} {xs : List (EV × EV)} {x : EV} (r : RepP K H A v (.dct t xs)) (rk : RepP K H A w x) (h : keyOk t x = true) :
    ∃ a, v = .ref a ∧ match dGet xs x with | some z => ∃ u, DGet H a w (some u) ∧ Rep K H A u z | none => DGet H a w none := by
  obtain ⟨a, e, hh⟩ := r.dct
  refine ⟨a, e, ?_⟩
  rcases hh with ⟨rfl, kv, hd, r⟩ | ⟨rfl, kv, hd, r⟩
  · simp only [keyOk, if_pos] at h
    have hc : x.isCon = false := by cases x <;> first | rfl | cases h
    obtain ⟨k, rfl, hk⟩ := KeyR.of (rk.flat hc) h
    have q := RepK.get hk r
    cases z : dGet xs x with
    | none => rw [z] at q; exact .inl ⟨kv, k, hd, rfl, q.symm⟩
    | some y =>
      rw [z] at q
      obtain ⟨u, q1, q2⟩ := q
      exact ⟨u, .inl ⟨kv, k, hd, rfl, q1.symm⟩, q2⟩
  · simp only [keyOk] at h
    cases x with
    | tup ys =>
      obtain ⟨b, vs, rfl, hb, rs⟩ := rk.tup
      obtain ⟨ks, rfl, hks⟩ := KeysR.of rs (by simpa using h)
      have q := RepT.get (.tup hks) r
      cases z : dGet xs (.tup ys) with
      | none => rw [z] at q; exact .inr ⟨kv, ks, b, hd, rfl, hb, q.symm⟩
      | some y =>
        rw [z] at q
        obtain ⟨u, q1, q2⟩ := q
        exact ⟨u, .inr ⟨kv, ks, b, hd, rfl, hb, q1.symm⟩, q2⟩
    | _ => simp at h
end
theorem cm_in (hu : X.A.units + 65 < cLine) : OpR X (compareOp .In) (rC2 X.K (cmE .isin)) := by
  intro pins s σ H v w v' w' Q I rv rw' h
  obtain ⟨A, x, y, b, rx, ry, hb, q⟩ := h
  cases y with
  | lst ys =>
    simp only [cmE, inE] at hb
    split at hb
    · rename_i hp
      cases hb
      rw [Bool.and_eq_true] at hp
      refine op_inD hu pins s σ H _ _ _ _ Q I rv rw' ⟨toD x, toDs ys, rx.dp (plain_of hp.1), ry.dp (plain_of hp.2), shaped_toD hp.1, shaped_toD hp.2, ?_⟩
      rw [anyE_eq x (plain_of hp.1) ys (plain_of hp.2)]
      exact q
    · cases hb
  | tup ys =>
    simp only [cmE, inE] at hb
    split at hb
    · rename_i hp
      cases hb
      rw [Bool.and_eq_true] at hp
      obtain ⟨p, vs, rfl, hp2, r⟩ := ry.tup
      have rx' := rx.flat (flat_con hp.1)
      refine op_in_seq pins s σ H _ _ _ _ Q I rv rw' ⟨p, vs, rfl, .inr (.inl (.inl hp2)), rx'.flatV hp.1, r.allFlat hp.2, ?_⟩
      rw [if_neg (by simp), Reps.inV rx' hp.1 r hp.2]
      exact q
    · cases hb
  | dct t kvs =>
    simp only [cmE, inE] at hb
    split at hb
    · rename_i hp
      cases hb
      obtain ⟨a, rfl, g⟩ := dct_get ry rx hp
      obtain rfl : w' = Value.ref a := rw'
      cases z : dGet kvs x with
      | none =>
        rw [z] at g q
        exact d_in (by omega) I g rv fun s3 I3 => ⟨.bl _, H, I3, rfl, q⟩
      | some u =>
        rw [z] at g q
        obtain ⟨u', g, _⟩ := g
        exact d_in (by omega) I g rv fun s3 I3 => ⟨.bl _, H, I3, rfl, q⟩
    · cases hb
  | str c =>
    cases x with
    | str a =>
      simp only [cmE, inE] at hb
      cases hb
      have e1 := rx.str
      have e2 := ry.str
      subst e1 e2
      refine op_in_str pins s σ H _ _ _ _ Q I rv rw' ⟨sv a, sv c, rfl, rfl, ?_⟩
      rw [occ_sub]
      exact q
    | _ => cases hb
  | _ => cases hb
theorem cm_notin (hu : X.A.units + 65 < cLine) : OpR X (compareOp .NotIn) (rC2 X.K (cmE .notin)) := by
  intro pins s σ H v w v' w' Q I rv rw' h
  obtain ⟨A, x, y, b, rx, ry, hb, q⟩ := h
  cases y with
  | lst ys =>
    simp only [cmE, inE] at hb
    split at hb
    · rename_i b' hb'
      split at hb'
      · rename_i hp
        cases hb'
        cases hb
        rw [Bool.and_eq_true] at hp
        refine op_notInD hu pins s σ H _ _ _ _ Q I rv rw' ⟨toD x, toDs ys, rx.dp (plain_of hp.1), ry.dp (plain_of hp.2), shaped_toD hp.1, shaped_toD hp.2, ?_⟩
        rw [anyE_eq x (plain_of hp.1) ys (plain_of hp.2)]
        exact q
      · cases hb'
    · cases hb
  | tup ys =>
    simp only [cmE, inE] at hb
    split at hb
    · rename_i b' hb'
      split at hb'
      · rename_i hp
        cases hb'
        cases hb
        rw [Bool.and_eq_true] at hp
        obtain ⟨p, vs, rfl, hp2, r⟩ := ry.tup
        have rx' := rx.flat (flat_con hp.1)
        refine op_notIn_seq pins s σ H _ _ _ _ Q I rv rw' ⟨p, vs, rfl, .inr (.inl (.inl hp2)), rx'.flatV hp.1, r.allFlat hp.2, ?_⟩
        rw [if_pos rfl, Reps.inV rx' hp.1 r hp.2]
        exact q
      · cases hb'
    · cases hb
  | dct t kvs =>
    simp only [cmE, inE] at hb
    split at hb
    · rename_i b' hb'
      split at hb'
      · rename_i hp
        cases hb'
        cases hb
        obtain ⟨a, rfl, g⟩ := dct_get ry rx hp
        obtain rfl : w' = Value.ref a := rw'
        cases z : dGet kvs x with
        | none =>
          rw [z] at g q
          exact d_notIn (by omega) I g rv fun s3 I3 => ⟨.bl _, H, I3, rfl, q⟩
        | some u =>
          rw [z] at g q
          obtain ⟨u', g, _⟩ := g
          exact d_notIn (by omega) I g rv fun s3 I3 => ⟨.bl _, H, I3, rfl, q⟩
      · cases hb'
    · cases hb
  | str c =>
    cases x with
    | str a =>
      simp only [cmE, inE] at hb
      cases hb
      have e1 := rx.str
      have e2 := ry.str
      subst e1 e2
      refine op_notin_str pins s σ H _ _ _ _ Q I rv rw' ⟨sv a, sv c, rfl, rfl, ?_⟩
      rw [occ_sub]
      exact q
    | _ => cases hb
  | _ => cases hb
def cmOf : Cm → CmpOp
  | .eq => .Eq
  | .ne => .NotEq
  | .lt => .Lt
  | .le => .LtE
  | .gt => .Gt
  | .ge => .GtE
  | .isin => .In
  | .notin => .NotIn
theorem cm_all (hu : X.A.units + 65 < cLine) : ∀ c : Cm, OpR X (compareOp (cmOf c)) (rC2 X.K (cmE c))
  | .eq => cm_eq (by omega)
  | .ne => cm_ne (by omega)
  | .lt => cm_lt (by omega)
  | .le => cm_le (by omega)
  | .gt => cm_gt (by omega)
  | .ge => cm_ge (by omega)
  | .isin => cm_in hu
  | .notin => cm_notin hu
end
end Ev
end

section
set_option Elab.async false
set_option linter.all false
set_option maxRecDepth 100000
set_option maxHeartbeats 4000000
/-! EvH: truth, subscripts, slices, built-ins. -/
namespace Ev
open PySem PySem.Spec PyProof.Rows L2

section
variable {X : Cx}
/-- truth by values -/
def rTr (K : PySem.W.Frag) : V → Hp → (Bool → Hp → Prop) → Prop := fun v H Q => ∃ (A : Addr → Prop) (x : EV) (b : Bool), RepP K H A v x ∧ truE x = some b ∧ Q b H
theorem tru_all : TruR X (rTr X.K) := by
  intro pins s σ H v v' Q I rv h
  obtain ⟨A, x, b, r, hb, q⟩ := h
  have go : ∀ k, TruV X.K v H k → Q k H → _ := fun k e q => tru_ok pins s σ H v v' Q I rv ⟨k, e, q⟩
  cases x with
  | non => cases r.non; cases hb; exact go _ rfl q
  | bl c => cases r.bl; cases hb; exact go _ rfl q
  | int i => cases r.int; cases hb; exact go _ rfl q
  | str z =>
    cases r.str
    simp only [truE] at hb
    split at hb
    · rename_i hl
      cases hb
      refine go _ ⟨by rw [sv_len, ← SZ_eq]; exact hl, ?_⟩ q
      rw [sv_len]
      cases z <;> simp
      omega
    · cases hb
  | tup ys =>
    obtain ⟨a, vs, rfl, h, rs⟩ := r.tup
    cases hb
    refine go _ (.inr (.inl ⟨vs, .inl (.inl h), ?_⟩)) q
    cases rs <;> rfl
  | lst ys =>
    obtain ⟨a, vs, rfl, h, rs⟩ := r.lst
    cases hb
    refine go _ (.inl ⟨vs, .inl (.inl h), ?_⟩) q
    cases rs <;> rfl
  | dct t kvs =>
    simp only [truE] at hb
    split at hb
    · rename_i ht
      subst ht
      cases hb
      obtain ⟨a, rfl, h⟩ := r.dct
      rcases h with ⟨_, kv, hd, rk⟩ | ⟨z, _⟩
      · obtain rfl : v' = Value.ref a := rv
        refine d_truth I hd fun s' I' => ⟨H, I', ?_⟩
        have e : kv.isEmpty = kvs.isEmpty := by cases rk <;> rfl
        rw [e]
        exact q
      · cases z
    · cases hb
  | scr _ => cases hb

/-! ### subscripts -/
section
variable {K : PySem.W.Frag} {H : Hp} {A : Addr → Prop}
theorem ixN_eq (n : Nat) (i : Int) : Ev.ixN n i = L2.ixN n i := rfl
theorem atE_eq {α : Type} (xs : List α) (i : Int) : atE xs i = atI xs i := by
  unfold atE atI
  rw [ixN_eq]
  cases L2.ixN xs.length i <;> rfl
theorem Reps.atI {vs : List V} {xs : List EV} {i : Int} {z : EV} (r : Reps K H A vs xs) (h : atE xs i = some z) : ∃ v, L2.atI vs i = some v ∧ Rep K H A v z := by
  unfold atE at h
  unfold L2.atI
  rw [r.length, ← ixN_eq]
  split at h
  · rename_i j hj
    rw [hj]
    exact r.get h
  · cases h
end
/-- a subscript by values: the item is shared -/
def rIxE (K : PySem.W.Frag) : R2 := fun v w H Q => ∃ (A : Addr → Prop) (x y z : EV), RepP K H A v x ∧ RepP K H A w y ∧ ixE x y = some z ∧ ∀ u, Rep K H A u z → Q u H
theorem ix_all (hu : X.A.units + 65 < cLine) : IxR X (rIxE X.K) := by
  intro value slice pins s σ H v w v' w' Q I rv rw' h hs
  obtain ⟨A, x, y, z, rx, ry, hz, q⟩ := h
  cases x with
  | lst xs =>
    cases y with
    | int i =>
      obtain ⟨a, vs, rfl, hl, r⟩ := rx.lst
      cases ry.int
      obtain ⟨u, h1, h2⟩ := r.atI hz
      exact ix_list value slice pins s σ H _ _ _ _ Q I rv rw' ⟨a, vs, i, u, rfl, rfl, .inl (.inl hl), h1, q u h2⟩ hs
    | _ => cases hz
  | tup xs =>
    cases y with
    | int i =>
      obtain ⟨a, vs, rfl, hl, r⟩ := rx.tup
      cases ry.int
      obtain ⟨u, h1, h2⟩ := r.atI hz
      exact ix_tup value slice pins s σ H _ _ _ _ Q I rv rw' ⟨a, vs, i, u, rfl, rfl, .inl (.inl hl), h1, q u h2⟩ hs
    | _ => cases hz
  | str t =>
    cases y with
    | int i =>
      cases rx.str; cases ry.int
      simp only [ixE] at hz
      split at hz
      · rename_i hl
        split at hz
        · rename_i c hc
          cases hz
          refine ix_str value slice pins s σ H _ _ _ _ Q I rv rw' ⟨sv t, i, c, rfl, rfl, by rw [sv_len, ← SZ_eq]; exact hl, by rw [sv_cps, ← atE_eq]; exact hc, q _ (.str [c])⟩ hs
        · cases hz
      · cases hz
    | _ => cases hz
  | dct t kvs =>
    simp only [ixE] at hz
    split at hz
    · rename_i hk
      obtain ⟨a, rfl, g⟩ := dct_get rx ry hk
      rw [hz] at g
      obtain ⟨u, g, ru⟩ := g
      obtain rfl : v' = Value.ref a := rv
      refine tail_any (ops := [.ref a, w']) (dict_typeIs I g) PySem.F.slot_dict_getitem.lookup ?_ hs
      exact d_getItem (by omega) I g rw' fun w2 s3 I3 rw2 => ⟨u, H, I3, rw2, q u ru⟩
    · cases hz
  | _ => cases hz

/-! ### slices -/
def rSlE (K : PySem.W.Frag) : V → Option Int → Option Int → Hp → VK → Prop := fun v lo hi H Q => ∃ (A : Addr → Prop) (x z : EV), RepP K H A v x ∧ slE x lo hi = some z ∧ (∀ a, A a → H a ≠ none) ∧ ∀ u H', ROut K A H u H' z → Q u H'
theorem sl_all : SlR X (rSlE X.K) := by
  intro pins s σ H v v' vl vu lo hi sl Q I rv hs pl pu h
  obtain ⟨A, x, z, rx, hz, hA, q⟩ := h
  cases x with
  | lst xs =>
    obtain ⟨a, vs, rfl, hl, r⟩ := rx.lst
    cases hz
    exact sl_list pins s σ H _ _ vl vu lo hi sl Q I rv hs pl pu ⟨a, vs, rfl, .inl (.inl hl), fun p hp => q _ _ (rout_lst (r.cut lo hi) hp)⟩
  | tup xs =>
    obtain ⟨a, vs, rfl, hl, r⟩ := rx.tup
    cases hz
    refine sl_tupA pins s σ H _ _ vl vu lo hi sl Q I rv hs pl pu ⟨a, vs, rfl, .inl (.inl hl), fun ⟨e1, e2⟩ => ?_, fun _ p hp => q _ _ (rout_tup (r.cut lo hi) hp hA)⟩
    have e : cut xs lo hi = xs := by
      unfold cut
      rw [sIx_eq, sIx_eq, ← r.length, e1, e2, Nat.sub_zero, List.drop_zero]
      exact List.take_of_length_le (by rw [r.length]; exact Nat.le_refl _)
    rw [e] at q
    exact q _ _ (rout_flat rfl (rx.flat rfl))
  | str t =>
    cases rx.str
    simp only [slE] at hz
    split at hz
    · rename_i hl
      cases hz
      refine sl_str pins s σ H _ _ vl vu lo hi sl Q I rv hs pl pu ⟨sv t, rfl, by rw [sv_len, ← SZ_eq]; exact hl, ?_⟩
      have e : cutS (sv t) lo hi = sv (cut t lo hi) := by
        unfold cutS cut
        rw [sv_cps, sv_len, sIx_eq, sIx_eq]
        rfl
      rw [e]
      exact q _ _ (rout_flat rfl (.str _))
    · cases hz
  | _ => cases hz
end
end Ev
end

section
set_option Elab.async false
set_option linter.all false
set_option maxRecDepth 100000
set_option maxHeartbeats 4000000
/-! EvI: built-ins by values. -/
namespace Ev
open PySem PySem.Spec PyProof.Rows L2

inductive RepPs (K : PySem.W.Frag) (H : Hp) (A : Addr → Prop) : List V → List EV → Prop
  | nil : RepPs K H A [] []
  | cons {v x vs xs} : RepP K H A v x → RepPs K H A vs xs → RepPs K H A (v :: vs) (x :: xs)
/-- a built-in by values -/
def rB (K : PySem.W.Frag) (f : List EV → Option EV) : List V → Hp → VK → Prop := fun vs H Q => ∃ (A : Addr → Prop) (xs : List EV) (z : EV), RepPs K H A vs xs ∧ f xs = some z ∧ (∀ a, A a → H a ≠ none) ∧ ∀ u H', ROut K A H u H' z → Q u H'

section
variable {K : PySem.W.Frag} {H : Hp} {A : Addr → Prop}
theorem RepPs.one {vs : List V} {x : EV} (h : RepPs K H A vs [x]) : ∃ v, vs = [v] ∧ RepP K H A v x := by
  cases h with
  | cons r t => cases t; exact ⟨_, rfl, r⟩
theorem RepPs.two {vs : List V} {x y : EV} (h : RepPs K H A vs [x, y]) : ∃ v w, vs = [v, w] ∧ RepP K H A v x ∧ RepP K H A w y := by
  cases h with
  | cons r t => cases t with
    | cons r' t' => cases t'; exact ⟨_, _, rfl, r, r'⟩
theorem sumE_ints : ∀ {xs : List EV} {i : Int} {vs : List V}, sumE xs = some i → Reps K H A vs xs → ∃ ns : List Int, vs = ns.map V.int ∧ ns.sum = i
  | [], i, vs, h, r => by cases r; cases h; exact ⟨[], rfl, rfl⟩
  | x :: xs, i, vs, h, r => by
    cases r with
    | cons q t =>
      cases x with
      | int k =>
        simp only [sumE] at h
        split at h
        · rename_i j hj
          cases h
          obtain ⟨ns, rfl, rfl⟩ := sumE_ints hj t
          cases q
          exact ⟨k :: ns, rfl, by simp⟩
        · cases h
      | _ => cases h
theorem allInt_ints : ∀ {xs : List EV} {l : List Int} {vs : List V}, allInt xs = some l → Reps K H A vs xs → vs = l.map V.int
  | [], i, vs, h, r => by cases r; cases h; rfl
  | x :: xs, i, vs, h, r => by
    cases r with
    | cons q t =>
      cases x with
      | int k =>
        simp only [allInt] at h
        split at h
        · rename_i j hj
          cases h
          rw [allInt_ints hj t]
          cases q
          rfl
        · cases h
      | _ => cases h
theorem allInt_toD : ∀ {xs : List EV} {l : List Int}, allInt xs = some l → toDs xs = l.map PyData.int ∧ plains xs = true
  | [], l, h => by cases h; exact ⟨rfl, rfl⟩
  | x :: xs, l, h => by
    cases x with
    | int k =>
      simp only [allInt] at h
      split at h
      · rename_i j hj
        cases h
        obtain ⟨e, p⟩ := allInt_toD hj
        exact ⟨by show PyData.int k :: toDs xs = _; rw [e]; rfl, p⟩
      · cases h
    | _ => cases h
theorem maxI_spec : ∀ (l : List Int) (m : Int), maxI m l = l.foldl max m
  | [], m => rfl
  | x :: r, m => by
    show maxI (if x > m then x else m) r = _
    rw [maxI_spec r, List.foldl_cons]
    congr 1
    show (if x > m then x else m) = max m x
    rw [Int.max_def]
    split <;> split <;> omega
theorem minI_spec : ∀ (l : List Int) (m : Int), minI m l = l.foldl min m
  | [], m => rfl
  | x :: r, m => by
    show minI (if x < m then x else m) r = _
    rw [minI_spec r, List.foldl_cons]
    congr 1
    show (if x < m then x else m) = min m x
    rw [Int.min_def]
    split <;> split <;> omega
theorem foldl_max_mem : ∀ (l : List Int) (m : Int), l.foldl max m ∈ m :: l ∧ ∀ y ∈ m :: l, y ≤ l.foldl max m
  | [], m => ⟨by simp, fun y h => by simp at h; simp [h]⟩
  | x :: r, m => by
    obtain ⟨h1, h2⟩ := foldl_max_mem r (max m x)
    refine ⟨?_, fun y h => ?_⟩
    · rw [List.foldl_cons]
      rcases List.mem_cons.mp h1 with h | h
      · rw [h]
        rcases Int.le_total m x with q | q
        · rw [Int.max_eq_right q]; simp
        · rw [Int.max_eq_left q]; simp
      · exact List.mem_cons_of_mem _ (List.mem_cons_of_mem _ h)
    · rw [List.foldl_cons]
      have h3 := h2 (max m x) (List.mem_cons_self)
      rcases List.mem_cons.mp h with h | h
      · have := Int.le_max_left m x; omega
      · rcases List.mem_cons.mp h with h | h
        · have := Int.le_max_right m x; omega
        · exact h2 y (List.mem_cons_of_mem _ h)
theorem foldl_min_mem : ∀ (l : List Int) (m : Int), l.foldl min m ∈ m :: l ∧ ∀ y ∈ m :: l, l.foldl min m ≤ y
  | [], m => ⟨by simp, fun y h => by simp at h; simp [h]⟩
  | x :: r, m => by
    obtain ⟨h1, h2⟩ := foldl_min_mem r (min m x)
    refine ⟨?_, fun y h => ?_⟩
    · rw [List.foldl_cons]
      rcases List.mem_cons.mp h1 with h | h
      · rw [h]
        rcases Int.le_total m x with q | q
        · rw [Int.min_eq_left q]; simp
        · rw [Int.min_eq_right q]; simp
      · exact List.mem_cons_of_mem _ (List.mem_cons_of_mem _ h)
    · rw [List.foldl_cons]
      have h3 := h2 (min m x) (List.mem_cons_self)
      rcases List.mem_cons.mp h with h | h
      · have := Int.min_le_left m x; omega
      · rcases List.mem_cons.mp h with h | h
        · have := Int.min_le_right m x; omega
        · exact h2 y (List.mem_cons_of_mem _ h)
end

/-! ### sorting -/
section
variable {le : EV → EV → Bool}
def insL (le : EV → EV → Bool) (x : EV) : List EV → List EV
  | [] => [x]
  | y :: ys => if !le x y then y :: insL le x ys else x :: y :: ys
def sortL (le : EV → EV → Bool) : List EV → List EV
  | [] => []
  | x :: xs => insL le x (sortL le xs)
theorem insL_mem {x z : EV} : ∀ {ys : List EV}, z ∈ insL le x ys ↔ z = x ∨ z ∈ ys
  | [] => by simp [insL]
  | y :: ys => by
    unfold insL
    split
    · rw [List.mem_cons, insL_mem, List.mem_cons]
      constructor
      · rintro (h | h | h)
        · exact .inr (.inl h)
        · exact .inl h
        · exact .inr (.inr h)
      · rintro (h | h | h)
        · exact .inr (.inl h)
        · exact .inl h
        · exact .inr (.inr h)
    · simp
theorem sortL_mem {z : EV} : ∀ {ys : List EV}, z ∈ sortL le ys ↔ z ∈ ys
  | [] => by simp [sortL]
  | y :: ys => by
    unfold sortL
    rw [insL_mem, sortL_mem, List.mem_cons]
theorem insL_pair (T : PySem.W.TotalLe le) {x : EV} : ∀ {ys : List EV}, ys.Pairwise (fun a b => le a b = true) → (insL le x ys).Pairwise (fun a b => le a b = true)
  | [], _ => by simp [insL]
  | y :: ys, h => by
    rw [List.pairwise_cons] at h
    unfold insL
    cases e : le x y with
    | true =>
      rw [if_neg (by simp)]
      refine List.pairwise_cons.mpr ⟨fun z hz => ?_, List.pairwise_cons.mpr h⟩
      rcases List.mem_cons.mp hz with rfl | hz
      · exact e
      · exact T.trans _ _ _ e (h.1 z hz)
    | false =>
      rw [if_pos (by simp)]
      refine List.pairwise_cons.mpr ⟨fun z hz => ?_, insL_pair T h.2⟩
      rcases insL_mem.mp hz with rfl | hz
      · rcases T.total z y with q | q
        · rw [e] at q; cases q
        · exact q
      · exact h.1 z hz
theorem sortL_pair (T : PySem.W.TotalLe le) : ∀ (ys : List EV), (sortL le ys).Pairwise (fun a b => le a b = true)
  | [] => .nil
  | y :: ys => insL_pair T (sortL_pair T ys)
theorem insL_filter (T : PySem.W.TotalLe le) (c x : EV) : ∀ (ys : List EV), (insL le x ys).filter (PySem.W.sameRank le c) = (x :: ys).filter (PySem.W.sameRank le c)
  | [] => rfl
  | y :: ys => by
    unfold insL
    cases e : le x y with
    | true => rw [if_neg (by simp)]
    | false =>
      rw [if_pos (by simp), List.filter_cons, insL_filter T c x ys]
      have no : ¬ (PySem.W.sameRank le c x = true ∧ PySem.W.sameRank le c y = true) := by
        rintro ⟨h1, h2⟩
        simp only [PySem.W.sameRank, Bool.and_eq_true] at h1 h2
        have := T.trans _ _ _ h1.2 h2.1
        rw [e] at this
        cases this
      simp only [List.filter_cons]
      cases hx : PySem.W.sameRank le c x with
      | true =>
        cases hy : PySem.W.sameRank le c y with
        | true => exact absurd ⟨hx, hy⟩ no
        | false => simp
      | false => cases hy : PySem.W.sameRank le c y <;> simp
theorem sortL_filter (T : PySem.W.TotalLe le) (c : EV) : ∀ (ys : List EV), (sortL le ys).filter (PySem.W.sameRank le c) = ys.filter (PySem.W.sameRank le c)
  | [] => rfl
  | y :: ys => by
    unfold sortL
    rw [insL_filter T c y, List.filter_cons, sortL_filter T c ys, List.filter_cons]
theorem sortL_eq (T : PySem.W.TotalLe le) (ys : List EV) : sortL le ys = ys.mergeSort le := PySem.W.sort_unique T (sortL_pair T ys) fun c => sortL_filter T c ys
theorem insE_insL {x : EV} : ∀ {ys : List EV}, (∀ y ∈ ys, le x y = !ltE y x) → insE x ys = insL le x ys
  | [], _ => rfl
  | y :: ys, h => by
    unfold insE insL
    rw [h y (by simp), insE_insL fun z hz => h z (by simp [hz])]
    simp
theorem sortE_sortL : ∀ {ys : List EV}, (∀ x ∈ ys, ∀ y ∈ ys, le x y = !ltE y x) → sortE ys = sortL le ys
  | [], _ => rfl
  | y :: ys, h => by
    unfold sortE sortL
    rw [sortE_sortL fun x hx z hz => h x (by simp [hx]) z (by simp [hz])]
    exact insE_insL fun z hz => h y (by simp) z (by simp [sortL_mem.mp hz])
end
def leD : EV → EV → Bool := PySem.W.dataLe false toD
theorem leD_total : PySem.W.TotalLe leD := by
  unfold leD PySem.W.dataLe
  exact PySem.W.sortLe_total _ _ _
theorem leD_eq {x y : EV} (p1 : plain x = true) (p2 : plain y = true) (al : alikeE x y = true) : leD x y = !ltE y x := by
  unfold leD
  rw [PySem.W.dataLe_eq]
  show (!PySem.W.dataLt (toD y) (toD x)) = _
  rw [lt_toD y x p2 p1 (alikeE_comm p1 p2 al)]
mutual
theorem shE_alike : ∀ (x y z : EV), shE x y = true → shE x z = true → alikeE y z = true
  | .non, y, z, h1, h2 => by cases y <;> first | (exact (Bool.false_ne_true (show false = true from h1)).elim) | (cases z <;> first | rfl | (exact (Bool.false_ne_true (show false = true from h2)).elim))
  | .bl _, y, z, h1, h2 => by cases y <;> first | (exact (Bool.false_ne_true (show false = true from h1)).elim) | (cases z <;> first | rfl | (exact (Bool.false_ne_true (show false = true from h2)).elim))
  | .int _, y, z, h1, h2 => by cases y <;> first | (exact (Bool.false_ne_true (show false = true from h1)).elim) | (cases z <;> first | rfl | (exact (Bool.false_ne_true (show false = true from h2)).elim))
  | .str _, y, z, h1, h2 => by cases y <;> first | (exact (Bool.false_ne_true (show false = true from h1)).elim) | (cases z <;> first | rfl | (exact (Bool.false_ne_true (show false = true from h2)).elim))
  | .tup a, y, z, h1, h2 => by
    cases y with
    | tup b => cases z with
      | tup c => exact shEs_alike a b c h1 h2
      | _ => cases h2
    | _ => cases h1
  | .lst a, y, z, h1, h2 => by
    cases y with
    | lst b => cases z with
      | lst c => exact shEs_alike a b c h1 h2
      | _ => cases h2
    | _ => cases h1
  | .dct _ _, _, _, h1, _ => by cases h1
  | .scr _, _, _, h1, _ => by cases h1
theorem shEs_alike : ∀ (x y z : List EV), shEs x y = true → shEs x z = true → alikeEs y z = true
  | [], [], _, _, _ => rfl
  | [], _ :: _, _, h, _ => by cases h
  | _ :: _, [], _, h, _ => by cases h
  | _ :: _, _ :: _, [], _, h => by cases h
  | a :: as, b :: bs, c :: cs, h1, h2 => by
    have h1' : (shE a b && shEs as bs) = true := h1
    have h2' : (shE a c && shEs as cs) = true := h2
    rw [Bool.and_eq_true] at h1' h2'
    show (alikeE b c && alikeEs bs cs) = true
    rw [shE_alike a b c h1'.1 h2'.1, shEs_alike as bs cs h1'.2 h2'.2]
    rfl
end
mutual
theorem shE_refl : ∀ (x : EV), plain x = true → shE x x = true
  | .non, _ => rfl
  | .bl _, _ => rfl
  | .int _, _ => rfl
  | .str _, _ => rfl
  | .tup a, h => shEs_refl a h
  | .lst a, h => shEs_refl a h
  | .dct _ _, h => by cases h
  | .scr _, h => by cases h
theorem shEs_refl : ∀ (x : List EV), plains x = true → shEs x x = true
  | [], _ => rfl
  | a :: as, h => by
    simp only [plains, Bool.and_eq_true] at h
    show (shE a a && shEs as as) = true
    rw [shE_refl a h.1, shEs_refl as h.2]
    rfl
end
structure SortOk (xs : List EV) : Prop where
  pl : ∀ x ∈ xs, okD x = true
  al : ∀ x ∈ xs, ∀ y ∈ xs, alikeE x y = true
  kd : (∀ x ∈ xs, isTup1 x = true) ∨ ∀ x ∈ xs, noTup x = true
theorem sortOk_of {xs : List EV} (h : sortOk xs = true) : SortOk xs := by
  simp only [sortOk, Bool.and_eq_true, Bool.or_eq_true, List.all_eq_true] at h
  obtain ⟨⟨h1, h2⟩, h3⟩ := h
  refine ⟨h1, ?_, h2⟩
  rcases h3 with h3 | h3
  · cases xs with
    | nil => intro x hx; simp at hx
    | cons x r =>
      simp only [List.all_eq_true] at h3
      have hs : ∀ y ∈ x :: r, shE x y = true := fun y hy => by
        rcases List.mem_cons.mp hy with rfl | hy
        · exact shE_refl _ (plain_of (h1 _ (by simp)))
        · exact h3 y hy
      exact fun y hy z hz => shE_alike x y z (hs y hy) (hs z hz)
  · exact h3
section
variable {X : Cx} {pins : List (Addr × Obj)} {σ : L2.St} {H : Hp} {s : Shared}
theorem each_of {K : PySem.W.Frag} {A : Addr → Prop} : ∀ {vs : List V} {us : List Value} {xs : List EV}, Vals vs us → Reps K H A vs xs → PySem.W.EachIs (fun u x => ∃ v, RelV v u ∧ Rep K H A v x) us xs
  | _, _, _, .nil, .nil => .nil
  | _, _, _, .cons r t, .cons q p => .cons ⟨_, r, q⟩ (each_of t p)
theorem of_each {K : PySem.W.Frag} {A : Addr → Prop} : ∀ {us : List Value} {xs : List EV}, PySem.W.EachIs (fun u x => ∃ v, RelV v u ∧ Rep K H A v x) us xs → ∃ vs, Vals vs us ∧ Reps K H A vs xs
  | _, _, .nil => ⟨[], .nil, .nil⟩
  | _, _, .cons ⟨v, r, q⟩ t => by
    obtain ⟨vs, h1, h2⟩ := of_each t
    exact ⟨v :: vs, .cons r h1, .cons q h2⟩
theorem each_mem2 {α β : Type} {R R' : α → β → Prop} : ∀ {as : List α} {bs : List β}, PySem.W.EachIs R as bs → (∀ a b, b ∈ bs → R a b → R' a b) → PySem.W.EachIs R' as bs
  | _, _, .nil, _ => .nil
  | _, _, .cons r t, h => .cons (h _ _ (by simp) r) (each_mem2 t fun a b hb => h a b (by simp [hb]))
theorem of1 {f : EV → Option EV} {v : Value} (h : ∀ (pins : List (Addr × Obj)) (s : Shared) (σ : L2.St) (H : Hp) (x : V) (u : Value) (Q : VK) (A : Addr → Prop) (y z : EV), L2.Inv X pins σ H s → RelV x u → RepP X.K H A x y → f y = some z → (∀ a, A a → H a ≠ none) →
    (∀ u H', ROut X.K A H u H' z → Q u H') → wpAny (model X.prog X.w) X.A (call v [u]) (EP X pins σ Q) X.xe s) : CallR X v (rB X.K fun xs => match xs with | [] => none | x :: r => match r with | [] => f x | _ :: _ => none) := by
  intro pins s σ H vs us Q I r hh
  obtain ⟨A, xs, z, rx, hz, hA, q⟩ := hh
  cases rx with
  | nil => cases hz
  | cons r1 t =>
    cases t with
    | nil =>
      obtain ⟨u, rfl, ru⟩ := vals1 r
      exact h pins s σ H _ u Q A _ z I ru r1 hz hA q
    | cons _ _ => cases hz
theorem b_sorted (hu : X.A.units + 80 < cLine) : CallR X (.builtin "sorted") (rB X.K fun xs => match xs with | [] => none | x :: r => match r with | [] => sorted1 x | _ :: _ => none) := of1 fun pins s σ H x u Q A y z I ru rx hz hA q => by
  cases y with
  | lst ys =>
    obtain ⟨a, ws, rfl, hl, rs⟩ := rx.lst
    simp only [sorted1] at hz
    split at hz
    · rename_i hok
      cases hz
      obtain ⟨pl, al, kd⟩ := sortOk_of hok
      obtain ⟨its, rv, hl', hz'⟩ := I.list (.inl (.inl hl))
      obtain rfl : u = Value.ref a := ru
      have e0 := each_of rv rs
      refine PySem.W.sorted_data (vs := its) (bs := ys) (R := fun u x => ∃ v, RelV v u ∧ Rep X.K H A v x) (enc := toD) hl'.isList e0 (each_mem2 e0 fun u x hx ⟨v, r1, r2⟩ => Dp.reads I _ _ _ (r2.dp (plain_of (pl x hx))) r1) ?_ ?_ (by rw [← rs.length]; exact hz') (fun b hb => ?_) fun out ho eo => ?_
      · intro d hd d' hd'
        obtain ⟨x, hx, rfl⟩ := List.mem_map.mp hd
        obtain ⟨y, hy, rfl⟩ := List.mem_map.mp hd'
        rw [alike_toD _ _ (plain_of (pl x hx)) (plain_of (pl y hy))]
        exact al x hx y hy
      · rcases kd with kd | kd
        · refine .inl fun d hd => ?_
          obtain ⟨x, hx, rfl⟩ := List.mem_map.mp hd
          have := kd x hx
          cases x with
          | tup zs => cases zs with
            | nil => cases this
            | cons z zs => exact ⟨toD z, toDs zs, rfl⟩
          | _ => cases this
        · refine .inr fun d hd => ?_
          obtain ⟨x, hx, rfl⟩ := List.mem_map.mp hd
          have k := kd x hx
          have p := plain_of (pl x hx)
          refine ⟨fun e => ?_, fun zs e => ?_⟩
          · rw [toD_non p e] at k; cases k
          · cases x <;> first | cases e | skip
            cases k
      · have := depth_of (pl b hb)
        omega
      · have e : ys.mergeSort (PySem.W.dataLe false toD) = sortE ys := by
          show ys.mergeSort leD = sortE ys
          rw [← sortL_eq leD_total ys]
          exact (sortE_sortL fun x hx y hy => leD_eq (plain_of (pl x hx)) (plain_of (pl y hy)) (al x hx y hy)).symm
        rw [e] at eo
        obtain ⟨vs', r1, r2⟩ := of_each eo
        obtain ⟨n, hn⟩ := sortedAll_at s.heap its out.toArray
        refine ⟨.ref (s.heap.objs.size + 1), _, I.laid (t' := s.toks) (o := .lst vs') (fun b o e => sortedAll_old e) (Nat.le_succ _) ⟨?_, out, n, r1, hn⟩, rfl, q _ _ (rout_lst r2 (I.hok.fresh (Nat.le_succ _)))⟩
        rw [r1.length, ho, ← rs.length]
        exact hz'
    · cases hz
  | _ => cases hz
/-! ### the other built-ins -/
theorem RepK.length {K : PySem.W.Frag} {H : Hp} {A : Addr → Prop} : ∀ {kv : List (Key × V)} {xs : List (EV × EV)}, RepK K H A kv xs → kv.length = xs.length
  | _, _, .nil => rfl
  | _, _, .cons _ _ r => congrArg (· + 1) (RepK.length r)
theorem RepT.length {K : PySem.W.Frag} {H : Hp} {A : Addr → Prop} : ∀ {kv : List (List Key × V)} {xs : List (EV × EV)}, RepT K H A kv xs → kv.length = xs.length
  | _, _, .nil => rfl
  | _, _, .cons _ _ r => congrArg (· + 1) (RepT.length r)
abbrev u1 (f : EV → Option EV) : List EV → Option EV := fun xs => match xs with | [] => none | x :: r => match r with | [] => f x | _ :: _ => none
theorem b_len : CallR X (.builtin "len") (rB X.K (u1 lenE)) := of1 fun pins s σ H x u Q A y z I ru rx hz hA q => by
  have r : Vals [x] [u] := .cons ru .nil
  cases y with
  | str t =>
    cases rx.str
    simp only [lenE] at hz
    split at hz
    · rename_i hl
      cases hz
      exact call_len pins s σ H _ _ Q I r ⟨_, t.length, rfl, ⟨by rw [sv_len, ← SZ_eq]; exact hl, (sv_len t).symm⟩, q _ _ (rout_flat rfl (.int _))⟩
    · cases hz
  | tup ys =>
    obtain ⟨a, ws, rfl, h, rs⟩ := rx.tup
    cases hz
    exact call_len pins s σ H _ _ Q I r ⟨_, ws.length, rfl, .inr ⟨ws, .inl (.inl h), rfl⟩, by rw [rs.length]; exact q _ _ (rout_flat rfl (.int _))⟩
  | lst ys =>
    obtain ⟨a, ws, rfl, h, rs⟩ := rx.lst
    cases hz
    exact call_len pins s σ H _ _ Q I r ⟨_, ws.length, rfl, .inl ⟨ws, .inl (.inl h), rfl⟩, by rw [rs.length]; exact q _ _ (rout_flat rfl (.int _))⟩
  | scr ns =>
    obtain ⟨a, rfl, h⟩ := rx.scr
    cases hz
    exact call_len pins s σ H _ _ Q I r ⟨_, (ns.map V.int).length, rfl, .inl ⟨_, h, rfl⟩, by rw [List.length_map]; exact q _ _ (rout_flat rfl (.int _))⟩
  | dct t kvs =>
    obtain ⟨a, rfl, h⟩ := rx.dct
    obtain rfl : u = Value.ref a := ru
    simp only [lenE] at hz
    split at hz
    · cases hz
      rcases h with ⟨_, kv, hd, rk⟩ | ⟨_, kv, hd, rk⟩
      · exact d_len I hd fun t s' I' => ⟨.int _, H, I', ⟨_, rfl⟩, q _ _ (rout_flat rfl (by rw [rk.length]; exact .int _))⟩
      · obtain ⟨z, hd', xs, rel, dd⟩ := dt_rd I.hok hd
        have hs : sizeLine = 16777216 := sizeLine_eq
        have e : xs.length = kv.length := rel.length.symm
        refine call_len_dictH hd' dd (by rw [e]; omega) ?_
        rw [e, rk.length]
        exact ⟨.int _, H, (I.tok _), ⟨_, rfl⟩, q _ _ (rout_flat rfl (.int _))⟩
    · cases hz
  | _ => cases hz
theorem b_sum (hc : X.calm = true) : CallR X (.builtin "sum") (rB X.K (u1 sum1)) := of1 fun pins s σ H x u Q A y z I ru rx hz hA q => by
  have r : Vals [x] [u] := .cons ru .nil
  cases y with
  | lst ys =>
    obtain ⟨a, ws, rfl, h, rs⟩ := rx.lst
    simp only [sum1] at hz
    split at hz
    · rename_i i hi
      cases hz
      obtain ⟨ns, rfl, rfl⟩ := sumE_ints hi rs
      exact cr_sum hc pins s σ H _ _ Q I r ⟨a, ns, rfl, .inl (.inl h), q _ _ (rout_flat rfl (.int _))⟩
    · cases hz
  | _ => cases hz
theorem b_abs : CallR X (.builtin "abs") (rB X.K (u1 abs1)) := of1 fun pins s σ H x u Q A y z I ru rx hz hA q => by
  cases y with
  | int i =>
    cases rx.int
    cases hz
    exact call_abs pins s σ H _ _ Q I (.cons ru .nil) ⟨i, rfl, q _ _ (rout_flat rfl (.int _))⟩
  | _ => cases hz
theorem b_int : CallR X (.type "int") (rB X.K (u1 int1)) := of1 fun pins s σ H x u Q A y z I ru rx hz hA q => by
  cases y with
  | int i =>
    cases rx.int
    cases hz
    exact call_int1 pins s σ H _ _ Q I (.cons ru .nil) (.inl ⟨i, rfl, q _ _ (rout_flat rfl (.int _))⟩)
  | bl b =>
    cases rx.bl
    cases hz
    exact call_int1 pins s σ H _ _ Q I (.cons ru .nil) (.inr ⟨b, rfl, q _ _ (rout_flat rfl (.int _))⟩)
  | _ => cases hz
theorem b_bool : CallR X (.type "bool") (rB X.K (u1 bool1)) := of1 fun pins s σ H x u Q A y z I ru rx hz hA q => by
  cases y with
  | int i =>
    cases rx.int
    cases hz
    exact call_bool1 pins s σ H _ _ Q I (.cons ru .nil) (.inl ⟨i, rfl, q _ _ (rout_flat rfl (.bl _))⟩)
  | bl b =>
    cases rx.bl
    cases hz
    exact call_bool1 pins s σ H _ _ Q I (.cons ru .nil) (.inr ⟨b, rfl, q _ _ (rout_flat rfl (.bl _))⟩)
  | _ => cases hz
theorem chars_map : ∀ s : List Nat, chars s = s.map fun c => EV.str [c]
  | [] => rfl
  | c :: s => by rw [chars, chars_map s]; rfl
theorem reps_chars {K : PySem.W.Frag} {H : Hp} {A : Addr → Prop} : ∀ s : List Nat, Reps K H A (s.map fun c => V.str (sv [c])) (chars s)
  | [] => .nil
  | c :: s => .cons (.str [c]) (reps_chars s)
theorem b_list (hc : X.calm = true) : CallR X (.type "list") (rB X.K (u1 list1)) := of1 fun pins s σ H x u Q A y z I ru rx hz hA q => by
  have r : Vals [x] [u] := .cons ru .nil
  cases y with
  | lst ys =>
    obtain ⟨a, ws, rfl, h, rs⟩ := rx.lst
    cases hz
    exact call_list_of pins s σ H _ _ Q I r ⟨a, ws, rfl, .inl (.inl (.inl h)), fun l hl => q _ _ (rout_lst rs hl)⟩
  | tup ys =>
    obtain ⟨a, ws, rfl, h, rs⟩ := rx.tup
    cases hz
    exact call_list_of pins s σ H _ _ Q I r ⟨a, ws, rfl, .inr (.inl (.inl h)), fun l hl => q _ _ (rout_lst rs hl)⟩
  | scr ns =>
    obtain ⟨a, rfl, h⟩ := rx.scr
    cases hz
    exact call_list_of pins s σ H _ _ Q I r ⟨a, _, rfl, .inl h, fun l hl => q _ _ (rout_lst Reps.intsE hl)⟩
  | str z =>
    simp only [list1] at hz
    split at hz
    · rename_i hl
      cases hz
      have e1 := rx.str
      subst e1
      obtain ⟨t, rfl⟩ := ru
      have hz : (sv z).cps.size ≤ sizeLine := by
        have := sv_len z
        unfold Str.length at this
        rw [this, ← SZ_eq]
        exact hl
      refine call_list_str (I.ok.hd hc) (sv z) t (fun h' tk acc' c' hk hS hacc => ?_) hz
      refine ⟨.ref s.heap.objs.size, upd H s.heap.objs.size (.lst (z.map fun c => V.str (sv [c]))), I.laid hk (Nat.le_refl _) (show ObjOk X.prog X.w _ _ _ (.lst (z.map fun c => V.str (sv [c]))) from ⟨?_, acc'.toList, c', ?_, ?_⟩), rfl, q _ _ (rout_lst (reps_chars z) (I.hok.fresh (Nat.le_refl _)))⟩
      · rw [List.length_map, ← SZ_eq]; exact hl
      · have el : acc'.toList.length = z.length := by
          have := hacc.1
          simp only [Array.length_toList]
          rw [this]
          exact sv_len z
        refine vals_of_at (by rw [List.length_map, el]) fun j x w h1 h2 => ?_
        obtain ⟨c, u, hc', rfl⟩ := hacc.2 j w (by rw [← Array.getElem?_toList]; exact h2)
        rw [List.getElem?_map] at h1
        have hcz : z[j]? = some c := by
          have : (sv z).cps.toList[j]? = some c := by rw [Array.getElem?_toList]; exact hc'
          rw [sv_cps] at this
          exact this
        rw [hcz] at h1
        cases h1
        exact ⟨u, rfl⟩
      · rw [Array.toArray_toList]; exact hS
    · cases hz
  | _ => cases hz
theorem b_tuple : CallR X (.type "tuple") (rB X.K (u1 tuple1)) := of1 fun pins s σ H x u Q A y z I ru rx hz hA q => by
  have r : Vals [x] [u] := .cons ru .nil
  cases y with
  | lst ys =>
    obtain ⟨a, ws, rfl, h, rs⟩ := rx.lst
    cases hz
    exact call_tuple_of pins s σ H _ _ Q I r ⟨a, ws, rfl, .inl ⟨.inl (.inl h), fun l hl => q _ _ (rout_tup rs hl hA)⟩⟩
  | tup ys =>
    obtain ⟨a, ws, rfl, h, rs⟩ := rx.tup
    cases hz
    exact call_tuple_of pins s σ H _ _ Q I r ⟨a, ws, rfl, .inr ⟨.inl (.inl h), q _ _ (rout_flat rfl (rx.flat rfl))⟩⟩
  | _ => cases hz

/-! ### any, all, max, min -/
theorem iter_tup {prog : Program} {w : World} {A : Around} {E : Value → Shared → Prop} {s : Shared} {l : Addr} {items : Array Value} {Q : Value → Shared → Prop} (hl : s.heap.IsTuple l items)
    (h : ∀ s₂ : Shared, s₂ = { s with heap := s.heap.push { cls := .type "tuple_iterator", data := .fields #[.ref l, .int 0 0] } } →
      (s₂.heap.IsTupleIter s.heap.objs.size l 0 ∧ s₂.heap.IsTuple l items) → l ≠ s.heap.objs.size → Q (.ref s.heap.objs.size) s₂) : wpAny (model prog w) A (pyIter (.ref l)) Q E s := by
  have hlt : l < s.heap.objs.size := by obtain ⟨_, e, _⟩ := hl; exact Heap.lt_size e
  exact wpAny_pyIter_tuple hl (h _ rfl ⟨⟨_, Heap.get?_push_size _ rfl, rfl, rfl⟩, hl.push _⟩ (Nat.ne_of_lt hlt))
theorem truth_flat {prog : Program} {w : World} {A : Around} {K : PySem.W.Frag} {H : Hp} {B : Addr → Prop} : ∀ {vs : List V} {us : List Value} {xs : List EV}, Vals vs us → Reps K H B vs xs → xs.all flatT = true →
    TruthOf prog w A (fun i v => us.toArray[i]? = some v) (fun i => (xs.map tr0).getD i false) := by
  intro vs us xs rv rs hf i v s Q E hv hq
  have hv' : us[i]? = some v := by simpa using hv
  have hi : i < us.length := (List.getElem?_eq_some_iff.mp hv').1
  have hx : i < xs.length := by rw [← rs.length, rv.length]; exact hi
  obtain ⟨x, hxi⟩ : ∃ x, xs[i]? = some x := ⟨_, List.getElem?_eq_getElem hx⟩
  obtain ⟨w1, h1, r1⟩ := rs.get hxi
  obtain ⟨u, h2, r2⟩ := rv.get h1
  rw [hv'] at h2
  cases h2
  have fx : flatT x = true := List.all_eq_true.mp hf x (List.mem_of_getElem? hxi)
  have hg : (xs.map tr0).getD i false = tr0 x := by rw [List.getD_eq_getElem?_getD, List.getElem?_map, hxi]; rfl
  have hq' : Q ((xs.map tr0).getD i false) s := hq
  rw [hg] at hq'
  cases r1 with
  | non => cases r2; exact truthy_none hq'
  | bl b => cases r2; exact wpAny_truthy_bool hq'
  | int i => obtain ⟨t, rfl⟩ := r2; exact PySem.P.truthy_int hq'
  | _ => cases fx
theorem any_of (xs : List EV) : (List.range xs.length).any (fun i => (xs.map tr0).getD i false) = xs.any tr0 := by
  have := any_range (xs.map tr0)
  rw [List.length_map] at this
  rw [this, List.any_map]
  rfl
theorem all_of' (xs : List EV) : (List.range xs.length).all (fun i => (xs.map tr0).getD i false) = xs.all tr0 := by
  have := all_range (xs.map tr0)
  rw [List.length_map] at this
  rw [this, List.all_map]
  rfl
theorem b_any (hc : X.calm = true) : CallR X (.builtin "any") (rB X.K (u1 any1)) := of1 fun pins s σ H x u Q A y z I ru rx hz hA q => by
  cases y with
  | lst ys =>
    obtain ⟨a, ws, rfl, h, rs⟩ := rx.lst
    obtain rfl : u = Value.ref a := ru
    simp only [any1] at hz
    split at hz
    · rename_i hf
      cases hz
      obtain ⟨its, rv, hl, _⟩ := I.list (.inl (.inl h))
      refine call_any_walk (iter_any hl.isList fun s₂ e2 st hne => ?_)
      subst e2
      refine ⟨_, _, _, _, _, _, _, rfl, Walks.list (A := X.A.in1) (I.ok.hd hc) _ a hne its.toArray, st, truth_flat rv rs hf, fun h' tk hk => ?_⟩
      refine ⟨.bl _, H, I.kept fun b o eo => hk b o (fun hmem => ?_) (Heap.get?_push_of_some _ eo), ?_, q _ _ (rout_flat rfl (.bl _))⟩
      · rcases List.mem_cons.mp hmem with e1 | hmem
        · exact absurd (e1 ▸ Heap.lt_size eo) (Nat.lt_irrefl _)
        · cases hmem
      · show Value.bool _ = Value.bool _
        rw [← any_of, List.size_toArray, ← rv.length, rs.length]
    · cases hz
  | tup ys =>
    obtain ⟨a, ws, rfl, h, rs⟩ := rx.tup
    obtain rfl : u = Value.ref a := ru
    simp only [any1] at hz
    split at hz
    · rename_i hf
      cases hz
      obtain ⟨its, rv, hl, _⟩ := I.tuple (.inl (.inl h))
      refine call_any_walk (iter_tup hl fun s₂ e2 st hne => ?_)
      subst e2
      refine ⟨_, _, _, _, _, _, _, rfl, Walks.tuple (A := X.A.in1) (I.ok.hd hc) _ a hne its.toArray, st, truth_flat rv rs hf, fun h' tk hk => ?_⟩
      refine ⟨.bl _, H, I.kept fun b o eo => hk b o (fun hmem => ?_) (Heap.get?_push_of_some _ eo), ?_, q _ _ (rout_flat rfl (.bl _))⟩
      · rcases List.mem_cons.mp hmem with e1 | hmem
        · exact absurd (e1 ▸ Heap.lt_size eo) (Nat.lt_irrefl _)
        · cases hmem
      · show Value.bool _ = Value.bool _
        rw [← any_of, List.size_toArray, ← rv.length, rs.length]
    · cases hz
  | _ => cases hz
theorem b_all (hc : X.calm = true) : CallR X (.builtin "all") (rB X.K (u1 all1)) := of1 fun pins s σ H x u Q A y z I ru rx hz hA q => by
  cases y with
  | lst ys =>
    obtain ⟨a, ws, rfl, h, rs⟩ := rx.lst
    obtain rfl : u = Value.ref a := ru
    simp only [all1] at hz
    split at hz
    · rename_i hf
      cases hz
      obtain ⟨its, rv, hl, _⟩ := I.list (.inl (.inl h))
      refine call_all_walk (iter_any hl.isList fun s₂ e2 st hne => ?_)
      subst e2
      refine ⟨_, _, _, _, _, _, _, rfl, Walks.list (A := X.A.in1) (I.ok.hd hc) _ a hne its.toArray, st, truth_flat rv rs hf, fun h' tk hk => ?_⟩
      refine ⟨.bl _, H, I.kept fun b o eo => hk b o (fun hmem => ?_) (Heap.get?_push_of_some _ eo), ?_, q _ _ (rout_flat rfl (.bl _))⟩
      · rcases List.mem_cons.mp hmem with e1 | hmem
        · exact absurd (e1 ▸ Heap.lt_size eo) (Nat.lt_irrefl _)
        · cases hmem
      · show Value.bool _ = Value.bool _
        rw [← all_of', List.size_toArray, ← rv.length, rs.length]
    · cases hz
  | tup ys =>
    obtain ⟨a, ws, rfl, h, rs⟩ := rx.tup
    obtain rfl : u = Value.ref a := ru
    simp only [all1] at hz
    split at hz
    · rename_i hf
      cases hz
      obtain ⟨its, rv, hl, _⟩ := I.tuple (.inl (.inl h))
      refine call_all_walk (iter_tup hl fun s₂ e2 st hne => ?_)
      subst e2
      refine ⟨_, _, _, _, _, _, _, rfl, Walks.tuple (A := X.A.in1) (I.ok.hd hc) _ a hne its.toArray, st, truth_flat rv rs hf, fun h' tk hk => ?_⟩
      refine ⟨.bl _, H, I.kept fun b o eo => hk b o (fun hmem => ?_) (Heap.get?_push_of_some _ eo), ?_, q _ _ (rout_flat rfl (.bl _))⟩
      · rcases List.mem_cons.mp hmem with e1 | hmem
        · exact absurd (e1 ▸ Heap.lt_size eo) (Nat.lt_irrefl _)
        · cases hmem
      · show Value.bool _ = Value.bool _
        rw [← all_of', List.size_toArray, ← rv.length, rs.length]
    · cases hz
  | _ => cases hz
end
end Ev
end

section
set_option Elab.async false
set_option linter.all false
set_option maxRecDepth 100000
set_option maxHeartbeats 4000000
/-! EvJ: max, min, list(range); the built-ins together. -/
namespace Ev
open PySem PySem.Spec PyProof.Rows L2

section
variable {X : Cx}
theorem of2 {f : EV → EV → Option EV} {v : Value} (h : ∀ (pins : List (Addr × Obj)) (s : Shared) (σ : L2.St) (H : Hp) (x x' : V) (u u' : Value) (Q : VK) (A : Addr → Prop) (y y' z : EV), L2.Inv X pins σ H s → RelV x u → RelV x' u' → RepP X.K H A x y → RepP X.K H A x' y' → f y y' = some z → (∀ a, A a → H a ≠ none) →
    (∀ u H', ROut X.K A H u H' z → Q u H') → wpAny (model X.prog X.w) X.A (call v [u, u']) (EP X pins σ Q) X.xe s) : CallR X v (rB X.K fun xs => match xs with | [] => none | x :: r => match r with | [] => none | y :: r => match r with | [] => f x y | _ :: _ => none) := by
  intro pins s σ H vs us Q I r hh
  obtain ⟨A, xs, z, rx, hz, hA, q⟩ := hh
  cases rx with
  | nil => cases hz
  | cons r1 t =>
    cases t with
    | nil => cases hz
    | cons r2 t =>
      cases t with
      | nil =>
        obtain ⟨u, u', rfl, ru, ru'⟩ := vals2 r
        exact h pins s σ H _ _ u u' Q A _ _ z I ru ru' r1 r2 hz hA q
      | cons _ _ => cases hz
abbrev u2 (f : EV → EV → Option EV) : List EV → Option EV := fun xs => match xs with | [] => none | x :: r => match r with | [] => none | y :: r => match r with | [] => f x y | _ :: _ => none
theorem bi_of {b : Bi} {v : Value} (h1 : CallR X v (rB X.K (u1 (bi1 b)))) (h2 : CallR X v (rB X.K (u2 (bi2 b)))) : CallR X v (rB X.K (biE b)) := by
  intro pins s σ H vs us Q I r hh
  obtain ⟨A, xs, z, rx, hz, hA, q⟩ := hh
  cases xs with
  | nil => cases hz
  | cons x xs =>
    cases xs with
    | nil => exact h1 pins s σ H vs us Q I r ⟨A, _, z, rx, hz, hA, q⟩
    | cons y xs =>
      cases xs with
      | nil => exact h2 pins s σ H vs us Q I r ⟨A, _, z, rx, hz, hA, q⟩
      | cons _ _ => cases hz
theorem no2 {v : Value} : CallR X v (rB X.K (u2 fun _ _ => none)) := by
  intro pins s σ H vs us Q I r hh
  obtain ⟨A, xs, z, rx, hz, hA, q⟩ := hh
  cases xs with
  | nil => cases hz
  | cons x xs => cases xs with
    | nil => cases hz
    | cons y xs => cases xs <;> cases hz
theorem maxL_some {xs : List EV} {z : EV} (h : maxL xs = some z) : ∃ m l, allInt xs = some (m :: l) ∧ z = .int (l.foldl max m) := by
  unfold maxL at h
  split at h
  · rename_i m l e
    cases h
    exact ⟨m, l, e, by rw [maxI_spec]⟩
  · cases h
theorem minL_some {xs : List EV} {z : EV} (h : minL xs = some z) : ∃ m l, allInt xs = some (m :: l) ∧ z = .int (l.foldl min m) := by
  unfold minL at h
  split at h
  · rename_i m l e
    cases h
    exact ⟨m, l, e, by rw [minI_spec]⟩
  · cases h
theorem alike_ints' (l : List Int) : PySem.W.AlikeAll (l.map PyData.int) := by
  refine ⟨fun x hx y hy => ?_, fun x hx => ?_⟩
  · obtain ⟨i, _, rfl⟩ := List.mem_map.mp hx
    obtain ⟨j, _, rfl⟩ := List.mem_map.mp hy
    rfl
  · obtain ⟨i, _, rfl⟩ := List.mem_map.mp hx
    exact fun e => nomatch e
theorem depth_ints (l : List Int) : PyData.depthAll (l.map PyData.int) = 0 := by
  induction l with
  | nil => rfl
  | cons a l ih => show max (PyData.depth (.int a)) (PyData.depthAll (l.map PyData.int)) = 0; rw [ih]; rfl
theorem reads_int {h : Heap} {v : Value} {i : Int} {as : List Addr} (r : Reads h v (.int i) as) : ∃ t, v = .int i t := by
  cases r; exact ⟨_, rfl⟩
theorem b_max (hc : X.calm = true) (hu : X.A.units + 64 < cLine) : CallR X (.builtin "max") (rB X.K (biE .max)) := by
  refine bi_of (b := .max) (of1 fun pins s σ H x u Q A y z I ru rx hz hA q => ?_) (of2 fun pins s σ H x x' u u' Q A y y' z I ru ru' rx rx' hz hA q => ?_)
  · cases y with
    | lst ys =>
      obtain ⟨a, ws, rfl, h, rs⟩ := rx.lst
      obtain ⟨m, l, e, rfl⟩ := maxL_some hz
      have ew := allInt_ints e rs
      obtain ⟨h1, h2⟩ := foldl_max_mem l m
      refine cr_max hc pins s σ H _ _ Q I (.cons ru .nil) ⟨a, m :: l, rfl, .inl (.inl (by rw [← ew]; exact h)), by simp, fun k hk hmax => ?_⟩
      have : k = l.foldl max m := Int.le_antisymm (h2 k hk) (hmax _ h1)
      subst this
      exact q _ _ (rout_flat rfl (.int _))
    | tup ys =>
      obtain ⟨a, ws, rfl, h, rs⟩ := rx.tup
      obtain rfl : u = Value.ref a := ru
      simp only [bi1, max1] at hz
      split at hz
      · obtain ⟨m, l, e, rfl⟩ := maxL_some hz
        obtain ⟨e1, e2⟩ := allInt_toD e
        obtain ⟨its, rv, hl, _⟩ := I.tuple (.inl (.inl h))
        obtain ⟨as, hr⟩ := Dp.readsAll I _ _ _ (rs.dp e2) rv
        rw [e1, List.map_cons] at hr
        refine PySem.W.max_tuple_data (I.ok.hd hc) hl (by simpa using hr) (alike_ints' (m :: l)) (by have := depth_ints (m :: l); rw [List.map_cons] at this; omega) fun i v h' tk bs _ hv hk => ?_
        rw [PySem.W.maxD_ints] at hv
        obtain ⟨t, rfl⟩ := reads_int hv
        exact ⟨.int _, H, I.kept hk, ⟨_, rfl⟩, q _ _ (rout_flat rfl (.int _))⟩
      · cases hz
    | _ => cases hz
  · cases y with
    | int i => cases y' with
      | int j =>
        cases rx.int; cases rx'.int; cases hz
        exact call_max2 hc pins s σ H _ _ Q I (.cons ru (.cons ru' .nil)) ⟨i, j, rfl, q _ _ (rout_flat rfl (.int _))⟩
      | _ => cases hz
    | _ => cases hz
theorem b_min (hc : X.calm = true) (hu : X.A.units + 64 < cLine) : CallR X (.builtin "min") (rB X.K (biE .min)) := by
  refine bi_of (b := .min) (of1 fun pins s σ H x u Q A y z I ru rx hz hA q => ?_) (of2 fun pins s σ H x x' u u' Q A y y' z I ru ru' rx rx' hz hA q => ?_)
  · cases y with
    | lst ys =>
      obtain ⟨a, ws, rfl, h, rs⟩ := rx.lst
      obtain ⟨m, l, e, rfl⟩ := minL_some hz
      have ew := allInt_ints e rs
      obtain ⟨h1, h2⟩ := foldl_min_mem l m
      refine cr_min hc pins s σ H _ _ Q I (.cons ru .nil) ⟨a, m :: l, rfl, .inl (.inl (by rw [← ew]; exact h)), by simp, fun k hk hmin => ?_⟩
      have : k = l.foldl min m := Int.le_antisymm (hmin _ h1) (h2 k hk)
      subst this
      exact q _ _ (rout_flat rfl (.int _))
    | tup ys =>
      obtain ⟨a, ws, rfl, h, rs⟩ := rx.tup
      obtain rfl : u = Value.ref a := ru
      simp only [bi1, min1] at hz
      split at hz
      · obtain ⟨m, l, e, rfl⟩ := minL_some hz
        obtain ⟨e1, e2⟩ := allInt_toD e
        obtain ⟨its, rv, hl, _⟩ := I.tuple (.inl (.inl h))
        obtain ⟨as, hr⟩ := Dp.readsAll I _ _ _ (rs.dp e2) rv
        rw [e1, List.map_cons] at hr
        refine PySem.W.min_tuple_data (I.ok.hd hc) hl (by simpa using hr) (alike_ints' (m :: l)) (by have := depth_ints (m :: l); rw [List.map_cons] at this; omega) fun i v h' tk bs _ hv hk => ?_
        rw [PySem.W.minD_ints] at hv
        obtain ⟨t, rfl⟩ := reads_int hv
        exact ⟨.int _, H, I.kept hk, ⟨_, rfl⟩, q _ _ (rout_flat rfl (.int _))⟩
      · cases hz
    | _ => cases hz
  · cases y with
    | int i => cases y' with
      | int j =>
        cases rx.int; cases rx'.int; cases hz
        exact call_min2 hc pins s σ H _ _ Q I (.cons ru (.cons ru' .nil)) ⟨i, j, rfl, q _ _ (rout_flat rfl (.int _))⟩
      | _ => cases hz
    | _ => cases hz
/-- the value that a built-in's name has -/
def biVal : Bi → Option (Str × Value)
  | .len => some ("len", .builtin "len")
  | .sum => some ("sum", .builtin "sum")
  | .any => some ("any", .builtin "any")
  | .all => some ("all", .builtin "all")
  | .max => some ("max", .builtin "max")
  | .min => some ("min", .builtin "min")
  | .abs => some ("abs", .builtin "abs")
  | .int => some ("int", .type "int")
  | .bool => some ("bool", .type "bool")
  | .sorted => some ("sorted", .builtin "sorted")
  | .list => some ("list", .type "list")
  | .tuple => some ("tuple", .type "tuple")
  | .listR => none
theorem bi_call (hc : X.calm = true) (hu : X.A.units + 80 < cLine) : ∀ (b : Bi) (x : Str) (v : Value), biVal b = some (x, v) → CallR X v (rB X.K (biE b))
  | .len, _, _, h => by cases h; exact bi_of b_len no2
  | .sum, _, _, h => by cases h; exact bi_of (b_sum hc) no2
  | .any, _, _, h => by cases h; exact bi_of (b_any hc) no2
  | .all, _, _, h => by cases h; exact bi_of (b_all hc) no2
  | .max, _, _, h => by cases h; exact b_max hc (by omega)
  | .min, _, _, h => by cases h; exact b_min hc (by omega)
  | .abs, _, _, h => by cases h; exact bi_of b_abs no2
  | .int, _, _, h => by cases h; exact bi_of b_int no2
  | .bool, _, _, h => by cases h; exact bi_of b_bool no2
  | .sorted, _, _, h => by cases h; exact bi_of (b_sorted hu) no2
  | .list, _, _, h => by cases h; exact bi_of (b_list hc) no2
  | .tuple, _, _, h => by cases h; exact bi_of b_tuple no2
  | .listR, _, _, h => by cases h
theorem bi_boot : ∀ (b : Bi) (x : Str) (v : Value), biVal b = some (x, v) → bootBuiltins x = some v ∧ x ≠ "__name__" ∧ (x == ("__debug__" : Str)) = false ∧ ((∃ id, v = .builtin id) ∨ ∃ T, v = .type T)
  | .len, _, _, h => by cases h; exact ⟨by decide +kernel, by decide +kernel, by decide +kernel, .inl ⟨_, rfl⟩⟩
  | .sum, _, _, h => by cases h; exact ⟨by decide +kernel, by decide +kernel, by decide +kernel, .inl ⟨_, rfl⟩⟩
  | .any, _, _, h => by cases h; exact ⟨by decide +kernel, by decide +kernel, by decide +kernel, .inl ⟨_, rfl⟩⟩
  | .all, _, _, h => by cases h; exact ⟨by decide +kernel, by decide +kernel, by decide +kernel, .inl ⟨_, rfl⟩⟩
  | .max, _, _, h => by cases h; exact ⟨by decide +kernel, by decide +kernel, by decide +kernel, .inl ⟨_, rfl⟩⟩
  | .min, _, _, h => by cases h; exact ⟨by decide +kernel, by decide +kernel, by decide +kernel, .inl ⟨_, rfl⟩⟩
  | .abs, _, _, h => by cases h; exact ⟨by decide +kernel, by decide +kernel, by decide +kernel, .inl ⟨_, rfl⟩⟩
  | .int, _, _, h => by cases h; exact ⟨by decide +kernel, by decide +kernel, by decide +kernel, .inr ⟨_, rfl⟩⟩
  | .bool, _, _, h => by cases h; exact ⟨by decide +kernel, by decide +kernel, by decide +kernel, .inr ⟨_, rfl⟩⟩
  | .sorted, _, _, h => by cases h; exact ⟨by decide +kernel, by decide +kernel, by decide +kernel, .inl ⟨_, rfl⟩⟩
  | .list, _, _, h => by cases h; exact ⟨by decide +kernel, by decide +kernel, by decide +kernel, .inr ⟨_, rfl⟩⟩
  | .tuple, _, _, h => by cases h; exact ⟨by decide +kernel, by decide +kernel, by decide +kernel, .inr ⟨_, rfl⟩⟩
  | .listR, _, _, h => by cases h
end
end Ev
end

section
set_option Elab.async false
set_option linter.all false
set_option maxRecDepth 100000
set_option maxHeartbeats 4000000
/-! EvK: which core term stands for which piece of a def's text (a Bool check), and what a frame knows. -/
namespace Ev
open PySem PySem.Spec PyProof.Rows L2

def visB (sc : Scope) (x : Str) : Bool := match sc.names.lookup x with
  | some .local => true
  | some .cell => true
  | some .free => true
  | _ => false
theorem visB_ok {sc : Scope} {x : Str} (h : visB sc x = true) : Vis sc x := by
  unfold visB at h
  split at h
  · rename_i e; exact .inl e
  · rename_i e; exact .inr (.inl e)
  · rename_i e; exact .inr (.inr e)
  · cases h
def locB (sc : Scope) (x : Str) : Bool := match sc.names.lookup x with
  | some .local => true
  | some .cell => true
  | _ => false
theorem locB_ok {sc : Scope} {x : Str} (h : locB sc x = true) : Loc sc x := by
  unfold locB at h
  split at h
  · rename_i e; exact .inl e
  · rename_i e; exact .inr e
  · cases h
def glB (sc : Scope) (x : Str) : Bool := match sc.names.lookup x with
  | some .globalImplicit => true
  | _ => false
theorem glB_ok {sc : Scope} {x : Str} (h : glB sc x = true) : sc.names.lookup x = some .globalImplicit := by
  unfold glB at h
  split at h
  · rename_i e; exact e
  · cases h
def okN (x : Str) : Bool := !(x == ("__debug__" : Str)) && !(x == ("__classdict__" : Str))
theorem okN_ok {x : Str} (h : okN x = true) : (x == ("__debug__" : Str)) = false ∧ (x == ("__classdict__" : Str)) = false := by
  unfold okN at h
  rw [Bool.and_eq_true, Bool.not_eq_true', Bool.not_eq_true'] at h
  exact h
def litB (c : Const) (v : EV) : Bool := match c with
  | .none => match v with | .non => true | _ => false
  | .bool b => match v with | .bl b' => b == b' | _ => false
  | .int i => match v with | .int j => decide (i = j) | _ => false
  | .str s => match v with | .str t => decide (s.cps.toList = t) | _ => false
  | _ => false
def notStar : Expr → Bool
  | .Starred _ _ => false
  | _ => true
def notSet : Expr → Bool
  | .Set _ _ _ => false
  | _ => true
def notSlice : Expr → Bool
  | .Slice _ _ _ _ => false
  | _ => true
/-- names, constants, subscripts, displays: what a method may be called of -/
def plainO : Expr → Bool
  | .Name _ _ => true
  | .Constant _ _ _ => true
  | .Subscript _ _ _ => true
  | .Attribute _ _ _ => true
  | _ => false
def ownOf (N : List Str) (vs : List Nat) : List (Str × Nat) := vs.filterMap fun v => (N[v]?).map fun x => (x, v)
/-- of a test (isTrue runs these by themselves) -/
def testB : CE → Bool
  | .ite _ _ _ => false
  | .and a b => testB a && testB b
  | .or a b => testB a && testB b
  | _ => true
def isListR : Bi → Bool
  | .listR => true
  | _ => false
section
variable (N : List Str) (gn : Nat → Str) (fn : Nat → Str) (fr : List Str)
mutual
def trP : Pt → Scope → Expr → Bool
  | .nm i, sc, e => match e with
    | .Name x _ => decide (N[i]? = some x) && locB sc x
    | _ => false
  | .tp ps, sc, e => match e with
    | .Tuple es _ _ => trPs ps sc es
    | _ => false
def trPs : List Pt → Scope → List Expr → Bool
  | [], _, es => match es with | [] => true | _ => false
  | p :: ps, sc, es => match es with
    | e :: es => notStar e && trP p sc e && trPs ps sc es
    | [] => false
end
/-- the expressions that an iterator is made of -/
def itX (fr : List Str) (k : ItK) (sc : Scope) (e : Expr) : Option (List Expr) := match k with
  | .val => some [e]
  | .seq => some [e]
  | .rng1 => match e with
    | .Call (.Name x _) args [] _ => if decide (x = "range") && glB sc x && fr.contains x then some args else none
    | _ => none
  | .rng2 => match e with
    | .Call (.Name x _) args [] _ => if decide (x = "range") && glB sc x && fr.contains x then some args else none
    | _ => none
  | .enum => match e with
    | .Call (.Name x _) args [] _ => if decide (x = "enumerate") && glB sc x && fr.contains x then some args else none
    | _ => none
  | .zip => match e with
    | .Call (.Name x _) args [] _ => if decide (x = "zip") && glB sc x && fr.contains x then some args else none
    | _ => none
  | _ => none
mutual
def trE : CE → Scope → Expr → Bool
  | .lit v, _, e => match e with | .Constant c _ _ => litB c v | _ => false
  | .glb g, sc, e => match e with | .Name x _ => decide (gn g = x) && glB sc x && okN x | _ => false
  | .var i, sc, e => match e with | .Name x _ => decide (N[i]? = some x) && visB sc x && okN x | _ => false
  | .tup es, sc, e => match e with | .Tuple xs _ _ => trEs es sc xs | _ => false
  | .lst es, sc, e => match e with | .List xs _ => trEs es sc xs | _ => false
  | .dct0 _, _, e => match e with | .Dict [] [] _ => true | _ => false
  | .op o a b, sc, e => match e with | .BinOp x p y _ => decide (p = opOf o) && trE a sc x && trE b sc y | _ => false
  | .neg a, sc, e => match e with | .UnaryOp .USub x _ => trE a sc x | _ => false
  | .cmp o a b, sc, e => match e with | .Compare x [p] [y] _ => decide (p = cmOf o) && notSet y && trE a sc x && trE b sc y | _ => false
  | .chn o o' a b c, sc, e => match e with | .Compare x [p, p'] [y, z] _ => decide (p = cmOf o) && decide (p' = cmOf o') && notSet z && trE a sc x && trE b sc y && trE c sc z | _ => false
  | .isc ng a v, sc, e => match e with | .Compare x [p] [.Constant c _ _] _ => decide (p = if ng then .IsNot else .Is) && litB c v && trE a sc x | _ => false
  | .and a b, sc, e => match e with | .BoolOp .And (x :: y :: r) pos => trE a sc x && (match r with | [] => trE b sc y | _ :: _ => trE b sc (.BoolOp .And (y :: r) pos)) | _ => false
  | .or a b, sc, e => match e with | .BoolOp .Or (x :: y :: r) pos => trE a sc x && (match r with | [] => trE b sc y | _ :: _ => trE b sc (.BoolOp .Or (y :: r) pos)) | _ => false
  | .not a, sc, e => match e with | .UnaryOp .Not x _ => testB a && trE a sc x | _ => false
  | .ite t a b, sc, e => match e with | .IfExp x y z _ => testB t && trE t sc x && trE a sc y && trE b sc z | _ => false
  | .ix a b, sc, e => match e with | .Subscript x y _ => notSlice y && trE a sc x && trE b sc y | _ => false
  | .sl a lo hi, sc, e => match e with
    | .Subscript x (.Slice l h none _) _ => trE a sc x && (match l with | none => (match lo with | [] => true | _ => false) | some l => trEs lo sc [l]) && (match h with | none => (match hi with | [] => true | _ => false) | some h => trEs hi sc [h])
    | _ => false
  | .rev _, _, _ => false
  | .call f _ es, sc, e => match e with
    | .Call (.Name x _) args [] _ => decide (fn f = x) && glB sc x && okN x && trEs es sc args
    | _ => false
  | .bi b es, sc, e => match e with
    | .Call (.Name x _) args [] _ => if isListR b then (match args with
        | [.Call (.Name y _) args2 [] _] => decide (x = "list") && decide (y = "range") && glB sc "list" && glB sc "range" && fr.contains "list" && fr.contains "range" && decide (es.length = 1 ∨ es.length = 2) && trEs es sc args2
        | _ => false)
      else (match biVal b with | some (y, _) => decide (y = x) | none => false) && glB sc x && fr.contains x && trEs es sc args && !args.isEmpty
    | _ => false
  | .met m a es, sc, e => match e with
    | .Call (.Attribute (.Constant c k p) mm apos) [v] [] cpos => (match m with | .join => true | _ => false) && decide (mm = "join") && (apos.endLine == cpos.line) && trE a sc (.Constant c k p) && trEs es sc [v]
    | _ => false
  | .pop _ _, _, _ => false
  | .comp vs k it tg ifs e, sc, ex => match ex with
    | .ListComp elt [⟨target, iter, tests, 0⟩] scope _ => notSet iter && (match itX fr k sc iter with | some as => trEs it sc as | none => false) && trP N tg scope target && blkC N sc scope (ownOf N vs) && decide ((ownOf N vs).map (·.2) = vs)
        && decide (ifs.length ≤ 1) && ifs.all testB && (match k with | .enum => (match tg with | .tp _ => true | _ => false) | .zip => (match tg with | .tp _ => true | _ => false) | _ => true)
        && trEs ifs (relS scope sc) tests && trE e (relS scope sc) elt
    | _ => false
  | .dcomp _ _ _ _ _ _ _ _, _, _ => false
def trEs : List CE → Scope → List Expr → Bool
  | [], _, es => match es with | [] => true | _ => false
  | c :: cs, sc, es => match es with
    | e :: es => notStar e && trE c sc e && trEs cs sc es
    | [] => false
end
end
def trI (N : List Str) (gn : Nat → Str) (fn : Nat → Str) (fr : List Str) (k : ItK) (it : List CE) (sc : Scope) (e : Expr) : Bool := match itX fr k sc e with
  | some as => trEs N gn fn fr it sc as
  | none => false
section
variable {N : List Str} {gn : Nat → Str} {fn : Nat → Str} {fr : List Str} {it : List CE} {c : CE} {sc : Scope} {e : Expr}
theorem trEs_one (h : trEs N gn fn fr [c] sc [e] = true) : trE N gn fn fr c sc e = true := by
  unfold trEs at h
  simp only [Bool.and_eq_true] at h
  exact h.1.2
theorem trI_val (h : trI N gn fn fr .val [c] sc e = true) : trE N gn fn fr c sc e = true := trEs_one h
theorem trI_seq (h : trI N gn fn fr .seq [c] sc e = true) : trE N gn fn fr c sc e = true := trEs_one h
theorem trI_call {k : ItK} {y : Str} (hk : itX fr k sc e = match e with
    | .Call (.Name x _) args [] _ => if decide (x = y) && glB sc x && fr.contains x then some args else none
    | _ => none) (h : trI N gn fn fr k it sc e = true) : ∃ xp args pp, e = .Call (.Name y xp) args [] pp ∧ glB sc y = true ∧ fr.contains y = true ∧ trEs N gn fn fr it sc args = true := by
  unfold trI at h
  rw [hk] at h
  split at h
  · rename_i as q
    split at q
    · split at q
      · rename_i z
        cases q
        simp only [Bool.and_eq_true, decide_eq_true_eq] at z
        obtain ⟨⟨rfl, z1⟩, z2⟩ := z
        exact ⟨_, _, _, rfl, z1, z2, h⟩
      · cases q
    · cases q
  · cases h
end
end Ev
end

section
set_option Elab.async false
set_option linter.all false
set_option maxRecDepth 100000
set_option maxHeartbeats 4000000
/-! EvL: expressions, piece by piece. -/
namespace Ev
open PySem PySem.Spec PyProof.Rows L2

theorem starEach_ns {e : Expr} {es : List Expr} {env : PySem.Env} (h : notStar e = true) : starEach (e :: es) env = (false, eval e env) :: starEach es env := by
  cases e <;> first | rfl | cases h
theorem notStar_plain {es : List Expr} {env : PySem.Env} {pos : Pos} : (∀ e ∈ es, notStar e = true) → (backTo pos (starEach es env)).any (·.1) = false := by
  induction es with
  | nil => intro _; rfl
  | cons e es ih =>
    intro h
    rw [starEach_ns (h e (by simp))]
    have := ih fun x hx => h x (by simp [hx])
    simpa [backTo] using this
theorem evs_cons {cf : Cf} {gb : Gb} {c : CE} {cs : List CE} {s s' : Ev.Env} {xs : List EV} (h : evs cf gb (c :: cs) s = some (xs, s')) : ∃ v s1 vs s2, ev cf gb c s = some (v, s1) ∧ evs cf gb cs s1 = some (vs, s2) ∧ v :: vs = xs ∧ s2 = s' := by
  rw [evs] at h
  cases h1 : ev cf gb c s with
  | none => rw [h1] at h; cases h
  | some p =>
    rw [h1] at h
    simp only at h
    cases h2 : evs cf gb cs p.2 with
    | none => rw [h2] at h; cases h
    | some q =>
      rw [h2] at h
      simp only [Option.some.injEq, Prod.mk.injEq] at h
      exact ⟨p.1, p.2, q.1, q.2, rfl, h2, h.1, h.2⟩
section
variable {G : Glob} {S : List Sta} {X : Cx} {e e2 e3 : Expr} {es : List Expr} {c c2 c3 : CE} {cs : List CE} {m : Md} {ms : List Md} {pos : Pos}
theorem RepM.stay {K : PySem.W.Frag} {F : Frm} {E : Addr → Prop} {env : Ev.Env} {σ : L2.St} {H H' : Hp} {v : V} {x : EV} {pvs l : List Nat} (R : Rel K F E S env σ H) (r : RepM K H (Av F E S σ) S σ m pvs v x) (h : Step (WA l S σ) H H') (d : m = .pk → disj pvs l = true) : RepM K H' (Av F E S σ) S σ m pvs v x := by
  cases m with
  | pk => exact ⟨R.pend r.1 r.2 h (d rfl), r.2⟩
  | sh => exact h.stay r
  | fr => exact h.stay r
theorem pa_cons' (hm : m ≠ .fr) (ha : PE X e (tE G S m c)) (hr : PA X es (tA G S ms cs)) (d : m = .pk → disj (pv c) (mus cs) = true) (hs : notStar e = true) : PA X (e :: es) (tA G S (m :: ms) (c :: cs)) :=
  (pa_cons ha hr (starEach_ns hs)).imp fun σ H Q ⟨F, E, env, env', xs, R, ee, q⟩ => by
    obtain ⟨v1, s1, vs1, s2, e1, e2, rfl, rfl⟩ := evs_cons ee
    refine ⟨F, E, env, s1, v1, R, e1, fun v H1 p => ?_⟩
    obtain ⟨st1, R1, r1⟩ : Step (WA (mu c) S σ) H H1 ∧ Rel G.K F E S s1 σ H1 ∧ RepM G.K H1 (Av F E S σ) S σ m (pv c) v v1 := by
      cases m with
      | pk => exact ⟨p.1, p.2.1, p.2.2⟩
      | sh => exact ⟨p.1, p.2.1, p.2.2⟩
      | fr => exact absurd rfl hm
    exact ⟨F, E, s1, s2, vs1, R1, e2, fun vs H2 st2 R2 r2 => q (v :: vs) H2 ((st1.mono fun _ z => z.left).trans (st2.mono fun _ z => z.right)) R2 (.cons (r1.stay R1 st2 d) r2)⟩

/-! names, constants -/
variable {N : List Str} {sc : Scope}
theorem ex_lit {v : EV} (h : trE N G.gname G.fname G.free (.lit v) sc e = true) (hv : scal v = true) : PE X e (tE G S .fr (.lit v)) := by
  unfold trE at h
  split at h
  · rename_i cst ku pu
    have fin : ∀ (u : V), (∀ K H A, Rep K H A u v) → PE X (.Constant cst ku pu) (tC u) → PE X (.Constant cst ku pu) (tE G S .fr (.lit v)) := fun u hr hp => hp.imp fun σ H Q ⟨F, E, env, env', x, R, ee, q⟩ => by
      rw [ev] at ee
      cases ee
      exact q u H (post_flat .rfl R (by cases v <;> first | rfl | cases hv) (hr _ _ _))
    cases v with
    | non =>
      cases cst <;> first | cases h | skip
      exact fin .non (fun _ _ _ => .non) pe_non
    | bl b =>
      cases cst <;> first | cases h | skip
      rename_i b'
      have e : b' = b := by simpa [litB] using h
      subst e
      exact fin (.bl _) (fun _ _ _ => .bl _) pe_bl
    | int i =>
      cases cst <;> first | cases h | skip
      rename_i b'
      have e : b' = i := by simpa [litB] using h
      subst e
      exact fin (.int _) (fun _ _ _ => .int _) pe_int
    | str t =>
      cases cst <;> first | cases h | skip
      rename_i b'
      have e : b'.cps.toList = t := by simpa [litB] using h
      have e2 : b' = sv t := by
        cases b'
        simp only at e
        subst e
        simp [sv]
      subst e2
      exact fin (.str _) (fun _ _ _ => .str _) pe_str
    | _ => cases hv
  · cases h
theorem kind_of (hs : X.env.scope = sc) {x : Str} (h : glB sc x = true) : Gl X x := by
  show X.env.scope.names.lookup x = some .globalImplicit
  rw [hs]
  exact glB_ok h
theorem ex_glb (hs : X.env.scope = sc) (gl : ∀ g v, G.gb g = some v → ∃ u w, X.mg (G.gname g) = some w ∧ RelV u w ∧ v.isCon = false ∧ ∀ H A, Rep G.K H A u v) {g : Nat} (h : trE N G.gname G.fname G.free (.glb g) sc e = true) : PE X e (tE G S .fr (.glb g)) := by
  unfold trE at h
  split at h
  · rename_i x p
    simp only [Bool.and_eq_true, decide_eq_true_eq] at h
    obtain ⟨⟨h1, h2⟩, h3⟩ := h
    cases hg : G.gb g with
    | none => exact ⟨fun pins s σ H Q I ⟨F, E, env, env', y, R, ee, q⟩ => by rw [ev, hg] at ee; cases ee⟩
    | some v =>
      obtain ⟨u, w, hm, r, hc, hr⟩ := gl g v hg
      rw [h1] at hm
      exact (pe_glob (kind_of hs h2) hm r (okN_ok h3).1).imp fun σ H Q ⟨F, E, env, env', y, R, ee, q⟩ => by
        rw [ev, hg] at ee
        cases ee
        exact q u H (post_flat .rfl R hc (hr _ _))
  · cases h
theorem pe_varO (hN : X.N = N) (hs : X.env.scope = sc) {i : Nat} (h : trE N G.gname G.fname G.free (.var i) sc e = true) : PE X e (tVar i) := by
  unfold trE at h
  split at h
  · rename_i x p
    simp only [Bool.and_eq_true, decide_eq_true_eq] at h
    obtain ⟨⟨h1, h2⟩, h3⟩ := h
    exact pe_var (by rw [hN]; exact h1) (by rw [hs]; exact visB_ok h2) (okN_ok h3).1 (okN_ok h3).2
  · cases h
theorem ex_var (hN : X.N = N) (hs : X.env.scope = sc) {i : Nat} (h : trE N G.gname G.fname G.free (.var i) sc e = true) (ok : okE G.sg (.var i) S m = true) : PE X e (tE G S m (.var i)) := by
  unfold trE at h
  split at h
  · rename_i x p
    simp only [Bool.and_eq_true, decide_eq_true_eq] at h
    obtain ⟨⟨h1, h2⟩, h3⟩ := h
    refine (pe_var (X := X) (i := i) (x := x) (by rw [hN]; exact h1) (by rw [hs]; exact visB_ok h2) (okN_ok h3).1 (okN_ok h3).2).imp fun σ H Q ⟨F, E, env, env', y, R, ee, q⟩ => ?_
    rw [ev] at ee
    split at ee
    · rename_i z ez
      cases ee
      rw [okE] at ok
      have go : ∀ (st : Sta), S[i]? = some st → ∃ v, σ[i]? = some (some v) ∧ (st = .S → Rep G.K H (Av F E S σ) v y) ∧ (st ≠ .N → RepP G.K H (Av F E S σ) v y ∧ Safe [i] S σ v y) := fun st hst => by
        obtain ⟨e', v', e1, e2, sl⟩ := R.slot i st hst
        rw [ez] at e1
        cases e1
        cases st with
        | N => 
          rw [hst] at ok
          cases ok
        | S =>
          obtain ⟨x1, u, q1, rfl, r⟩ := sl
          cases q1
          exact ⟨u, e2, fun _ => r, fun _ => ⟨r.peek, .of_rep R r⟩⟩
        | B =>
          obtain ⟨x1, a, q1, rfl, hc, r⟩ := sl
          cases q1
          exact ⟨.ref a, e2, (fun z => nomatch z), fun _ => ⟨.inl ⟨hc, a, rfl, r⟩, fun hc b eb o => by
            cases eb
            obtain ⟨j, st', k1, k2, k3⟩ := o
            have ne : j ≠ i := fun ej => by subst ej; rw [hst] at k1; cases k1; cases k2
            exact absurd e2 (R.uniq j i a st' .B ne k1 k2 hst (.inr rfl) k3)⟩⟩
        | O =>
          obtain ⟨x1, a, q1, rfl, hc, r, w⟩ := sl
          cases q1
          exact ⟨.ref a, e2, (fun z => nomatch z), fun _ => ⟨.inl ⟨hc, a, rfl, r⟩, fun _ b eb _ => by cases eb; exact ⟨i, by simp, .O, hst, rfl, e2⟩⟩⟩
        | I =>
          obtain ⟨x1, a, q1, rfl, hc, r, w⟩ := sl
          cases q1
          exact ⟨.ref a, e2, (fun z => nomatch z), fun _ => ⟨.inl ⟨hc, a, rfl, r⟩, fun _ b eb _ => by cases eb; exact ⟨i, by simp, .I, hst, rfl, e2⟩⟩⟩
      have pk : ∀ (st : Sta), S[i]? = some st → st ≠ .N → m = .pk → ∃ v, σ[i]? = some (some v) ∧ Q v H := fun st hst hn hm => by
        subst hm
        obtain ⟨v, g1, g2, g3⟩ := go st hst
        exact ⟨v, g1, q v H ⟨.rfl, R, (g3 hn).1, (g3 hn).2⟩⟩
      cases hst : S[i]? with
      | none => rw [hst] at ok; cases ok
      | some st =>
        rw [hst] at ok
        cases st with
        | N => cases ok
        | S =>
          obtain ⟨v, g1, g2, g3⟩ := go .S hst
          refine ⟨v, g1, q v H ?_⟩
          cases m with
          | pk => exact ⟨.rfl, R, (g3 (by decide)).1, (g3 (by decide)).2⟩
          | sh => exact ⟨.rfl, R, g2 rfl⟩
          | fr => simp at ok
        | B => exact pk .B hst (by decide) (by simpa using ok)
        | O => exact pk .O hst (by decide) (by simpa using ok)
        | I => exact pk .I hst (by decide) (by simpa using ok)
    · cases ee
  · cases h
end
end Ev
end

section
set_option Elab.async false
set_option linter.all false
set_option maxRecDepth 100000
set_option maxHeartbeats 4000000
/-! EvM: what a value of the evaluator tells about its parts. -/
namespace Ev
section
variable {cf : Cf} {gb : Gb} {s s' : Env} {z : EV} {a b c t : CE} {es : List CE}
theorem ev_tup (h : ev cf gb (.tup es) s = some (z, s')) : ∃ vs, evs cf gb es s = some (vs, s') ∧ vs.length ≤ SZ ∧ z = .tup vs := by
  rw [ev] at h
  split at h
  · split at h
    · cases h; exact ⟨_, by assumption, by assumption, rfl⟩
    · cases h
  · cases h
theorem ev_lst (h : ev cf gb (.lst es) s = some (z, s')) : ∃ vs, evs cf gb es s = some (vs, s') ∧ vs.length ≤ SZ ∧ z = .lst vs := by
  rw [ev] at h
  split at h
  · split at h
    · cases h; exact ⟨_, by assumption, by assumption, rfl⟩
    · cases h
  · cases h
theorem ev_op {o : Op} (h : ev cf gb (.op o a b) s = some (z, s')) : ∃ x s1 y, ev cf gb a s = some (x, s1) ∧ ev cf gb b s1 = some (y, s') ∧ opE o x y = some z := by
  rw [ev] at h
  repeat' split at h
  all_goals cases h
  exact ⟨_, _, _, by assumption, by assumption, by assumption⟩
theorem ev_neg (h : ev cf gb (.neg a) s = some (z, s')) : ∃ i, ev cf gb a s = some (.int i, s') ∧ z = .int (-i) := by
  rw [ev] at h
  repeat' split at h
  all_goals cases h
  exact ⟨_, by assumption, rfl⟩
theorem ev_cmp {o : Cm} (h : ev cf gb (.cmp o a b) s = some (z, s')) : ∃ x s1 y r, ev cf gb a s = some (x, s1) ∧ ev cf gb b s1 = some (y, s') ∧ cmE o x y = some r ∧ z = .bl r := by
  rw [ev] at h
  repeat' split at h
  all_goals cases h
  exact ⟨_, _, _, _, by assumption, by assumption, by assumption, rfl⟩
theorem ev_chn {o o' : Cm} (h : ev cf gb (.chn o o' a b c) s = some (z, s')) : ∃ x s1 y s2 r, ev cf gb a s = some (x, s1) ∧ ev cf gb b s1 = some (y, s2) ∧ cmE o x y = some r ∧
    ((r = true ∧ ∃ w q, ev cf gb c s2 = some (w, s') ∧ cmE o' y w = some q ∧ z = .bl q) ∨ (r = false ∧ z = .bl false ∧ s' = s2)) := by
  rw [ev] at h
  repeat' split at h
  all_goals cases h
  · exact ⟨_, _, _, _, _, by assumption, by assumption, by assumption, .inl ⟨rfl, _, _, by assumption, by assumption, rfl⟩⟩
  · exact ⟨_, _, _, _, _, by assumption, by assumption, by assumption, .inr ⟨rfl, rfl, rfl⟩⟩
theorem ev_isc {ng : Bool} {v : EV} (h : ev cf gb (.isc ng a v) s = some (z, s')) : ∃ x r, ev cf gb a s = some (x, s') ∧ iscE x v = some r ∧ z = .bl (if ng then !r else r) := by
  rw [ev] at h
  split at h
  · split at h
    · cases h; exact ⟨_, _, by assumption, by assumption, rfl⟩
    · cases h
  · cases h
theorem ev_and (h : ev cf gb (.and a b) s = some (z, s')) : ∃ x s1 r, ev cf gb a s = some (x, s1) ∧ truE x = some r ∧ ((r = true ∧ ev cf gb b s1 = some (z, s')) ∨ (r = false ∧ z = x ∧ s' = s1)) := by
  rw [ev] at h
  repeat' split at h
  · exact ⟨_, _, _, by assumption, by assumption, .inl ⟨rfl, h⟩⟩
  · cases h; exact ⟨_, _, _, by assumption, by assumption, .inr ⟨rfl, rfl, rfl⟩⟩
  all_goals cases h
theorem ev_or (h : ev cf gb (.or a b) s = some (z, s')) : ∃ x s1 r, ev cf gb a s = some (x, s1) ∧ truE x = some r ∧ ((r = false ∧ ev cf gb b s1 = some (z, s')) ∨ (r = true ∧ z = x ∧ s' = s1)) := by
  rw [ev] at h
  repeat' split at h
  · cases h; exact ⟨_, _, _, by assumption, by assumption, .inr ⟨rfl, rfl, rfl⟩⟩
  · exact ⟨_, _, _, by assumption, by assumption, .inl ⟨rfl, h⟩⟩
  all_goals cases h
theorem ev_not (h : ev cf gb (.not a) s = some (z, s')) : ∃ x r, ev cf gb a s = some (x, s') ∧ truE x = some r ∧ z = .bl (!r) := by
  rw [ev] at h
  repeat' split at h
  all_goals cases h
  exact ⟨_, _, by assumption, by assumption, rfl⟩
theorem ev_ite (h : ev cf gb (.ite t a b) s = some (z, s')) : ∃ x s1 r, ev cf gb t s = some (x, s1) ∧ truE x = some r ∧ ((r = true ∧ ev cf gb a s1 = some (z, s')) ∨ (r = false ∧ ev cf gb b s1 = some (z, s'))) := by
  rw [ev] at h
  repeat' split at h
  · exact ⟨_, _, _, by assumption, by assumption, .inl ⟨rfl, h⟩⟩
  · exact ⟨_, _, _, by assumption, by assumption, .inr ⟨rfl, h⟩⟩
  all_goals cases h
theorem ev_ix (h : ev cf gb (.ix a b) s = some (z, s')) : ∃ x s1 y, ev cf gb a s = some (x, s1) ∧ ev cf gb b s1 = some (y, s') ∧ ixE x y = some z := by
  rw [ev] at h
  repeat' split at h
  all_goals cases h
  exact ⟨_, _, _, by assumption, by assumption, by assumption⟩
/-- the bounds of a slice -/
def parts : List EV → Option (Option Int)
  | [] => some none
  | [.int i] => some (some i)
  | _ => none
theorem ev_sl {lo hi : List CE} (h : ev cf gb (.sl a lo hi) s = some (z, s')) : ∃ x s1 l s2 u p q, ev cf gb a s = some (x, s1) ∧ evs cf gb lo s1 = some (l, s2) ∧ evs cf gb hi s2 = some (u, s') ∧ parts l = some p ∧ parts u = some q ∧ slE x p q = some z := by
  rw [ev] at h
  repeat' split at h
  all_goals cases h
  all_goals exact ⟨_, _, _, _, _, _, _, by assumption, by assumption, by assumption, rfl, rfl, by assumption⟩
theorem ev_call {f : Nat} {md : List (Option Nat)} (h : ev cf gb (.call f md es) s = some (z, s')) : ∃ vs s1 os, evs cf gb es s = some (vs, s1) ∧ cf f (reload md vs s1) = some (z, os) ∧ s' = outs md os s1 := by
  rw [ev] at h
  repeat' split at h
  all_goals cases h
  exact ⟨_, _, _, by assumption, by assumption, rfl⟩
theorem ev_bi {k : Bi} (h : ev cf gb (.bi k es) s = some (z, s')) : ∃ vs, evs cf gb es s = some (vs, s') ∧ biE k vs = some z := by
  rw [ev] at h
  repeat' split at h
  all_goals cases h
  exact ⟨_, by assumption, by assumption⟩
/-- a turn of a comprehension -/
def turnE (cf : Cf) (gb : Gb) (tg : Pt) (ifs : List CE) (e : CE) (x : EV) (t : Env) : Option (Option EV × Env) := match bindP tg x t with
          | some t1 => match tsts cf gb ifs t1 with
            | some (true, t2) => match ev cf gb e t2 with
              | some (y, t3) => some (some y, t3)
              | none => none
            | some (false, t2) => some (none, t2)
            | none => none
          | none => none
theorem ev_comp {vs : List Nat} {k : ItK} {it ifs : List CE} {tg : Pt} {e : CE} (h : ev cf gb (.comp vs k it tg ifs e) s = some (z, s')) :
    ∃ ws s1 xs ys s2, evs cf gb it s = some (ws, s1) ∧ itE k ws = some xs ∧ compL (turnE cf gb tg ifs e) xs s1 = some (ys, s2) ∧ ys.length ≤ SZ ∧ z = .lst ys ∧ s' = restore vs s1 s2 := by
  rw [ev] at h
  repeat' split at h
  all_goals cases h
  exact ⟨_, _, _, _, _, by assumption, by assumption, by assumption, by assumption, rfl, rfl⟩
theorem turn_inv {tg : Pt} {ifs : List CE} {e : CE} {x : EV} {r : Option EV} (h : turnE cf gb tg ifs e x s = some (r, s')) : ∃ t1 b t2, bindP tg x s = some t1 ∧ tsts cf gb ifs t1 = some (b, t2) ∧ ((b = true ∧ ∃ y, ev cf gb e t2 = some (y, s') ∧ r = some y) ∨ (b = false ∧ r = none ∧ s' = t2)) := by
  unfold turnE at h
  repeat' split at h
  all_goals cases h
  · exact ⟨_, _, _, by assumption, by assumption, .inl ⟨rfl, _, by assumption, rfl⟩⟩
  · exact ⟨_, _, _, by assumption, by assumption, .inr ⟨rfl, rfl, rfl⟩⟩
def consO (r : Option EV) (zs : List EV) : List EV := match r with | some y => y :: zs | none => zs
theorem compL_cons {B : EV → Env → Option (Option EV × Env)} {x : EV} {xs ys : List EV} (h : compL B (x :: xs) s = some (ys, s')) : ∃ r s1 zs, B x s = some (r, s1) ∧ compL B xs s1 = some (zs, s') ∧ ys = consO r zs := by
  rw [compL] at h
  split at h
  · split at h
    · cases h; exact ⟨_, _, _, by assumption, by assumption, rfl⟩
    · cases h
  · cases h
theorem tsts_cons {b : Bool} (h : tsts cf gb (c :: es) s = some (b, s')) : ∃ x s1 r, ev cf gb c s = some (x, s1) ∧ truE x = some r ∧ ((r = true ∧ tsts cf gb es s1 = some (b, s')) ∨ (r = false ∧ b = false ∧ s' = s1)) := by
  rw [tsts] at h
  repeat' split at h
  · exact ⟨_, _, _, by assumption, by assumption, .inl ⟨rfl, h⟩⟩
  · cases h; exact ⟨_, _, _, by assumption, by assumption, .inr ⟨rfl, rfl, rfl⟩⟩
  all_goals cases h
end
end Ev
end

section
set_option Elab.async false
set_option linter.all false
set_option maxRecDepth 100000
set_option maxHeartbeats 4000000
/-! EvN: expressions, piece by piece: displays, operators, tests, subscripts, built-ins. -/
namespace Ev
open PySem PySem.Spec PyProof.Rows L2

/-! truth in general -/
section
variable {X : Cx} {a b : Expr} {ta tb : TE} {r : V → Hp → (Bool → Hp → Prop) → Prop} {pos : Pos} {rest : List Expr}
theorem pt_tr (hr : TruR X r) (ha : PE X a ta) (he : ∀ whole, isTrue a X.env whole = (do let v ← whole; standAt a.pos; holding [v] (truthy v))) : PT X a (fun σ H Q => ta σ H fun x H' => r x H' Q) := by
  refine ⟨fun pins s σ H Q I h => ?_⟩
  exact isTrue_plain (thn (ha.run pins s σ H _ I h) fun v s1 ⟨x, H1, I1, r1, q1⟩ => hr pins s1 σ H1 x v Q I1 r1 q1) (he _)
theorem pe_or' (hr : TruR X r) (ha : PE X a ta) (hb : PE X (.BoolOp .Or (b :: rest) pos) tb) : PE X (.BoolOp .Or (a :: b :: rest) pos) (fun σ H Q => ta σ H fun x H1 => r x H1 fun k H2 => if k = true then Q x H2 else tb σ H2 Q) := by
  refine ⟨fun pins s σ H Q I h => ?_⟩
  refine BoolOp_or (thn (ha.run pins s σ H _ I h) fun v s1 ⟨x, H1, I1, r1, q1⟩ => ?_)
  refine thn (hr pins s1 σ H1 x v _ I1 r1 q1) fun c s2 ⟨H2, I2, q2⟩ => ?_
  cases c with
  | true => exact ⟨x, H2, I2, r1, q2⟩
  | false => exact hb.run pins s2 σ H2 Q I2 q2
theorem pe_and' (hr : TruR X r) (ha : PE X a ta) (hb : PE X (.BoolOp .And (b :: rest) pos) tb) : PE X (.BoolOp .And (a :: b :: rest) pos) (fun σ H Q => ta σ H fun x H1 => r x H1 fun k H2 => if k = true then tb σ H2 Q else Q x H2) := by
  refine ⟨fun pins s σ H Q I h => ?_⟩
  refine BoolOp_and (thn (ha.run pins s σ H _ I h) fun v s1 ⟨x, H1, I1, r1, q1⟩ => ?_)
  refine thn (hr pins s1 σ H1 x v _ I1 r1 q1) fun c s2 ⟨H2, I2, q2⟩ => ?_
  cases c with
  | true => exact hb.run pins s2 σ H2 Q I2 q2
  | false => exact ⟨x, H2, I2, r1, q2⟩
theorem pe_not' (hr : TruR X r) (ha : PE X a ta) : PE X (.UnaryOp .Not a pos) (fun σ H Q => ta σ H fun x H1 => r x H1 fun k H2 => Q (.bl (!k)) H2) := by
  refine ⟨fun pins s σ H Q I h => ?_⟩
  refine UnaryOp_ (thn (ha.run pins s σ H _ I h) fun v s1 ⟨x, H1, I1, r1, q1⟩ => ?_)
  exact not_of (thn (hr pins s1 σ H1 x v _ I1 r1 q1) fun c s2 ⟨H2, I2, q2⟩ => ⟨.bl (!c), H2, I2, rfl, q2⟩)
end

def shs (cs : List CE) : List Md := cs.map fun _ => .sh
def pks (cs : List CE) : List Md := cs.map fun _ => .pk
section
variable {G : Glob} {S : List Sta} {X : Cx} {e e2 e3 : Expr} {es : List Expr} {c c2 c3 : CE} {cs : List CE} {m : Md} {ms : List Md} {pos : Pos}
theorem rms_sh {K : PySem.W.Frag} {H : Hp} {A : Addr → Prop} {σ : L2.St} : ∀ {cs : List CE} {vs : List V} {xs : List EV}, RepMs K H A S σ (shs cs) cs vs xs → Reps K H A vs xs
  | [], _, _, h => by cases h; exact .nil
  | c :: cs, _, _, h => by cases h with | cons h1 h2 => exact .cons h1 (rms_sh h2)
theorem rms_pk {K : PySem.W.Frag} {H : Hp} {A : Addr → Prop} {σ : L2.St} : ∀ {cs : List CE} {vs : List V} {xs : List EV}, RepMs K H A S σ (pks cs) cs vs xs → RepPs K H A vs xs
  | [], _, _, h => by cases h; exact .nil
  | c :: cs, _, _, h => by cases h with | cons h1 h2 => exact .cons h1.1 (rms_pk h2)
theorem post_rout {K : PySem.W.Frag} {F : Frm} {E : Addr → Prop} {env' : Ev.Env} {σ : L2.St} {H H1 H2 : Hp} {z : EV} {u : V} {l pvs : List Nat} (s : Step (WA l S σ) H H1) (r : Rel K F E S env' σ H1) (o : ROut K (Av F E S σ) H1 u H2 z) : Post K F E S σ .fr l pvs H env' z u H2 := by
  rcases o with ⟨hc, x, p⟩ | ⟨hc, p, o, hp, rfl, rfl, hw, hx⟩
  · exact post_flat (s.trans (.of_ext x)) (r.grow x) hc p
  · exact post_new s r hp hc hx hw
theorem av_tr {K : PySem.W.Frag} {F : Frm} {E : Addr → Prop} {env' : Ev.Env} {σ : L2.St} {H : Hp} (r : Rel K F E S env' σ H) : ∀ a, Av F E S σ a → H a ≠ none := fun a h => r.av_tracked h
theorem ex_tup {k} (h : PA X es (tA G S (shs cs) cs)) : PE X (.Tuple es k pos) (tE G S .fr (.tup cs)) := (pe_tup h).imp fun σ H Q ⟨F, E, env, env', x, R, ee, q⟩ => by
  obtain ⟨xs, h1, h2, rfl⟩ := ev_tup ee
  refine ⟨F, E, env, env', xs, R, h1, fun vs H1 s1 R1 r1 => ?_⟩
  have r2 := rms_sh r1
  refine ⟨by rw [r2.length, ← SZ_eq]; exact h2, fun p hp => q _ _ (post_rout s1 R1 (rout_tup r2 hp (av_tr R1)))⟩
theorem ex_lst (h : PA X es (tA G S (shs cs) cs)) : PE X (.List es pos) (tE G S .fr (.lst cs)) := (pe_lst h).imp fun σ H Q ⟨F, E, env, env', x, R, ee, q⟩ => by
  obtain ⟨xs, h1, h2, rfl⟩ := ev_lst ee
  refine ⟨F, E, env, env', xs, R, h1, fun vs H1 s1 R1 r1 => ?_⟩
  have r2 := rms_sh r1
  refine ⟨by rw [r2.length, ← SZ_eq]; exact h2, fun p hp => q _ _ (post_rout s1 R1 (rout_lst r2 hp))⟩
theorem ex_dct {t : Nat} (ht : t < 2) : PE X (.Dict [] [] pos) (tE G S .fr (.dct0 t)) := by
  have hw : ∀ (u : HO), (∃ kv, u = .dK kv) ∨ (∃ kv, u = .dT kv) → ∀ ob w, u ≠ .frz ob w := fun u h ob w e => by
    rcases h with ⟨_, h⟩ | ⟨_, h⟩ <;> (rw [h] at e; cases e)
  have ht' : t = 0 ∨ t = 1 := by omega
  rcases ht' with rfl | rfl
  · refine pe_dnewK.imp fun σ H Q ⟨F, E, env, env', x, R, ee, q⟩ => ?_
    rw [ev] at ee
    cases ee
    exact fun p hp => q _ _ (post_new .rfl R hp rfl (fun A' _ _ => .inl ⟨rfl, [], .inl upd_same, .nil⟩) (hw _ (.inl ⟨_, rfl⟩)))
  · refine pe_dnewT.imp fun σ H Q ⟨F, E, env, env', x, R, ee, q⟩ => ?_
    rw [ev] at ee
    cases ee
    exact fun p hp => q _ _ (post_new .rfl R hp rfl (fun A' _ _ => .inr ⟨rfl, [], .inl upd_same, .nil⟩) (hw _ (.inr ⟨_, rfl⟩)))
theorem ex_op {o : Op} (ha : PE X e (tE G S .pk c)) (hb : PE X e2 (tE G S .pk c2)) (hK : X.K = G.K) (d : disj (pv c) (mu c2) = true) : PE X (.BinOp e (opOf o) e2 pos) (tE G S .fr (.op o c c2)) :=
  (pe_op (op_all o) ha hb).imp fun σ H Q ⟨F, E, env, env', x, R, ee, q⟩ => by
    obtain ⟨x1, s1, y1, h1, h2, h3⟩ := ev_op ee
    refine two R h1 h2 d fun v w H2 st R2 p1 p2 _ _ => ?_
    rw [hK]
    exact ⟨_, x1, y1, x, p1, p2, h3, av_tr R2, fun u H' o => q _ _ (post_rout st R2 o)⟩
theorem RepP.int' {K : PySem.W.Frag} {H : Hp} {A : Addr → Prop} {v : V} {i : Int} (r : RepP K H A v (.int i)) : v = .int i := by
  cases r.int; rfl
theorem ex_neg (ha : PE X e (tE G S .pk c)) : PE X (.UnaryOp .USub e pos) (tE G S .fr (.neg c)) :=
  (pe_un un_neg ha).imp fun σ H Q ⟨F, E, env, env', x, R, ee, q⟩ => by
    obtain ⟨i, h1, rfl⟩ := ev_neg ee
    exact ⟨F, E, env, env', .int i, R, h1, fun v H' ⟨st, R1, p1, _⟩ => ⟨i, p1.int', q _ _ (post_flat st R1 rfl (.int _))⟩⟩
theorem notSet_ok {e : Expr} (h : notSet e = true) (op : CmpOp) : behindInMarks op e = false := by
  cases e <;> first | rfl | (cases op <;> rfl) | cases h
theorem ex_cmp {o : Cm} (ha : PE X e (tE G S .pk c)) (hb : PE X e2 (tE G S .pk c2)) (hK : X.K = G.K) (hu : X.A.units + 65 < cLine) (d : disj (pv c) (mu c2) = true) (hs : behindInMarks (cmOf o) e2 = false) : PE X (.Compare e [cmOf o] [e2] pos) (tE G S .fr (.cmp o c c2)) :=
  (pe_cmpR (cm_all hu o) ha hb hs).imp fun σ H Q ⟨F, E, env, env', x, R, ee, q⟩ => by
    obtain ⟨x1, s1, y1, r, h1, h2, h3, rfl⟩ := ev_cmp ee
    refine two R h1 h2 d fun v w H2 st R2 p1 p2 _ _ => ?_
    rw [hK]
    exact ⟨_, x1, y1, r, p1, p2, h3, q _ _ (post_flat st R2 rfl (.bl _))⟩
theorem lastMarks_ok {p p' : CmpOp} {y z : Expr} (h : notSet z = true) : lastMarks [p, p'] [y, z] = false := by
  show behindInMarks p' z = false
  exact notSet_ok h p'
theorem ex_chn {o o' : Cm} (ha : PE X e (tE G S .pk c)) (hb : PE X e2 (tE G S .pk c2)) (hc : PE X e3 (tE G S .pk c3)) (hK : X.K = G.K) (hu : X.A.units + 65 < cLine) (d : disj (pv c) (mu c2 ++ mu c3) = true) (d2 : disj (pv c2) (mu c3) = true) (hs : notSet e3 = true) : PE X (.Compare e [cmOf o, cmOf o'] [e2, e3] pos) (tE G S .fr (.chn o o' c c2 c3)) :=
  (pe_chain (cm_all hu o) (cm_all hu o') ha hb hc (lastMarks_ok hs)).imp fun σ H Q ⟨F, E, env, env', x, R, ee, q⟩ => by
    obtain ⟨x1, s1, y1, s2, r, h1, h2, h3, h4⟩ := ev_chn ee
    have dd : disj (pv c) (mu c2) = true := disj_iff.mpr fun z hz k => disj_iff.mp d z hz (List.mem_append_left _ k)
    refine two R h1 h2 dd fun v w H2 st R2 p1 p2 _ a2 => ?_
    rw [hK]
    refine ⟨_, x1, y1, r, p1, p2, h3, r, rfl, ?_⟩
    rcases h4 with ⟨rfl, w1, k, h5, h6, rfl⟩ | ⟨rfl, rfl, rfl⟩
    · rw [if_pos rfl]
      refine ⟨F, E, s2, env', w1, R2, h5, fun u H3 ⟨st3, R3, p3, _⟩ => ⟨_, y1, w1, k, R2.pend p2 a2 st3 d2, p3, h6, q _ _ (post_flat ?_ R3 rfl (.bl _))⟩⟩
      refine (st.mono fun a z => ?_).trans (st3.mono fun a z => ?_)
      · rcases z with ⟨j, hj, r⟩
        refine ⟨j, ?_, r⟩
        rw [mu]
        simp only [List.mem_append] at hj ⊢
        exact hj.imp id .inl
      · rw [mu]
        exact z.right.right
    · rw [if_neg (by decide)]
      refine q _ _ (post_flat (st.mono fun a z => ?_) R2 rfl (.bl _))
      rcases z with ⟨j, hj, r⟩
      refine ⟨j, ?_, r⟩
      rw [mu]
      simp only [List.mem_append] at hj ⊢
      exact hj.imp id .inl
theorem RepP.non_iff {K : PySem.W.Frag} {H : Hp} {A : Addr → Prop} {v : V} {x : EV} (r : RepP K H A v x) : v = .non ↔ x = .non := by
  rcases r with ⟨hc, a, rfl, _⟩ | ⟨hc, r⟩
  · cases x with
    | lst _ => exact ⟨fun h => (nomatch h), fun h => (nomatch h)⟩
    | dct _ _ => exact ⟨fun h => (nomatch h), fun h => (nomatch h)⟩
    | _ => cases hc
  · cases r with
    | non => exact ⟨fun _ => rfl, fun _ => rfl⟩
    | _ => exact ⟨fun h => (nomatch h), fun h => (nomatch h)⟩
theorem RepP.bl_val {K : PySem.W.Frag} {H : Hp} {A : Addr → Prop} {v : V} {b : Bool} (r : RepP K H A v (.bl b)) : v = .bl b := by
  cases r.bl; rfl
theorem isc_non {x : EV} {r : Bool} (h : iscE x .non = some r) : (x = .non ∧ r = true) ∨ (x ≠ .non ∧ r = false) := by
  cases x <;> (cases h; first | exact .inl ⟨rfl, rfl⟩ | exact .inr ⟨fun h => (nomatch h), rfl⟩)
theorem isc_bl {x : EV} {r q : Bool} (h : iscE x (.bl q) = some r) : ∃ p, x = .bl p ∧ r = decide (p = q) := by
  cases x <;> cases h
  exact ⟨_, rfl, rfl⟩
theorem ex_isc {v : EV} {ng : Bool} {cst : Const} {ku pu} (ha : PE X e (tE G S .pk c)) (hl : litB cst v = true) : PE X (.Compare e [if ng then .IsNot else .Is] [.Constant cst ku pu] pos) (tE G S .fr (.isc ng c v)) := by
  cases v with
  | non =>
    cases cst <;> first | cases hl | skip
    cases ng with
    | false =>
      refine (pe_cmpR (op := .Is) op_isN ha pe_non rfl).imp fun σ H Q ⟨F, E, env, env', x, R, ee, q⟩ => ?_
      obtain ⟨y, r, h1, h2, rfl⟩ := ev_isc ee
      refine ⟨F, E, env, env', y, R, h1, fun u H1 ⟨st, R1, p1, _⟩ => ⟨rfl, q _ _ (post_flat st R1 rfl ?_)⟩⟩
      rcases isc_non h2 with ⟨h3, rfl⟩ | ⟨h3, rfl⟩
      · rw [decide_eq_true (p1.non_iff.mpr h3)]; exact .bl _
      · rw [decide_eq_false (fun z => h3 (p1.non_iff.mp z))]; exact .bl _
    | true =>
      refine (pe_cmpR (op := .IsNot) op_notN ha pe_non rfl).imp fun σ H Q ⟨F, E, env, env', x, R, ee, q⟩ => ?_
      obtain ⟨y, r, h1, h2, rfl⟩ := ev_isc ee
      refine ⟨F, E, env, env', y, R, h1, fun u H1 ⟨st, R1, p1, _⟩ => ⟨rfl, q _ _ (post_flat st R1 rfl ?_)⟩⟩
      rcases isc_non h2 with ⟨h3, rfl⟩ | ⟨h3, rfl⟩
      · rw [decide_eq_true (p1.non_iff.mpr h3)]; exact .bl _
      · rw [decide_eq_false (fun z => h3 (p1.non_iff.mp z))]; exact .bl _
  | bl b =>
    cases cst <;> first | cases hl | skip
    rename_i b'
    have eb : b' = b := by simpa [litB] using hl
    subst eb
    cases ng with
    | false =>
      refine (pe_cmpR (op := .Is) op_isBl ha pe_bl rfl).imp fun σ H Q ⟨F, E, env, env', x, R, ee, q⟩ => ?_
      obtain ⟨y, r, h1, h2, rfl⟩ := ev_isc ee
      obtain ⟨p, rfl, rfl⟩ := isc_bl h2
      refine ⟨F, E, env, env', .bl p, R, h1, fun u H1 ⟨st, R1, p1, _⟩ => ⟨p, b', p1.bl_val, rfl, q _ _ (post_flat st R1 rfl (.bl _))⟩⟩
    | true =>
      refine (pe_cmpR (op := .IsNot) op_notBl ha pe_bl rfl).imp fun σ H Q ⟨F, E, env, env', x, R, ee, q⟩ => ?_
      obtain ⟨y, r, h1, h2, rfl⟩ := ev_isc ee
      obtain ⟨p, rfl, rfl⟩ := isc_bl h2
      refine ⟨F, E, env, env', .bl p, R, h1, fun u H1 ⟨st, R1, p1, _⟩ => ⟨p, b', p1.bl_val, rfl, q _ _ (post_flat st R1 rfl (.bl _))⟩⟩
  | _ => cases cst <;> first | cases hl | (exact ⟨fun pins s σ H Q I ⟨F, E, env, env', x, R, ee, q⟩ => by
      obtain ⟨y, r, h1, h2, _⟩ := ev_isc ee
      cases h2⟩)

/-! and, or, not, conditional -/
theorem post_step {K : PySem.W.Frag} {F : Frm} {E : Addr → Prop} {env' : Ev.Env} {σ : L2.St} {H H1 H2 : Hp} {z : EV} {u : V} {l l1 l2 pvs p2 : List Nat} (s : Step (WA l S σ) H H1) (h : Post K F E S σ m l2 p2 H1 env' z u H2) (i1 : ∀ i ∈ l, i ∈ l1) (i2 : ∀ i ∈ l2, i ∈ l1) (ip : ∀ i ∈ p2, i ∈ pvs) : Post K F E S σ m l1 pvs H env' z u H2 := by
  have wa : ∀ {k k' : List Nat}, (∀ i ∈ k, i ∈ k') → ∀ a, WA k S σ a → WA k' S σ a := fun h a ⟨j, hj, r⟩ => ⟨j, h j hj, r⟩
  obtain ⟨s2, h⟩ := h
  refine ⟨(s.mono (wa i1)).trans (s2.mono (wa i2)), ?_⟩
  cases m with
  | pk => exact ⟨h.1, h.2.1, fun hc a e o => wa ip a (h.2.2 hc a e o)⟩
  | sh => exact h
  | fr =>
    rcases h with h | ⟨hc, p, e, hp, h⟩
    · exact .inl h
    · refine .inr ⟨hc, p, e, ?_, h⟩
      cases z : H p with
      | none => rfl
      | some w => exact absurd hp (s.lv p (by rw [z]; simp))
theorem post_peek {K : PySem.W.Frag} {F : Frm} {E : Addr → Prop} {env' : Ev.Env} {σ : L2.St} {H H1 : Hp} {z : EV} {u : V} {l pvs : List Nat} (h : Post K F E S σ m l pvs H env' z u H1) : RepP K H1 (Av F E S σ) u z := by
  cases m with
  | pk => exact h.2.2.1
  | sh => exact h.2.2.peek
  | fr =>
    rcases h.2 with ⟨_, _, r⟩ | ⟨hc, p, e, _, _, _, r⟩
    · exact r.peek
    · have hA : ∀ b, ¬ Av F (plusA E p) S σ b → H1 b ≠ none → ¬ Av F E S σ b := fun b n _ q => n (q.imp id (Or.imp .inl id))
      exact .inl ⟨hc, p, e, r.mono' .rfl hA (fun _ q => q) fun _ _ q => q⟩
theorem post_rel {K : PySem.W.Frag} {F : Frm} {E : Addr → Prop} {env' : Ev.Env} {σ : L2.St} {H H1 : Hp} {z : EV} {u : V} {l pvs : List Nat} (h : Post K F E S σ m l pvs H env' z u H1) : Rel K F E S env' σ H1 := by
  cases m with
  | pk => exact h.2.1
  | sh => exact h.2.1
  | fr =>
    rcases h.2 with ⟨_, r, _⟩ | ⟨_, p, _, _, _, r, _⟩
    · exact r
    · exact r.lessE fun _ q => .inl q
theorem ex_and {rest : List Expr} (ha : PE X e (tE G S m c)) (hb : PE X (.BoolOp .And (e2 :: rest) pos) (tE G S m c2)) (hK : X.K = G.K) : PE X (.BoolOp .And (e :: e2 :: rest) pos) (tE G S m (.and c c2)) :=
  (pe_and' tru_all ha hb).imp fun σ H Q ⟨F, E, env, env', x, R, ee, q⟩ => by
    obtain ⟨x1, s1, r, h1, h2, h3⟩ := ev_and ee
    refine ⟨F, E, env, s1, x1, R, h1, fun v H1 p1 => ?_⟩
    have R1 := post_rel p1
    rw [hK]
    refine ⟨_, x1, r, post_peek p1, h2, ?_⟩
    rcases h3 with ⟨rfl, h4⟩ | ⟨rfl, rfl, rfl⟩
    · rw [if_pos rfl]
      exact ⟨F, E, s1, env', x, R1, h4, fun u H2 p2 => q _ _ (post_step p1.1 p2 (fun i hi => by rw [mu]; simp [hi]) (fun i hi => by rw [mu]; simp [hi]) (fun i hi => by rw [pv]; simp [hi]))⟩
    · rw [if_neg (by decide)]
      exact q _ _ (post_step .rfl p1 (l := []) (fun i hi => by cases hi) (fun i hi => by rw [mu]; simp [hi]) (fun i hi => by rw [pv]; simp [hi]))
end
end Ev
end

section
set_option Elab.async false
set_option linter.all false
set_option maxRecDepth 100000
set_option maxHeartbeats 4000000
/-! EvO: or, not, conditional, tests, subscripts, slices, built-ins. -/
namespace Ev
open PySem PySem.Spec PyProof.Rows L2
section
variable {G : Glob} {S : List Sta} {X : Cx} {e e2 e3 : Expr} {es : List Expr} {c c2 c3 : CE} {cs : List CE} {m : Md} {ms : List Md} {pos : Pos}
theorem ex_or {rest : List Expr} (ha : PE X e (tE G S m c)) (hb : PE X (.BoolOp .Or (e2 :: rest) pos) (tE G S m c2)) (hK : X.K = G.K) : PE X (.BoolOp .Or (e :: e2 :: rest) pos) (tE G S m (.or c c2)) :=
  (pe_or' tru_all ha hb).imp fun σ H Q ⟨F, E, env, env', x, R, ee, q⟩ => by
    obtain ⟨x1, s1, r, h1, h2, h3⟩ := ev_or ee
    refine ⟨F, E, env, s1, x1, R, h1, fun v H1 p1 => ?_⟩
    have R1 := post_rel p1
    rw [hK]
    refine ⟨_, x1, r, post_peek p1, h2, ?_⟩
    rcases h3 with ⟨rfl, h4⟩ | ⟨rfl, rfl, rfl⟩
    · rw [if_neg (by decide)]
      exact ⟨F, E, s1, env', x, R1, h4, fun u H2 p2 => q _ _ (post_step p1.1 p2 (fun i hi => by rw [mu]; simp [hi]) (fun i hi => by rw [mu]; simp [hi]) (fun i hi => by rw [pv]; simp [hi]))⟩
    · rw [if_pos rfl]
      exact q _ _ (post_step .rfl p1 (l := []) (fun i hi => by cases hi) (fun i hi => by rw [mu]; simp [hi]) (fun i hi => by rw [pv]; simp [hi]))
theorem ex_not (ha : PE X e (tE G S .pk c)) (hK : X.K = G.K) : PE X (.UnaryOp .Not e pos) (tE G S .fr (.not c)) :=
  (pe_not' tru_all ha).imp fun σ H Q ⟨F, E, env, env', x, R, ee, q⟩ => by
    obtain ⟨x1, r, h1, h2, rfl⟩ := ev_not ee
    refine ⟨F, E, env, env', x1, R, h1, fun v H1 p1 => ?_⟩
    rw [hK]
    exact ⟨_, x1, r, post_peek p1, h2, q _ _ (post_flat p1.1 (post_rel p1) rfl (.bl _))⟩
/-! tests -/
theorem tt_pe (ha : PE X e (tE G S .pk c)) (hK : X.K = G.K) (he : ∀ whole, isTrue e X.env whole = (do let v ← whole; standAt e.pos; holding [v] (truthy v))) : PT X e (tT G S c) :=
  (pt_tr tru_all ha he).imp fun σ H Q ⟨F, E, env, env', x, b, R, ee, hb, q⟩ => by
    refine ⟨F, E, env, env', x, R, ee, fun v H1 p1 => ?_⟩
    rw [hK]
    exact ⟨_, x, b, post_peek p1, hb, q _ p1.1 (post_rel p1)⟩
theorem tt_cmp {o : Cm} (ha : PE X e (tE G S .pk c)) (hb : PE X e2 (tE G S .pk c2)) (hK : X.K = G.K) (hu : X.A.units + 65 < cLine) (d : disj (pv c) (mu c2) = true) (hs : behindInMarks (cmOf o) e2 = false) : PT X (.Compare e [cmOf o] [e2] pos) (tT G S (.cmp o c c2)) :=
  (pt_cmpR (cm_all hu o) ha hb hs).imp fun σ H Q ⟨F, E, env, env', x, b, R, ee, tb, q⟩ => by
    obtain ⟨x1, s1, y1, r, h1, h2, h3, rfl⟩ := ev_cmp ee
    cases tb
    refine two R h1 h2 d fun v w H2 st R2 p1 p2 _ _ => ?_
    rw [hK]
    exact ⟨_, x1, y1, b, p1, p2, h3, b, rfl, q _ st R2⟩
theorem tt_isc {v : EV} {ng : Bool} {cst : Const} {ku pu} (ha : PE X e (tE G S .pk c)) (hl : litB cst v = true) : PT X (.Compare e [if ng then .IsNot else .Is] [.Constant cst ku pu] pos) (tT G S (.isc ng c v)) := by
  cases v with
  | non =>
    cases cst <;> first | cases hl | skip
    cases ng with
    | false =>
      refine (pt_cmpR (op := .Is) op_isN ha pe_non rfl).imp fun σ H Q ⟨F, E, env, env', x, b, R, ee, tb, q⟩ => ?_
      obtain ⟨y, r, h1, h2, rfl⟩ := ev_isc ee
      cases tb
      refine ⟨F, E, env, env', y, R, h1, fun u H1 ⟨st, R1, p1, _⟩ => ⟨rfl, _, rfl, ?_⟩⟩
      rcases isc_non h2 with ⟨h3, rfl⟩ | ⟨h3, rfl⟩
      · rw [decide_eq_true (p1.non_iff.mpr h3)]; exact q _ st R1
      · rw [decide_eq_false (fun z => h3 (p1.non_iff.mp z))]; exact q _ st R1
    | true =>
      refine (pt_cmpR (op := .IsNot) op_notN ha pe_non rfl).imp fun σ H Q ⟨F, E, env, env', x, b, R, ee, tb, q⟩ => ?_
      obtain ⟨y, r, h1, h2, rfl⟩ := ev_isc ee
      cases tb
      refine ⟨F, E, env, env', y, R, h1, fun u H1 ⟨st, R1, p1, _⟩ => ⟨rfl, _, rfl, ?_⟩⟩
      rcases isc_non h2 with ⟨h3, rfl⟩ | ⟨h3, rfl⟩
      · rw [decide_eq_true (p1.non_iff.mpr h3)]; exact q _ st R1
      · rw [decide_eq_false (fun z => h3 (p1.non_iff.mp z))]; exact q _ st R1
  | bl b =>
    cases cst <;> first | cases hl | skip
    rename_i b'
    have eb : b' = b := by simpa [litB] using hl
    subst eb
    cases ng with
    | false =>
      refine (pt_cmpR (op := .Is) op_isBl ha pe_bl rfl).imp fun σ H Q ⟨F, E, env, env', x, b, R, ee, tb, q⟩ => ?_
      obtain ⟨y, r, h1, h2, rfl⟩ := ev_isc ee
      obtain ⟨p, rfl, rfl⟩ := isc_bl h2
      cases tb
      refine ⟨F, E, env, env', .bl p, R, h1, fun u H1 ⟨st, R1, p1, _⟩ => ⟨p, b', p1.bl_val, rfl, _, rfl, q _ st R1⟩⟩
    | true =>
      refine (pt_cmpR (op := .IsNot) op_notBl ha pe_bl rfl).imp fun σ H Q ⟨F, E, env, env', x, b, R, ee, tb, q⟩ => ?_
      obtain ⟨y, r, h1, h2, rfl⟩ := ev_isc ee
      obtain ⟨p, rfl, rfl⟩ := isc_bl h2
      cases tb
      refine ⟨F, E, env, env', .bl p, R, h1, fun u H1 ⟨st, R1, p1, _⟩ => ⟨p, b', p1.bl_val, rfl, _, rfl, q _ st R1⟩⟩
  | _ => cases cst <;> first | cases hl | (exact ⟨fun pins s σ H Q I ⟨F, E, env, env', x, b, R, ee, tb, q⟩ => by
      obtain ⟨y, r, h1, h2, _⟩ := ev_isc ee
      cases h2⟩)
theorem tt_chn {o o' : Cm} (ha : PE X e (tE G S .pk c)) (hb : PE X e2 (tE G S .pk c2)) (hc : PE X e3 (tE G S .pk c3)) (hK : X.K = G.K) (hu : X.A.units + 65 < cLine) (d : disj (pv c) (mu c2 ++ mu c3) = true) (d2 : disj (pv c2) (mu c3) = true) (hs : notSet e3 = true) : PT X (.Compare e [cmOf o, cmOf o'] [e2, e3] pos) (tT G S (.chn o o' c c2 c3)) :=
  (pt_chain (cm_all hu o) (cm_all hu o') ha hb hc (lastMarks_ok hs)).imp fun σ H Q ⟨F, E, env, env', x, tb0, R, ee, tb, q⟩ => by
    obtain ⟨x1, s1, y1, s2, r, h1, h2, h3, h4⟩ := ev_chn ee
    have dd : disj (pv c) (mu c2) = true := disj_iff.mpr fun z hz k => disj_iff.mp d z hz (List.mem_append_left _ k)
    refine two R h1 h2 dd fun v w H2 st R2 p1 p2 _ a2 => ?_
    rw [hK]
    refine ⟨_, x1, y1, r, p1, p2, h3, r, rfl, ?_⟩
    have wm : ∀ a, WA (mu c ++ mu c2) S σ a → WA (mu (.chn o o' c c2 c3)) S σ a := fun a z => by
      rcases z with ⟨j, hj, r⟩
      refine ⟨j, ?_, r⟩
      rw [mu]
      simp only [List.mem_append] at hj ⊢
      exact hj.imp id .inl
    rcases h4 with ⟨rfl, w1, k, h5, h6, rfl⟩ | ⟨rfl, rfl, rfl⟩
    · cases tb
      rw [if_pos rfl]
      refine ⟨F, E, s2, env', w1, R2, h5, fun u H3 ⟨st3, R3, p3, _⟩ => ⟨_, y1, w1, tb0, R2.pend p2 a2 st3 d2, p3, h6, tb0, rfl, q _ ?_ R3⟩⟩
      refine (st.mono wm).trans (st3.mono fun a z => ?_)
      rw [mu]
      exact z.right.right
    · cases tb
      rw [if_neg (by decide)]
      exact ⟨false, rfl, q _ (st.mono wm) R2⟩
theorem tt_and {rest : List Expr} (ha : PT X e (tT G S c)) (hb : PW X (.BoolOp .And (e2 :: rest) pos) (tT G S c2)) : PW X (.BoolOp .And (e :: e2 :: rest) pos) (tT G S (.and c c2)) := by
  refine ⟨fun wh pins s σ H Q I ⟨F, E, env, env', x, b, R, ee, tb, q⟩ => (pw_and ha hb).run wh pins s σ H Q I ?_⟩
  obtain ⟨x1, s1, r, h1, h2, h3⟩ := ev_and ee
  refine ⟨F, E, env, s1, x1, r, R, h1, h2, fun H1 st R1 => ?_⟩
  have wl : ∀ a, WA (mu c) S σ a → WA (mu (.and c c2)) S σ a := fun a z => by rw [mu]; exact z.left
  have wr : ∀ a, WA (mu c2) S σ a → WA (mu (.and c c2)) S σ a := fun a z => by rw [mu]; exact z.right
  rcases h3 with ⟨rfl, h4⟩ | ⟨rfl, rfl, rfl⟩
  · show tT G S c2 σ H1 Q
    exact ⟨F, E, s1, env', x, b, R1, h4, tb, fun H2 st2 R2 => q _ ((st.mono wl).trans (st2.mono wr)) R2⟩
  · show Q false H1
    rw [h2] at tb
    cases tb
    exact q _ (st.mono wl) R1
theorem tt_or {rest : List Expr} (ha : PT X e (tT G S c)) (hb : PW X (.BoolOp .Or (e2 :: rest) pos) (tT G S c2)) : PW X (.BoolOp .Or (e :: e2 :: rest) pos) (tT G S (.or c c2)) := by
  refine ⟨fun wh pins s σ H Q I ⟨F, E, env, env', x, b, R, ee, tb, q⟩ => (pw_or ha hb).run wh pins s σ H Q I ?_⟩
  obtain ⟨x1, s1, r, h1, h2, h3⟩ := ev_or ee
  refine ⟨F, E, env, s1, x1, r, R, h1, h2, fun H1 st R1 => ?_⟩
  have wl : ∀ a, WA (mu c) S σ a → WA (mu (.or c c2)) S σ a := fun a z => by rw [mu]; exact z.left
  have wr : ∀ a, WA (mu c2) S σ a → WA (mu (.or c c2)) S σ a := fun a z => by rw [mu]; exact z.right
  rcases h3 with ⟨rfl, h4⟩ | ⟨rfl, rfl, rfl⟩
  · show tT G S c2 σ H1 Q
    exact ⟨F, E, s1, env', x, b, R1, h4, tb, fun H2 st2 R2 => q _ ((st.mono wl).trans (st2.mono wr)) R2⟩
  · show Q true H1
    rw [h2] at tb
    cases tb
    exact q _ (st.mono wl) R1
theorem tt_not (ha : PT X e (tT G S c)) : PT X (.UnaryOp .Not e pos) (tT G S (.not c)) :=
  (pt_not ha).imp fun σ H Q ⟨F, E, env, env', x, b, R, ee, tb, q⟩ => by
    obtain ⟨x1, r, h1, h2, rfl⟩ := ev_not ee
    cases tb
    exact ⟨F, E, env, env', x1, r, R, h1, h2, fun H1 st R1 => q _ st R1⟩
theorem ex_ite (ht : PT X e3 (tT G S c3)) (ha : PE X e (tE G S m c)) (hb : PE X e2 (tE G S m c2)) : PE X (.IfExp e3 e e2 pos) (tE G S m (.ite c3 c c2)) :=
  (pe_ifExp ht ha hb).imp fun σ H Q ⟨F, E, env, env', x, R, ee, q⟩ => by
    obtain ⟨x1, s1, r, h1, h2, h3⟩ := ev_ite ee
    refine ⟨F, E, env, s1, x1, r, R, h1, h2, fun H1 st R1 => ?_⟩
    rcases h3 with ⟨rfl, h4⟩ | ⟨rfl, h4⟩
    · show tE G S m c σ H1 Q
      exact ⟨F, E, s1, env', x, R1, h4, fun u H2 p2 => q _ _ (post_step st p2 (fun i hi => by rw [mu]; simp [hi]) (fun i hi => by rw [mu]; simp [hi]) (fun i hi => by rw [pv]; simp [hi]))⟩
    · show tE G S m c2 σ H1 Q
      exact ⟨F, E, s1, env', x, R1, h4, fun u H2 p2 => q _ _ (post_step st p2 (fun i hi => by rw [mu]; simp [hi]) (fun i hi => by rw [mu]; simp [hi]) (fun i hi => by rw [pv]; simp [hi]))⟩
/-! subscripts -/
theorem post_sh {K : PySem.W.Frag} {F : Frm} {E : Addr → Prop} {env' : Ev.Env} {σ : L2.St} {H H1 : Hp} {z : EV} {u : V} {l pvs : List Nat} (n : m ≠ .fr) (s : Step (WA l S σ) H H1) (R : Rel K F E S env' σ H1) (r : Rep K H1 (Av F E S σ) u z) : Post K F E S σ m l pvs H env' z u H1 := by
  cases m with
  | pk => exact ⟨s, R, r.peek, .of_rep R r⟩
  | sh => exact ⟨s, R, r⟩
  | fr => exact absurd rfl n
theorem plainIx_of {b : Expr} (h : notSlice b = true) : PlainIx b := by
  cases b <;> first | (intro o i; rfl) | cases h
theorem ex_ix (ha : PE X e (tE G S .pk c)) (hb : PE X e2 (tE G S .pk c2)) (hK : X.K = G.K) (hu : X.A.units + 65 < cLine) (d : disj (pv c) (mu c2) = true) (hs : notSlice e2 = true) (hm : m ≠ .fr) : PE X (.Subscript e e2 pos) (tE G S m (.ix c c2)) :=
  (pe_ix (ix_all hu) ha hb (plainIx_of hs)).imp fun σ H Q ⟨F, E, env, env', x, R, ee, q⟩ => by
    obtain ⟨x1, s1, y1, h1, h2, h3⟩ := ev_ix ee
    refine two R h1 h2 d fun v w H2 st R2 p1 p2 _ _ => ?_
    rw [hK]
    exact ⟨_, x1, y1, x, p1, p2, h3, fun u r => q _ _ (post_sh hm st R2 r)⟩
/-! slices -/
def tPO (G : Glob) (S : List Sta) (cs : List CE) : TO := fun σ H Q => ∃ (F : Frm) (E : Addr → Prop) (env env' : Ev.Env) (xs : List EV) (p : Option Int),
  Rel G.K F E S env σ H ∧ evs G.cf G.gb cs env = some (xs, env') ∧ parts xs = some p ∧ ∀ H', Step (WA (mus cs) S σ) H H' → Rel G.K F E S env' σ H' → Q p H'
theorem _root_.L2.PO.imp {X : Cx} {e : Option Expr} {t t' : TO} (h : PO X e t) (k : ∀ σ H Q, t' σ H Q → t σ H Q) : PO X e t' := ⟨fun pins s σ H Q I q => h.run pins s σ H Q I (k σ H Q q)⟩
theorem po_nil : PO X none (tPO G S []) := po_none.imp fun σ H Q ⟨F, E, env, env', xs, p, R, ee, hp, q⟩ => by
  cases ee
  cases hp
  exact q _ .rfl R
theorem po_one (h : PE X e (tE G S .pk c)) : PO X (some e) (tPO G S [c]) := (po_some h).imp fun σ H Q ⟨F, E, env, env', xs, p, R, ee, hp, q⟩ => by
  obtain ⟨x, s1, vs, s2, h1, h2, rfl, rfl⟩ := evs_cons ee
  cases h2
  refine ⟨F, E, env, _, x, R, h1, fun v H1 ⟨st, R1, p1, _⟩ => ?_⟩
  cases x with
  | int i =>
    cases hp
    exact ⟨i, p1.int', q _ (st.mono fun a z => by rw [mus, mus, List.append_nil]; exact z) R1⟩
  | _ => cases hp
theorem ex_sl {lo hi : Option Expr} {cl ch : List CE} {p2 : Pos} (ha : PE X e (tE G S .pk c)) (hl : PO X lo (tPO G S cl)) (hh : PO X hi (tPO G S ch)) (hK : X.K = G.K) (d : disj (pv c) (mus cl ++ mus ch) = true) : PE X (.Subscript e (.Slice lo hi none p2) pos) (tE G S .fr (.sl c cl ch)) :=
  (pe_slice sl_all ha hl hh).imp fun σ H Q ⟨F, E, env, env', x, R, ee, q⟩ => by
    obtain ⟨x1, s1, l, s2, u, p, r, h1, h2, h3, h4, h5, h6⟩ := ev_sl ee
    refine ⟨F, E, env, s1, x1, R, h1, fun v H1 ⟨st1, R1, p1, a1⟩ => ?_⟩
    refine ⟨F, E, s1, s2, l, p, R1, h2, h4, fun H2 st2 R2 => ?_⟩
    refine ⟨F, E, s2, env', u, r, R2, h3, h5, fun H3 st3 R3 => ?_⟩
    have st : Step (WA (mus cl ++ mus ch) S σ) H1 H3 := (st2.mono fun a z => z.left).trans (st3.mono fun a z => z.right)
    have p3 := R1.pend p1 a1 st d
    rw [hK]
    refine ⟨_, x1, x, p3, h6, av_tr R3, fun w H4 o => q _ _ (post_rout ?_ R3 o)⟩
    rw [mu]
    exact (st1.mono fun a z => z.left).trans (st.mono fun a z => z.right)
/-! built-ins -/
theorem ex_bi {k : Bi} {x : Str} {y : Value} {p : Pos} (hv : biVal k = some (x, y)) (hc : X.calm = true) (hu : X.A.units + 80 < cLine) (hg : Gl X x) (hm : X.mg x = none) (hK : X.K = G.K) (ha : PA X (e :: es) (tA G S (pks cs) cs)) (hs : ∀ e' ∈ e :: es, notStar e' = true) :
    PE X (.Call (.Name x p) (e :: es) [] pos) (tE G S .fr (.bi k cs)) := by
  have hb := bi_boot k x y hv
  have hr := bi_call (X := X) hc hu k x y hv
  have h1 : starEach (e :: es) X.env = (false, eval e X.env) :: starEach es X.env := starEach_ns (hs e (by simp))
  have h2 : (backTo pos (starEach es X.env)).any (·.1) = false := notStar_plain fun e' he => hs e' (by simp [he])
  have key : PE X (.Call (.Name x p) (e :: es) [] pos) (tCB (rB X.K (biE k)) (tA G S (pks cs) cs)) := by
    rcases hb.2.2.2 with ⟨id, rfl⟩ | ⟨T, rfl⟩
    · exact pe_callB hr hg hm hb.1 ha hb.2.1 hb.2.2.1 h1 h2
    · exact pe_callTy hr hg hm hb.1 ha hb.2.1 hb.2.2.1 h1 h2
  refine key.imp fun σ H Q ⟨F, E, env, env', z, R, ee, q⟩ => ?_
  obtain ⟨vs, h3, h4⟩ := ev_bi ee
  refine ⟨F, E, env, env', vs, R, h3, fun us H1 st R1 rs => ?_⟩
  rw [hK]
  exact ⟨_, vs, z, rms_pk rs, h4, av_tr R1, fun u H2 o => q _ _ (post_rout st R1 o)⟩
end
end Ev
end

section
set_option Elab.async false
set_option linter.all false
set_option maxRecDepth 100000
set_option maxHeartbeats 4000000
/-! EvP: a container that is walked is held fast; borrowed slots; wiped slots. -/
namespace Ev
open PySem PySem.Spec PyProof.Rows L2
/-- a holds o through the frame; the pairs are kept -/
def pinF (F : Frm) (a : Addr) (o : HO) (kps : List (V × EV)) : Frm := { F with H0 := upd F.H0 a o, M := fun b => F.M b ∧ b ≠ a, kp := kps ++ F.kp }
section
variable {K : PySem.W.Frag} {F F' : Frm} {E E' : Addr → Prop} {S S' : List Sta} {env env' : Env} {σ σ' : L2.St} {H H' : Hp} {A A' : Addr → Prop} {a p : Addr} {x : EV} {v : V} {i : Nat} {o u : HO} {kps : List (V × EV)}
theorem Rel.pin (R : Rel K F E S env σ H) (h : H a = some o) (n : ¬ OwnA S σ a) (hk : ∀ p ∈ kps, Rep K H (Av F E S σ) p.1 p.2) : Rel K (pinF F a o kps) E S env σ H := by
  refine ⟨R.le, R.ls, R.slot, R.uniq, fun b ob hb nm => ?_, fun b hb => ?_, fun b hb => ?_, fun b hb => R.m0 b hb.1, R.eT, R.eD, fun i b h1 h2 => ?_, fun i b h1 h2 => ⟨R.inn i b h1 h2, fun e => ?_⟩, fun p hp => ?_, R.fix, R.ios, R.bx, R.ioa⟩
  · by_cases e : b = a
    · subst e
      have hb : upd F.H0 b o b = some ob := hb
      rw [upd_same] at hb
      cases hb
      exact h
    · have hb : upd F.H0 a o b = some ob := hb
      rw [upd_ne e] at hb
      exact R.pres b ob hb fun m => nm ⟨m, e⟩
  · by_cases e : b = a
    · subst e; rw [h]; simp
    · have hb : upd F.H0 a o b ≠ none := hb
      rw [upd_ne e] at hb
      exact R.live b hb
  · show upd F.H0 a o b ≠ none
    by_cases e : b = a
    · subst e; rw [upd_same]; simp
    · rw [upd_ne e]; exact R.a0 b hb
  · show upd F.H0 a o b = none
    have ne : b ≠ a := fun e => n (e ▸ ⟨i, .O, h1, rfl, h2⟩)
    rw [upd_ne ne]
    exact R.fresh i b h1 h2
  · exact n (e ▸ ⟨i, .I, h1, rfl, h2⟩)
  · rcases List.mem_append.mp hp with hp | hp
    · exact hk p hp
    · exact R.kept p hp
theorem Rel.unpin (R : Rel K (pinF F a o kps) E S env σ H) (h : ∀ ob, F.H0 a = some ob → ¬ F.M a → ob = o) (m : F.M a → F.A0 a) (m2 : F.A0 a → F.H0 a ≠ none) : Rel K F E S env σ H := by
  refine ⟨R.le, R.ls, R.slot, R.uniq, fun b ob hb nm => ?_, fun b hb => ?_, fun b hb => ?_, fun b hb => ?_, R.eT, R.eD, fun i b h1 h2 => ?_, fun i b h1 h2 => (R.inn i b h1 h2).1, fun p hp => R.kept p (List.mem_append_right _ hp), R.fix, R.ios, R.bx, R.ioa⟩
  · by_cases e : b = a
    · subst e
      rw [h ob hb nm]
      exact R.pres b o (by show upd F.H0 b o b = _; rw [upd_same]) fun q => q.2 rfl
    · exact R.pres b ob (by show upd F.H0 a o b = _; rw [upd_ne e]; exact hb) fun q => nm q.1
  · by_cases e : b = a
    · subst e
      exact R.live b (by show upd F.H0 b o b ≠ none; rw [upd_same]; simp)
    · exact R.live b (by show upd F.H0 a o b ≠ none; rw [upd_ne e]; exact hb)
  · by_cases e : b = a
    · subst e; exact m2 hb
    · have q := R.a0 b hb
      have q : upd F.H0 a o b ≠ none := q
      rw [upd_ne e] at q
      exact q
  · by_cases e : b = a
    · subst e; exact m hb
    · exact R.m0 b ⟨hb, e⟩
  · by_cases e : b = a
    · subst e
      have q := R.fresh i b h1 h2
      have q : upd F.H0 b o b = none := q
      rw [upd_same] at q
      cases q
    · have q := R.fresh i b h1 h2
      have q : upd F.H0 a o b = none := q
      rw [upd_ne e] at q
      exact q
theorem Rel.pinned (R : Rel K (pinF F a o kps) E S env σ H) : H a = some o := R.pres a o (by show upd F.H0 a o a = _; rw [upd_same]) fun q => q.2 rfl

/-- a dict that is nobody's own is locked, unlocked -/
def isD : HO → Prop
  | .dK _ => True
  | .dT _ => True
  | .frz _ (.dK _) => True
  | .frz _ (.dT _) => True
  | _ => False
theorem keep_swap (h : H a = some o) (hd : isD o) (he : ∀ w, (∀ ob z, w ≠ .frz ob z) → (o = w ∨ ∃ ob, o = .frz ob w) → (u = w ∨ ∃ ob, u = .frz ob w)) : Keep A H (upd H a u) ∧ ∀ b w, (∀ ob z, w ≠ .frz ob z) → Rd H b w → Rd (upd H a u) b w := by
  have rd : ∀ b w, (∀ ob z, w ≠ .frz ob z) → Rd H b w → Rd (upd H a u) b w := fun b w nf r => by
    by_cases e : b = a
    · subst e
      have : u = w ∨ ∃ ob, u = .frz ob w := he w nf (by
        rcases r with r | ⟨ob, r⟩
        · rw [h] at r; cases r; exact .inl rfl
        · rw [h] at r; cases r; exact .inr ⟨ob, rfl⟩)
      rcases this with e | ⟨ob, e⟩
      · exact .inl (by rw [upd_same, e])
      · exact .inr ⟨ob, by rw [upd_same, e]⟩
    · exact r.imp (fun r => by rw [upd_ne e]; exact r) fun ⟨ob, r⟩ => ⟨ob, by rw [upd_ne e]; exact r⟩
  refine ⟨⟨fun b w _ nf r => rd b w nf r, fun b vs _ r => ?_, fun b vs r => ?_⟩, rd⟩
  · have e : b ≠ a := fun e => by subst e; rw [h] at r; cases r; exact hd
    rw [upd_ne e]; exact r
  · have e : b ≠ a := fun e => by subst e; rw [h] at r; cases r; exact hd
    rw [upd_ne e]; exact r
theorem Rel.swap (R : Rel K F E S env σ H) (h : H a = some o) (hd : isD o) (he : ∀ w, (∀ ob z, w ≠ .frz ob z) → (o = w ∨ ∃ ob, o = .frz ob w) → (u = w ∨ ∃ ob, u = .frz ob w)) (n : ¬ OwnA S σ a)
    (hF : F' = { F with H0 := F'.H0, M := F'.M }) (p1 : ∀ b ob, F'.H0 b = some ob → ¬ F'.M b → upd H a u b = some ob) (p2 : ∀ b, F'.H0 b ≠ none → upd H a u b ≠ none) (p3 : ∀ b, F.A0 b → F'.H0 b ≠ none) (p4 : ∀ b, F'.M b → F.A0 b)
    (p5 : ∀ b, b ≠ a → F.H0 b = none → F'.H0 b = none) (p6 : ∀ b, b ≠ a → F.M b → F'.M b) : Rel K F' E S env σ (upd H a u) := by
  obtain ⟨kp, rd⟩ := keep_swap (A := Av F E S σ) h hd he
  have hA0 : F'.A0 = F.A0 := by rw [hF]
  have hkp : F'.kp = F.kp := by rw [hF]
  have hfx : F'.fx = F.fx := by rw [hF]
  have hAv : Av F' E S σ = Av F E S σ := by funext b; unfold Av; rw [hA0]
  have liv : ∀ b, H b ≠ none → upd H a u b ≠ none := fun b hb => by
    by_cases e : b = a
    · subst e; rw [upd_same]; simp
    · rw [upd_ne e]; exact hb
  have cc : ∀ {y : EV} {b : Addr}, RepC K H (Av F E S σ) b y → RepC K (upd H a u) (Av F E S σ) b y := fun {y b} r =>
    r.mono' kp (fun b n _ => n) (fun vs q => by
      have e : b ≠ a := fun e => by subst e; rw [h] at q; cases q; exact hd
      rw [upd_ne e]; exact q) fun w nf q => rd b w nf q
  refine ⟨R.le, R.ls, fun j st hj => ?_, R.uniq, p1, p2, by rw [hA0]; exact p3, by rw [hA0]; exact p4, fun b hb => liv b (R.eT b hb), R.eD, fun j b h1 h2 => p5 b (fun e => n (e ▸ ⟨j, .O, h1, rfl, h2⟩)) (R.fresh j b h1 h2), fun j b h1 h2 => p6 b (fun e => n (e ▸ ⟨j, .I, h1, rfl, h2⟩)) (R.inn j b h1 h2), ?_, ?_, ?_, ?_, ?_⟩
  · obtain ⟨e, v, e1, e2, ok⟩ := R.slot j st hj
    refine ⟨e, v, e1, e2, ?_⟩
    rw [hAv]
    cases st with
    | N => trivial
    | S => obtain ⟨y, w, h1, h2, r⟩ := ok; exact ⟨y, w, h1, h2, r.mono kp fun b n _ => n⟩
    | B => obtain ⟨y, b, h1, h2, c, r⟩ := ok; exact ⟨y, b, h1, h2, c, cc r⟩
    | O =>
      obtain ⟨y, b, h1, h2, c, r, w, w1, w2⟩ := ok
      have nb : b ≠ a := fun e => n (e ▸ ⟨j, .O, hj, rfl, by rw [e2, h2]⟩)
      exact ⟨y, b, h1, h2, c, cc r, w, by rw [upd_ne nb]; exact w1, w2⟩
    | I =>
      obtain ⟨y, b, h1, h2, c, r, w, w1, w2⟩ := ok
      have nb : b ≠ a := fun e => n (e ▸ ⟨j, .I, hj, rfl, by rw [e2, h2]⟩)
      exact ⟨y, b, h1, h2, c, cc r, w, by rw [upd_ne nb]; exact w1, w2⟩
  · rw [hkp, hAv]
    exact fun p hp => (R.kept p hp).mono kp fun b n _ => n
  · rw [hfx]; exact R.fix
  · rw [show F'.io = F.io by rw [hF]]; exact R.ios
  · rw [hfx]; exact R.bx
  · rw [show F'.io = F.io by rw [hF], show F'.ia = F.ia by rw [hF]]; exact R.ioa
/-! an owned slot is lent -/
def fixes (S : List Sta) (env : Env) (σ : L2.St) : List (Nat × Addr × EV) := (List.range S.length).filterMap fun j => match (S[j]? : Option Sta), (σ[j]? : Option (Option V)), (env[j]? : Option (Option EV)) with
  | some Sta.B, some (some (V.ref b)), some (some y) => some (j, b, y)
  | _, _, _ => none
theorem mem_fixes {S : List Sta} {env : Env} {σ : L2.St} {p : Nat × Addr × EV} : p ∈ fixes S env σ ↔ S[p.1]? = some .B ∧ σ[p.1]? = some (some (.ref p.2.1)) ∧ env[p.1]? = some (some p.2.2) := by
  unfold fixes
  rw [List.mem_filterMap]
  constructor
  · rintro ⟨j, hj, e⟩
    split at e
    · cases e
      exact ⟨by assumption, by assumption, by assumption⟩
    · cases e
  · rintro ⟨h1, h2, h3⟩
    refine ⟨p.1, ?_, ?_⟩
    · rw [List.mem_range]
      exact get_lt h1
    · rw [h1, h2, h3]
def fixF (F : Frm) (S : List Sta) (env : Env) (σ : L2.St) : Frm := { F with fx := fixes S env σ ++ F.fx }
theorem own_lend {σ : L2.St} (h : OwnA (S.set i .B) σ p) : OwnA S σ p := by
  obtain ⟨j, st, h1, h2, h3⟩ := h
  rcases set_get h1 with ⟨_, e⟩ | ⟨_, h1⟩
  · rw [← e] at h2; cases h2
  · exact ⟨j, st, h1, h2, h3⟩
theorem own_back {σ : L2.St} {st : Sta} (hs : S[i]? = some st) (ha : σ[i]? = some (some (.ref a))) (h : OwnA S σ p) : OwnA (S.set i .B) σ p ∨ p = a := by
  obtain ⟨j, st', h1, h2, h3⟩ := h
  by_cases e : i = j
  · subst e
    rw [ha] at h3
    cases h3
    exact .inr rfl
  · exact .inl ⟨j, st', by rw [List.getElem?_set_ne e]; exact h1, h2, h3⟩
theorem Rel.lend (R : Rel K F E S env σ H) {st : Sta} (hi : S[i]? = some st) (ho : st.own = true) (ha : σ[i]? = some (some (.ref a))) : Rel K (fixF F (S.set i .B) env σ) (plusA E a) (S.set i .B) env σ H := by
  have hA : ∀ b, ¬ Av F E S σ b → H b ≠ none → ¬ Av F (plusA E a) (S.set i .B) σ b := fun b n _ q => n (by
    rcases q with q | (q | q) | q
    · exact .inl q
    · exact .inr (.inl q)
    · exact .inr (.inr (q ▸ ⟨i, st, hi, ho, ha⟩))
    · exact .inr (.inr (own_lend q)))
  have li : i < S.length := get_lt hi
  refine ⟨by simp [R.le], by simp [R.ls], fun j st' h => ?_, fun j k b s1 s2 ne q1 q2 q3 q4 q5 => ?_, R.pres, R.live, R.a0, R.m0, fun b hb => ?_, fun b hb q => ?_, fun j b q1 q2 => ?_, fun j b q1 q2 => ?_, fun p hp => (R.kept p hp).mono .rfl hA, fun p hp => ?_, fun j hj => ?_, fun j hj => ?_, R.ioa⟩
  · by_cases hj : i = j
    · subst hj
      rw [List.getElem?_set_self li] at h
      cases h
      obtain ⟨e, v, e1, e2, ok⟩ := R.slot i st hi
      refine ⟨e, v, e1, e2, ?_⟩
      cases st with
      | O => obtain ⟨x, b, h1, h2, c, r, _⟩ := ok; exact ⟨x, b, h1, h2, c, r.mono' .rfl hA (fun _ q => q) fun _ _ q => q⟩
      | I => obtain ⟨x, b, h1, h2, c, r, _⟩ := ok; exact ⟨x, b, h1, h2, c, r.mono' .rfl hA (fun _ q => q) fun _ _ q => q⟩
      | _ => cases ho
    · rw [List.getElem?_set_ne hj] at h
      obtain ⟨e, v, e1, e2, ok⟩ := R.slot j st' h
      exact ⟨e, v, e1, e2, ok.mono .rfl hA fun _ _ _ z => z⟩
  · rcases set_get q1 with ⟨_, e⟩ | ⟨n1, q1⟩
    · rw [← e] at q2; cases q2
    rcases set_get q3 with ⟨e, e2⟩ | ⟨n3, q3⟩
    · subst e
      exact fun q6 => R.uniq i j b st s1 (fun z => ne z.symm) hi ho q1 (.inl q2) q6 q5
    · exact R.uniq j k b s1 s2 ne q1 q2 q3 q4 q5
  · rcases hb with hb | rfl
    · exact R.eT b hb
    · exact R.av_tracked (.inr (.inr ⟨i, st, hi, ho, ha⟩))
  · rcases hb with hb | rfl
    · exact R.eD b hb (own_lend q)
    · obtain ⟨j, s1, q1, q2, q3⟩ := q
      rcases set_get q1 with ⟨_, e⟩ | ⟨n1, q1⟩
      · rw [← e] at q2; cases q2
      · exact R.uniq i j b st s1 n1 hi ho q1 (.inl q2) ha q3
  · rcases set_get q1 with ⟨_, e⟩ | ⟨n1, q1⟩
    · cases e
    · exact R.fresh j b q1 q2
  · rcases set_get q1 with ⟨_, e⟩ | ⟨n1, q1⟩
    · cases e
    · exact R.inn j b q1 q2
  · rcases List.mem_append.mp hp with hp | hp
    · exact mem_fixes.mp hp
    · obtain ⟨f1, f2, f3⟩ := R.fix p hp
      refine ⟨?_, f2, f3⟩
      by_cases e : i = p.1
      · rw [← e, List.getElem?_set_self li]
      · rw [List.getElem?_set_ne e]; exact f1
  · by_cases e : i = j
    · subst e; exact .inr (List.getElem?_set_self li)
    · rw [List.getElem?_set_ne e]; exact R.ios j hj
  · by_cases e : i = j
    · subst e
      obtain ⟨e, v, e1, e2, ok⟩ := R.slot i st hi
      have hx : ∃ y, e = some y := by
        cases st with
        | O => obtain ⟨y, _, h, _⟩ := ok; exact ⟨y, h⟩
        | I => obtain ⟨y, _, h, _⟩ := ok; exact ⟨y, h⟩
        | _ => cases ho
      obtain ⟨y, rfl⟩ := hx
      exact ⟨(i, a, y), List.mem_append_left _ (mem_fixes.mpr ⟨hj, ha, e1⟩), rfl⟩
    · rw [List.getElem?_set_ne e] at hj
      obtain ⟨p, hp, q⟩ := R.bx j hj
      exact ⟨p, List.mem_append_right _ hp, q⟩
theorem Rel.back {S0 : List Sta} {env0 : Env} {σ0 : L2.St} {H0 : Hp} {E0 : Addr → Prop} {st : Sta} (R0 : Rel K F E0 S0 env0 σ0 H0) (hi0 : S0[i]? = some st) (ho : st.own = true) (ha0 : σ0[i]? = some (some (.ref a))) (R : Rel K (fixF F (S0.set i .B) env0 σ0) (plusA E a) S env σ H)
    (hw : Wr H a) (hE : ¬ E a) : Rel K F E (S.set i st) env σ H := by
  obtain ⟨e0, v0, k1, k2, ok0⟩ := R0.slot i st hi0
  have hx : ∃ y, e0 = some y := by
    cases st with
    | O => obtain ⟨y, _, h, _⟩ := ok0; exact ⟨y, h⟩
    | I => obtain ⟨y, _, h, _⟩ := ok0; exact ⟨y, h⟩
    | _ => cases ho
  obtain ⟨y0, rfl⟩ := hx
  have l0 : i < S0.length := get_lt hi0
  obtain ⟨hi, ha, _⟩ := R.fix (i, a, y0) (List.mem_append_left _ (mem_fixes.mpr ⟨List.getElem?_set_self l0, ha0, k1⟩))
  have hB : ∀ (j : Nat), j ≠ i → S[j]? = some .B → σ[j]? ≠ some (some (.ref a)) := fun j nj hj e => by
    obtain ⟨p, hp, rfl⟩ := R.bx j hj
    obtain ⟨f1, f2, f3⟩ := R.fix p hp
    have key : S0[p.1]? = some .B ∧ σ0[p.1]? = some (some (.ref p.2.1)) := by
      rcases List.mem_append.mp hp with hp | hp
      · obtain ⟨q1, q2, _⟩ := mem_fixes.mp hp
        rw [List.getElem?_set_ne (fun z => nj z.symm)] at q1
        exact ⟨q1, q2⟩
      · obtain ⟨q1, q2, _⟩ := R0.fix p hp
        exact ⟨q1, q2⟩
    rw [e] at f2
    have f2 : a = p.2.1 := by simpa using f2
    exact R0.uniq i p.1 a st .B (fun z => nj z.symm) hi0 ho key.1 (.inr rfl) ha0 (by rw [f2]; exact key.2)
  have h1 : st = .O → F.H0 a = none := fun e => R0.fresh i a (e ▸ hi0) ha0
  have h2 : st = .I → F.M a := fun e => R0.inn i a (e ▸ hi0) ha0
  have hfx : ∀ p ∈ F.fx, p.1 ≠ i := fun p hp e => by
    obtain ⟨q1, _, _⟩ := R0.fix p hp
    rw [e, hi0] at q1
    cases q1
    cases ho
  have li : i < S.length := get_lt hi
  have oa : ∀ {b}, OwnA (S.set i st) σ b → OwnA S σ b ∨ b = a := fun {b} h => by
    obtain ⟨j, s1, q1, q2, q3⟩ := h
    rcases set_get q1 with ⟨e, _⟩ | ⟨_, q1⟩
    · subst e; rw [ha] at q3; cases q3; exact .inr rfl
    · exact .inl ⟨j, s1, q1, q2, q3⟩
  have hA : ∀ b, ¬ Av F (plusA E a) S σ b → H b ≠ none → ¬ Av F E (S.set i st) σ b := fun b n _ q => n (by
    rcases q with q | q | q
    · exact .inl q
    · exact .inr (.inl (.inl q))
    · rcases oa q with q | q
      · exact .inr (.inr q)
      · exact .inr (.inl (.inr q)))
  have na : ¬ OwnA S σ a := R.eD a (.inr rfl)
  refine ⟨by simp [R.le], by simp [R.ls], fun j st' h => ?_, fun j k b s1 s2 ne q1 q2 q3 q4 q5 q6 => ?_, R.pres, R.live, R.a0, R.m0, fun b hb => R.eT b (.inl hb), fun b hb q => ?_, fun j b q1 q2 => ?_, fun j b q1 q2 => ?_, fun p hp => (R.kept p hp).mono .rfl hA, fun p hp => ?_, fun j hj => ?_, fun j hj => ?_, R.ioa⟩
  · by_cases hj : i = j
    · subst hj
      rw [List.getElem?_set_self li] at h
      cases h
      obtain ⟨e, v, e1, e2, x, b, k1, k2, c, r⟩ := R.slot i .B hi
      rw [ha] at e2
      cases e2
      cases k2
      refine ⟨e, _, e1, ha, ?_⟩
      cases st with
      | O => exact ⟨x, a, k1, rfl, c, r.mono' .rfl hA (fun _ q => q) (fun _ _ q => q), hw⟩
      | I => exact ⟨x, a, k1, rfl, c, r.mono' .rfl hA (fun _ q => q) (fun _ _ q => q), hw⟩
      | _ => cases ho
    · rw [List.getElem?_set_ne hj] at h
      obtain ⟨e, v, e1, e2, ok⟩ := R.slot j st' h
      exact ⟨e, v, e1, e2, ok.mono .rfl hA fun _ _ _ z => z⟩
  · rcases set_get q1 with ⟨e, _⟩ | ⟨n1, q1⟩
    · subst e
      rw [ha] at q5
      cases q5
      rw [List.getElem?_set_ne ne] at q3
      rcases q4 with q4 | q4
      · exact na ⟨k, s2, q3, q4, q6⟩
      · subst q4; exact hB k (fun z => ne z.symm) q3 q6
    · rcases set_get q3 with ⟨e, _⟩ | ⟨n3, q3⟩
      · subst e
        rw [ha] at q6
        cases q6
        exact na ⟨j, s1, q1, q2, q5⟩
      · exact R.uniq j k b s1 s2 ne q1 q2 q3 q4 q5 q6
  · rcases oa q with q | q
    · exact R.eD b (.inl hb) q
    · subst q; exact hE hb
  · rcases set_get q1 with ⟨e, e2⟩ | ⟨n1, q1⟩
    · subst e; rw [ha] at q2; cases q2; exact h1 e2
    · exact R.fresh j b q1 q2
  · rcases set_get q1 with ⟨e, e2⟩ | ⟨n1, q1⟩
    · subst e; rw [ha] at q2; cases q2; exact h2 e2
    · exact R.inn j b q1 q2
  · obtain ⟨f1, f2, f3⟩ := R.fix p (List.mem_append_right _ hp)
    have ne := hfx p hp
    exact ⟨by rw [List.getElem?_set_ne (fun z => ne z.symm)]; exact f1, f2, f3⟩
  · by_cases e : i = j
    · subst e
      rw [List.getElem?_set_self li]
      rcases R0.ios i hj with q | q
      · rw [hi0] at q; cases q; exact .inl rfl
      · rw [hi0] at q; cases q; cases ho
    · rw [List.getElem?_set_ne e]
      exact R.ios j hj
  · rcases set_get hj with ⟨_, e⟩ | ⟨nj, hj⟩
    · rw [e] at ho; cases ho
    · obtain ⟨p, hp, rfl⟩ := R.bx j hj
      rcases List.mem_append.mp hp with hp | hp
      · obtain ⟨q1, _, _⟩ := mem_fixes.mp hp
        rw [List.getElem?_set_ne nj] at q1
        exact R0.bx _ q1
      · exact ⟨p, hp, rfl⟩
end
end Ev
end

section
set_option Elab.async false
set_option linter.all false
set_option maxRecDepth 100000
set_option maxHeartbeats 4000000
/-! EvQ: what an iterator serves. -/
namespace Ev
open PySem PySem.Spec PyProof.Rows L2
def orA (P Y : Addr → Prop) : Addr → Prop := fun b => P b ∨ Y b
/-- the iterator yields these, whatever the frame does -/
def Serves (K : PySem.W.Frag) (F : Frm) (J : It) (xs : List EV) : Prop := ∀ (E : Addr → Prop) (S : List Sta) (env : Env) (σ : L2.St) (H : Hp), Rel K F E S env σ H → ∀ i : Nat,
  (∀ x, xs[i]? = some x → J.go i H ∧ ∀ v H', J.yld i H v H' → Ext H H' ∧ Rep K H' (Av F E S σ) v x) ∧ (xs.length ≤ i → J.stop i H)
def HeldL (K : PySem.W.Frag) (F : Frm) (a : Addr) (vs : List V) (xs : List EV) : Prop := ∀ (E : Addr → Prop) (S : List Sta) (env : Env) (σ : L2.St) (H : Hp), Rel K F E S env σ H → SqL K H a vs ∧ Reps K H (Av F E S σ) vs xs
def HeldT (K : PySem.W.Frag) (F : Frm) (a : Addr) (vs : List V) (xs : List EV) : Prop := ∀ (E : Addr → Prop) (S : List Sta) (env : Env) (σ : L2.St) (H : Hp), Rel K F E S env σ H → SqT K H a vs ∧ Reps K H (Av F E S σ) vs xs
/-- a way out of a walk -/
structure Exit (K : PySem.W.Frag) (F1 F : Frm) (Y : Addr → Prop) (un : List Sta → List Sta) : Prop where
  run : ∀ (P : Addr → Prop) (S2 : List Sta) (env2 : Env) (σ2 : L2.St) (H2 : Hp), (∀ b, Y b → ¬ P b) → Rel K F1 (orA P Y) S2 env2 σ2 H2 → Rel K F P (un S2) env2 σ2 H2
  A0 : F1.A0 = F.A0
  own : ∀ (P : Addr → Prop) (S2 : List Sta) (env2 : Env) (σ2 : L2.St) (H2 : Hp), (∀ b, Y b → ¬ P b) → Rel K F1 (orA P Y) S2 env2 σ2 H2 → ∀ b, OwnA (un S2) σ2 b → OwnA S2 σ2 b ∨ Y b
  H0 : ∀ p, F1.H0 p = none → F.H0 p = none
section
variable {K : PySem.W.Frag} {F F1 F2 : Frm} {E E' : Addr → Prop} {S S' : List Sta} {env env' : Env} {σ σ' : L2.St} {H H' : Hp} {A A' Y Y' : Addr → Prop} {a b p : Addr} {x : EV} {v : V} {i : Nat} {o u : HO} {vs ws : List V} {xs ys : List EV}
theorem Exit.trans {un un' : List Sta → List Sta} (d : ∀ b, Y' b → ¬ Y b) (h : Exit K F2 F1 Y' un') (k : Exit K F1 F Y un) : Exit K F2 F (orA Y Y') (fun S => un (un' S)) := by
  have step : ∀ (P : Addr → Prop) (S2 : List Sta) (env2 : Env) (σ2 : L2.St) (H2 : Hp), (∀ b, orA Y Y' b → ¬ P b) → Rel K F2 (orA P (orA Y Y')) S2 env2 σ2 H2 → (∀ b, Y' b → ¬ orA P Y b) ∧ Rel K F2 (orA (orA P Y) Y') S2 env2 σ2 H2 := fun P S2 env2 σ2 H2 hp R => by
    refine ⟨fun b hb q => ?_, R.lessE fun b q => ?_⟩
    · rcases q with q | q
      · exact hp b (.inr hb) q
      · exact d b hb q
    · rcases q with (q | q) | q
      · exact .inl q
      · exact .inr (.inl q)
      · exact .inr (.inr q)
  refine ⟨fun P S2 env2 σ2 H2 hp R => ?_, h.A0.trans k.A0, fun P S2 env2 σ2 H2 hp R b q => ?_, fun p q => k.H0 p (h.H0 p q)⟩
  · obtain ⟨q1, q2⟩ := step P S2 env2 σ2 H2 hp R
    exact k.run P _ _ _ _ (fun b hb => hp b (.inl hb)) (h.run (orA P Y) S2 env2 σ2 H2 q1 q2)
  · obtain ⟨q1, q2⟩ := step P S2 env2 σ2 H2 hp R
    rcases k.own P _ _ _ _ (fun b hb => hp b (.inl hb)) (h.run (orA P Y) S2 env2 σ2 H2 q1 q2) b q with q | q
    · exact (h.own (orA P Y) S2 env2 σ2 H2 q1 q2 b q).imp id .inr
    · exact .inr (.inl q)
theorem reps_zip : ∀ {vs : List V} {xs : List EV}, vs.length = xs.length → (∀ p ∈ vs.zip xs, Rep K H A p.1 p.2) → Reps K H A vs xs
  | [], [], _, _ => .nil
  | v :: vs, x :: xs, h, k => .cons (k (v, x) (by simp)) (reps_zip (by simpa using h) fun p hp => k p (by simp [hp]))
  | [], _ :: _, h, _ => by cases h
  | _ :: _, [], h, _ => by cases h
theorem zip_rep : ∀ {vs : List V} {xs : List EV}, Reps K H A vs xs → ∀ p ∈ vs.zip xs, Rep K H A p.1 p.2
  | _, _, .nil, _, h => by cases h
  | _, _, .cons r rs, p, h => by
    rcases List.mem_cons.mp h with h | h
    · rw [h]; exact r
    · exact zip_rep rs p h
theorem held_l (h : ∀ (E : Addr → Prop) (S : List Sta) (env : Env) (σ : L2.St) (H : Hp), Rel K F E S env σ H → SqL K H a vs) (hl : vs.length = xs.length) (hk : ∀ p ∈ vs.zip xs, p ∈ F.kp) : HeldL K F a vs xs := fun E S env σ H R => ⟨h E S env σ H R, reps_zip hl fun p hp => R.kept p (hk p hp)⟩
theorem held_t (h : ∀ (E : Addr → Prop) (S : List Sta) (env : Env) (σ : L2.St) (H : Hp), Rel K F E S env σ H → SqT K H a vs) (hl : vs.length = xs.length) (hk : ∀ p ∈ vs.zip xs, p ∈ F.kp) : HeldT K F a vs xs := fun E S env σ H R => ⟨h E S env σ H R, reps_zip hl fun p hp => R.kept p (hk p hp)⟩
theorem Reps.get' : ∀ {vs : List V} {xs : List EV} {i : Nat} {x : EV}, Reps K H A vs xs → xs[i]? = some x → ∃ v, vs[i]? = some v ∧ Rep K H A v x
  | _, _, _, _, .nil, h => by simp at h
  | _, _, 0, _, .cons r _, h => by simp at h; subst h; exact ⟨_, rfl, r⟩
  | _, _, i + 1, _, .cons _ rs, h => by
    obtain ⟨v, h1, h2⟩ := rs.get' (i := i) (by simpa using h)
    exact ⟨v, by simpa using h1, h2⟩
theorem serves_list (h : HeldL K F a vs xs) : Serves K F (Itl K a) xs := fun E S env σ H R i => by
  obtain ⟨hq, rs⟩ := h E S env σ H R
  refine ⟨fun x hx => ?_, fun hl => ⟨vs, hq, by rw [rs.length]; exact hl⟩⟩
  obtain ⟨v, hv, r⟩ := rs.get' hx
  refine ⟨⟨vs, v, hq, hv⟩, fun w H' ⟨e, k⟩ => ?_⟩
  have := k vs hq
  rw [hv] at this
  cases this
  rw [e]
  exact ⟨.rfl, r⟩
theorem serves_tup (h : HeldT K F a vs xs) : Serves K F (Itt K a) xs := fun E S env σ H R i => by
  obtain ⟨hq, rs⟩ := h E S env σ H R
  refine ⟨fun x hx => ?_, fun hl => ⟨vs, hq, by rw [rs.length]; exact hl⟩⟩
  obtain ⟨v, hv, r⟩ := rs.get' hx
  refine ⟨⟨vs, v, hq, hv⟩, fun w H' ⟨e, k⟩ => ?_⟩
  have := k vs hq
  rw [hv] at this
  cases this
  rw [e]
  exact ⟨.rfl, r⟩
theorem enumL_get : ∀ {xs : List EV} {k : Int} {i : Nat} {x : EV}, (enumL k xs)[i]? = some x → ∃ y, xs[i]? = some y ∧ x = .tup [.int (k + i), y]
  | [], _, _, _, h => by simp [enumL] at h
  | y :: ys, k, 0, x, h => by
    rw [enumL] at h
    simp at h
    exact ⟨y, rfl, by rw [← h]; simp⟩
  | y :: ys, k, i + 1, x, h => by
    rw [enumL] at h
    obtain ⟨z, h1, h2⟩ := enumL_get (i := i) (by simpa using h)
    refine ⟨z, by simpa using h1, ?_⟩
    rw [h2, show k + 1 + (i : Int) = k + ((i + 1 : Nat) : Int) by omega]
theorem enumL_len : ∀ (xs : List EV) (k : Int), (enumL k xs).length = xs.length
  | [], _ => rfl
  | y :: ys, k => by rw [enumL, List.length_cons, enumL_len ys]; rfl
theorem Rep.up (r : Rep K H A v x) (h : Ext H H') (hA : ∀ a, A a → H a ≠ none) : Rep K H' A v x := r.mono h.keep fun b n _ => n
theorem serves_enum (h : HeldL K F a vs xs) : Serves K F (Ite K a) (enumL 0 xs) := fun E S env σ H R i => by
  obtain ⟨hq, rs⟩ := h E S env σ H R
  refine ⟨fun x hx => ?_, fun hl => ⟨vs, hq, by rw [rs.length, ← enumL_len xs 0]; exact hl⟩⟩
  obtain ⟨y, hy, rfl⟩ := enumL_get hx
  obtain ⟨v, hv, r⟩ := rs.get' hy
  refine ⟨⟨vs, v, hq, hv⟩, fun w H' ⟨T, z, e1, hT, e2, k⟩ => ?_⟩
  have := k vs hq
  rw [hv] at this
  cases this
  subst e1 e2
  refine ⟨.upd hT, .tup upd_same (.cons ?_ (.cons (r.up (.upd hT) (av_tr R)) .nil))⟩
  have : (0 : Int) + (i : Int) = (i : Nat) := by omega
  rw [this]
  exact .int _
theorem zipL_get : ∀ {xs ys : List EV} {i : Nat} {x : EV}, (zipL xs ys)[i]? = some x → ∃ y z, xs[i]? = some y ∧ ys[i]? = some z ∧ x = .tup [y, z]
  | [], _, _, _, h => by simp [zipL] at h
  | _ :: _, [], _, _, h => by simp [zipL] at h
  | y :: xs, z :: ys, 0, x, h => by
    rw [zipL] at h
    simp at h
    exact ⟨y, z, rfl, rfl, h.symm⟩
  | y :: xs, z :: ys, i + 1, x, h => by
    rw [zipL] at h
    obtain ⟨p, q, h1, h2, h3⟩ := zipL_get (i := i) (by simpa using h)
    exact ⟨p, q, by simpa using h1, by simpa using h2, h3⟩
theorem zipL_len : ∀ (xs ys : List EV), (zipL xs ys).length = min xs.length ys.length
  | [], _ => by simp [zipL]
  | _ :: _, [] => by simp [zipL]
  | y :: xs, z :: ys => by rw [zipL, List.length_cons, zipL_len xs ys, List.length_cons, List.length_cons]; omega
theorem serves_zip (h : HeldL K F a vs xs) (h2 : HeldL K F b ws ys) : Serves K F (Itz K a b) (zipL xs ys) := fun E S env σ H R i => by
  obtain ⟨hq, rs⟩ := h E S env σ H R
  obtain ⟨hq2, rs2⟩ := h2 E S env σ H R
  refine ⟨fun x hx => ?_, fun hl => ⟨vs, ws, hq, hq2, by rw [rs.length, rs2.length]; rw [zipL_len] at hl; omega⟩⟩
  obtain ⟨y, z, hy, hz, rfl⟩ := zipL_get hx
  obtain ⟨v, hv, r⟩ := rs.get' hy
  obtain ⟨v2, hv2, r2⟩ := rs2.get' hz
  refine ⟨⟨vs, ws, v, v2, hq, hq2, hv, hv2⟩, fun w H' ⟨T, z1, z2, e1, hT, e2, k, k2⟩ => ?_⟩
  have q1 := k vs hq
  have q2 := k2 ws hq2
  rw [hv] at q1
  rw [hv2] at q2
  cases q1
  cases q2
  subst e1 e2
  exact ⟨.upd hT, .tup upd_same (.cons (r.up (.upd hT) (av_tr R)) (.cons (r2.up (.upd hT) (av_tr R)) .nil))⟩
theorem serves_zipT (h : HeldT K F a vs xs) (h2 : HeldT K F b ws ys) : Serves K F (RZ.ItzT K a b) (zipL xs ys) := fun E S env σ H R i => by
  obtain ⟨hq, rs⟩ := h E S env σ H R
  obtain ⟨hq2, rs2⟩ := h2 E S env σ H R
  refine ⟨fun x hx => ?_, fun hl => ⟨vs, ws, hq, hq2, by rw [rs.length, rs2.length]; rw [zipL_len] at hl; omega⟩⟩
  obtain ⟨y, z, hy, hz, rfl⟩ := zipL_get hx
  obtain ⟨v, hv, r⟩ := rs.get' hy
  obtain ⟨v2, hv2, r2⟩ := rs2.get' hz
  refine ⟨⟨vs, ws, v, v2, hq, hq2, hv, hv2⟩, fun w H' ⟨T, z1, z2, e1, hT, e2, k, k2⟩ => ?_⟩
  have q1 := k vs hq
  have q2 := k2 ws hq2
  rw [hv] at q1
  rw [hv2] at q2
  cases q1
  cases q2
  subst e1 e2
  exact ⟨.upd hT, .tup upd_same (.cons (r.up (.upd hT) (av_tr R)) (.cons (r2.up (.upd hT) (av_tr R)) .nil))⟩
theorem rngL_get : ∀ {n : Nat} {lo : Int} {i : Nat} {x : EV}, (rngL lo 1 n)[i]? = some x → i < n ∧ x = .int (lo + i)
  | 0, _, _, _, h => by simp [rngL] at h
  | n + 1, lo, 0, x, h => by
    rw [rngL] at h
    simp at h
    exact ⟨by omega, by rw [← h]; simp⟩
  | n + 1, lo, i + 1, x, h => by
    rw [rngL] at h
    obtain ⟨h1, h2⟩ := rngL_get (i := i) (by simpa using h)
    refine ⟨by omega, ?_⟩
    rw [h2]
    congr 1
    omega
theorem rngL_len : ∀ (n : Nat) (lo : Int), (rngL lo 1 n).length = n
  | 0, _ => rfl
  | n + 1, lo => by rw [rngL, List.length_cons, rngL_len n]
theorem serves_rng {lo : Int} {n : Nat} : Serves K F (Itr lo n) (rngL lo 1 n) := fun E S env σ H R i => by
  refine ⟨fun x hx => ?_, fun hl => by rw [rngL_len] at hl; exact hl⟩
  obtain ⟨h1, rfl⟩ := rngL_get hx
  refine ⟨h1, fun v H' ⟨e, e2⟩ => ?_⟩
  rw [e, e2]
  exact ⟨.rfl, .int _⟩
theorem chars_get : ∀ {s : List Nat} {i : Nat} {x : EV}, (chars s)[i]? = some x → ∃ c, s[i]? = some c ∧ x = .str [c]
  | [], _, _, h => by simp [chars] at h
  | c :: s, 0, x, h => by
    rw [chars] at h
    simp at h
    exact ⟨c, rfl, h.symm⟩
  | c :: s, i + 1, x, h => by
    rw [chars] at h
    obtain ⟨d, h1, h2⟩ := chars_get (i := i) (by simpa using h)
    exact ⟨d, by simpa using h1, h2⟩
theorem chars_len : ∀ (s : List Nat), (chars s).length = s.length
  | [] => rfl
  | c :: s => by rw [chars, List.length_cons, chars_len s]; rfl
theorem serves_str {s : List Nat} : Serves K F (Its (sv s)) (chars s) := fun E S env σ H R i => by
  refine ⟨fun x hx => ?_, fun hl => by rw [chars_len] at hl; simpa [Its, sv] using hl⟩
  obtain ⟨c, hc, rfl⟩ := chars_get hx
  have hc' : (sv s).cps[i]? = some c := by simpa [sv] using hc
  refine ⟨?_, fun v H' ⟨e, d, hd, e2⟩ => ?_⟩
  · have := (List.getElem?_eq_some_iff.mp hc).1
    simpa [Its, sv] using this
  · rw [hc'] at hd
    cases hd
    rw [e, e2]
    exact ⟨.rfl, .str [c]⟩
/-! dicts -/
def HeldK (K : PySem.W.Frag) (F : Frm) (a : Addr) (o : Obj) (kv : List (Key × V)) : Prop := ∀ (E : Addr → Prop) (S : List Sta) (env : Env) (σ : L2.St) (H : Hp), Rel K F E S env σ H → H a = some (.frz o (.dK kv))
def HeldKT (K : PySem.W.Frag) (F : Frm) (a : Addr) (o : Obj) (kv : List (List Key × V)) : Prop := ∀ (E : Addr → Prop) (S : List Sta) (env : Env) (σ : L2.St) (H : Hp), Rel K F E S env σ H → H a = some (.frz o (.dT kv))
/-- keys told apart -/
def KeysK (kv : List (Key × V)) (xs : List (EV × EV)) : Prop := kv.length = xs.length ∧ ∀ (i : Nat) k v, kv[i]? = some (k, v) → ∃ e w, xs[i]? = some (e, w) ∧ KeyR k e
def KeysT (kv : List (List Key × V)) (xs : List (EV × EV)) : Prop := kv.length = xs.length ∧ ∀ (i : Nat) k v, kv[i]? = some (k, v) → ∃ e w, xs[i]? = some (e, w) ∧ TKeyR k e
theorem RepK.keys : ∀ {kv : List (Key × V)} {xs : List (EV × EV)}, RepK K H A kv xs → KeysK kv xs
  | _, _, .nil => ⟨rfl, fun i k v h => by simp at h⟩
  | _, _, .cons h r rs => by
    obtain ⟨h1, h2⟩ := rs.keys
    refine ⟨by simp [h1], fun i k v e => ?_⟩
    cases i with
    | zero => simp at e; obtain ⟨rfl, rfl⟩ := e; exact ⟨_, _, rfl, h⟩
    | succ i => obtain ⟨e', w, q1, q2⟩ := h2 i k v (by simpa using e); exact ⟨e', w, by simpa using q1, q2⟩
theorem RepT.keys : ∀ {kv : List (List Key × V)} {xs : List (EV × EV)}, RepT K H A kv xs → KeysT kv xs
  | _, _, .nil => ⟨rfl, fun i k v h => by simp at h⟩
  | _, _, .cons h r rs => by
    obtain ⟨h1, h2⟩ := rs.keys
    refine ⟨by simp [h1], fun i k v e => ?_⟩
    cases i with
    | zero => simp at e; obtain ⟨rfl, rfl⟩ := e; exact ⟨_, _, rfl, h⟩
    | succ i => obtain ⟨e', w, q1, q2⟩ := h2 i k v (by simpa using e); exact ⟨e', w, by simpa using q1, q2⟩
theorem keysOf_get : ∀ {xs : List (EV × EV)} {i : Nat} {x : EV}, (keysOf xs)[i]? = some x → ∃ w, xs[i]? = some (x, w)
  | [], _, _, h => by simp [keysOf] at h
  | (k, w) :: xs, 0, x, h => by
    rw [keysOf] at h
    simp at h
    exact ⟨w, by rw [← h]; rfl⟩
  | (k, w) :: xs, i + 1, x, h => by
    rw [keysOf] at h
    obtain ⟨w, h1⟩ := keysOf_get (i := i) (by simpa using h)
    exact ⟨w, by simpa using h1⟩
theorem keysOf_len : ∀ (xs : List (EV × EV)), (keysOf xs).length = xs.length
  | [] => rfl
  | (k, w) :: xs => by rw [keysOf, List.length_cons, keysOf_len xs]; rfl
theorem KeyR.rep {k : Key} {e : EV} (h : KeyR k e) : Rep K H A (kV k) e := by
  cases h with
  | int i => exact .int i
  | str s => exact .str s
theorem KeysR.reps : ∀ {ks : List Key} {es : List EV}, KeysR ks es → Reps K H A (ks.map kV) es
  | _, _, .nil => .nil
  | _, _, .cons h r => .cons h.rep r.reps
theorem serves_keys {o : Obj} {kv : List (Key × V)} {kvs : List (EV × EV)} (h : HeldK K F a o kv) (hk : KeysK kv kvs) : Serves K F (Itk a o kv) (keysOf kvs) := fun E S env σ H R i => by
  have hh := h E S env σ H R
  refine ⟨fun x hx => ?_, fun hl => ⟨hh, by rw [hk.1, ← keysOf_len]; exact hl⟩⟩
  obtain ⟨w, hw⟩ := keysOf_get hx
  have li : i < kv.length := by rw [hk.1]; exact (List.getElem?_eq_some_iff.mp hw).1
  refine ⟨⟨hh, li⟩, fun v H' ⟨e, k, u, hu, e2⟩ => ?_⟩
  obtain ⟨e', w', q1, q2⟩ := hk.2 i k u hu
  rw [hw] at q1
  cases q1
  rw [e, e2]
  exact ⟨.rfl, q2.rep⟩
theorem serves_keysT {o : Obj} {kv : List (List Key × V)} {kvs : List (EV × EV)} (h : HeldKT K F a o kv) (hk : KeysT kv kvs) : Serves K F (Itkt a o kv) (keysOf kvs) := fun E S env σ H R i => by
  have hh := h E S env σ H R
  refine ⟨fun x hx => ?_, fun hl => ⟨hh, by rw [hk.1, ← keysOf_len]; exact hl⟩⟩
  obtain ⟨w, hw⟩ := keysOf_get hx
  have li : i < kv.length := by rw [hk.1]; exact (List.getElem?_eq_some_iff.mp hw).1
  refine ⟨⟨hh, li⟩, fun v H' ⟨e, k, u, q, hu, e2, hq⟩ => ?_⟩
  obtain ⟨e', w', q1, q2⟩ := hk.2 i k u hu
  rw [hw] at q1
  cases q1
  rw [e, e2]
  cases q2 with
  | tup ks => exact ⟨.rfl, .tup hq ks.reps⟩
end
end Ev
end

section
set_option Elab.async false
set_option linter.all false
set_option maxRecDepth 100000
set_option maxHeartbeats 4000000
/-! EvR: a walk is entered and left. -/
namespace Ev
open PySem PySem.Spec PyProof.Rows L2
def tIt (G : Glob) (S : List Sta) : CE → TE
  | .var i => tVar i
  | c => tE G S .sh c
/-- how the thing to be walked stands -/
def ArgOk (K : PySem.W.Frag) (F : Frm) (E : Addr → Prop) (S : List Sta) (env : Env) (σ : L2.St) (H : Hp) (c : CE) (v : V) (x : EV) : Prop :=
  (∃ i st a, c = .var i ∧ S[i]? = some st ∧ st.own = true ∧ σ[i]? = some (some v) ∧ env[i]? = some (some x) ∧ v = .ref a) ∨
  (Rep K H (Av F E S σ) v x ∧ bor1 S c = S ∧ unb1 S c = id) ∨
  (x.isCon = true ∧ (∃ a, v = .ref a ∧ RepC K H (Av F E S σ) a x ∧ ¬ OwnA S σ a) ∧ bor1 S c = S ∧ unb1 S c = id)
section
variable {K : PySem.W.Frag} {F F1 F2 : Frm} {E E' : Addr → Prop} {S S' : List Sta} {env env' : Env} {σ σ' : L2.St} {H H' : Hp} {A A' Y Y' : Addr → Prop} {a b p : Addr} {x : EV} {v : V} {i : Nat} {o u : HO} {vs ws : List V} {xs ys : List EV} {c : CE}
theorem argOk_var (R : Rel K F E S env σ H) (hs : S[i]? ≠ some .N) (hl : i < S.length) (hx : env[i]? = some (some x)) : ∃ v, σ[i]? = some (some v) ∧ ArgOk K F E S env σ H (.var i) v x := by
  obtain ⟨st, hst⟩ : ∃ st, S[i]? = some st := ⟨S[i], List.getElem?_eq_getElem hl⟩
  obtain ⟨e, w, e1, e2, ok⟩ := R.slot i st hst
  rw [hx] at e1
  cases e1
  cases st with
  | N => exact absurd hst hs
  | S =>
    obtain ⟨y, u, q, rfl, r⟩ := ok
    cases q
    exact ⟨u, e2, .inr (.inl ⟨r, by simp only [bor1, hst], by funext S2; simp only [unb1, hst]; rfl⟩)⟩
  | B =>
    obtain ⟨y, a, q, rfl, hc, r⟩ := ok
    cases q
    exact ⟨.ref a, e2, .inr (.inr ⟨hc, ⟨a, rfl, r, fun o => by
      obtain ⟨j, st', k1, k2, k3⟩ := o
      have ne : j ≠ i := fun ej => by subst ej; rw [hst] at k1; cases k1; cases k2
      exact R.uniq j i a st' .B ne k1 k2 hst (.inr rfl) k3 e2⟩, by simp only [bor1, hst], by funext S2; simp only [unb1, hst]; rfl⟩)⟩
  | O =>
    obtain ⟨y, a, q, rfl, hc, r, w⟩ := ok
    exact ⟨.ref a, e2, .inl ⟨i, .O, a, rfl, hst, rfl, e2, hx, rfl⟩⟩
  | I =>
    obtain ⟨y, a, q, rfl, hc, r, w⟩ := ok
    exact ⟨.ref a, e2, .inl ⟨i, .I, a, rfl, hst, rfl, e2, hx, rfl⟩⟩
/-- the entry of a walk: something stands fast -/
structure Entry (K : PySem.W.Frag) (F : Frm) (E : Addr → Prop) (S : List Sta) (env : Env) (σ : L2.St) (H : Hp) (c : CE) (F1 : Frm) (Y : Addr → Prop) : Prop where
  rel : Rel K F1 (orA E Y) (bor1 S c) env σ H
  out : Exit K F1 F Y (unb1 S c)
  own : ∀ b, Y b → OwnA S σ b
  more : ∀ b ob, F.H0 b = some ob → ¬ F.M b → F1.H0 b = some ob ∧ ¬ F1.M b
  kp : ∀ p ∈ F.kp, p ∈ F1.kp
theorem bor_own {st : Sta} (hi : S[i]? = some st) (ho : st.own = true) : bor1 S (.var i) = S.set i .B ∧ unb1 S (.var i) = fun S2 => S2.set i st := by
  cases st with
  | O => exact ⟨by simp only [bor1, hi], by funext S2; simp only [unb1, hi]⟩
  | I => exact ⟨by simp only [bor1, hi], by funext S2; simp only [unb1, hi]⟩
  | _ => cases ho
/-- nothing is held -/
theorem Entry.free (R : Rel K F E S env σ H) (h1 : bor1 S c = S) (h2 : unb1 S c = id) : Entry K F E S env σ H c F (fun _ => False) := by
  refine ⟨by rw [h1]; exact R.lessE fun b q => q.elim id False.elim, ?_, fun b h => h.elim, fun b ob q n => ⟨q, n⟩, fun p hp => hp⟩
  rw [h2]
  exact ⟨fun P S2 env2 σ2 H2 _ R2 => R2.lessE fun b q => .inl q, rfl, fun P S2 env2 σ2 H2 _ _ b q => .inl q, fun p q => q⟩
theorem pin_H0 {kps : List (V × EV)} (h : (pinF F a o kps).H0 p = none) : F.H0 p = none := by
  have h : upd F.H0 a o p = none := h
  by_cases e : p = a
  · subst e; rw [upd_same] at h; cases h
  · rw [upd_ne e] at h; exact h
theorem pin_more (R : Rel K F E S env σ H) (h : H a = some o) : ∀ b ob, F.H0 b = some ob → ¬ F.M b → upd F.H0 a o b = some ob ∧ ¬ (F.M b ∧ b ≠ a) := fun b ob q n => by
  refine ⟨?_, fun z => n z.1⟩
  by_cases e : b = a
  · subst e
    have := R.pres b ob q n
    rw [h] at this
    rw [upd_same]
    exact this
  · rw [upd_ne e]; exact q
/-- a thing that is nobody's own is held -/
theorem Entry.pin {kps : List (V × EV)} (R : Rel K F E S env σ H) (h : H a = some o) (n : ¬ OwnA S σ a) (hk : ∀ p ∈ kps, Rep K H (Av F E S σ) p.1 p.2) (h1 : bor1 S c = S) (h2 : unb1 S c = id) : Entry K F E S env σ H c (pinF F a o kps) (fun _ => False) := by
  refine ⟨by rw [h1]; exact (R.pin h n hk).lessE fun b q => q.elim id False.elim, ?_, fun b h => h.elim, pin_more R h, fun p hp => List.mem_append_right _ hp⟩
  rw [h2]
  refine ⟨fun P S2 env2 σ2 H2 _ R2 => ?_, rfl, fun P S2 env2 σ2 H2 _ _ b q => .inl q, fun p q => pin_H0 q⟩
  refine (R2.lessE (E' := P) fun b q => .inl q).unpin (fun ob q nm => ?_) (R.m0 a) (R.a0 a)
  have := R.pres a ob q nm
  rw [h] at this
  exact (Option.some.inj this).symm
/-- an own thing is lent and held -/
theorem Entry.lend {st : Sta} {kps : List (V × EV)} (R : Rel K F E S env σ H) (hi : S[i]? = some st) (ho : st.own = true) (ha : σ[i]? = some (some (.ref a))) (h : H a = some o) (hw : ∀ ob w, o ≠ .frz ob w)
    (hk : ∀ p ∈ kps, Rep K H (Av (fixF F (S.set i .B) env σ) (plusA E a) (S.set i .B) σ) p.1 p.2) : Entry K F E S env σ H (.var i) (pinF (fixF F (S.set i .B) env σ) a o kps) (fun b => b = a) := by
  obtain ⟨h1, h2⟩ := bor_own hi ho
  have R1 := R.lend hi ho ha
  have R2 := R1.pin (kps := kps) h (R1.eD a (.inr rfl)) hk
  refine ⟨by rw [h1]; exact R2, ?_, fun b e => by rw [e]; exact ⟨i, st, hi, ho, ha⟩, pin_more R h, fun p hp => List.mem_append_right _ hp⟩
  rw [h2]
  have go : ∀ (P : Addr → Prop) (S2 : List Sta) (env2 : Env) (σ2 : L2.St) (H2 : Hp), Rel K (pinF (fixF F (S.set i .B) env σ) a o kps) (orA P fun b => b = a) S2 env2 σ2 H2 → H2 a = some o ∧ Rel K (fixF F (S.set i .B) env σ) (plusA P a) S2 env2 σ2 H2 := fun P S2 env2 σ2 H2 R3 =>
    ⟨R3.pinned, Rel.unpin (kps := kps) R3 (fun ob q nm => by
      have := R.pres a ob q nm
      rw [h] at this
      exact (Option.some.inj this).symm) (R.m0 a) (R.a0 a)⟩
  refine ⟨fun P S2 env2 σ2 H2 hp R3 => ?_, rfl, fun P S2 env2 σ2 H2 hp R3 b q => ?_, fun p q => pin_H0 (F := fixF F (S.set i .B) env σ) (kps := kps) q⟩
  · obtain ⟨hH, R4⟩ := go P S2 env2 σ2 H2 R3
    exact R.back hi ho ha R4 ⟨o, hH, hw⟩ (hp a rfl)
  · obtain ⟨hH, R4⟩ := go P S2 env2 σ2 H2 R3
    obtain ⟨p, hp', e⟩ := R1.bx i (List.getElem?_set_self (get_lt hi))
    obtain ⟨f1, f2, f3⟩ := R4.fix p hp'
    obtain ⟨g1, g2, g3⟩ := R1.fix p hp'
    rw [e, ha] at g2
    cases g2
    obtain ⟨j, st', k1, k2, k3⟩ := q
    rcases set_get k1 with ⟨ej, _⟩ | ⟨_, k1⟩
    · subst ej
      rw [e] at f2
      rw [f2] at k3
      cases k3
      exact .inr rfl
    · exact .inl ⟨j, st', k1, k2, k3⟩
structure PinL (F : Frm) (a : Addr) (o : HO) (vs : List V) (xs : List EV) : Prop where
  h0 : F.H0 a = some o
  m : ¬ F.M a
  len : vs.length = xs.length
  kp : ∀ p ∈ vs.zip xs, p ∈ F.kp
theorem PinL.heldL (h : PinL F a (.lst vs) vs xs) : HeldL K F a vs xs := held_l (fun E S env σ H R => .inl (.inl (R.pres a _ h.h0 h.m))) h.len h.kp
theorem PinL.heldT (h : PinL F a (.tup vs) vs xs) : HeldT K F a vs xs := held_t (fun E S env σ H R => .inl (.inl (R.pres a _ h.h0 h.m))) h.len h.kp
theorem PinL.next (h : PinL F a o vs xs) (en : Entry K F E S env σ H c F1 Y) : PinL F1 a o vs xs := ⟨(en.more a o h.h0 h.m).1, (en.more a o h.h0 h.m).2, h.len, fun p hp => en.kp p (h.kp p hp)⟩
/-- a list is walked -/
theorem enter_lst (R : Rel K F E S env σ H) (h : ArgOk K F E S env σ H c v (.lst xs)) : ∃ a vs F1 Y, v = .ref a ∧ SqL K H a vs ∧ Entry K F E S env σ H c F1 Y ∧ PinL F1 a (.lst vs) vs xs := by
  have fin : ∀ {a vs F1}, H a = some (.lst vs) → vs.length = xs.length → PinL (pinF F1 a (.lst vs) (vs.zip xs)) a (.lst vs) vs xs := fun {a vs F1} hh hl =>
    ⟨upd_same, fun z => z.2 rfl, hl, fun p hp => List.mem_append_left _ hp⟩
  rcases h with ⟨i, st, a, rfl, hi, ho, ha, hx, rfl⟩ | ⟨r, h1, h2⟩ | ⟨_, ⟨a, rfl, r, n⟩, h1, h2⟩
  · obtain ⟨e, w, e1, e2, x, b, q1, q2, c, r⟩ := (R.lend hi ho ha).slot i .B (List.getElem?_set_self (get_lt hi))
    rw [hx] at e1
    rw [ha] at e2
    cases e1
    cases e2
    cases q1
    cases q2
    obtain ⟨vs, hh, rs⟩ := r
    exact ⟨a, vs, _, _, rfl, .inl (.inl hh), .lend R hi ho ha hh (fun _ _ => nofun) (zip_rep rs), fin hh rs.length⟩
  · cases r with
    | lst na hh rs => exact ⟨_, _, _, _, rfl, .inl (.inl hh), .pin R hh (fun q => na (.inr (.inr q))) (zip_rep rs) h1 h2, fin hh rs.length⟩
  · obtain ⟨vs, hh, rs⟩ := r
    exact ⟨a, vs, _, _, rfl, .inl (.inl hh), .pin R hh n (zip_rep rs) h1 h2, fin hh rs.length⟩
theorem arg_rep (R : Rel K F E S env σ H) (h : ArgOk K F E S env σ H c v x) (hc : x.isCon = false) : Rep K H (Av F E S σ) v x ∧ bor1 S c = S ∧ unb1 S c = id := by
  rcases h with ⟨i, st, a, rfl, hi, ho, ha, hx, rfl⟩ | h | ⟨h, _⟩
  · obtain ⟨j, st', y, k1, k2, k3, k4, k5, _⟩ := R.own_at ⟨i, st, hi, ho, ha⟩
    have : i = j := by
      by_cases e : i = j
      · exact e
      · exact absurd k3 (R.uniq i j a st st' e hi ho k1 (.inl k2) ha)
    subst this
    rw [hx] at k4
    cases k4
    rw [hc] at k5
    cases k5
  · exact h
  · rw [hc] at h; cases h
theorem enter_tup (R : Rel K F E S env σ H) (h : ArgOk K F E S env σ H c v (.tup xs)) : ∃ a vs F1 Y, v = .ref a ∧ SqT K H a vs ∧ Entry K F E S env σ H c F1 Y ∧ PinL F1 a (.tup vs) vs xs := by
  obtain ⟨r, h1, h2⟩ := arg_rep R h rfl
  cases r with
  | tup hh rs => exact ⟨_, _, _, _, rfl, .inl (.inl hh), .pin R hh (fun q => R.own_tup q _ hh) (zip_rep rs) h1 h2, upd_same, fun z => z.2 rfl, rs.length, fun p hp => List.mem_append_left _ hp⟩
theorem reps_ints {A : Addr → Prop} : ∀ (ns : List Int), Reps K H A (ns.map V.int) (intsE ns)
  | [] => .nil
  | n :: ns => .cons (.int n) (reps_ints ns)
theorem enter_scr {ns : List Int} (R : Rel K F E S env σ H) (h : ArgOk K F E S env σ H c v (.scr ns)) : ∃ a F1 Y, v = .ref a ∧ SqL K H a (ns.map V.int) ∧ Entry K F E S env σ H c F1 Y ∧ HeldL K F1 a (ns.map V.int) (intsE ns) := by
  obtain ⟨r, h1, h2⟩ := arg_rep R h rfl
  cases r with
  | scr q =>
    rcases q with ⟨na, q | ⟨o, q⟩⟩ | q
    · exact ⟨_, _, _, rfl, .inl (.inl q), .pin (kps := []) R q (fun z => na (.inr (.inr z))) (fun p hp => by cases hp) h1 h2, fun E S env σ H R => ⟨.inl (.inl R.pinned), reps_ints ns⟩⟩
    · exact ⟨_, _, _, rfl, .inl (.inr ⟨o, q⟩), .pin (kps := []) R q (fun z => na (.inr (.inr z))) (fun p hp => by cases hp) h1 h2, fun E S env σ H R => ⟨.inl (.inr ⟨o, R.pinned⟩), reps_ints ns⟩⟩
    · exact ⟨_, _, _, rfl, .inr q, .free R h1 h2, fun E S env σ H R => ⟨.inr q, reps_ints ns⟩⟩
end
end Ev
end

section
set_option Elab.async false
set_option linter.all false
set_option maxRecDepth 100000
set_option maxHeartbeats 4000000
/-! EvS: patterns; iterators of expressions. -/
namespace Ev
open PySem PySem.Spec PyProof.Rows L2
def asgSl (S : List Sta) (v : Nat) : Bool := match S[v]? with
  | some .N => true
  | some .S => true
  | some .O => true
  | _ => false
def tP (G : Glob) (S : List Sta) (p : Pt) : TG := fun v σ H Q => ∃ (F : Frm) (E : Addr → Prop) (env env' : Ev.Env) (x : EV), Rel G.K F E S env σ H ∧ Rep G.K H (Av F E S σ) v x ∧ bindP p x env = some env' ∧
  ∀ σ', Rel G.K F E (setAll S .S (ptVars p)) env' σ' H → (∀ b, OwnA (setAll S .S (ptVars p)) σ' b → OwnA S σ b) → (∀ j, j ∉ ptVars p → σ'[j]? = σ[j]?) → Q σ' H
def tPs (G : Glob) (S : List Sta) (ps : List Pt) : TGs := fun vs σ H Q => ∃ (F : Frm) (E : Addr → Prop) (env env' : Ev.Env) (xs : List EV), Rel G.K F E S env σ H ∧ Reps G.K H (Av F E S σ) vs xs ∧ bindPs ps xs env = some env' ∧
  ∀ σ', Rel G.K F E (setAll S .S (ptsVars ps)) env' σ' H → (∀ b, OwnA (setAll S .S (ptsVars ps)) σ' b → OwnA S σ b) → (∀ j, j ∉ ptsVars ps → σ'[j]? = σ[j]?) → Q σ' H
theorem _root_.L2.PG.imp {X : Cx} {e : Expr} {t t' : TG} (h : PG X e t) (k : ∀ v σ H Q, t' v σ H Q → t v σ H Q) : PG X e t' := ⟨fun pins s σ H v u Q I r q => h.run pins s σ H v u Q I r (k v σ H Q q)⟩
theorem _root_.L2.PGs.imp {X : Cx} {e : List Expr} {t t' : TGs} (h : PGs X e t) (k : ∀ v σ H Q, t' v σ H Q → t v σ H Q) : PGs X e t' := ⟨fun pins s σ H v u Q I r q => h.run pins s σ H v u Q I r (k v σ H Q q)⟩
theorem setAll_app (S : List Sta) (st : Sta) : ∀ (a b : List Nat), setAll S st (a ++ b) = setAll (setAll S st a) st b
  | [], _ => rfl
  | v :: vs, b => by
    show setAll (S.set v st) st (vs ++ b) = _
    exact setAll_app _ st vs b
theorem assignEach_ns {e : Expr} {es : List Expr} {env : PySem.Env} (h : notStar e = true) : (assignEach (e :: es) env).map (·.2) = assign e env :: (assignEach es env).map (·.2) := by
  cases e <;> first | rfl | cases h
theorem asgE_len : ∀ {es : List Expr} {env : PySem.Env}, (assignEach es env).length = es.length := by
  intro es env
  induction es with
  | nil => rfl
  | cons e es ih => cases e <;> (unfold assignEach; rw [List.length_cons, ih, List.length_cons])
theorem asgE_ns : ∀ {es : List Expr} {env : PySem.Env}, (∀ e ∈ es, notStar e = true) → (assignEach es env).findIdx? (·.1) = none := by
  intro es env h
  induction es with
  | nil => rfl
  | cons e es ih =>
    have := h e (by simp)
    have ih := ih fun x hx => h x (by simp [hx])
    cases e <;> first | (unfold assignEach; simp only [List.findIdx?_cons, ih]; rfl) | cases this
theorem trPs_ns {N : List Str} {sc : Scope} : ∀ {ps : List Pt} {es : List Expr}, trPs N ps sc es = true → (∀ e ∈ es, notStar e = true) ∧ es.length = ps.length := by
  intro ps
  induction ps with
  | nil =>
    intro es h
    cases es with
    | nil => exact ⟨fun e he => (by cases he), rfl⟩
    | cons e es => unfold trPs at h; cases h
  | cons p ps ih =>
    intro es h
    cases es with
    | nil => unfold trPs at h; cases h
    | cons e es =>
      unfold trPs at h
      simp only [Bool.and_eq_true] at h
      obtain ⟨h1, h2⟩ := ih h.2
      refine ⟨fun x hx => ?_, by simp [h2]⟩
      rcases List.mem_cons.mp hx with e | hx
      · rw [e]; exact h.1.1
      · exact h1 x hx
section
variable {G : Glob} {X : Cx} {N : List Str} {sc : Scope}
theorem asg_ne {S : List Sta} {i : Nat} (h : asgSl S i = true) : ∃ st, S[i]? = some st ∧ st ≠ .I ∧ st ≠ .B := by
  unfold asgSl at h
  cases e : S[i]? with
  | none => rw [e] at h; cases h
  | some st =>
    rw [e] at h
    refine ⟨st, rfl, ?_, ?_⟩ <;> (rintro rfl; cases h)
theorem asg_set {S : List Sta} {i j : Nat} (h : asgSl S j = true) : asgSl (S.set i .S) j = true := by
  obtain ⟨st, e, h1, h2⟩ := asg_ne h
  by_cases ij : i = j
  · subst ij
    unfold asgSl
    rw [List.getElem?_set_self (get_lt e)]
  · unfold asgSl
    rw [List.getElem?_set_ne ij]
    exact h
theorem asg_setAll {j : Nat} : ∀ {l : List Nat} {S : List Sta}, asgSl S j = true → asgSl (setAll S .S l) j = true
  | [], _, h => h
  | v :: vs, S, h => by unfold setAll; exact asg_setAll (asg_set h)
mutual
theorem pg_ok (hN : X.N = N) (nd : N.Nodup) (hc : X.calm = true) (hK : X.K = G.K) (hL : ∀ x, locB sc x = true → Loc X.env.scope x ∧ (X.fn x = true ∨ X.env.scope.names.lookup x = some .local)) :
    ∀ (p : Pt) (e : Expr) (S : List Sta), trP N p sc e = true → (∀ v ∈ ptVars p, asgSl S v = true) → PG X e (tP G S p)
  | .nm i, e, S, h, hs => by
    unfold trP at h
    split at h
    · rename_i x px
      simp only [Bool.and_eq_true, decide_eq_true_eq] at h
      obtain ⟨l1, l2⟩ := hL x h.2
      refine (pg_name (by rw [hN]; exact nd) (by rw [hN]; exact h.1) l1 l2).imp fun v σ H Q ⟨F, E, env, env', x, R, r, hb, q⟩ => ?_
      rw [bindP] at hb
      cases hb
      obtain ⟨st, e, h1, h2⟩ := asg_ne (hs i (by rw [ptVars]; simp))
      have ev : ptVars (.nm i) = [i] := by rw [ptVars]
      rw [ev] at q
      have es : setAll S .S [i] = S.set i .S := by unfold setAll; unfold setAll; rfl
      rw [es] at q
      exact q _ (R.setS e h1 h2 r) (fun b o => own_set rfl o) fun j hj => by
        have : i ≠ j := fun e => hj (by simp [e])
        rw [List.getElem?_set_ne this]
    · cases h
  | .tp ps, e, S, h, hs => by
    unfold trP at h
    split at h
    · rename_i es kk pp
      obtain ⟨n1, n2⟩ := trPs_ns h
      have ev : ptVars (.tp ps) = ptsVars ps := by rw [ptVars]
      refine (pg_tup (n := es.length) hc (pgs_ok hN nd hc hK hL ps es S h (by rw [ev] at hs; exact hs)) asgE_len (asgE_ns n1)).imp fun v σ H Q ⟨F, E, env, env', x, R, r, hb, q⟩ => ?_
      unfold bindP at hb
      split at hb
      · rename_i xs
        cases r with
        | tup hh rs =>
          rw [hK]
          refine ⟨_, _, rfl, .inl (.inl hh), ?_, F, E, env, env', xs, R, rs, hb, by rw [← ev]; exact q⟩
          rw [rs.length, n2]
          have len : ∀ {ps : List Pt} {xs : List EV} {s s' : Ev.Env}, bindPs ps xs s = some s' → xs.length = ps.length := by
            intro ps
            induction ps with
            | nil =>
              intro xs s s' h
              cases xs with
              | nil => rfl
              | cons _ _ => rw [bindPs] at h; cases h
            | cons p ps ih =>
              intro xs s s' h
              cases xs with
              | nil => rw [bindPs] at h; cases h
              | cons x xs =>
                rw [bindPs] at h
                split at h
                · simp [ih h]
                · cases h
          exact len hb
      · cases hb
    · cases h
theorem pgs_ok (hN : X.N = N) (nd : N.Nodup) (hc : X.calm = true) (hK : X.K = G.K) (hL : ∀ x, locB sc x = true → Loc X.env.scope x ∧ (X.fn x = true ∨ X.env.scope.names.lookup x = some .local)) :
    ∀ (ps : List Pt) (es : List Expr) (S : List Sta), trPs N ps sc es = true → (∀ v ∈ ptsVars ps, asgSl S v = true) → PGs X es (tPs G S ps)
  | [], es, S, h, hs => by
    cases es with
    | nil =>
      refine pgs_nil.imp fun vs σ H Q ⟨F, E, env, env', xs, R, r, hb, q⟩ => ?_
      cases xs with
      | nil =>
        cases r
        rw [bindPs] at hb
        cases hb
        exact ⟨rfl, q σ R (fun _ o => o) fun _ _ => rfl⟩
      | cons _ _ => rw [bindPs] at hb; cases hb
    | cons e es => unfold trPs at h; cases h
  | p :: ps, es, S, h, hs => by
    cases es with
    | nil => unfold trPs at h; cases h
    | cons e es =>
      unfold trPs at h
      simp only [Bool.and_eq_true] at h
      obtain ⟨⟨h1, h2⟩, h3⟩ := h
      have ev : ptsVars (p :: ps) = ptVars p ++ ptsVars ps := by rw [ptsVars]
      rw [ev] at hs
      have g1 := pg_ok hN nd hc hK hL p e S h2 fun v hv => hs v (by simp [hv])
      have g2 := pgs_ok hN nd hc hK hL ps es (setAll S .S (ptVars p)) h3 fun v hv => asg_setAll (hs v (by simp [hv]))
      refine (pgs_cons g1 g2 (assignEach_ns h1)).imp fun vs σ H Q ⟨F, E, env, env', xs, R, r, hb, q⟩ => ?_
      cases xs with
      | nil => rw [bindPs] at hb; cases hb
      | cons x xs =>
        rw [bindPs] at hb
        split at hb
        · rename_i s1 hb1
          cases r with
          | cons r rs =>
            refine ⟨_, _, rfl, F, E, env, s1, x, R, r, hb1, fun σ1 R1 o1 a1 => ⟨F, E, s1, env', xs, R1, ?_, hb, fun σ2 R2 o2 a2 => ?_⟩⟩
            · exact rs.mono .rfl fun b n _ z => n (z.imp id (Or.imp id (o1 b)))
            · rw [ev] at q
              rw [setAll_app] at q
              exact q σ2 R2 (fun b o => o1 b (o2 b o)) fun j hj => by
                rw [List.mem_append, not_or] at hj
                rw [a2 j hj.2, a1 j hj.1]
        · cases hb
end
end
end Ev
end

section
set_option Elab.async false
set_option linter.all false
set_option maxRecDepth 100000
set_option maxHeartbeats 4000000
/-! EvT: iterators of expressions. -/
namespace Ev
open PySem PySem.Spec PyProof.Rows L2
/-- a dict that is not locked is not walked so -/
def NoOpen (H : Hp) (v : V) (x : EV) : Prop := ∀ t kvs, x = .dct t kvs → ∃ a o u, v = .ref a ∧ H a = some (.frz o u)
structure Walk (K : PySem.W.Frag) (F : Frm) (E : Addr → Prop) (S : List Sta) (env : Env) (σ : L2.St) (H : Hp) (k : ItK) (it : List CE) (xs : List EV) (J : It) (F1 : Frm) (Y : Addr → Prop) : Prop where
  rel : Rel K F1 (orA E Y) (borW k S it) env σ H
  out : Exit K F1 F Y (unbW k S it)
  own : ∀ b, Y b → OwnA S σ b
  srv : Serves K F1 J xs
def tW (G : Glob) (S : List Sta) (k : ItK) (it : List CE) : TI := fun σ H R => ∃ (F : Frm) (E : Addr → Prop) (env env1 : Env) (ws xs : List EV), Rel G.K F E S env σ H ∧ evs G.cf G.gb it env = some (ws, env1) ∧ itE k ws = some xs ∧
  (∀ x, k = .val → ws = [x] → ∀ t kvs, x = .dct t kvs → ∃ i a o u, it = [.var i] ∧ σ[i]? = some (some (.ref a)) ∧ H a = some (.frz o u)) ∧
  ∀ J H1 F1 Y, Step (WA (mus it) S σ) H H1 → Walk G.K F E S env1 σ H1 k it xs J F1 Y → R J H1
section
variable {G : Glob} {S : List Sta} {X : Cx} {e e2 e3 : Expr} {es : List Expr} {c c2 c3 : CE} {cs : List CE} {m : Md} {ms : List Md} {pos : Pos} {F F1 : Frm} {E : Addr → Prop} {env env1 : Env} {σ : L2.St} {H H1 : Hp} {x : EV} {xs : List EV} {v : V} {a : Addr} {Y : Addr → Prop} {J : It}
theorem bor1_nv (h : isVar c = false) : bor1 S c = S ∧ unb1 S c = id := by
  cases c <;> first | exact ⟨rfl, rfl⟩ | cases h
theorem Entry.walk {k : ItK} (hk : rngK k = false) (h : Entry G.K F E S env σ H c F1 Y) (s : Serves G.K F1 J xs) : Walk G.K F E S env σ H k [c] xs J F1 Y := by
  have e1 : borW k S [c] = bor1 S c := by unfold borW; rw [hk]; rfl
  have e2 : unbW k S [c] = unb1 S c := by funext S2; unfold unbW; rw [hk]; rfl
  exact ⟨by rw [e1]; exact h.rel, by rw [e2]; exact h.out, h.own, s⟩
theorem walk_rng {k : ItK} (hk : rngK k = true) (R : Rel G.K F E S env σ H) (s : Serves G.K F J xs) : Walk G.K F E S env σ H k cs xs J F (fun _ => False) := by
  have e1 : borW k S cs = S := by unfold borW; rw [hk]; rfl
  have e2 : unbW k S cs = id := by funext S2; unfold unbW; rw [hk]; rfl
  have h := Entry.free (c := .lit .non) R rfl rfl
  exact ⟨by rw [e1]; exact h.rel, by rw [e2]; exact h.out, h.own, s⟩
/-- the thing to be walked is read -/
theorem it_arg {Q : VK} (R : Rel G.K F E S env σ H) (ok : okIt1 G.sg c S = true) (ee : ev G.cf G.gb c env = some (x, env1))
    (q : ∀ v H1, Step (WA (mu c) S σ) H H1 → Rel G.K F E S env1 σ H1 → ArgOk G.K F E S env1 σ H1 c v x → (∀ i, c = .var i → env1[i]? = some (some x) ∧ σ[i]? = some (some v)) → (isVar c = false → Rep G.K H1 (Av F E S σ) v x) → Q v H1) : tIt G S c σ H Q := by
  have go : isVar c = false → (∀ v H1, Step (WA (mu c) S σ) H H1 → Rel G.K F E S env1 σ H1 → ArgOk G.K F E S env1 σ H1 c v x → (isVar c = false → Rep G.K H1 (Av F E S σ) v x) → Q v H1) → tE G S .sh c σ H Q := fun hv q => by
    obtain ⟨b1, b2⟩ := bor1_nv (S := S) hv
    exact ⟨F, E, env, env1, x, R, ee, fun v H1 ⟨st, R1, r⟩ => q v H1 st R1 (.inr (.inl ⟨r, b1, b2⟩)) fun _ => r⟩
  cases c with
  | var i =>
    have ok := okIt1_var.mp ok
    rw [ev] at ee
    split at ee
    · rename_i z ez
      cases ee
      obtain ⟨v, h1, h2⟩ := argOk_var R ok.1 ok.2 ez
      exact ⟨v, h1, q v H .rfl R h2 (fun j e => by cases e; exact ⟨ez, h1⟩) fun e => by cases e⟩
    · cases ee
  | _ => exact go rfl fun v H1 st R1 a r => q v H1 st R1 a (fun i e => nomatch e) r
theorem evs_one (h : evs G.cf G.gb [c] env = some (xs, env1)) : ∃ x, ev G.cf G.gb c env = some (x, env1) ∧ xs = [x] := by
  obtain ⟨x, s1, vs, s2, h1, h2, rfl, rfl⟩ := evs_cons h
  cases h2
  exact ⟨x, h1, rfl⟩
theorem evs_two (h : evs G.cf G.gb [c, c2] env = some (xs, env1)) : ∃ x s1 y, ev G.cf G.gb c env = some (x, s1) ∧ ev G.cf G.gb c2 s1 = some (y, env1) ∧ xs = [x, y] := by
  obtain ⟨x, s1, vs, s2, h1, h2, rfl, rfl⟩ := evs_cons h
  obtain ⟨y, h3, rfl⟩ := evs_one h2
  exact ⟨x, s1, y, h1, h3, rfl⟩
theorem mus_one : mus [c] = mu c := by rw [mus, mus, List.append_nil]
theorem mus_two : mus [c, c2] = mu c ++ mu c2 := by rw [mus, mus_one]
theorem starEach_one {e : Expr} {env : PySem.Env} (h : notStar e = true) : starEach [e] env = [(false, eval e env)] := starEach_ns h
theorem pi_rng1 {tg : Expr} {p : Pos} (hg : Gl X "range") (hm : X.mg "range" = none) (ha : PE X e (tE G S .pk c)) (hs : notStar e = true) : PI X tg (.Call (.Name "range" p) [e] [] pos) (tW G S .rng1 [c]) := by
  refine ⟨fun pins s σ H R I ⟨F, E, env, env1, ws, xs, R0, ee, hit, _, q⟩ => ?_⟩
  have pa : PA X [e] (tA G S [.pk] [c]) := pa_cons' (by decide) ha pa_nil' (fun _ => by rw [mus]; exact disj_iff.mpr fun _ _ h => by cases h) hs
  refine (pi_range1 hg hm pa (starEach_one hs)).run pins s σ H R I ?_
  obtain ⟨x, h1, rfl⟩ := evs_one ee
  refine ⟨F, E, env, env1, [x], R0, ee, fun vs H1 st R1 rs => ?_⟩
  cases rs with
  | cons r rs =>
    cases rs
    cases x with
    | int n =>
      simp only [itE] at hit
      split at hit
      · rename_i hl
        cases hit
        simp only [lim62, Bool.and_eq_true, decide_eq_true_eq] at hl
        refine ⟨n, by rw [r.1.int'], hl.1, hl.2, q _ _ _ _ st (walk_rng rfl R1 serves_rng)⟩
      · cases hit
    | _ => cases hit
theorem pi_rng2 {tg : Expr} {p : Pos} (hg : Gl X "range") (hm : X.mg "range" = none) (ha : PE X e (tE G S .pk c)) (hb : PE X e2 (tE G S .pk c2)) (hs : notStar e = true) (hs2 : notStar e2 = true) (d : disj (pv c) (mu c2) = true) : PI X tg (.Call (.Name "range" p) [e, e2] [] pos) (tW G S .rng2 [c, c2]) := by
  refine ⟨fun pins s σ H R I ⟨F, E, env, env1, ws, xs, R0, ee, hit, _, q⟩ => ?_⟩
  have pa : PA X [e, e2] (tA G S [.pk, .pk] [c, c2]) := pa_cons' (by decide) ha (pa_cons' (by decide) hb pa_nil' (fun _ => by rw [mus]; exact disj_iff.mpr fun _ _ h => by cases h) hs2) (fun _ => by rw [mus_one]; exact d) hs
  refine (pi_range2 hg hm pa (by rw [starEach_ns hs, starEach_one hs2]) (starEach_one hs2)).run pins s σ H R I ?_
  obtain ⟨x, s1, y, h1, h2, rfl⟩ := evs_two ee
  refine ⟨F, E, env, env1, [x, y], R0, ee, fun vs H1 st R1 rs => ?_⟩
  cases rs with
  | cons r rs =>
    cases rs with
    | cons r2 rs =>
      cases rs
      cases x with
      | int n =>
        cases y with
        | int k =>
          simp only [itE] at hit
          split at hit
          · rename_i hl
            cases hit
            simp only [lim62, Bool.and_eq_true, decide_eq_true_eq] at hl
            refine ⟨n, k, by rw [r.1.int', r2.1.int'], ⟨hl.1.1, hl.1.2, hl.2.1, hl.2.2⟩, q _ _ _ _ st (walk_rng rfl R1 serves_rng)⟩
          · cases hit
        | _ => cases hit
      | _ => cases hit
theorem pi_val {tg : Expr} (ha : PE X e (tIt G S c)) (hK : X.K = G.K) (ok : okIt1 G.sg c S = true) : PI X tg e (tW G S .val [c]) := by
  refine ⟨fun pins s σ H R I ⟨F, E, env, env1, ws, xs, R0, ee, hit, hd, q⟩ => ?_⟩
  obtain ⟨x, h1, rfl⟩ := evs_one ee
  have st1 : ∀ {H1}, Step (WA (mu c) S σ) H H1 → Step (WA (mus [c]) S σ) H H1 := fun st => by rw [mus_one]; exact st
  cases x with
  | lst ys =>
    cases hit
    refine (pi_list ha).run pins s σ H R I (it_arg R0 ok h1 fun v H1 st R1 ao _ _ => ?_)
    obtain ⟨a, vs, F1, Y, rfl, hq, en, hl⟩ := enter_lst R1 ao
    exact ⟨a, rfl, ⟨vs, by rw [hK]; exact hq⟩, by rw [hK]; exact q _ _ _ _ (st1 st) (en.walk rfl (serves_list hl.heldL))⟩
  | scr ns =>
    cases hit
    refine (pi_list ha).run pins s σ H R I (it_arg R0 ok h1 fun v H1 st R1 ao _ _ => ?_)
    obtain ⟨a, F1, Y, rfl, hq, en, hl⟩ := enter_scr R1 ao
    exact ⟨a, rfl, ⟨_, by rw [hK]; exact hq⟩, by rw [hK]; exact q _ _ _ _ (st1 st) (en.walk rfl (serves_list hl))⟩
  | tup ys =>
    cases hit
    refine (pi_tup ha).run pins s σ H R I (it_arg R0 ok h1 fun v H1 st R1 ao _ _ => ?_)
    obtain ⟨a, vs, F1, Y, rfl, hq, en, hl⟩ := enter_tup R1 ao
    exact ⟨a, rfl, ⟨vs, by rw [hK]; exact hq⟩, by rw [hK]; exact q _ _ _ _ (st1 st) (en.walk rfl (serves_tup hl.heldT))⟩
  | str z =>
    cases hit
    refine (pi_str ha).run pins s σ H R I (it_arg R0 ok h1 fun v H1 st R1 ao _ _ => ?_)
    obtain ⟨r, b1, b2⟩ := arg_rep R1 ao rfl
    cases r
    exact ⟨sv z, rfl, q _ _ _ _ (st1 st) ((Entry.free R1 b1 b2).walk rfl serves_str)⟩
  | dct t kvs =>
    cases hit
    obtain ⟨i, a, o, u, hi, hs, hf⟩ := hd _ rfl rfl t kvs rfl
    cases hi
    refine (pi_keys ha).run pins s σ H R I ?_
    have R0' := R0
    have ok := okIt1_var.mp ok
    rw [ev] at h1
    split at h1
    · rename_i z ez
      cases h1
      obtain ⟨v, k1, k2⟩ := argOk_var R0 ok.1 ok.2 ez
      rw [hs] at k1
      cases k1
      refine ⟨.ref a, hs, a, o, rfl, ?_⟩
      have key : (∃ b, V.ref a = .ref b ∧ RepC G.K H (Av F E S σ) b (.dct t kvs) ∧ ¬ OwnA S σ b) ∧ bor1 S (.var i) = S ∧ unb1 S (.var i) = id := by
        rcases k2 with ⟨j, st, b, ej, hi, ho, ha', hx, eb⟩ | ⟨r, b1, b2⟩ | ⟨_, r, b1, b2⟩
        · obtain ⟨j', st', y, q1, q2, q3, q4, q5, _, w1, w2, w3⟩ := R0.own_at ⟨j, st, hi, ho, by rw [ha', eb]⟩
          cases eb
          rw [hf] at w2
          cases w2
          exact absurd rfl (w3 _ _)
        · obtain ⟨b, eb, nb, rc⟩ := (rep_con rfl).mp r
          exact ⟨⟨b, eb, rc, fun o => nb (.inr (.inr o))⟩, b1, b2⟩
        · exact ⟨r, b1, b2⟩
      obtain ⟨⟨b, eb, rc, nb⟩, b1, b2⟩ := key
      cases eb
      have en := Entry.pin (kps := []) R0 hf nb (fun p hp => by cases hp) b1 b2
      rcases rc with ⟨rfl, kv, hd, rk⟩ | ⟨rfl, kv, hd, rk⟩
      · refine .inl ⟨kv, ?_⟩
        have eu : u = .dK kv := by
          rcases hd with hd | ⟨o', hd⟩
          · rw [hf] at hd; cases hd
          · rw [hf] at hd; cases hd; rfl
        subst eu
        exact ⟨hf, q _ _ _ _ .rfl (en.walk rfl (serves_keys (fun E S env σ H R => R.pinned) rk.keys))⟩
      · refine .inr ⟨kv, ?_⟩
        have eu : u = .dT kv := by
          rcases hd with hd | ⟨o', hd⟩
          · rw [hf] at hd; cases hd
          · rw [hf] at hd; cases hd; rfl
        subst eu
        exact ⟨hf, q _ _ _ _ .rfl (en.walk rfl (serves_keysT (fun E S env σ H R => R.pinned) rk.keys))⟩
    · cases h1
  | _ => cases hit
theorem pi_seq {tg : Expr} (ha : PE X e (tIt G S c)) (hK : X.K = G.K) (ok : okIt1 G.sg c S = true) : PI X tg e (tW G S .seq [c]) := by
  refine ⟨fun pins s σ H R I ⟨F, E, env, env1, ws, xs, R0, ee, hit, hd, q⟩ => (pi_val ha hK ok).run pins s σ H R I ?_⟩
  obtain ⟨x, h1, rfl⟩ := evs_one ee
  have hx : itE .val [x] = some xs ∧ ∀ t kvs, x ≠ .dct t kvs := by
    cases x with
    | dct t kvs => cases hit
    | _ => exact ⟨hit, fun _ _ z => nomatch z⟩
  exact ⟨F, E, env, env1, [x], xs, R0, ee, hx.1, fun y _ hy t kvs he => by cases hy; exact absurd he (hx.2 t kvs), fun J H1 F1 Y st wk => q J H1 F1 Y st ⟨wk.rel, wk.out, wk.own, wk.srv⟩⟩
end
end Ev
end

section
set_option Elab.async false
set_option linter.all false
set_option maxRecDepth 100000
set_option maxHeartbeats 4000000
/-! EvU: enumerate, zip. -/
namespace Ev
open PySem PySem.Spec PyProof.Rows L2
section
variable {G : Glob} {S : List Sta} {X : Cx} {e e2 e3 : Expr} {es : List Expr} {c c2 c3 : CE} {cs : List CE} {m : Md} {ms : List Md} {pos tpos p : Pos} {kk : Nat} {F F1 F2 : Frm} {E : Addr → Prop} {env env1 : Env} {σ : L2.St} {H H1 : Hp} {x : EV} {xs : List EV} {v : V} {a : Addr} {Y Y' : Addr → Prop} {J : It}
theorem pi_enumE (hg : Gl X "enumerate") (hm : X.mg "enumerate" = none) (ha : PE X e (tIt G S c)) (hK : X.K = G.K) (ok : okIt1 G.sg c S = true) (hs : notStar e = true) : PI X (.Tuple es kk tpos) (.Call (.Name "enumerate" p) [e] [] pos) (tW G S .enum [c]) := by
  refine ⟨fun pins s σ H R I ⟨F, E, env, env1, ws, xs, R0, ee, hit, hd, q⟩ => ?_⟩
  refine (pi_enum hg hm (pa_cons ha pa_nil (starEach_ns hs)) (starEach_one hs)).run pins s σ H R I ?_
  obtain ⟨x, h1, rfl⟩ := evs_one ee
  refine it_arg R0 ok h1 fun v H1 st R1 ao _ _ => ?_
  cases x with
  | lst ys =>
    cases hit
    obtain ⟨a, vs, F1, Y, rfl, hq, en, hl⟩ := enter_lst R1 ao
    exact ⟨a, vs, rfl, by rw [hK]; exact hq, by rw [hK]; exact q _ _ _ _ (by rw [mus_one]; exact st) (en.walk rfl (serves_enum hl.heldL))⟩
  | _ => cases hit
theorem bor1_var2 {i : Nat} {st : Sta} (h : S[i]? = some st) : (bor1 S c)[i]? = some st ∨ (st.own = true ∧ (bor1 S c)[i]? = some .B) := by
  cases c with
  | var j =>
    by_cases e : j = i
    · subst e
      cases st with
      | O => exact .inr ⟨rfl, by simp only [bor1, h]; exact List.getElem?_set_self (get_lt h)⟩
      | I => exact .inr ⟨rfl, by simp only [bor1, h]; exact List.getElem?_set_self (get_lt h)⟩
      | _ => exact .inl (by simp only [bor1, h])
    · refine .inl ?_
      unfold bor1
      simp only
      split
      · rw [List.getElem?_set_ne e]; exact h
      · rw [List.getElem?_set_ne e]; exact h
      · exact h
  | _ => exact .inl h
theorem okIt_bor {i : Nat} (ok : okIt1 G.sg (.var i) S = true) : okIt1 G.sg (.var i) (bor1 S c) = true := by
  have ok := okIt1_var.mp ok
  refine okIt1_var.mpr ?_
  obtain ⟨st, hst⟩ : ∃ st, S[i]? = some st := ⟨S[i], List.getElem?_eq_getElem ok.2⟩
  have hn : st ≠ .N := fun e => ok.1 (by rw [hst, e])
  rcases bor1_var2 (c := c) hst with h | ⟨_, h⟩
  · refine ⟨?_, get_lt h⟩
    rw [h]
    simpa using hn
  · refine ⟨?_, get_lt h⟩
    rw [h]
    simp
theorem own_bor {b : Addr} (h : OwnA (bor1 S c) σ b) : OwnA S σ b := by
  cases c with
  | var i =>
    unfold bor1 at h
    simp only at h
    split at h
    · exact own_lend h
    · exact own_lend h
    · exact h
  | _ => exact h
theorem Entry.av (en : Entry G.K F E S env σ H c F1 Y) {b : Addr} (h : Av F1 (orA E Y) (bor1 S c) σ b) : Av F E S σ b := by
  rcases h with h | (h | h) | h
  · exact .inl (by rw [← en.out.A0]; exact h)
  · exact .inr (.inl h)
  · exact .inr (.inr (en.own b h))
  · exact .inr (.inr (own_bor h))
/-- two walked together: the second entered after the first -/
theorem Entry.walk2 {k : ItK} (hk : rngK k = false) (h : Entry G.K F E S env σ H c F1 Y) (h2 : Entry G.K F1 (orA E Y) (bor1 S c) env σ H c2 F2 Y') (s : Serves G.K F2 J xs) : ∃ Z, Walk G.K F E S env σ H k [c, c2] xs J F2 Z := by
  have e1 : borW k S [c, c2] = bor1 (bor1 S c) c2 := by unfold borW; rw [hk]; rfl
  have e2 : unbW k S [c, c2] = fun S2 => unb1 S c (unb1 (bor1 S c) c2 S2) := by funext S2; unfold unbW; rw [hk]; rfl
  have d : ∀ b, Y' b → ¬ Y b := fun b hb hy => h.rel.eD b (.inr hy) (h2.own b hb)
  have r2 : Rel G.K F2 (orA E (orA Y Y')) (bor1 (bor1 S c) c2) env σ H := h2.rel.lessE fun b q => by
    rcases q with q | q | q
    · exact .inl (.inl q)
    · exact .inl (.inr q)
    · exact .inr q
  refine ⟨orA Y Y', by rw [e1]; exact r2, by rw [e2]; exact h2.out.trans d h.out, fun b q => ?_, s⟩
  · rcases q with q | q
    · exact h.own b q
    · exact own_bor (h2.own b q)
/-- the second thing, after the first is entered -/
theorem arg_second (R : Rel G.K F E S env σ H) (en : Entry G.K F E S env σ H c F1 Y) (ok : okIt1 G.sg c2 S = true) (hx : ∀ i, c2 = .var i → env[i]? = some (some x) ∧ σ[i]? = some (some v)) (hr : isVar c2 = false → Rep G.K H (Av F E S σ) v x) : ArgOk G.K F1 (orA E Y) (bor1 S c) env σ H c2 v x := by
  have nv : isVar c2 = false → ArgOk G.K F1 (orA E Y) (bor1 S c) env σ H c2 v x := fun hv => by
    obtain ⟨b1, b2⟩ := bor1_nv (S := bor1 S c) hv
    exact .inr (.inl ⟨(hr hv).mono .rfl fun b n _ q => n (en.av q), b1, b2⟩)
  cases c2 with
  | var i =>
    obtain ⟨h1, h2⟩ := hx i rfl
    have ok2 := okIt_bor (c := c) ok
    have ok2 := okIt1_var.mp ok2
    obtain ⟨w, q1, q2⟩ := argOk_var en.rel ok2.1 ok2.2 h1
    rw [h2] at q1
    cases q1
    exact q2
  | _ => exact nv rfl
theorem pi_zipE (hg : Gl X "zip") (hm : X.mg "zip" = none) (ha : PE X e (tIt G S c)) (hb : PE X e2 (tIt G S c2)) (hK : X.K = G.K) (ok : okIt1 G.sg c S = true) (ok2 : okIt1 G.sg c2 S = true) (hv : isVar c2 = true ∨ isVar c = false ∨ ∃ i, c = .var i ∧ S[i]? = some .S) (hs : notStar e = true) (hs2 : notStar e2 = true) :
    PI X (.Tuple es kk tpos) (.Call (.Name "zip" p) [e, e2] [] pos) (tW G S .zip [c, c2]) := by
  refine ⟨fun pins s σ H R I ⟨F, E, env, env1, ws, xs, R0, ee, hit, hd, q⟩ => ?_⟩
  refine (RZ.pi_zipA hg hm (pa_cons ha (pa_cons hb pa_nil (starEach_ns hs2)) (starEach_ns hs)) (starEach_ns hs) (notStar_plain fun e' he => by
    have : e' = e2 := by simpa using he
    rw [this]; exact hs2)).run pins s σ H R I ?_
  obtain ⟨x, s1, y, h1, h2, rfl⟩ := evs_two ee
  refine it_arg R0 ok h1 fun v H1 st1 R1 a1 _ _ => ?_
  refine it_arg R1 ok2 h2 fun w H2 st2 R2 a2 a2v a2r => ?_
  have st : Step (WA (mus [c, c2]) S σ) H H2 := by
    rw [mus_two]
    exact (st1.mono fun _ z => z.left).trans (st2.mono fun _ z => z.right)
  -- the first thing, seen after the second is read
  have a1' : ArgOk G.K F E S env1 σ H2 c v x := by
    rcases hv with hv | hv | ⟨i, rfl, hi⟩
    · have : ∃ j, c2 = .var j := by cases c2 <;> first | exact ⟨_, rfl⟩ | cases hv
      obtain ⟨j, rfl⟩ := this
      have he : env1 = s1 := by
        rw [ev] at h2
        split at h2
        · cases h2; rfl
        · cases h2
      subst he
      rcases a1 with ⟨i, sti, a, q1, q2, q3, q4, q5, q6⟩ | ⟨r, b1, b2⟩ | ⟨hc, ⟨a, q1, q2, q3⟩, b1, b2⟩
      · exact .inl ⟨i, sti, a, q1, q2, q3, q4, q5, q6⟩
      · exact .inr (.inl ⟨st2.stay r, b1, b2⟩)
      · refine .inr (.inr ⟨hc, ⟨a, q1, ?_, q3⟩, b1, b2⟩)
        have nw : ∀ a, ¬ WA (mu (.var j)) S σ a := fun a ⟨k, hk, _⟩ => by rw [mu] at hk; cases hk
        exact q2.mono' (st2.keep fun b z => (nw b z).elim) (fun _ n _ => n) (fun vs z => st2.kp a _ (nw a) z) fun u _ z => st2.rd (nw a) z
    · rcases a1 with ⟨i, sti, a, q1, q2, q3, q4, q5, q6⟩ | ⟨r, b1, b2⟩ | ⟨hc, ⟨a, q1, q2, q3⟩, b1, b2⟩
      · rw [q1] at hv; cases hv
      · exact .inr (.inl ⟨st2.stay r, b1, b2⟩)
      · have nw := q3
        by_cases hw : WA (mu c2) S σ a
        · exact absurd hw.own q3
        · exact .inr (.inr ⟨hc, ⟨a, q1, q2.mono' (st2.keep fun b z => z.av) (fun _ n _ => n) (fun vs z => st2.kp a _ hw z) fun u _ z => st2.rd hw z, q3⟩, b1, b2⟩)
    · rcases a1 with ⟨i', sti, a, q1, q2, q3, q4, q5, q6⟩ | ⟨r, b1, b2⟩ | ⟨hc, ⟨a, q1, q2, q3⟩, b1, b2⟩
      · cases q1
        rw [hi] at q2
        cases q2
        cases q3
      · exact .inr (.inl ⟨st2.stay r, b1, b2⟩)
      · by_cases hw : WA (mu c2) S σ a
        · exact absurd hw.own q3
        · exact .inr (.inr ⟨hc, ⟨a, q1, q2.mono' (st2.keep fun b z => z.av) (fun _ n _ => n) (fun vs z => st2.kp a _ hw z) fun u _ z => st2.rd hw z, q3⟩, b1, b2⟩)
  cases x with
  | lst x1 =>
    cases y with
    | lst y1 =>
      cases hit
      obtain ⟨a, vs, F1, Y, rfl, hq, en, hl⟩ := enter_lst R2 a1'
      obtain ⟨b, us, F2, Y', rfl, hq2, en2, hl2⟩ := enter_lst en.rel (arg_second R2 en ok2 a2v a2r)
      obtain ⟨Z, wk⟩ := en.walk2 (k := .zip) rfl en2 (serves_zip (hl.next en2).heldL hl2.heldL)
      exact ⟨a, b, vs, us, rfl, .inl ⟨by rw [hK]; exact hq, by rw [hK]; exact hq2, by rw [hK]; exact q _ _ _ _ st wk⟩⟩
    | _ => cases hit
  | tup x1 =>
    cases y with
    | tup y1 =>
      cases hit
      obtain ⟨a, vs, F1, Y, rfl, hq, en, hl⟩ := enter_tup R2 a1'
      obtain ⟨b, us, F2, Y', rfl, hq2, en2, hl2⟩ := enter_tup en.rel (arg_second R2 en ok2 a2v a2r)
      obtain ⟨Z, wk⟩ := en.walk2 (k := .zip) rfl en2 (serves_zipT (hl.next en2).heldT hl2.heldT)
      exact ⟨a, b, vs, us, rfl, .inr ⟨by rw [hK]; exact hq, by rw [hK]; exact hq2, by rw [hK]; exact q _ _ _ _ st wk⟩⟩
    | _ => cases hit
  | _ => cases hit
end
end Ev
end

section
set_option Elab.async false
set_option linter.all false
set_option maxRecDepth 100000
set_option maxHeartbeats 4000000
/-! EvV: list comprehensions. -/
namespace Ev
open PySem PySem.Spec PyProof.Rows L2
theorem wipe_ne {σ : L2.St} {j : Nat} : ∀ {vs : List Nat}, j ∉ vs → (wipe σ vs)[j]? = σ[j]?
  | [], _ => rfl
  | v :: vs, h => by
    unfold wipe
    rw [List.mem_cons, not_or] at h
    rw [List.getElem?_set_ne (fun e => h.1 e.symm)]
    exact wipe_ne h.2
theorem wipe_in {σ : L2.St} {j : Nat} : ∀ {vs : List Nat}, j ∈ vs → j < σ.length → (wipe σ vs)[j]? = some none
  | [], h, _ => by cases h
  | v :: vs, h, hl => by
    unfold wipe
    by_cases e : v = j
    · subst e
      rw [List.getElem?_set_self (by rw [wipe_length]; exact hl)]
    · rw [List.getElem?_set_ne e]
      exact wipe_in ((List.mem_cons.mp h).resolve_left fun z => e z.symm) hl
theorem restore_len {s0 s : Env} : ∀ {vs : List Nat}, (restore vs s0 s).length = s.length
  | [] => rfl
  | v :: vs => by unfold restore; rw [List.length_set, restore_len]
theorem restore_ne {s0 s : Env} {j : Nat} : ∀ {vs : List Nat}, j ∉ vs → (restore vs s0 s)[j]? = s[j]?
  | [], _ => rfl
  | v :: vs, h => by
    unfold restore
    rw [List.mem_cons, not_or] at h
    rw [List.getElem?_set_ne (fun e => h.1 e.symm)]
    exact restore_ne h.2
theorem restore_in {s0 s : Env} {j : Nat} : ∀ {vs : List Nat}, j ∈ vs → j < s.length → (restore vs s0 s)[j]? = some ((s0[j]?).join)
  | [], h, _ => by cases h
  | v :: vs, h, hl => by
    unfold restore
    by_cases e : v = j
    · subst e
      rw [List.getElem?_set_self (by rw [restore_len]; exact hl)]
    · rw [List.getElem?_set_ne e]
      exact restore_in ((List.mem_cons.mp h).resolve_left fun z => e z.symm) hl
theorem setAll_len {st : Sta} : ∀ {l : List Nat} {S : List Sta}, (setAll S st l).length = S.length
  | [], _ => rfl
  | v :: vs, S => by unfold setAll; rw [setAll_len, List.length_set]
theorem setAll_ne {st : Sta} {j : Nat} : ∀ {l : List Nat} {S : List Sta}, j ∉ l → (setAll S st l)[j]? = S[j]?
  | [], _, _ => rfl
  | v :: vs, S, h => by
    unfold setAll
    rw [List.mem_cons, not_or] at h
    rw [setAll_ne h.2, List.getElem?_set_ne (fun e => h.1 e.symm)]
theorem setAll_in {st : Sta} {j : Nat} : ∀ {l : List Nat} {S : List Sta}, j ∈ l → j < S.length → (setAll S st l)[j]? = some st
  | [], _, h, _ => by cases h
  | v :: vs, S, h, hl => by
    unfold setAll
    by_cases e : j ∈ vs
    · exact setAll_in e (by rw [List.length_set]; exact hl)
    · rw [setAll_ne e]
      have : v = j := ((List.mem_cons.mp h).resolve_right e).symm
      subst this
      exact List.getElem?_set_self hl
section
variable {K : PySem.W.Frag} {F F1 F2 : Frm} {E E' : Addr → Prop} {S S1 S' : List Sta} {env env' env1 : Env} {σ σ' : L2.St} {H H' H1 : Hp} {A A' Y Y' : Addr → Prop} {a b p D : Addr} {x : EV} {v : V} {i : Nat} {o u : HO} {vs : List Nat} {xs ys : List EV} {c : CE}
/-- slots that no one owns -/
def nonOwn (S : List Sta) (vs : List Nat) : Prop := ∀ j, j ∈ vs → S[j]? = some .N ∨ S[j]? = some .S
theorem free_nonOwn (h : vs.all (freeSl S) = true) : nonOwn S vs := fun j hj => by
  have := List.all_eq_true.mp h j hj
  unfold freeSl at this
  split at this
  · rename_i e; exact .inl e
  · rename_i e; exact .inr e
  · cases this
theorem own_wipe (h : nonOwn S vs) : OwnA (setAll S .N vs) (wipe σ vs) a ↔ OwnA S σ a := by
  constructor
  · rintro ⟨j, st, h1, h2, h3⟩
    by_cases hj : j ∈ vs
    · rcases h j hj with q | q
      · rw [setAll_in hj (get_lt q)] at h1; cases h1; cases h2
      · rw [setAll_in hj (get_lt q)] at h1; cases h1; cases h2
    · rw [setAll_ne hj] at h1
      rw [wipe_ne hj] at h3
      exact ⟨j, st, h1, h2, h3⟩
  · rintro ⟨j, st, h1, h2, h3⟩
    have hj : j ∉ vs := fun hj => by
      rcases h j hj with q | q
      · rw [q] at h1; cases h1; cases h2
      · rw [q] at h1; cases h1; cases h2
    exact ⟨j, st, by rw [setAll_ne hj]; exact h1, h2, by rw [wipe_ne hj]; exact h3⟩
def kpV (S : List Sta) (env : Env) (σ : L2.St) (vs : List Nat) : List (V × EV) := vs.filterMap fun v => match (S[v]? : Option Sta), (σ[v]? : Option (Option V)), (env[v]? : Option (Option EV)) with
  | some Sta.S, some (some u), some (some x) => some (u, x)
  | _, _, _ => none
def moreK (F : Frm) (l : List (V × EV)) : Frm := { F with kp := l ++ F.kp }
theorem Rel.moreKp {l : List (V × EV)} (R : Rel K F E S env σ H) (h : ∀ p ∈ l, Rep K H (Av F E S σ) p.1 p.2) : Rel K (moreK F l) E S env σ H :=
  ⟨R.le, R.ls, R.slot, R.uniq, R.pres, R.live, R.a0, R.m0, R.eT, R.eD, R.fresh, R.inn, fun p hp => (List.mem_append.mp hp).elim (h p) (R.kept p), R.fix, R.ios, R.bx, R.ioa⟩
theorem kpV_rep (R : Rel K F E S env σ H) : ∀ p ∈ kpV S env σ vs, Rep K H (Av F E S σ) p.1 p.2 := fun p hp => by
  unfold kpV at hp
  rw [List.mem_filterMap] at hp
  obtain ⟨v, _, e⟩ := hp
  split at e
  · rename_i u y q1 q2 q3
    cases e
    obtain ⟨e', w, k1, k2, x, u', k3, k4, r⟩ := R.slot v .S q1
    rw [q2] at k2
    rw [q3] at k1
    cases k1
    cases k2
    cases k3
    cases k4
    exact r
  · cases e
theorem Rel.wiped (R : Rel K F E S env σ H) (h : nonOwn S vs) : Rel K F E (setAll S .N vs) env (wipe σ vs) H := by
  have hA : ∀ b, ¬ Av F E S σ b → H b ≠ none → ¬ Av F E (setAll S .N vs) (L2.wipe σ vs) b := fun b n _ q => n (q.imp id (Or.imp id (own_wipe h).mp))
  have key : ∀ (j : Nat) (st : Sta), (setAll S .N vs)[j]? = some st → st ≠ .N → j ∉ vs ∧ S[j]? = some st := fun j st hj hn => by
    by_cases hv : j ∈ vs
    · rcases h j hv with q | q <;> (rw [setAll_in hv (get_lt q)] at hj; cases hj; exact absurd rfl hn)
    · rw [setAll_ne hv] at hj; exact ⟨hv, hj⟩
  refine ⟨by rw [setAll_len]; exact R.le, by rw [setAll_len, wipe_length]; exact R.ls, fun j st hj => ?_, fun i j a st st' ne h1 h2 h3 h4 h5 => ?_, R.pres, R.live, R.a0, R.m0, R.eT, fun b hb q => R.eD b hb ((own_wipe h).mp q), fun j b h1 h2 => ?_, fun j b h1 h2 => ?_, fun p hp => (R.kept p hp).mono .rfl hA, fun p hp => ?_, fun j hj => ?_, fun j hj => R.bx j (key j .B hj (by decide)).2, fun p hp => ⟨(R.ioa p hp).1, by
    have hv : p.1 ∉ vs := fun hv => by
      rcases R.ios p.1 (R.ioa p hp).1 with z | z <;> (rcases h p.1 hv with q | q <;> (rw [z] at q; cases q))
    rw [wipe_ne hv]; exact (R.ioa p hp).2⟩⟩
  · by_cases hn : st = .N
    · subst hn
      have hl : j < S.length := by have := get_lt hj; rwa [setAll_len] at this
      obtain ⟨st0, hst0⟩ : ∃ st, S[j]? = some st := ⟨S[j], List.getElem?_eq_getElem hl⟩
      obtain ⟨e, v, e1, e2, _⟩ := R.slot j st0 hst0
      obtain ⟨w, hw⟩ : ∃ w, (L2.wipe σ vs)[j]? = some w := ⟨(L2.wipe σ vs)[j]'(by rw [wipe_length]; exact get_lt e2), List.getElem?_eq_getElem _⟩
      exact ⟨e, w, e1, hw, trivial⟩
    · obtain ⟨hv, hS⟩ := key j st hj hn
      obtain ⟨e, v, e1, e2, ok⟩ := R.slot j st hS
      exact ⟨e, v, e1, by rw [wipe_ne hv]; exact e2, ok.mono .rfl hA fun _ _ _ z => z⟩
  · have n1 : st ≠ .N := fun e => by rw [e] at h2; cases h2
    have n2 : st' ≠ .N := fun e => by rw [e] at h4; rcases h4 with h4 | h4 <;> cases h4
    obtain ⟨v1, s1⟩ := key i st h1 n1
    obtain ⟨v2, s2⟩ := key j st' h3 n2
    rw [wipe_ne v1] at h5
    rw [wipe_ne v2]
    exact R.uniq i j a st st' ne s1 h2 s2 h4 h5
  · obtain ⟨v1, s1⟩ := key j .O h1 (by decide)
    rw [wipe_ne v1] at h2
    exact R.fresh j b s1 h2
  · obtain ⟨v1, s1⟩ := key j .I h1 (by decide)
    rw [wipe_ne v1] at h2
    exact R.inn j b s1 h2
  · obtain ⟨f1, f2, f3⟩ := R.fix p hp
    have hv : p.1 ∉ vs := fun hv => by rcases h _ hv with q | q <;> (rw [f1] at q; cases q)
    exact ⟨by rw [setAll_ne hv]; exact f1, by rw [wipe_ne hv]; exact f2, f3⟩
  · have hv : j ∉ vs := fun hv => by
      rcases R.ios j hj with z | z <;> (rcases h j hv with q | q <;> (rw [z] at q; cases q))
    rw [setAll_ne hv]
    exact R.ios j hj
theorem Rel.unwipe (R1 : Rel K F E' S env1 σ H1) (h : nonOwn S vs) (R : Rel K (moreK F (kpV S env1 σ vs)) E (setAll S .N vs) env (wipe σ vs) H) : Rel K F E S (restore vs env1 env) σ H := by
  have hA : ∀ b, ¬ Av (Ev.moreK F (kpV S env1 σ vs)) E (setAll S .N vs) (L2.wipe σ vs) b → H b ≠ none → ¬ Av F E S σ b := fun b n _ q => n (q.imp id (Or.imp id (own_wipe h).mpr))
  have key : ∀ (j : Nat) (st : Sta), S[j]? = some st → st ≠ .N → st ≠ .S → j ∉ vs := fun j st hj hn hs hv => by
    rcases h j hv with q | q
    · rw [hj] at q; cases q; exact hn rfl
    · rw [hj] at q; cases q; exact hs rfl
  have bk : ∀ (j : Nat) (st : Sta), j ∉ vs → S[j]? = some st → (setAll S .N vs)[j]? = some st := fun j st hv hj => by rw [setAll_ne hv]; exact hj
  refine ⟨by rw [restore_len]; have := R.le; rwa [setAll_len] at this, R1.ls, fun j st hj => ?_, fun i j a st st' ne h1 h2 h3 h4 h5 => ?_, R.pres, R.live, R.a0, R.m0, R.eT, fun b hb q => R.eD b hb ((own_wipe h).mpr q), fun j b h1 h2 => ?_, fun j b h1 h2 => ?_, fun p hp => (R.kept p (List.mem_append_right _ hp)).mono .rfl hA, fun p hp => ?_, R1.ios, R1.bx, R1.ioa⟩
  · obtain ⟨e1', v1', k1, k2, ok1⟩ := R1.slot j st hj
    by_cases hv : j ∈ vs
    · have hl : j < env.length := by have := R.le; rw [setAll_len] at this; rw [this]; exact get_lt hj
      refine ⟨_, v1', restore_in hv hl, k2, ?_⟩
      rw [k1]
      rcases h j hv with q | q
      · rw [hj] at q; cases q; trivial
      · rw [hj] at q
        cases q
        obtain ⟨x, u, rfl, rfl, _⟩ := ok1
        refine ⟨x, u, rfl, rfl, (R.kept (u, x) (List.mem_append_left _ ?_)).mono .rfl hA⟩
        unfold kpV
        rw [List.mem_filterMap]
        exact ⟨j, hv, by rw [hj, k1, k2]⟩
    · obtain ⟨e, v, e1, e2, ok⟩ := R.slot j st (bk j st hv hj)
      rw [wipe_ne hv] at e2
      exact ⟨e, v, by rw [restore_ne hv]; exact e1, e2, ok.mono .rfl hA fun _ _ _ z => z⟩
  · have hi := key i st h1 (fun e => by rw [e] at h2; cases h2) (fun e => by rw [e] at h2; cases h2)
    have hj := key j st' h3 (fun e => by rw [e] at h4; rcases h4 with h4 | h4 <;> cases h4) (fun e => by rw [e] at h4; rcases h4 with h4 | h4 <;> cases h4)
    have := R.uniq i j a st st' ne (bk i st hi h1) h2 (bk j st' hj h3) h4 (by rw [wipe_ne hi]; exact h5)
    rwa [wipe_ne hj] at this
  · have hv := key j .O h1 (by decide) (by decide)
    exact R.fresh j b (bk j _ hv h1) (by rw [wipe_ne hv]; exact h2)
  · have hv := key j .I h1 (by decide) (by decide)
    exact R.inn j b (bk j _ hv h1) (by rw [wipe_ne hv]; exact h2)
  · obtain ⟨f1, f2, f3⟩ := R.fix p hp
    obtain ⟨g1, g2, g3⟩ := R1.fix p hp
    have hv := key p.1 .B g1 (by decide) (by decide)
    exact ⟨g1, g2, by rw [restore_ne hv]; exact f3⟩
/-- a thing of the frame's own, in no slot, is written -/
theorem Rel.writeE (R : Rel K F E S env σ H) (hE : E D) (hn : F.H0 D = none) (ht : ∀ ws, H D ≠ some (.tup ws)) (hB : ∀ (j : Nat), S[j]? = some .B → σ[j]? ≠ some (some (.ref D))) : Rel K F E S env σ (upd H D o) ∧ Keep (Av F E S σ) H (upd H D o) := by
  have av : Av F E S σ D := .inr (.inl hE)
  have kp : Keep (Av F E S σ) H (upd H D o) := keep_upd av ht
  have liv : ∀ b, H b ≠ none → upd H D o b ≠ none := fun b hb => by
    by_cases e : b = D
    · subst e; rw [upd_same]; simp
    · rw [upd_ne e]; exact hb
  have cc : ∀ {y : EV} {b : Addr}, b ≠ D → RepC K H (Av F E S σ) b y → RepC K (upd H D o) (Av F E S σ) b y := fun {y b} nb r =>
    r.mono' kp (fun b n _ => n) (fun vs q => by rw [upd_ne nb]; exact q) fun u _ q => q.imp (fun q => by rw [upd_ne nb]; exact q) fun ⟨ob, q⟩ => ⟨ob, by rw [upd_ne nb]; exact q⟩
  refine ⟨⟨R.le, R.ls, fun j st hj => ?_, R.uniq, fun b ob h n => ?_, fun b h => liv b (R.live b h), R.a0, R.m0, fun b h => liv b (R.eT b h), R.eD, R.fresh, R.inn, fun p hp => (R.kept p hp).mono kp fun b n _ => n, R.fix, R.ios, R.bx, R.ioa⟩, kp⟩
  · obtain ⟨e, v, e1, e2, ok⟩ := R.slot j st hj
    refine ⟨e, v, e1, e2, ?_⟩
    cases st with
    | N => trivial
    | S => obtain ⟨y, u, h1, h2, r⟩ := ok; exact ⟨y, u, h1, h2, r.mono kp fun b n _ => n⟩
    | B =>
      obtain ⟨y, b, h1, h2, c, r⟩ := ok
      exact ⟨y, b, h1, h2, c, cc (fun q => hB j hj (by rw [e2, h2, q])) r⟩
    | O =>
      obtain ⟨y, b, h1, h2, c, r, u, w1, w2⟩ := ok
      have nb : b ≠ D := fun q => R.eD D hE ⟨j, .O, hj, rfl, by rw [e2, h2, q]⟩
      exact ⟨y, b, h1, h2, c, cc nb r, u, by rw [upd_ne nb]; exact w1, w2⟩
    | I =>
      obtain ⟨y, b, h1, h2, c, r, u, w1, w2⟩ := ok
      have nb : b ≠ D := fun q => R.eD D hE ⟨j, .I, hj, rfl, by rw [e2, h2, q]⟩
      exact ⟨y, b, h1, h2, c, cc nb r, u, by rw [upd_ne nb]; exact w1, w2⟩
  · have nb : b ≠ D := fun e => by subst e; rw [hn] at h; cases h
    rw [upd_ne nb]
    exact R.pres b ob h n
/-! statuses lent and back -/
theorem bor_free {j : Nat} (h : S[j]? = some .N ∨ S[j]? = some .S) : (bor1 S c)[j]? = S[j]? := by
  rcases h with h | h <;> (rcases bor1_var2 (c := c) h with q | ⟨q, _⟩ <;> first | (rw [q, h]) | cases q)
theorem borS_free {j : Nat} : ∀ {it : List CE} {S : List Sta}, (S[j]? = some .N ∨ S[j]? = some .S) → (borS S it)[j]? = S[j]?
  | [], _, _ => rfl
  | c :: r, S, h => by
    unfold borS
    have e := bor_free (c := c) h
    rw [borS_free (by rw [e]; exact h), e]
theorem borW_free {k : ItK} {it : List CE} (h : nonOwn S vs) : nonOwn (borW k S it) vs := fun j hj => by
  unfold borW
  split
  · exact h j hj
  · rw [borS_free (h j hj)]; exact h j hj
theorem unb_bor : unb1 S c (bor1 S c) = S := by
  cases c with
  | var i =>
    unfold unb1 bor1
    simp only
    split
    · rename_i e
      simp only [e]
      rw [List.set_set]
      exact List.ext_getElem? fun j => by
        by_cases ij : i = j
        · subst ij; rw [List.getElem?_set_self (get_lt e), e]
        · rw [List.getElem?_set_ne ij]
    · rename_i e
      simp only [e]
      rw [List.set_set]
      exact List.ext_getElem? fun j => by
        by_cases ij : i = j
        · subst ij; rw [List.getElem?_set_self (get_lt e), e]
        · rw [List.getElem?_set_ne ij]
    · rename_i n1 n2
      split
      · rename_i e; exact absurd e n1
      · rename_i e; exact absurd e n2
      · rfl
  | _ => rfl
theorem unbS_borS : ∀ {it : List CE} {S : List Sta}, unbS S it (borS S it) = S
  | [], _ => rfl
  | c :: r, S => by
    unfold unbS borS
    rw [unbS_borS, unb_bor]
theorem unbW_borW {k : ItK} {it : List CE} : unbW k S it (borW k S it) = S := by
  unfold unbW borW
  split
  · rfl
  · exact unbS_borS
theorem own_borS {j : Nat} {st : Sta} (ho : st.own = true) : ∀ {it : List CE} {S : List Sta}, (borS S it)[j]? = some st → S[j]? = some st
  | [], _, h => h
  | c :: r, S, h => by
    unfold borS at h
    have h := own_borS ho h
    cases c with
    | var i =>
      unfold bor1 at h
      simp only at h
      split at h
      · rcases set_get h with ⟨_, e⟩ | ⟨_, h⟩
        · rw [← e] at ho; cases ho
        · exact h
      · rcases set_get h with ⟨_, e⟩ | ⟨_, h⟩
        · rw [← e] at ho; cases ho
        · exact h
      · exact h
    | _ => exact h
theorem own_borW {k : ItK} {it : List CE} {j : Nat} {st : Sta} (ho : st.own = true) (h : (borW k S it)[j]? = some st) : S[j]? = some st := by
  unfold borW at h
  split at h
  · exact h
  · exact own_borS ho h
end
end Ev
end

section
set_option Elab.async false
set_option linter.all false
set_option maxRecDepth 100000
set_option maxHeartbeats 4000000
/-! EvW: list comprehensions, the reading. -/
namespace Ev
open PySem PySem.Spec PyProof.Rows L2
def tTs (G : Glob) (S : List Sta) (cs : List CE) : TT := fun σ H Q => ∃ (F : Frm) (E : Addr → Prop) (env env' : Ev.Env) (b : Bool),
  Rel G.K F E S env σ H ∧ tsts G.cf G.gb cs env = some (b, env') ∧ ∀ H', Step (WA (mus cs) S σ) H H' → Rel G.K F E S env' σ H' → Q b H'
theorem _root_.L2.PTs.imp {X : Cx} {e : List Expr} {t t' : TT} (h : PTs X e t) (k : ∀ σ H Q, t' σ H Q → t σ H Q) : PTs X e t' := ⟨fun pins s σ H Q I q => h.run pins s σ H Q I (k σ H Q q)⟩
/-- a dict to be walked is locked -/
def Locked (G : Glob) (k : ItK) (it : List CE) (env : Ev.Env) (σ : L2.St) (H : Hp) : Prop := ∀ ws s1, evs G.cf G.gb it env = some (ws, s1) → ∀ x, k = .val → ws = [x] → ∀ t kvs, x = .dct t kvs → ∃ i a o u, it = [.var i] ∧ σ[i]? = some (some (.ref a)) ∧ H a = some (.frz o u)
def tCo (G : Glob) (S : List Sta) (vs : List Nat) (k : ItK) (it : List CE) (p : Pt) (ifs : List CE) (e : CE) : TE := fun σ H Q => ∃ (F : Frm) (E : Addr → Prop) (env env' : Ev.Env) (x : EV),
  Rel G.K F E S env σ H ∧ ev G.cf G.gb (.comp vs k it p ifs e) env = some (x, env') ∧ Locked G k it env σ H ∧ ∀ v H', Post G.K F E S σ .fr (mu (.comp vs k it p ifs e)) [] H env' x v H' → Q v H'
section
variable {G : Glob} {S : List Sta} {X : Cx} {elt tg iter : Expr} {tests : List Expr} {c c2 c3 : CE} {ifs it : List CE} {e : CE} {p : Pt} {vs : List Nat} {k : ItK} {pos : Pos} {scope : Scope} {own : List (Str × Nat)}
theorem pts_nil' : PTs X [] (tTs G S []) := pts_nil.imp fun σ H Q ⟨F, E, env, env', b, R, ee, q⟩ => by
  cases ee
  exact q _ .rfl R
theorem pts_one' (h : PT X elt (tT G S c)) : PTs X [elt] (tTs G S [c]) := (pts_one h).imp fun σ H Q ⟨F, E, env, env', b, R, ee, q⟩ => by
  obtain ⟨x, s1, r, h1, h2, h3⟩ := tsts_cons ee
  refine ⟨F, E, env, s1, x, r, R, h1, h2, fun H' st R1 => ?_⟩
  have st' : Step (WA (mus [c]) S σ) H H' := by rw [mus_one]; exact st
  rcases h3 with ⟨rfl, h4⟩ | ⟨rfl, rfl, rfl⟩
  · cases h4
    exact q _ st' R1
  · exact q _ st' R1
/-- a turn is over: the block's names are forgotten -/
theorem wipe_same {σ σ2 : L2.St} (hl : σ2.length = σ.length) (h : ∀ j, j ∉ vs → σ2[j]? = σ[j]?) : wipe σ2 vs = wipe σ vs := by
  refine List.ext_getElem? fun j => ?_
  by_cases hj : j ∈ vs
  · by_cases hl2 : j < σ.length
    · rw [wipe_in hj hl2, wipe_in hj (by rw [hl]; exact hl2)]
    · rw [List.getElem?_eq_none (by rw [wipe_length, hl]; omega), List.getElem?_eq_none (by rw [wipe_length]; omega)]
  · rw [wipe_ne hj, wipe_ne hj, h j hj]
theorem wipe_wipe {σ : L2.St} : wipe (wipe σ vs) vs = wipe σ vs := wipe_same (wipe_length σ vs) fun j hj => wipe_ne hj
theorem setAll_same {S S2 : List Sta} {st : Sta} (hl : S2.length = S.length) (h : ∀ j, j ∉ vs → S2[j]? = S[j]?) : setAll S2 st vs = setAll S st vs := by
  refine List.ext_getElem? fun j => ?_
  by_cases hj : j ∈ vs
  · by_cases hl2 : j < S.length
    · rw [setAll_in hj hl2, setAll_in hj (by rw [hl]; exact hl2)]
    · rw [List.getElem?_eq_none (by rw [setAll_len, hl]; omega), List.getElem?_eq_none (by rw [setAll_len]; omega)]
  · rw [setAll_ne hj, setAll_ne hj, h j hj]
theorem tLc_of (hfr : nonOwn S vs) (hpv : ∀ v ∈ ptVars p, v ∈ vs) {σ : L2.St} {H : Hp} {Q : VK} (h : tCo G S vs k it p ifs e σ H Q) :
    tLc (tW G S k it) (tP G (setAll (borW k S it) .N vs) p) (tTs G (setAll (setAll (borW k S it) .N vs) .S (ptVars p)) ifs) (tE G (setAll (setAll (borW k S it) .N vs) .S (ptVars p)) .sh e) vs σ H Q := by
  obtain ⟨F, E, env, env', z, R, ee, hlk, q⟩ := h
  obtain ⟨ws, env1, xs, ys, s2, e1, e2, e3, e4, rfl, rfl⟩ := ev_comp ee
  refine ⟨F, E, env, env1, ws, xs, R, e1, e2, fun x hk hw t kvs hx => hlk ws env1 e1 x hk hw t kvs hx, fun J H1 F1 Y st0 wk D hD => ?_⟩
  -- the block's statuses, its frame
  generalize hS1 : borW k S it = S1 at *
  have R1 := wk.rel
  rw [hS1] at R1
  have no1 : nonOwn S1 vs := by rw [← hS1]; exact borW_free hfr
  generalize hSn : setAll S1 .N vs = Sn at *
  generalize hSb : setAll Sn .S (ptVars p) = Sb at *
  have hSbl : Sb.length = S1.length := by rw [← hSb, setAll_len, ← hSn, setAll_len]
  have hback : setAll Sb .N vs = Sn := by
    rw [← hSn]
    refine setAll_same hSbl fun j hj => ?_
    rw [← hSb, setAll_ne (fun h => hj (hpv j h)), ← hSn, setAll_ne hj]
  have noB : nonOwn Sb vs := fun j hj => by
    have hl : j < Sn.length := by rw [← hSn, setAll_len]; exact (no1 j hj).elim get_lt get_lt
    by_cases hp : j ∈ ptVars p
    · exact .inr (by rw [← hSb]; exact setAll_in hp hl)
    · refine .inl ?_
      rw [← hSb, setAll_ne hp, ← hSn]
      exact setAll_in hj (by rw [← hSn, setAll_len] at hl; exact hl)
  generalize hF2 : moreK F1 (kpV S1 env1 σ vs) = F2
  have R2 : Rel G.K F2 (orA E Y) Sn env1 (wipe σ vs) H1 := by
    rw [← hF2, ← hSn]
    exact (R1.moreKp (kpV_rep R1)).wiped no1
  have hF0 : F2.H0 = F1.H0 := by rw [← hF2]; rfl
  have nD : F2.H0 D = none := by
    cases h : F2.H0 D with
    | none => rfl
    | some o => exact absurd hD (R2.live D (by rw [h]; simp))
  generalize hE2 : plusA (orA E Y) D = E2
  have eD : E2 D := by rw [← hE2]; exact .inr rfl
  have hB : ∀ (j : Nat), Sn[j]? = some .B → (wipe σ vs)[j]? ≠ some (some (.ref D)) := fun j hj he => by
    obtain ⟨e, v, e1, e2, x, a, q1, q2, q3, q4⟩ := R2.slot j .B hj
    rw [he] at e2
    cases e2
    cases q2
    exact q4.tracked hD
  generalize hWm : (fun a => WA (mus ifs ++ mu e) S σ a ∨ a = D) = Wm
  -- an own slot of the block is one of the frame
  have wsub : ∀ {l : List Nat} {σ2 : L2.St}, (∀ j, j ∉ vs → σ2[j]? = σ[j]?) → (∀ i ∈ l, i ∈ mus ifs ++ mu e) → ∀ a, WA l Sb σ2 a → Wm a := fun {l σ2} hσ hl a ⟨j, hj, st, q1, q2, q3⟩ => by
    have hv : j ∉ vs := fun hv => by
      rcases noB j hv with z | z <;> (rw [z] at q1; cases q1; cases q2)
    rw [← hWm]
    refine .inl ⟨j, hl j hj, st, ?_, q2, by rw [← hσ j hv]; exact q3⟩
    rw [← hSb, setAll_ne (fun h => hv (hpv j h)), ← hSn, setAll_ne hv, ← hS1] at q1
    exact own_borW q2 q1
  refine ⟨fun i m H => m + i = xs.length ∧ ∃ envi accV accX rest, Rel G.K F2 E2 Sn envi (wipe σ vs) H ∧ H D = some (.lst accV) ∧ Reps G.K H (Av F2 E2 Sn (wipe σ vs)) accV accX ∧ compL (turnE G.cf G.gb p ifs e) (xs.drop i) envi = some (rest, s2) ∧ accX ++ rest = ys ∧ Step Wm H1 H, ⟨xs.length, by simp, env1, [], [], ys, ?_, upd_same, .nil, by simpa using e3, rfl, .of_ext (.upd hD)⟩, ?_⟩
  · rw [← hE2]
    exact R2.allocE hD
  rintro i m H ⟨hm, envi, accV, accX, rest, RW, hDv, hR, hcl, hacc, hst⟩
  by_cases hlt : i < xs.length
  · -- a turn
    obtain ⟨x, hx⟩ : ∃ x, xs[i]? = some x := ⟨xs[i], List.getElem?_eq_getElem hlt⟩
    have hdrop : xs.drop i = x :: xs.drop (i + 1) := by
      have := List.getElem?_eq_some_iff.mp hx
      rw [← this.2]
      exact List.drop_eq_getElem_cons hlt
    rw [hdrop] at hcl
    obtain ⟨r, envN, zs, h1, h2, h3⟩ := compL_cons hcl
    obtain ⟨t1, b, t2, k1, k2, k3⟩ := turn_inv h1
    have srv : Serves G.K F2 J xs := fun E S env σ H R i => by
      have R' : Rel G.K F1 E S env σ H := by
        rw [← hF2] at R
        exact ⟨R.le, R.ls, R.slot, R.uniq, R.pres, R.live, R.a0, R.m0, R.eT, R.eD, R.fresh, R.inn, fun p hp => R.kept p (List.mem_append_right _ hp), R.fix, R.ios, R.bx, R.ioa⟩
      have := wk.srv E S env σ H R' i
      rw [← hF2]
      exact this
    obtain ⟨hgo, hyl⟩ := (srv E2 Sn envi (wipe σ vs) H RW i).1 x hx
    refine .inr ⟨hgo, fun H' => (m - 1) + (i + 1) = xs.length ∧ ∃ envi accV accX rest, Rel G.K F2 E2 Sn envi (wipe σ vs) H' ∧ H' D = some (.lst accV) ∧ Reps G.K H' (Av F2 E2 Sn (wipe σ vs)) accV accX ∧ compL (turnE G.cf G.gb p ifs e) (xs.drop (i + 1)) envi = some (rest, s2) ∧ accX ++ rest = ys ∧ Step Wm H1 H', fun H' h => ⟨m - 1, by omega, h⟩, fun v H' hv => ?_⟩
    obtain ⟨hxt, hrp⟩ := hyl v H' hv
    have RG := RW.grow hxt
    refine ⟨F2, E2, envi, t1, x, RG, hrp, k1, fun σ2 R3 ow ag => ?_⟩
    have hl2 : σ2.length = σ.length := by
      have a1 := R3.ls
      have a2 := R1.ls
      rw [a1, setAll_len, ← hSn, setAll_len, a2]
    have agσ : ∀ j, j ∉ vs → σ2[j]? = σ[j]? := fun j hj => by
      rw [ag j (fun h => hj (hpv j h)), wipe_ne hj]
    have hws : wipe σ2 vs = wipe σ vs := wipe_same hl2 agσ
    refine ⟨hws, ?_⟩
    rw [hSb] at R3 ow
    -- a step of the block
    have dav : ∀ {l : List Nat}, ¬ WA l Sb σ2 D := fun {l} h => R3.eD D eD h.own
    have avb : ∀ a, Av F2 E2 Sb σ2 a → Av F2 E2 Sn (wipe σ vs) a := fun a z => z.imp id (Or.imp id (ow a))
    have hav2 : ∀ {E : Addr → Prop} a, Av F2 E2 Sn (wipe σ vs) a → Av F2 E2 Sb σ2 a := fun a z => z.imp id (Or.imp id fun o => by
      have := (own_wipe (S := Sb) (σ := σ2) (a := a) noB).mp (by rw [hback, hws]; exact o)
      exact this)
    refine ⟨F2, E2, t1, t2, b, R3, k2, fun H3 st3 R4 => ?_⟩
    have hst3 : Step Wm H1 H3 := (hst.trans (.of_ext hxt)).trans (st3.mono (wsub agσ fun i hi => List.mem_append_left _ hi))
    have hD3 : H3 D = some (.lst accV) := st3.kp D _ dav (hxt D _ hDv)
    have hR3 : Reps G.K H3 (Av F2 E2 Sn (wipe σ vs)) accV accX := (hR.mono hxt.keep fun b n _ => n).mono (st3.keep fun a z => avb a z.av) fun b n _ => n
    have toN : ∀ {env H}, Rel G.K F2 E2 Sb env σ2 H → Rel G.K F2 E2 Sn env (wipe σ vs) H := fun {env H} R => by
      have := R.wiped noB
      rw [hback, hws] at this
      exact this
    rcases k3 with ⟨rfl, y, k4, rfl⟩ | ⟨rfl, rfl, rfl⟩
    · simp only [if_true]
      refine ⟨F2, E2, t2, envN, y, R4, k4, fun yv H4 ⟨st4, R5, ry⟩ => ?_⟩
      have hD4 : H4 D = some (.lst accV) := st4.kp D _ dav hD3
      have hst4 : Step Wm H1 H4 := hst3.trans (st4.mono (wsub agσ fun i hi => List.mem_append_right _ hi))
      have hR4 : Reps G.K H4 (Av F2 E2 Sn (wipe σ vs)) accV accX := hR3.mono (st4.keep fun a z => avb a z.av) fun b n _ => n
      have ry' : Rep G.K H4 (Av F2 E2 Sn (wipe σ vs)) yv y := ry.mono .rfl fun b n _ z => n (hav2 (E := E2) b z)
      have R6 := toN R5
      obtain ⟨R7, kp7⟩ := R6.writeE (o := .lst (accV ++ [yv])) eD nD (fun ws z => by rw [hD4] at z; cases z) hB
      have hz : accX ++ y :: zs = ys := by rw [← hacc, h3]; rfl
      refine ⟨accV, hD4, ?_, by omega, envN, accV ++ [yv], accX ++ [y], zs, R7, upd_same, ?_, h2, by rw [List.append_assoc]; exact hz, ?_⟩
      · rw [hR4.length, ← SZ_eq]
        have := congrArg List.length hz
        simp only [List.length_append, List.length_cons] at this
        omega
      · refine Reps.append ?_ (.cons ?_ .nil)
        · exact hR4.mono kp7 fun b n _ => n
        · exact ry'.mono kp7 fun b n _ => n
      · refine ⟨fun a o na ha => ?_, fun a ha => ?_, fun a w ha => ?_⟩
        · have ne : a ≠ D := fun z => na (by rw [← hWm]; exact .inr z)
          rw [upd_ne ne]
          exact hst4.kp a o na ha
        · by_cases ne : a = D
          · subst ne; rw [upd_same]; simp
          · rw [upd_ne ne]; exact hst4.lv a ha
        · have ne : a ≠ D := fun z => by subst z; rw [hD] at ha; cases ha
          rw [upd_ne ne]
          exact hst4.tup a w ha
    · simp only [Bool.false_eq_true, if_false]
      refine ⟨by omega, envN, accV, accX, zs, toN R4, hD3, hR3, h2, by rw [← hacc, h3]; rfl, hst3⟩
  · -- the end
    have hend : i = xs.length := by omega
    have srvE := (wk.srv E2 Sn envi (wipe σ vs) H (by
      rw [← hF2] at RW
      exact ⟨RW.le, RW.ls, RW.slot, RW.uniq, RW.pres, RW.live, RW.a0, RW.m0, RW.eT, RW.eD, RW.fresh, RW.inn, fun p hp => RW.kept p (List.mem_append_right _ hp), RW.fix, RW.ios, RW.bx, RW.ioa⟩) i).2 (by omega)
    refine .inl ⟨srvE, q _ _ ?_⟩
    have hn : xs.drop i = [] := List.drop_eq_nil_of_le (by omega)
    rw [hn] at hcl
    cases hcl
    rw [List.append_nil] at hacc
    subst hacc
    have R8 : Rel G.K F1 E2 S1 (restore vs env1 s2) σ H := R1.unwipe no1 (by rw [hF2, hSn]; exact RW)
    have hY : ∀ b, Y b → ¬ plusA E D b := fun b hb z => by
      rcases z with z | z
      · exact R.eD b z (wk.own b hb)
      · subst z
        exact R1.av_tracked (.inr (.inl (.inr hb))) hD
    have R8' : Rel G.K F1 (orA (plusA E D) Y) S1 (restore vs env1 s2) σ H := R8.lessE fun b z => by
      rw [← hE2]
      rcases z with (z | z) | z
      · exact .inl (.inl z)
      · exact .inr z
      · exact .inl (.inr z)
    have R9 := wk.out.run (plusA E D) S1 (restore vs env1 s2) σ H hY R8'
    rw [← hS1, unbW_borW] at R9
    have hH0 : H1 D = none → ∀ H, Step (WA (mus it) S σ) H H1 → H D = none := fun h1 H st => by
      cases h : H D with
      | none => rfl
      | some w => exact absurd h1 (st.lv D (by rw [h]; simp))
    have muE : mu (.comp vs k it p ifs e) = mus it ++ (mus ifs ++ mu e) := by rw [mu]
    refine ⟨?_, .inr ⟨rfl, D, rfl, hH0 hD _ st0, ⟨_, hDv, fun _ _ => nofun⟩, R9, accV, hDv, ?_⟩⟩
    · rw [muE]
      refine ⟨fun a o na ha => ?_, fun a ha => hst.lv a (st0.lv a ha), fun a w ha => hst.tup a w (st0.tup a w ha)⟩
      have h1 := st0.kp a o (fun z => na z.left) ha
      refine hst.kp a o (fun z => ?_) h1
      rw [← hWm] at z
      rcases z with z | z
      · exact na z.right
      · subst z; rw [hD] at h1; cases h1
    · refine hR.mono .rfl fun b n _ z => n ?_
      rcases z with z | (z | z) | z
      · refine .inl ?_
        have := wk.out.A0
        rw [← hF2]
        show F1.A0 b
        rw [this]
        exact z
      · exact .inr (.inl (by rw [← hE2]; exact .inl (.inl z)))
      · exact .inr (.inl (by rw [← hE2]; exact .inr z))
      · have o1 := wk.out.own (plusA E D) S1 (restore vs env1 s2) σ H hY R8' b (by rw [← hS1, unbW_borW]; exact z)
        rcases o1 with o1 | o1
        · exact .inr (.inr (by rw [← hSn]; exact (own_wipe no1).mpr o1))
        · exact .inr (.inl (by rw [← hE2]; exact .inl (.inr o1)))
theorem comp_core (hc : X.calm = true) (hN : X.N.Nodup) (hK : X.K = G.K) (hi : PI X tg iter (tW G S k it)) (ok : BlkOk X.N X.env.scope scope own) (hov : own.map (·.2) = vs)
    (hg : ∀ (s : Shared) (H : Hp) (C : Addr) (cl : List (Str × Addr)) (fp : List Addr), PG (X.blk s H scope (compEnvC scope cl C X.env) fp) tg (tP G (setAll (borW k S it) .N vs) p))
    (ht : ∀ (s : Shared) (H : Hp) (C : Addr) (cl : List (Str × Addr)) (fp : List Addr), PTs (X.blk s H scope (compEnvC scope cl C X.env) fp) tests (tTs G (setAll (setAll (borW k S it) .N vs) .S (ptVars p)) ifs))
    (he : ∀ (s : Shared) (H : Hp) (C : Addr) (cl : List (Str × Addr)) (fp : List Addr), PE (X.blk s H scope (compEnvC scope cl C X.env) fp) elt (tE G (setAll (setAll (borW k S it) .N vs) .S (ptVars p)) .sh e))
    (hfr : nonOwn S vs) (hpv : ∀ v ∈ ptVars p, v ∈ vs) (hs : ∀ x, foldedSetIterable iter X.env x = pure x) :
    PE X (.ListComp elt [⟨tg, iter, tests, 0⟩] scope pos) (tCo G S vs k it p ifs e) :=
  (pe_lc hc hN hi ok hg ht he hs).imp fun σ H Q h => by
    rw [hov]
    exact tLc_of hfr hpv h
end
end Ev
end

section
set_option Elab.async false
set_option linter.all false
set_option maxRecDepth 100000
set_option maxHeartbeats 4000000
/-! EvX: a dict that is walked is locked. -/
namespace Ev
open PySem PySem.Spec PyProof.Rows L2
section
variable {K : PySem.W.Frag} {F F1 F2 : Frm} {E E' : Addr → Prop} {S S1 S' : List Sta} {env env' env1 : Env} {σ σ' : L2.St} {H H' H1 : Hp} {A A' Y Y' : Addr → Prop} {a b p : Addr} {x : EV} {v : V} {i : Nat} {o u : HO} {od : Obj} {kps : List (V × EV)}
theorem pin_notown (R : Rel K (pinF F a o kps) E S env σ H) : ¬ OwnA S σ a := fun ⟨j, st, h1, h2, h3⟩ => by
  cases st with
  | O =>
    have h : upd F.H0 a o a = none := R.fresh j a h1 h3
    rw [upd_same] at h
    cases h
  | I => exact (R.inn j a h1 h3).2 rfl
  | _ => cases h2
def openD : HO → Prop
  | .dK _ => True
  | .dT _ => True
  | _ => False
theorem openD.isD (h : openD u) : Ev.isD u := by cases u <;> first | trivial | cases h
theorem openD.isDf (h : openD u) : Ev.isD (HO.frz od u) := by cases u <;> first | trivial | cases h
theorem openD.nf (h : openD u) : ∀ ob w, u ≠ .frz ob w := fun ob w e => by subst e; cases h
theorem openD.mut (h : openD u) : Mut (some u) := by cases u <;> first | trivial | cases h
theorem frz_to (h : openD u) : ∀ w, (∀ ob z, w ≠ HO.frz ob z) → (u = w ∨ ∃ ob, u = HO.frz ob w) → (HO.frz od u = w ∨ ∃ ob, HO.frz od u = HO.frz ob w) := fun w _ r => by
  rcases r with r | ⟨ob, r⟩
  · exact .inr ⟨od, by rw [r]⟩
  · exact absurd r (h.nf ob w)
theorem frz_from : ∀ w, (∀ ob z, w ≠ HO.frz ob z) → (HO.frz od u = w ∨ ∃ ob, HO.frz od u = HO.frz ob w) → (u = w ∨ ∃ ob, u = HO.frz ob w) := fun w nf r => by
  rcases r with r | ⟨ob, r⟩
  · exact absurd r.symm (nf od u)
  · cases r; exact .inl rfl
/-- a dict of no one's is locked -/
theorem Rel.lockIn (R : Rel K F E S env σ H) (h : H a = some u) (hu : openD u) (n : ¬ OwnA S σ a) : Rel K (pinF F a (.frz od u) []) E S env σ (upd H a (.frz od u)) := by
  refine R.swap (F' := pinF F a (.frz od u) []) h hu.isD (frz_to hu) n rfl (fun b ob hb nm => ?_) (fun b hb => ?_) (fun b hb => ?_) (fun b hb => R.m0 b hb.1) (fun b ne hb => ?_) fun b ne hb => ⟨hb, ne⟩
  · have hb : upd F.H0 a (.frz od u) b = some ob := hb
    by_cases e : b = a
    · subst e; rw [upd_same] at hb ⊢; exact hb
    · rw [upd_ne e] at hb ⊢
      exact R.pres b ob hb fun m => nm ⟨m, e⟩
  · have hb : upd F.H0 a (.frz od u) b ≠ none := hb
    by_cases e : b = a
    · subst e; rw [upd_same]; simp
    · rw [upd_ne e] at hb ⊢
      exact R.live b hb
  · show upd F.H0 a (.frz od u) b ≠ none
    by_cases e : b = a
    · subst e; rw [upd_same]; simp
    · rw [upd_ne e]; exact R.a0 b hb
  · show upd F.H0 a (.frz od u) b = none
    rw [upd_ne ne]; exact hb
/-- .. and unlocked -/
theorem Rel.lockOut {E0 : Addr → Prop} {S0 : List Sta} {env0 : Env} {σ0 : L2.St} {H0 : Hp} (R0 : Rel K F E0 S0 env0 σ0 H0) (h0 : H0 a = some u) (hu : openD u) (R : Rel K (pinF F a (.frz od u) []) E S env σ H) : H a = some (.frz od u) ∧ Rel K F E S env σ (upd H a u) := by
  have hp : H a = some (.frz od u) := R.pinned
  refine ⟨hp, R.swap (F' := F) hp hu.isDf frz_from (pin_notown R) rfl (fun b ob hb nm => ?_) (fun b hb => ?_) (fun b hb => R0.a0 b hb) (fun b hb => R0.m0 b hb) (fun b ne hb => ?_) fun b ne hb => hb.1⟩
  · by_cases e : b = a
    · subst e
      have := R0.pres b ob hb nm
      rw [h0] at this
      rw [upd_same]
      exact this
    · rw [upd_ne e]
      refine R.pres b ob ?_ fun z => nm z.1
      show upd F.H0 a (.frz od u) b = some ob
      rw [upd_ne e]; exact hb
  · by_cases e : b = a
    · subst e; rw [upd_same]; simp
    · rw [upd_ne e]
      refine R.live b ?_
      show upd F.H0 a (.frz od u) b ≠ none
      rw [upd_ne e]; exact hb
  · have hb : upd F.H0 a (.frz od u) b = none := hb
    rw [upd_ne ne] at hb
    exact hb
/-- a way out of a locked walk -/
structure ExitL (K : PySem.W.Frag) (F1 F : Frm) (Y : Addr → Prop) (un : List Sta → List Sta) (a : Addr) (od : Obj) (u : HO) : Prop where
  run : ∀ (P : Addr → Prop) (S2 : List Sta) (env2 : Env) (σ2 : L2.St) (H2 : Hp), (∀ b, Y b → ¬ P b) → Rel K F1 (orA P Y) S2 env2 σ2 H2 → H2 a = some (.frz od u) ∧ Rel K F P (un S2) env2 σ2 (upd H2 a u)
  A0 : F1.A0 = F.A0
  own : ∀ (P : Addr → Prop) (S2 : List Sta) (env2 : Env) (σ2 : L2.St) (H2 : Hp), (∀ b, Y b → ¬ P b) → Rel K F1 (orA P Y) S2 env2 σ2 H2 → ∀ b, OwnA (un S2) σ2 b → OwnA S2 σ2 b ∨ Y b
  H0 : ∀ p, F1.H0 p = none → F.H0 p = none
  pinned : F1.H0 a ≠ none
theorem lock_walk {t : Nat} {kvs : List (EV × EV)} (R : Rel K F E S env σ H) (hs : S[i]? ≠ some .N) (hl : i < S.length) (hx : env[i]? = some (some (.dct t kvs))) :
    ∃ a u, σ[i]? = some (some (.ref a)) ∧ H a = some u ∧ ((∃ o w, u = .frz o w) ∨ (openD u ∧ ∀ od, ∃ F1 Y, Rel K F1 (orA E Y) (bor1 S (.var i)) env σ (upd H a (.frz od u)) ∧ ExitL K F1 F Y (unb1 S (.var i)) a od u ∧ ∀ b, Y b → OwnA S σ b)) := by
  obtain ⟨v, h1, ao⟩ := argOk_var R hs hl hx
  have rd : ∀ {A : Addr → Prop} {a}, RepC K H A a (.dct t kvs) → ∃ u, H a = some u ∧ ((∃ o w, u = .frz o w) ∨ openD u) := fun {A a} r => by
    rcases r with ⟨_, kv, (h | ⟨o, h⟩), _⟩ | ⟨_, kv, (h | ⟨o, h⟩), _⟩
    · exact ⟨_, h, .inr trivial⟩
    · exact ⟨_, h, .inl ⟨_, _, rfl⟩⟩
    · exact ⟨_, h, .inr trivial⟩
    · exact ⟨_, h, .inl ⟨_, _, rfl⟩⟩
  rcases ao with ⟨j, st, a, ej, hi, ho, ha, hx', rfl⟩ | ⟨r, b1, b2⟩ | ⟨_, ⟨a, rfl, r, n⟩, b1, b2⟩
  · cases ej
    obtain ⟨j', st', y, q1, q2, q3, q4, q5, q6, w1, w2, w3⟩ := R.own_at ⟨i, st, hi, ho, ha⟩
    have : i = j' := by
      by_cases e : i = j'
      · exact e
      · exact absurd q3 (R.uniq i j' a st st' e hi ho q1 (.inl q2) ha)
    subst this
    rw [hx] at q4
    cases q4
    obtain ⟨u, hu, hq⟩ := rd q6
    refine ⟨a, u, ha, hu, ?_⟩
    rcases hq with ⟨o, w, rfl⟩ | hq
    · rw [hu] at w2; cases w2; exact absurd rfl (w3 _ _)
    refine .inr ⟨hq, fun od => ?_⟩
    obtain ⟨e1, e2⟩ := bor_own hi ho
    have R1 := R.lend hi ho ha
    have R2 := R1.lockIn (od := od) hu hq (R1.eD a (.inr rfl))
    rw [e1, e2]
    have go : ∀ (P : Addr → Prop) (S2 : List Sta) (env2 : Env) (σ2 : L2.St) (H2 : Hp), Rel K (pinF (fixF F (S.set i .B) env σ) a (.frz od u) []) (orA P fun b => b = a) S2 env2 σ2 H2 → H2 a = some (.frz od u) ∧ Rel K (fixF F (S.set i .B) env σ) (plusA P a) S2 env2 σ2 (upd H2 a u) := fun P S2 env2 σ2 H2 R3 => R1.lockOut hu hq R3
    refine ⟨_, fun b => b = a, R2, ⟨fun P S2 env2 σ2 H2 hp R3 => ?_, rfl, fun P S2 env2 σ2 H2 hp R3 b q => ?_, fun p q => pin_H0 (F := fixF F (S.set i .B) env σ) (kps := []) q, by show upd _ a _ a ≠ none; rw [upd_same]; simp⟩, fun b e => by rw [e]; exact ⟨i, st, hi, ho, ha⟩⟩
    · obtain ⟨k1, k2⟩ := go P S2 env2 σ2 H2 R3
      exact ⟨k1, R.back hi ho ha k2 ⟨u, upd_same, hq.nf⟩ (hp a rfl)⟩
    · obtain ⟨k1, R4⟩ := go P S2 env2 σ2 H2 R3
      obtain ⟨p, hp', e⟩ := R1.bx i (List.getElem?_set_self (get_lt hi))
      obtain ⟨f1, f2, f3⟩ := R4.fix p hp'
      obtain ⟨g1, g2, g3⟩ := R1.fix p hp'
      rw [e, ha] at g2
      cases g2
      obtain ⟨j, st', k1, k2, k3⟩ := q
      rcases set_get k1 with ⟨ej, _⟩ | ⟨_, k1⟩
      · subst ej
        rw [e] at f2
        rw [f2] at k3
        cases k3
        exact .inr rfl
      · exact .inl ⟨j, st', k1, k2, k3⟩
  · obtain ⟨a, rfl, na, rc⟩ := (rep_con rfl).mp r
    obtain ⟨u, hu, hq⟩ := rd rc
    refine ⟨a, u, h1, hu, hq.imp id fun hq => ⟨hq, fun od => ?_⟩⟩
    have no : ¬ OwnA S σ a := fun z => na (.inr (.inr z))
    have R2 := R.lockIn (od := od) hu hq no
    rw [b1, b2]
    refine ⟨_, fun _ => False, R2.lessE fun b q => q.elim id False.elim, ⟨fun P S2 env2 σ2 H2 _ R3 => R.lockOut hu hq (R3.lessE fun b q => .inl q), rfl, fun P S2 env2 σ2 H2 _ _ b q => .inl q, fun p q => pin_H0 q, by show upd _ a _ a ≠ none; rw [upd_same]; simp⟩, fun b h => h.elim⟩
  · obtain ⟨u, hu, hq⟩ := rd r
    refine ⟨a, u, h1, hu, hq.imp id fun hq => ⟨hq, fun od => ?_⟩⟩
    have R2 := R.lockIn (od := od) hu hq n
    rw [b1, b2]
    refine ⟨_, fun _ => False, R2.lessE fun b q => q.elim id False.elim, ⟨fun P S2 env2 σ2 H2 _ R3 => R.lockOut hu hq (R3.lessE fun b q => .inl q), rfl, fun P S2 env2 σ2 H2 _ _ b q => .inl q, fun p q => pin_H0 q, by show upd _ a _ a ≠ none; rw [upd_same]; simp⟩, fun b h => h.elim⟩
end
section
variable {G : Glob} {S : List Sta} {X : Cx} {ex : Expr} {ifs it : List CE} {e : CE} {p : Pt} {vs : List Nat} {k : ItK} {i : Nat}
theorem bor1_idem : bor1 (bor1 S (.var i)) (.var i) = bor1 S (.var i) := by
  unfold bor1
  simp only
  cases h : S[i]? with
  | none => simp only [h]
  | some st =>
    cases st with
    | O => simp only [List.getElem?_set_self (get_lt h)]
    | I => simp only [List.getElem?_set_self (get_lt h)]
    | _ => simp only [h]
/-- a comprehension's reading: nothing to be locked, or the dict that is walked is locked -/
theorem co_split (hl : ∀ i, it = [.var i] → k = .val → S[i]? ≠ some .N ∧ i < S.length) (hd : k = .val → ∃ i, it = [.var i]) {σ : L2.St} {H : Hp} {Q : VK} (h : tE G S .fr (.comp vs k it p ifs e) σ H Q) :
    tCo G S vs k it p ifs e σ H Q ∨ ∃ i, it = [.var i] ∧ k = .val ∧ tLockE (tCo G (bor1 S (.var i)) vs k it p ifs e) σ H Q := by
  obtain ⟨F, E, env, env', x, R, ee, q⟩ := h
  by_cases hk : k = .val ∧ ∃ i, it = [.var i]
  · obtain ⟨rfl, i, rfl⟩ := hk
    obtain ⟨hs, hlt⟩ := hl i rfl rfl
    by_cases hx : ∃ t kvs, env[i]? = some (some (.dct t kvs))
    · obtain ⟨t, kvs, hx⟩ := hx
      obtain ⟨a, u, ha, hu, hq⟩ := lock_walk R hs hlt hx
      rcases hq with ⟨o, w, rfl⟩ | ⟨hq, hw⟩
      · exact .inl ⟨F, E, env, env', x, R, ee, fun _ _ _ _ _ _ _ _ _ => ⟨i, a, o, w, rfl, ha, hu⟩, q⟩
      · refine .inr ⟨i, rfl, rfl, a, u, hu, hq.mut, fun od => ?_⟩
        obtain ⟨F1, Y, R1, ex, hy⟩ := hw od
        refine ⟨F1, orA E Y, env, env', x, R1, ee, fun _ _ _ _ _ _ _ _ _ => ⟨i, a, od, u, rfl, ha, upd_same⟩, fun v H' ⟨st, po⟩ => ?_⟩
        have hYE : ∀ b, Y b → ¬ E b := fun b hb z => R.eD b z (hy b hb)
        have wsub : ∀ b, WA (mu (.comp vs .val [.var i] p ifs e)) (bor1 S (.var i)) σ b → WA (mu (.comp vs .val [.var i] p ifs e)) S σ b := fun b ⟨j, hj, st, q1, q2, q3⟩ => ⟨j, hj, st, own_borS (it := [.var i]) q2 q1, q2, q3⟩
        have stp : ∀ (hp : H' a = some (.frz od u)), Step (WA (mu (.comp vs .val [.var i] p ifs e)) S σ) H (upd H' a u) := fun hp => by
          refine ⟨fun b ob nb hb => ?_, fun b hb => ?_, fun b w hb => ?_⟩
          · by_cases eb : b = a
            · subst eb; rw [upd_same, ← hu]; exact hb
            · rw [upd_ne eb]
              exact st.kp b ob (fun z => nb (wsub b z)) (by rw [upd_ne eb]; exact hb)
          · by_cases eb : b = a
            · subst eb; rw [upd_same]; simp
            · rw [upd_ne eb]
              exact st.lv b (by rw [upd_ne eb]; exact hb)
          · by_cases eb : b = a
            · subst eb; rw [hu] at hb; cases hb; cases hq
            · rw [upd_ne eb]
              exact st.tup b w (by rw [upd_ne eb]; exact hb)
        rcases po with ⟨hc, _, _⟩ | ⟨hc, pp, rfl, hpn, hwr, R2, rc⟩
        · obtain ⟨ws, env1, xs, ys, s2, e1, e2, e3, e4, rfl, rfl⟩ := ev_comp ee
          cases hc
        have pa : pp ≠ a := fun z => by subst z; rw [upd_same] at hpn; cases hpn
        have pY : ∀ b, Y b → ¬ plusA E pp b := fun b hb z => by
          rcases z with z | z
          · exact hYE b hb z
          · subst z
            exact R1.av_tracked (.inr (.inl (.inr hb))) hpn
        have R2' : Rel G.K F1 (orA (plusA E pp) Y) (bor1 S (.var i)) env' σ H' := R2.lessE fun b z => by
          rcases z with (z | z) | z
          · exact .inl (.inl z)
          · exact .inr z
          · exact .inl (.inr z)
        obtain ⟨hp, R3⟩ := ex.run (plusA E pp) _ _ _ _ pY R2'
        rw [unb_bor] at R3
        obtain ⟨kp, rd⟩ := keep_swap (A := Av F1 (plusA (orA E Y) pp) (bor1 S (.var i)) σ) hp hq.isDf (u := u) frz_from
        refine ⟨hp, q _ _ ⟨stp hp, .inr ⟨hc, pp, rfl, ?_, ?_, R3, ?_⟩⟩⟩
        · rw [upd_ne pa] at hpn; exact hpn
        · obtain ⟨w, w1, w2⟩ := hwr
          exact ⟨w, by rw [upd_ne pa]; exact w1, w2⟩
        · refine rc.mono' kp (fun b n _ z => n ?_) (fun vs q => by rw [upd_ne pa]; exact q) fun w nf q => rd pp w nf q
          rcases z with z | (z | z) | z
          · exact .inl (by rw [ex.A0]; exact z)
          · exact .inr (.inl (.inl (.inl z)))
          · exact .inr (.inl (.inr z))
          · rcases ex.own (plusA E pp) _ _ _ _ pY R2' b (by rw [unb_bor]; exact z) with z | z
            · exact .inr (.inr z)
            · exact .inr (.inl (.inl (.inr z)))
    · refine .inl ⟨F, E, env, env', x, R, ee, fun ws s1 hw y _ hy t kvs hyd => ?_, q⟩
      obtain ⟨y', h3, h4⟩ := evs_one hw
      rw [hy] at h4
      cases h4
      rw [ev] at h3
      split at h3
      · rename_i z ez
        cases h3
        exact absurd ⟨t, kvs, by rw [ez, hyd]⟩ hx
      · cases h3
  · refine .inl ⟨F, E, env, env', x, R, ee, fun ws s1 hw y hk2 hy t kvs hyd => ?_, q⟩
    obtain ⟨i, hi⟩ := hd hk2
    exact absurd ⟨hk2, i, hi⟩ hk
/-- any walk; h: as the statuses stand, or as they stand while the one thing is lent -/
theorem comp_all (h : PE X ex (tCo G S vs k it p ifs e)) (hl : ∀ i, it = [.var i] → k = .val → S[i]? ≠ some .N ∧ i < S.length ∧ PE X ex (tCo G (bor1 S (.var i)) vs k it p ifs e)) (hd : k = .val → ∃ i, it = [.var i]) (m : Md) : PE X ex (tE G S m (.comp vs k it p ifs e)) := by
  refine all_of ⟨fun pins s σ H Q I h0 => ?_⟩ m
  rcases co_split (fun i h1 h2 => ⟨(hl i h1 h2).1, (hl i h1 h2).2.1⟩) hd h0 with h1 | ⟨i, h1, h2, h3⟩
  · exact h.run pins s σ H Q I h1
  · exact (pe_lock (hl i h1 h2).2.2).run pins s σ H Q I h3
/-- .. as a statement stores it -/
theorem comp_all_ps {st : Stmt} {g : TG} (hg : ∃ j, g = gName j) (h : PS X st (tAsg (tCo G S vs k it p ifs e) g)) (hl : ∀ i, it = [.var i] → k = .val → S[i]? ≠ some .N ∧ i < S.length ∧ PS X st (tAsg (tCo G (bor1 S (.var i)) vs k it p ifs e) g)) (hd : k = .val → ∃ i, it = [.var i]) : PS X st (tAsg (tE G S .fr (.comp vs k it p ifs e)) g) := by
  obtain ⟨j, rfl⟩ := hg
  refine ⟨fun pins s σ H D I h0 => ?_⟩
  rcases co_split (fun i h1 h2 => ⟨(hl i h1 h2).1, (hl i h1 h2).2.1⟩) hd h0 with h1 | ⟨i, h1, h2, h3⟩
  · exact h.run pins s σ H D I h1
  · exact (ps_lock (hl i h1 h2).2.2).run pins s σ H D I h3
end
end Ev
end

section
set_option Elab.async false
set_option linter.all false
set_option maxRecDepth 100000
set_option maxHeartbeats 4000000
/-! EvY: calls of the module's own defs. -/
namespace Ev
open PySem PySem.Spec PyProof.Rows L2
section
variable {K : PySem.W.Frag} {F : Frm} {E E' : Addr → Prop} {S : List Sta} {env env' : Env} {σ : L2.St} {H H' : Hp} {A : Addr → Prop} {a p : Addr} {x : EV} {v : V} {i : Nat} {l : List Nat}
/-- own things have been written -/
theorem Rel.after (R : Rel K F E S env σ H) (st : Step (WA l S σ) H H') (h1 : ∀ a, E a → E' a) (h2 : ∀ a, E' a → E a ∨ H a = none) (h3 : ∀ a, E' a → H' a ≠ none) (hlen : env'.length = env.length) (hsame : ∀ j, j ∉ l → env'[j]? = env[j]?)
    (hl : ∀ j ∈ l, ∃ st, S[j]? = some st ∧ st.own = true)
    (hnew : ∀ j ∈ l, ∀ st a, S[j]? = some st → st.own = true → σ[j]? = some (some (.ref a)) → ∃ x', env'[j]? = some (some x') ∧ x'.isCon = true ∧ RepC K H' (Av F E' S σ) a x' ∧ Wr H' a) : Rel K F E' S env' σ H' := by
  have kp : Keep (Av F E S σ) H H' := st.keep fun _ q => q.av
  have hA : ∀ b, ¬ Av F E S σ b → H b ≠ none → ¬ Av F E' S σ b := fun b n t q => by
    rcases q with q | q | q
    · exact n (.inl q)
    · rcases h2 b q with z | z
      · exact n (.inr (.inl z))
      · exact t z
    · exact n (.inr (.inr q))
  refine ⟨hlen.trans R.le, R.ls, fun j sj hj => ?_, R.uniq, fun b ob hb nm => ?_, fun b hb => st.lv b (R.live b hb), R.a0, R.m0, h3, fun b hb q => ?_, R.fresh, R.inn, fun p hp => (R.kept p hp).mono kp hA, fun p hp => ?_, R.ios, R.bx, R.ioa⟩
  · obtain ⟨e, v, e1, e2, ok⟩ := R.slot j sj hj
    by_cases hm : j ∈ l
    · obtain ⟨s', q1, q2⟩ := hl j hm
      rw [hj] at q1
      cases q1
      have hx : ∃ a, v = some (.ref a) := by
        cases sj with
        | O => obtain ⟨y, a, _, h, _⟩ := ok; exact ⟨a, h⟩
        | I => obtain ⟨y, a, _, h, _⟩ := ok; exact ⟨a, h⟩
        | _ => cases q2
      obtain ⟨a, rfl⟩ := hx
      obtain ⟨x', k1, k2, k3, k4⟩ := hnew j hm sj a hj q2 e2
      refine ⟨_, _, k1, e2, ?_⟩
      cases sj with
      | O => exact ⟨x', a, rfl, rfl, k2, k3, k4⟩
      | I => exact ⟨x', a, rfl, rfl, k2, k3, k4⟩
      | _ => cases q2
    · refine ⟨e, v, by rw [hsame j hm]; exact e1, e2, ?_⟩
      have nw : ∀ b, v = some (.ref b) → (sj.own = true ∨ sj = .B) → ¬ WA l S σ b := fun b eb k ⟨j2, hj2, s2, q1, q2, q3⟩ => by
        have ne : j2 ≠ j := fun e => hm (e ▸ hj2)
        exact R.uniq j2 j b s2 sj ne q1 q2 hj k q3 (by rw [e2, eb])
      have cc : ∀ {y : EV} {b : Addr}, ¬ WA l S σ b → RepC K H (Av F E S σ) b y → RepC K H' (Av F E' S σ) b y := fun {y b} nb r =>
        r.mono' kp hA (fun vs q => st.kp b _ nb q) fun u _ q => st.rd nb q
      cases sj with
      | N => trivial
      | S => obtain ⟨y, u, q1, q2, r⟩ := ok; exact ⟨y, u, q1, q2, r.mono kp hA⟩
      | B => obtain ⟨y, b, q1, q2, c, r⟩ := ok; exact ⟨y, b, q1, q2, c, cc (nw b q2 (.inr rfl)) r⟩
      | O => obtain ⟨y, b, q1, q2, c, r, u, w1, w2⟩ := ok; exact ⟨y, b, q1, q2, c, cc (nw b q2 (.inl rfl)) r, u, st.kp b _ (nw b q2 (.inl rfl)) w1, w2⟩
      | I => obtain ⟨y, b, q1, q2, c, r, u, w1, w2⟩ := ok; exact ⟨y, b, q1, q2, c, cc (nw b q2 (.inl rfl)) r, u, st.kp b _ (nw b q2 (.inl rfl)) w1, w2⟩
  · refine st.kp b ob (fun ⟨j, hj, s2, q1, q2, q3⟩ => ?_) (R.pres b ob hb nm)
    cases s2 with
    | O => rw [R.fresh j b q1 q3] at hb; cases hb
    | I => exact nm (R.inn j b q1 q3)
    | _ => cases q2
  · rcases h2 b hb with z | z
    · exact R.eD b z q
    · exact R.av_tracked (.inr (.inr q)) z
  · obtain ⟨f1, f2, f3⟩ := R.fix p hp
    have hm : p.1 ∉ l := fun hm => by
      obtain ⟨s', q1, q2⟩ := hl _ hm
      rw [f1] at q1; cases q1; cases q2
    exact ⟨f1, f2, by rw [hsame _ hm]; exact f3⟩
end
/-- how arguments stand -/
inductive ArgR (K : PySem.W.Frag) (H : Hp) (A : Addr → Prop) (S : List Sta) (σ : L2.St) : List Nat → List (Option Nat) → List CE → List V → List EV → Prop
  | nil : ArgR K H A S σ [] [] [] [] []
  | sh {ms md c cs v vs x xs} : Rep K H A v x → ArgR K H A S σ ms md cs vs xs → ArgR K H A S σ (0 :: ms) (none :: md) (c :: cs) (v :: vs) (x :: xs)
  | pk {ms md c cs v vs x xs} : RepP K H A v x → Safe (pv c) S σ v x → ArgR K H A S σ ms md cs vs xs → ArgR K H A S σ (1 :: ms) (none :: md) (c :: cs) (v :: vs) (x :: xs)
  | io {ms md i c cs v vs x xs} : σ[i]? = some (some v) → ArgR K H A S σ ms md cs vs xs → ArgR K H A S σ (2 :: ms) (some i :: md) (c :: cs) (v :: vs) (x :: xs)
def tAr (G : Glob) (S : List Sta) (ms : List Nat) (md : List (Option Nat)) (cs : List CE) : TA := fun σ H Q => ∃ (F : Frm) (E : Addr → Prop) (env env' : Ev.Env) (xs : List EV),
  Rel G.K F E S env σ H ∧ evs G.cf G.gb cs env = some (xs, env') ∧ ∀ vs H', Step (WA (mus cs) S σ) H H' → Rel G.K F E S env' σ H' → ArgR G.K H' (Av F E S σ) S σ ms md cs vs xs → Q vs H'
section
variable {G : Glob} {S : List Sta} {X : Cx} {e : Expr} {es : List Expr} {c : CE} {cs : List CE} {ms : List Nat} {md : List (Option Nat)} {pos : Pos} {i : Nat}
theorem par_nil : PA X [] (tAr G S [] [] []) := pa_nil.imp fun σ H Q ⟨F, E, env, env', xs, R, ee, q⟩ => by
  cases ee
  exact q [] H .rfl R .nil
theorem par_sh (ha : PE X e (tE G S .sh c)) (hr : PA X es (tAr G S ms md cs)) (hs : notStar e = true) : PA X (e :: es) (tAr G S (0 :: ms) (none :: md) (c :: cs)) :=
  (pa_cons ha hr (starEach_ns hs)).imp fun σ H Q ⟨F, E, env, env', xs, R, ee, q⟩ => by
    obtain ⟨v1, s1, vs1, s2, e1, e2, rfl, rfl⟩ := evs_cons ee
    refine ⟨F, E, env, s1, v1, R, e1, fun v H1 ⟨st1, R1, r1⟩ => ⟨F, E, s1, s2, vs1, R1, e2, fun vs H2 st2 R2 r2 => q (v :: vs) H2 ((st1.mono fun _ z => z.left).trans (st2.mono fun _ z => z.right)) R2 (.sh (st2.stay r1) r2)⟩⟩
theorem par_pk (ha : PE X e (tE G S .pk c)) (hr : PA X es (tAr G S ms md cs)) (hs : notStar e = true) (d : disj (pv c) (mus cs) = true) : PA X (e :: es) (tAr G S (1 :: ms) (none :: md) (c :: cs)) :=
  (pa_cons ha hr (starEach_ns hs)).imp fun σ H Q ⟨F, E, env, env', xs, R, ee, q⟩ => by
    obtain ⟨v1, s1, vs1, s2, e1, e2, rfl, rfl⟩ := evs_cons ee
    refine ⟨F, E, env, s1, v1, R, e1, fun v H1 ⟨st1, R1, r1, a1⟩ => ⟨F, E, s1, s2, vs1, R1, e2, fun vs H2 st2 R2 r2 => q (v :: vs) H2 ((st1.mono fun _ z => z.left).trans (st2.mono fun _ z => z.right)) R2 (.pk (R1.pend r1 a1 st2 d) a1 r2)⟩⟩
theorem par_io {st : Sta} (ha : PE X e (tVar i)) (hi : S[i]? = some st) (ho : st.own = true) (hr : PA X es (tAr G S ms md cs)) (hs : notStar e = true) : PA X (e :: es) (tAr G S (2 :: ms) (some i :: md) (.var i :: cs)) :=
  (pa_cons ha hr (starEach_ns hs)).imp fun σ H Q ⟨F, E, env, env', xs, R, ee, q⟩ => by
    obtain ⟨v1, s1, vs1, s2, e1, e2, rfl, rfl⟩ := evs_cons ee
    rw [ev] at e1
    split at e1
    · cases e1
      obtain ⟨_, w, k1, k2, ok⟩ := R.slot i st hi
      have hw : ∃ v, w = some v := by
        cases st with
        | O => obtain ⟨_, a, _, h, _⟩ := ok; exact ⟨_, h⟩
        | I => obtain ⟨_, a, _, h, _⟩ := ok; exact ⟨_, h⟩
        | _ => cases ho
      obtain ⟨v, rfl⟩ := hw
      exact ⟨v, k2, F, E, _, s2, vs1, R, e2, fun vs H2 st2 R2 r2 => q (v :: vs) H2 (st2.mono fun _ z => z.right) R2 (.io k2 r2)⟩
    · cases e1
end
/-! ### what a def promises -/
/-- arguments as a callee finds them; M: what it may write -/
inductive ArgC (K : PySem.W.Frag) (H : Hp) (A : Addr → Prop) (M : Addr → Prop) : List Nat → List V → List EV → Prop
  | nil : ArgC K H A M [] [] []
  | sh {ms v vs x xs} : Rep K H A v x → ArgC K H A M ms vs xs → ArgC K H A M (0 :: ms) (v :: vs) (x :: xs)
  | pk {ms a vs x xs} : x.isCon = true → RepC K H A a x → ¬ M a → ArgC K H A M ms vs xs → ArgC K H A M (1 :: ms) (.ref a :: vs) (x :: xs)
  | io {ms a vs x xs} : x.isCon = true → RepC K H A a x → Wr H a → M a → (∀ i : Nat, ms[i]? = some 2 → vs[i]? ≠ some (.ref a)) → ArgC K H A M ms vs xs → ArgC K H A M (2 :: ms) (.ref a :: vs) (x :: xs)
/-- what is handed in and out, behind the call -/
inductive OutC (K : PySem.W.Frag) (H : Hp) (A : Addr → Prop) : List Nat → List V → List EV → Prop
  | nil : OutC K H A [] [] []
  | sh {ms m v vs xs} : m ≠ 2 → OutC K H A ms vs xs → OutC K H A (m :: ms) (v :: vs) xs
  | io {ms a vs x xs} : x.isCon = true → RepC K H A a x → Wr H a → OutC K H A ms vs xs → OutC K H A (2 :: ms) (.ref a :: vs) (x :: xs)
def CallPost (K : PySem.W.Frag) (fr : Bool) (ms : List Nat) (A M : Addr → Prop) (H : Hp) (us : List V) (x : EV) (os : List EV) (v : V) (H' : Hp) : Prop :=
  Step M H H' ∧ ((x.isCon = true ∧ fr = true ∧ ∃ p, v = .ref p ∧ H p = none ∧ Wr H' p ∧ RepC K H' (orA A (· = p)) p x ∧ OutC K H' (orA A (· = p)) ms us os) ∨
    ((fr = true → x.isCon = false) ∧ Rep K H' A v x ∧ OutC K H' A ms us os))
def spE (K : PySem.W.Frag) (cf : Cf) (sg : Nat → Option Sig) (f : Nat) : Sp := fun us H Q _ => ∃ (s : Sig) (A M : Addr → Prop) (xs : List EV) (x : EV) (os : List EV), sg f = some s ∧ cf f xs = some (x, os) ∧ ArgC K H A M s.md us xs ∧
  (∀ a, M a → A a) ∧ (∀ a, A a → H a ≠ none) ∧ (∀ a, M a → ∃ i : Nat, s.md[i]? = some 2 ∧ us[i]? = some (.ref a)) ∧ ∀ v H', CallPost K s.fr s.md A M H us x os v H' → Q v H'
theorem nodupB_iff : ∀ {l : List Nat}, nodupB l = true → l.Nodup
  | [], _ => List.nodup_nil
  | a :: r, h => by
    unfold nodupB at h
    simp only [Bool.and_eq_true, Bool.not_eq_true', List.contains_eq_mem, decide_eq_false_iff_not] at h
    exact List.nodup_cons.mpr ⟨h.1, nodupB_iff h.2⟩
section
variable {K : PySem.W.Frag} {F : Frm} {E E' : Addr → Prop} {S : List Sta} {env env' : Env} {σ : L2.St} {H H' : Hp} {A : Addr → Prop} {L : List Nat} {sg : Nat → Option Sig}
theorem argR_io {ms : List Nat} {md : List (Option Nat)} {cs : List CE} {vs : List V} {xs : List EV} (h : ArgR K H A S σ ms md cs vs xs) : ∀ i : Nat, ms[i]? = some 2 → ∃ j, j ∈ somes md ∧ σ[j]? = some (vs[i]?) := by
  induction h with
  | nil => intro i h; simp at h
  | sh _ _ ih =>
    intro i h
    cases i with
    | zero => simp at h
    | succ i =>
      obtain ⟨j, h1, h2⟩ := ih i (by simpa using h)
      exact ⟨j, h1, by simpa using h2⟩
  | pk _ _ _ ih =>
    intro i h
    cases i with
    | zero => simp at h
    | succ i =>
      obtain ⟨j, h1, h2⟩ := ih i (by simpa using h)
      exact ⟨j, h1, by simpa using h2⟩
  | @io ms md i c cs v vs x xs hs _ ih =>
    intro k h
    cases k with
    | zero => exact ⟨i, by simp [somes], by simpa using hs⟩
    | succ k =>
      obtain ⟨j, h1, h2⟩ := ih k (by simpa using h)
      exact ⟨j, by simp [somes, h1], by simpa using h2⟩
theorem okArgs_own {ms : List Nat} {md : List (Option Nat)} {cs : List CE} (h : okArgs sg L ms md cs S = true) : ∀ j ∈ somes md, ∃ st, S[j]? = some st ∧ st.own = true := by
  induction ms generalizing md cs with
  | nil =>
    intro j hj
    cases md with
    | nil => cases hj
    | cons _ _ => unfold okArgs at h; cases h
  | cons m ms ih =>
    intro j hj
    unfold okArgs at h
    split at h
    · cases hj
    · rename_i h1; cases h1
      simp only [Bool.and_eq_true] at h
      exact ih h.2 j hj
    · rename_i h1; cases h1
      simp only [Bool.and_eq_true] at h
      exact ih h.2 j hj
    · rename_i h1; cases h1
      simp only [Bool.and_eq_true] at h
      rcases List.mem_cons.mp hj with e | hj
      · subst e
        have := h.1.2
        split at this
        · rename_i q; exact ⟨_, q, rfl⟩
        · rename_i q; exact ⟨_, q, rfl⟩
        · cases this
      · exact ih h.2 j hj
    · cases h
theorem argC_of {ms : List Nat} {md : List (Option Nat)} {cs : List CE} {vs : List V} {xs : List EV} (R : Rel K F E S env σ H) (h : ArgR K H (Av F E S σ) S σ ms md cs vs xs) (hc : chkE ms (reload md xs env) = true) (ok : okArgs sg L ms md cs S = true) (hL : ∀ j ∈ somes md, j ∈ L) (nd : (somes md).Nodup)
    (hown : ∀ j ∈ L, ∃ st, S[j]? = some st ∧ st.own = true) : ArgC K H (Av F E S σ) (WA L S σ) ms vs (reload md xs env) := by
  induction h with
  | nil => exact .nil
  | sh r _ ih =>
    unfold okArgs at ok
    simp only [Bool.and_eq_true] at ok
    rw [reload, chkE] at hc
    simp only [Bool.and_eq_true] at hc
    rw [reload]
    exact .sh r (ih hc.2 ok.2 hL nd)
  | pk r sf _ ih =>
    unfold okArgs at ok
    simp only [Bool.and_eq_true] at ok
    rw [reload, chkE] at hc
    simp only [Bool.and_eq_true, Bool.or_eq_true] at hc
    rw [reload]
    have con := hc.1.resolve_left (by decide)
    rcases r with ⟨_, a, rfl, rc⟩ | ⟨n, _⟩
    · refine .pk con rc (fun w => ?_) (ih hc.2 ok.2 hL nd)
      obtain ⟨i, hi, st, k1, k2, k3⟩ := sf con a rfl w.own
      obtain ⟨j, hj, st', q1, q2, q3⟩ := w
      have ne : i ≠ j := fun e => by
        subst e
        exact disj_iff.mp ok.1.2 i hi (List.mem_append_right _ hj)
      exact R.uniq i j a st st' ne k1 k2 q1 (.inl q2) k3 q3
    · rw [con] at n; cases n
  | @io ms md i c cs v vs x xs hs rr ih =>
    unfold okArgs at ok
    simp only [Bool.and_eq_true] at ok
    obtain ⟨st, h1, h2⟩ := hown i (hL i (by simp [somes]))
    obtain ⟨e, w, k1, k2, ok2⟩ := R.slot i st h1
    rw [hs] at k2
    cases k2
    have hx : ∃ y a, e = some y ∧ v = .ref a ∧ y.isCon = true ∧ RepC K H (Av F E S σ) a y ∧ Wr H a := by
      cases st with
      | O => obtain ⟨y, a, q1, q2, q3⟩ := ok2; cases q2; exact ⟨y, a, q1, rfl, q3⟩
      | I => obtain ⟨y, a, q1, q2, q3⟩ := ok2; cases q2; exact ⟨y, a, q1, rfl, q3⟩
      | _ => cases h2
    obtain ⟨y, a, rfl, rfl, hcn, rc, wr⟩ := hx
    have hre : reload (some i :: md) (x :: xs) env = y :: reload md xs env := by rw [reload, k1]
    rw [hre] at hc ⊢
    rw [chkE] at hc
    simp only [Bool.and_eq_true] at hc
    have nd' : i ∉ somes md ∧ (somes md).Nodup := by
      have : somes (some i :: md) = i :: somes md := rfl
      rw [this] at nd
      exact List.nodup_cons.mp nd
    refine .io hcn rc wr ⟨i, hL i (by simp [somes]), st, h1, h2, hs⟩ (fun j hj => ?_) (ih hc.2 ok.2 (fun j hj => hL j (by simp [somes, hj])) nd'.2)
    obtain ⟨j', q1, q2⟩ := argR_io rr j hj
    intro e
    rw [e] at q2
    obtain ⟨st', z1, z2⟩ := hown j' (hL j' (by simp [somes, q1]))
    have ne : i ≠ j' := fun e => nd'.1 (e ▸ q1)
    exact R.uniq i j' a st st' ne h1 h2 z1 (.inl z2) hs q2
theorem outs_len {md : List (Option Nat)} : ∀ {os : List EV} {env : Env}, (outs md os env).length = env.length := by
  induction md with
  | nil => intro os env; rfl
  | cons m md ih =>
    intro os env
    cases m with
    | none => rw [outs]; exact ih
    | some i =>
      cases os with
      | nil => rw [outs]
      | cons o os => rw [outs, ih, List.length_set]
theorem outs_ne {md : List (Option Nat)} {j : Nat} (hj : j ∉ somes md) : ∀ {os : List EV} {env : Env}, (outs md os env)[j]? = env[j]? := by
  induction md with
  | nil => intro os env; rfl
  | cons m md ih =>
    intro os env
    cases m with
    | none => rw [outs]; exact ih hj
    | some i =>
      have h : j ≠ i ∧ j ∉ somes md := by simpa [somes] using hj
      cases os with
      | nil => rw [outs]
      | cons o os =>
        rw [outs]
        rw [ih h.2, List.getElem?_set_ne (fun e => h.1 e.symm)]
theorem outs_new {A' : Addr → Prop} {ms : List Nat} {md : List (Option Nat)} {cs : List CE} {vs : List V} {xs : List EV} {os : List EV} (h : ArgR K H A S σ ms md cs vs xs) (nd : (somes md).Nodup) (ho : OutC K H' A' ms vs os) : ∀ (env : Env) (j : Nat), j ∈ somes md → j < env.length →
    ∃ a x', σ[j]? = some (some (.ref a)) ∧ (outs md os env)[j]? = some (some x') ∧ x'.isCon = true ∧ RepC K H' A' a x' ∧ Wr H' a := by
  induction h generalizing os with
  | nil => intro env j hj; cases hj
  | sh _ _ ih =>
    intro env j hj hl
    cases ho with
    | sh _ ho => rw [outs]; exact ih nd ho env j hj hl
  | pk _ _ _ ih =>
    intro env j hj hl
    cases ho with
    | sh _ ho => rw [outs]; exact ih nd ho env j hj hl
  | @io ms md i c cs v vs x xs hs rr ih =>
    intro env j hj hl
    have nd' : i ∉ somes md ∧ (somes md).Nodup := by
      have : somes (some i :: md) = i :: somes md := rfl
      rw [this] at nd
      exact List.nodup_cons.mp nd
    cases ho with
    | sh n _ => exact absurd rfl n
    | io c1 r1 w1 ho =>
      rename_i x' xs'
      rw [outs]
      rcases List.mem_cons.mp hj with e | hj
      · subst e
        refine ⟨_, x', hs, ?_, c1, r1, w1⟩
        rw [outs_ne nd'.1]
        exact List.getElem?_set_self hl
      · exact ih nd'.2 ho _ j hj (by rw [List.length_set]; exact hl)
end
end Ev
end

section
set_option Elab.async false
set_option linter.all false
set_option maxRecDepth 100000
set_option maxHeartbeats 4000000
/-! EvZ: a call of a def, read. -/
namespace Ev
open PySem PySem.Spec PyProof.Rows L2
section
variable {G : Glob} {S : List Sta} {X : Cx} {e : Expr} {es : List Expr} {cs : List CE} {md : List (Option Nat)} {pos p : Pos} {k f : Nat} {a : Addr} {fd : FuncData} {ps : List Str} {x : Str} {s : Sig} {m : Md}
/-- the call's end, at the caller -/
theorem call_end {F : Frm} {E : Addr → Prop} {env1 : Ev.Env} {σ : L2.St} {H0 H H' : Hp} {us : List V} {xs os : List EV} {r : EV} {v : V} (R : Rel G.K F E S env1 σ H) (st0 : Step (WA (mus cs) S σ) H0 H) (ar : ArgR G.K H (Av F E S σ) S σ s.md md cs us xs) (ok : okArgs G.sg (somes md) s.md md cs S = true) (nd : nodupB (somes md) = true)
    (cp : CallPost G.K s.fr s.md (Av F E S σ) (WA (somes md) S σ) H us r os v H') :
    Step (WA (mu (.call f md cs)) S σ) H0 H' ∧ ((r.isCon = true ∧ s.fr = true ∧ ∃ p, v = .ref p ∧ H0 p = none ∧ Wr H' p ∧ Rel G.K F (plusA E p) S (outs md os env1) σ H' ∧ RepC G.K H' (Av F (plusA E p) S σ) p r) ∨
      ((s.fr = true → r.isCon = false) ∧ Rel G.K F E S (outs md os env1) σ H' ∧ Rep G.K H' (Av F E S σ) v r)) := by
  have ndp := nodupB_iff nd
  have own := okArgs_own ok
  obtain ⟨st, cp⟩ := cp
  have hmu : mu (.call f md cs) = mus cs ++ somes md := by rw [mu]
  refine ⟨by rw [hmu]; exact (st0.mono fun _ z => z.left).trans (st.mono fun _ z => z.right), ?_⟩
  have lt : ∀ j ∈ somes md, j < env1.length := fun j hj => by
    obtain ⟨t, h1, _⟩ := own j hj
    have := R.le
    have := get_lt h1
    omega
  rcases cp with ⟨hc, hf, p, rfl, hp, wr, rc, oc⟩ | ⟨hc, rp, oc⟩
  · refine .inl ⟨hc, hf, p, rfl, ?_, wr, ?_, ?_⟩
    · cases z : H0 p with
      | none => rfl
      | some w => exact absurd hp (st0.lv p (by rw [z]; simp))
    · have pl : ∀ a, plusA E p a → H' a ≠ none := fun b hb => by
        rcases hb with hb | rfl
        · exact st.lv b (R.eT b hb)
        · exact rc.tracked
      refine R.after st (fun a h => .inl h) (fun a h => h.imp id fun e => by rw [e]; exact hp) pl outs_len (fun j hj => outs_ne hj) own fun j hj t a h1 h2 h3 => ?_
      obtain ⟨a', x', q1, q2, q3, q4, q5⟩ := outs_new ar ndp oc env1 j hj (lt j hj)
      rw [h3] at q1
      cases q1
      refine ⟨x', q2, q3, q4.mono' .rfl (fun b n _ z => n ?_) (fun _ q => q) (fun _ _ q => q), q5⟩
      rcases z with z | (z | z) | z
      · exact .inl (.inl z)
      · exact .inl (.inr (.inl z))
      · exact .inr z
      · exact .inl (.inr (.inr z))
    · refine rc.mono' .rfl (fun b n _ z => n ?_) (fun _ q => q) (fun _ _ q => q)
      rcases z with z | (z | z) | z
      · exact .inl (.inl z)
      · exact .inl (.inr (.inl z))
      · exact .inr z
      · exact .inl (.inr (.inr z))
  · refine .inr ⟨hc, ?_, rp⟩
    refine R.after st (fun a h => h) (fun a h => .inl h) (fun a h => st.lv a (R.eT a h)) outs_len (fun j hj => outs_ne hj) own fun j hj t a h1 h2 h3 => ?_
    obtain ⟨a', x', q1, q2, q3, q4, q5⟩ := outs_new ar ndp oc env1 j hj (lt j hj)
    rw [h3] at q1
    cases q1
    exact ⟨x', q2, q3, q4, q5⟩
theorem ex_call (fs : G.sg f = some s) (Fn : FnOk X.prog X.w X.K X.mg X.base CX0 k a fd ps (spE G.K G.cf G.sg f)) (hr : Room k X.A) (hg : Gl X x) (hm : X.mg x = some (.ref a)) (hk : PySem.W.keepIn X.K (.ref a) = true) (hb : Binds X.K fd ps [])
    (hchk : ∀ xs r, G.cf f xs = some r → chkE s.md xs = true) (ha : PA X es (tAr G S s.md md cs)) (hs : ∀ e' ∈ es, notStar e' = true) (hdb : (x == ("__debug__" : Str)) = false) (ok : okArgs G.sg (somes md) s.md md cs S = true) (nd : nodupB (somes md) = true)
    (hfr : s.fr = true ∨ m ≠ .fr) (hnil : es = [] → cs = []) : PE X (.Call (.Name x p) es [] pos) (tE G S m (.call f md cs)) := by
  have key : PE X (.Call (.Name x p) es [] pos) (tCall (spE G.K G.cf G.sg f) [] E0 (tAr G S s.md md cs)) := by
    cases es with
    | nil =>
      refine (pe_call0 Fn hr hg hm hk hb .nil pass0 hdb).imp fun σ H Q q => ?_
      obtain ⟨F, E, env, env1, xs, R, ee, q⟩ := q
      have hcs := hnil rfl
      subst hcs
      cases ee
      refine q [] H .rfl R ?_
      generalize s.md = ms at ok
      cases ms with
      | nil =>
        cases md with
        | nil => exact .nil
        | cons _ _ => unfold okArgs at ok; cases ok
      | cons m ms =>
        unfold okArgs at ok
        split at ok
        · rename_i h _; cases h
        · rename_i h; cases h
        · rename_i h; cases h
        · rename_i h; cases h
        · cases ok
    | cons e es => exact pe_call Fn hr hg hm hk hb .nil pass0 ha hdb (starEach_ns (hs e (by simp))) (notStar_plain fun e' he => hs e' (by simp [he]))
  have core : ∀ {σ : L2.St} {H : Hp} {Q : VK} {F : Frm} {E : Addr → Prop} {env env' : Ev.Env} {z : EV}, Rel G.K F E S env σ H → ev G.cf G.gb (.call f md cs) env = some (z, env') →
      (∀ v H', Step (WA (mu (.call f md cs)) S σ) H H' → ((z.isCon = true ∧ s.fr = true ∧ ∃ p, v = .ref p ∧ H p = none ∧ Wr H' p ∧ Rel G.K F (plusA E p) S env' σ H' ∧ RepC G.K H' (Av F (plusA E p) S σ) p z) ∨
        ((s.fr = true → z.isCon = false) ∧ Rel G.K F E S env' σ H' ∧ Rep G.K H' (Av F E S σ) v z)) → Q v H') → tCall (spE G.K G.cf G.sg f) [] E0 (tAr G S s.md md cs) σ H Q := fun {σ H Q F E env env' z} R ee q => by
    obtain ⟨vs, env1, os, e1, e2, rfl⟩ := ev_call ee
    refine ⟨F, E, env, env1, vs, R, e1, fun us H1 st R1 ar => ?_⟩
    show spE G.K G.cf G.sg f (us ++ []) H1 Q E0
    rw [List.append_nil]
    have own := okArgs_own ok
    refine ⟨s, Av F E S σ, WA (somes md) S σ, reload md vs env1, z, os, fs, e2, argC_of R1 ar (hchk _ _ e2) ok (fun j h => h) (nodupB_iff nd) own, fun a h => h.av, av_tr R1, fun a h => ?_, fun v H' cp => ?_⟩
    · obtain ⟨j, hj, t, h1, h2, h3⟩ := h
      have : ∀ {ms : List Nat} {md : List (Option Nat)} {cs : List CE} {us : List V} {xs : List EV}, ArgR G.K H1 (Av F E S σ) S σ ms md cs us xs → j ∈ somes md → ∃ i : Nat, ms[i]? = some 2 ∧ us[i]? = some (.ref a) := fun {ms md cs us xs} h hj => by
        induction h with
        | nil => cases hj
        | sh _ _ ih => obtain ⟨i, q1, q2⟩ := ih hj; exact ⟨i + 1, by simpa using q1, by simpa using q2⟩
        | pk _ _ _ ih => obtain ⟨i, q1, q2⟩ := ih hj; exact ⟨i + 1, by simpa using q1, by simpa using q2⟩
        | io hs _ ih =>
          rcases List.mem_cons.mp hj with e | hj
          · subst e
            rw [h3] at hs
            cases hs
            exact ⟨0, rfl, rfl⟩
          · obtain ⟨i, q1, q2⟩ := ih hj; exact ⟨i + 1, by simpa using q1, by simpa using q2⟩
      exact this ar hj
    · obtain ⟨c1, c2⟩ := call_end (f := f) R1 st ar ok nd cp
      exact q v H' c1 c2
  rcases hfr with hfr | hfr
  · refine all_of ⟨fun pins s0 σ H Q I ⟨F, E, env, env', z, R, ee, q⟩ => key.run pins s0 σ H Q I (core R ee fun v H' st po => q v H' ⟨st, ?_⟩)⟩ m
    rcases po with ⟨hc, _, r⟩ | ⟨hc, R1, rp⟩
    · exact .inr ⟨hc, r⟩
    · exact .inl ⟨hc hfr, R1, rp⟩
  · refine all_sh ⟨fun pins s0 σ H Q I ⟨F, E, env, env', z, R, ee, q⟩ => key.run pins s0 σ H Q I (core R ee fun v H' st po => q v H' ⟨st, ?_⟩)⟩ hfr
    rcases po with ⟨hc, _, p, rfl, hp, wr, R1, rc⟩ | ⟨hc, R1, rp⟩
    · have hA : ∀ b, ¬ Av F (plusA E p) S σ b → H' b ≠ none → ¬ Av F E S σ b := fun b n _ q => n (q.imp id (Or.imp .inl id))
      exact ⟨R1.lessE fun _ q => .inl q, (rep_con hc).mpr ⟨p, rfl, R.new_av hp, rc.mono' .rfl hA (fun _ q => q) fun _ _ q => q⟩⟩
    · exact ⟨R1, rp⟩
end
end Ev
end

section
set_option Elab.async false
set_option linter.all false
set_option maxRecDepth 100000
set_option maxHeartbeats 4000000
/-! EwA: every expression that is looked at, read. -/
namespace Ev
open PySem PySem.Spec PyProof.Rows L2
/-- what a frame's text is looked at in -/
structure XOk (G : Glob) (N : List Str) (X : Cx) (sc : Scope) : Prop where
  K : X.K = G.K
  calm : X.calm = true
  hN : X.N = N
  nd : N.Nodup
  hs : X.env.scope = sc
  hu : X.A.units + 100 < cLine
  free : ∀ x, G.free.contains x = true → X.mg x = none
  gl : ∀ g v, G.gb g = some v → ∃ u w, X.mg (G.gname g) = some w ∧ RelV u w ∧ v.isCon = false ∧ ∀ H A, Rep G.K H A u v
  fns : ∀ f s, G.sg f = some s → ∃ k a fd ps, FnOk X.prog X.w X.K X.mg X.base CX0 k a fd ps (spE G.K G.cf G.sg f) ∧ Room k X.A ∧ X.mg (G.fname f) = some (.ref a) ∧ PySem.W.keepIn X.K (.ref a) = true ∧ L2.Binds X.K fd ps []
  chk : ∀ f s xs r, G.sg f = some s → G.cf f xs = some r → chkE s.md xs = true
theorem XOk.blk {G : Glob} {N : List Str} {X : Cx} {sc : Scope} (O : XOk G N X sc) (s : Shared) (H : Hp) (scope : Scope) (C : Addr) (cl : List (Str × Addr)) (fp : List Addr) : XOk G N (X.blk s H scope (compEnvC scope cl C X.env) fp) (relS scope sc) :=
  ⟨O.K, O.calm, O.hN, O.nd, by show relS scope X.env.scope = _; rw [O.hs], O.hu, O.free, O.gl, O.fns, O.chk⟩
section
variable {G : Glob} {N : List Str} {X : Cx} {sc : Scope} {S : List Sta}
theorem blk_loc {s : Shared} {H : Hp} {scope : Scope} {C : Addr} {cl : List (Str × Addr)} {fp : List Addr} : ∀ x, locB scope x = true → Loc (X.blk s H scope (compEnvC scope cl C X.env) fp).env.scope x ∧ ((X.blk s H scope (compEnvC scope cl C X.env) fp).fn x = true ∨ (X.blk s H scope (compEnvC scope cl C X.env) fp).env.scope.names.lookup x = some .local) := fun x h => by
  rcases locB_ok h with h | h
  · have := lookup_relS_keep (sc := X.env.scope) (k := .local) (by decide) h
    exact ⟨.inl this, .inr this⟩
  · have := lookup_relS_keep (sc := X.env.scope) (k := .cell) (by decide) h
    refine ⟨.inr this, .inl ?_⟩
    show (scope.names.lookup x == some .cell) = true
    rw [h]
    rfl
theorem folded {iter : Expr} (h : notSet iter = true) : ∀ x, foldedSetIterable iter X.env x = pure x := fun x => by
  cases iter <;> first | rfl | cases h
theorem disj_nil {l : List Nat} : disj l [] = true := disj_iff.mpr fun _ _ h => by cases h
theorem rngV_reps {K : PySem.W.Frag} {H : Hp} {A : Addr → Prop} {a b : Int} : Reps K H A (rgV a b) (rngL a 1 (b - a).toNat) := by
  unfold rgV
  generalize (b - a).toNat = n
  have : ∀ (n : Nat) (a : Int), Reps K H A ((List.range n).map fun i => V.int (a + (i : Nat))) (rngL a 1 n) := by
    intro n
    induction n with
    | zero => intro a; exact .nil
    | succ n ih =>
      intro a
      rw [List.range_succ_eq_map, List.map_cons, List.map_map, rngL]
      refine .cons (by simpa using Rep.int a) ?_
      have := ih (a + 1)
      have e : (fun i : Nat => V.int (a + (i : Nat))) ∘ Nat.succ = fun i : Nat => V.int (a + 1 + (i : Nat)) := by
        funext i
        show V.int _ = V.int _
        congr 1
        omega
      rw [e]
      exact this
  exact this n a
theorem lim24_ok {a b : Int} (h : lim24 a b = true) : RgOk a b := by
  unfold lim24 lim62 SZ at h
  simp only [Bool.and_eq_true, decide_eq_true_eq] at h
  exact ⟨h.1.1.1, h.1.1.2, h.1.2.1, h.1.2.2, by have := h.2; omega⟩
theorem ex_listR1 {e : Expr} {c : CE} {p p2 pos pos2 : Pos} (O : XOk G N X sc) (hg : glB sc "list" = true) (hg2 : glB sc "range" = true) (hm : G.free.contains "list" = true) (hm2 : G.free.contains "range" = true) (ha : PE X e (tE G S .pk c)) (hs : notStar e = true) :
    PE X (.Call (.Name "list" p) [.Call (.Name "range" p2) [e] [] pos2] [] pos) (tE G S .fr (.bi .listR [c])) :=
  (pe_listRg O.calm (kind_of O.hs hg) (O.free _ hm) (prg_1 (kind_of O.hs hg2) (O.free _ hm2) ha (starEach_ns hs))).imp fun σ H Q ⟨F, E, env, env', x, R, ee, q⟩ => by
    obtain ⟨vs, h1, h2⟩ := ev_bi ee
    obtain ⟨y, h3, rfl⟩ := evs_one h1
    refine ⟨F, E, env, env', y, R, h3, fun v H1 ⟨st, R1, p1, _⟩ => ?_⟩
    cases y with
    | int j =>
      refine ⟨j, p1.int', ?_⟩
      have h2 : (if lim24 0 j then some (.lst (rngL 0 1 (j - 0).toNat)) else none) = some x := h2
      split at h2
      · rename_i hl
        cases h2
        refine ⟨lim24_ok hl, fun p hp => q _ _ (post_rout (H := H) ?_ R1 (rout_lst rngV_reps hp))⟩
        have : mu (.bi .listR [c]) = mu c := by rw [mu, mus_one]
        rw [this]; exact st
      · cases h2
    | _ => cases h2
theorem ex_listR2 {e e2 : Expr} {c c2 : CE} {p p2 pos pos2 : Pos} (O : XOk G N X sc) (hg : glB sc "list" = true) (hg2 : glB sc "range" = true) (hm : G.free.contains "list" = true) (hm2 : G.free.contains "range" = true) (ha : PE X e (tE G S .pk c)) (hb : PE X e2 (tE G S .pk c2)) (d : disj (pv c) (mu c2) = true) (hs : notStar e = true) (hs2 : notStar e2 = true) :
    PE X (.Call (.Name "list" p) [.Call (.Name "range" p2) [e, e2] [] pos2] [] pos) (tE G S .fr (.bi .listR [c, c2])) :=
  (pe_listRg O.calm (kind_of O.hs hg) (O.free _ hm) (prg_2 (kind_of O.hs hg2) (O.free _ hm2) ha hb (starEach_ns hs) (starEach_ns hs2) (notStar_plain fun e' he => by
    have : e' = e2 := by simpa using he
    rw [this]; exact hs2))).imp fun σ H Q ⟨F, E, env, env', x, R, ee, q⟩ => by
    obtain ⟨vs, h1, h2⟩ := ev_bi ee
    obtain ⟨y, s1, z, h3, h4, rfl⟩ := evs_two h1
    refine two R h3 h4 d fun v w H2 st R2 p1 p2 _ _ => ?_
    have h2 : listR y z = some x := h2
    cases y with
    | int i =>
      cases z with
      | int j =>
        refine ⟨i, j, p1.int', p2.int', ?_⟩
        unfold listR at h2
        simp only at h2
        split at h2
        · rename_i hl
          cases h2
          refine ⟨lim24_ok hl, fun p hp => q _ _ (post_rout (H := H) ?_ R2 (rout_lst rngV_reps hp))⟩
          have : mu (.bi .listR [c, c2]) = mu c ++ mu c2 := by rw [mu, mus_two]
          rw [this]; exact st
        · cases h2
      | _ => cases h2
    | _ => cases h2
theorem trEs_ns : ∀ {cs : List CE} {sc : Scope} {es : List Expr}, trEs N G.gname G.fname G.free cs sc es = true → (∀ e ∈ es, notStar e = true) ∧ es.length = cs.length := by
  intro cs
  induction cs with
  | nil =>
    intro sc es h
    cases es with
    | nil => exact ⟨fun e he => (by cases he), rfl⟩
    | cons _ _ => unfold trEs at h; cases h
  | cons c cs ih =>
    intro sc es h
    cases es with
    | nil => unfold trEs at h; cases h
    | cons e es =>
      unfold trEs at h
      simp only [Bool.and_eq_true] at h
      obtain ⟨h1, h2⟩ := ih h.2
      refine ⟨fun x hx => ?_, by simp [h2]⟩
      rcases List.mem_cons.mp hx with e | hx
      · rw [e]; exact h.1.1
      · exact h1 x hx
end
end Ev
end

section
set_option Elab.async false
set_option linter.all false
set_option maxRecDepth 100000
set_option maxHeartbeats 8000000
/-! EwA2: join; a context without exceptions. -/
namespace Ev
open PySem PySem.Spec PyProof.Rows L2
theorem allStr_eq : ∀ {xs : List EV} {l : List (List Nat)}, allStr xs = some l → xs = l.map EV.str
  | [], l, h => by cases h; rfl
  | x :: xs, l, h => by
    cases x with
    | str s =>
      rw [allStr] at h
      split at h
      · rename_i q
        cases h
        rw [allStr_eq q]
        rfl
      · cases h
    | _ => cases h
theorem joinS_L (s : List Nat) : ∀ l : List (List Nat), joinS s l = TL.joinL s l
  | [] => rfl
  | [x] => rfl
  | x :: y :: r => by
    rw [joinS, TL.joinL, joinS_L s (y :: r), List.append_assoc]
theorem joinS_sv (s : List Nat) (l : List (List Nat)) : sv (joinS s l) = Txt.join (sv s) (l.map sv) := by
  rw [TL.join_eq]
  apply TL.ext_tl
  rw [TL.tl_join, joinS_L]
  show (sv (TL.joinL s l)).cps.toList = _
  rw [sv_cps]
  have e : List.map TL.tl (List.map sv l) = l := by
    rw [List.map_map]
    exact (List.map_congr_left fun x _ => sv_cps x).trans (List.map_id l)
  rw [e]
  show _ = TL.joinL (sv s).cps.toList l
  rw [sv_cps]
section
variable {G : Glob} {N : List Str} {X : Cx} {sc : Scope} {S : List Sta}
theorem reps_str {K : PySem.W.Frag} {H : Hp} {A : Addr → Prop} : ∀ {l : List (List Nat)} {vs : List V}, Reps K H A vs (l.map EV.str) → vs = (l.map sv).map V.str
  | [], _, .nil => rfl
  | x :: l, _, .cons r t => by
    cases r
    rw [reps_str t]
    rfl
theorem ex_join {o v : Expr} {a c : CE} {apos cpos : Pos} (ho : PE X o (tE G S .pk a)) (he : PE X v (tE G S .pk c)) (hK : X.K = G.K) (d : disj (pv a) (mus [c]) = true) (hs : starEach [v] X.env = [(false, eval v X.env)]) (hbase : attributeBase o "join" X.env (eval o X.env) = eval o X.env) (hline : (apos.endLine == cpos.line) = true) :
    PE X (.Call (.Attribute o "join" apos) [v] [] cpos) (tE G S .fr (.met .join a [c])) := (pe_join ho he hs hbase hline).imp fun σ H Q ⟨F, E, env, env', x, R, ee, q⟩ => by
  rw [ev] at ee
  split at ee
  · rename_i y env1 e1
    split at ee
    · rename_i vs env2 e2
      split at ee
      · rename_i r e3
        cases ee
        rw [evs] at e2
        split at e2
        · rename_i z env3 e4
          rw [evs] at e2
          cases e2
          -- the parts
          cases y with
          | str s =>
            cases z with
            | lst xs =>
              simp only [meE] at e3
              split at e3
              · rename_i l hl
                split at e3
                · rename_i hz
                  cases e3
                  refine ⟨F, E, env, env1, .str s, R, e1, fun v1 H1 ⟨s1, r1, p1, a1⟩ => ?_⟩
                  have hv1 := p1.str
                  subst hv1
                  refine ⟨⟨_, rfl⟩, F, E, env1, env', .lst xs, r1, e4, fun w H2 ⟨s2, r2, p2, a2⟩ => ?_⟩
                  obtain ⟨b, us, rfl, hb, rs⟩ := p2.lst
                  have hx := allStr_eq hl
                  subst hx
                  have hu := reps_str rs
                  subst hu
                  refine ⟨_, b, l.map sv, rfl, rfl, .inl (.inl (.inl hb)), ?_, ?_⟩
                  · have e5 : (l.map sv).map (fun z => z.length) = l.map List.length := by
                      rw [List.map_map]
                      exact List.map_congr_left fun z _ => sv_len z
                    have hz : (l.map List.length).sum + l.length * s.length ≤ 16777216 := hz
                    show ((l.map sv).map (fun z => z.length)).sum + (l.map sv).length * (sv s).length ≤ 16777216
                    rw [e5, List.length_map, sv_len]
                    exact hz
                  · rw [← joinS_sv]
                    exact q _ _ (post_flat ((s1.mono fun _ h => h.left).trans (s2.mono fun a h => (show WA (mus [c]) S σ a from by rw [mus, mus, List.append_nil]; exact h).right)) r2 rfl (.str _))
                · cases e3
              · cases e3
            | _ => cases e3
          | _ => cases e3
        · cases e2
      · cases ee
    · cases ee
  · cases ee
theorem XOk.nox (O : XOk G N X sc) : XOk G N X.nox sc := ⟨O.K, O.calm, O.hN, O.nd, O.hs, O.hu, O.free, O.gl, O.fns, O.chk⟩
end
end Ev
end

section
set_option Elab.async false
set_option linter.all false
set_option maxRecDepth 100000
set_option maxHeartbeats 8000000
/-! EwB: every expression that is looked at, read: the whole. -/
namespace Ev
open PySem PySem.Spec PyProof.Rows L2
section
variable {G : Glob} {N : List Str}
theorem nv_or {c : CE} {S : List Sta} (h : okIt1 G.sg c S = true) : (∃ i, c = .var i) ∨ (isVar c = false ∧ okE G.sg c S .sh = true) := by
  cases c with
  | var i => exact .inl ⟨i, rfl⟩
  | _ =>
    unfold okIt1 okV isVar at h
    exact .inr ⟨rfl, by simpa using h⟩
theorem okArgs_inv {sg : Nat → Option Sig} {L : List Nat} {ms : List Nat} {md : List (Option Nat)} {es : List CE} {S : List Sta} (h : okArgs sg L ms md es S = true) :
    (ms = [] ∧ md = [] ∧ es = []) ∨ (∃ ms' md' c cs, ms = 0 :: ms' ∧ md = none :: md' ∧ es = c :: cs ∧ okE sg c S .sh = true ∧ okArgs sg L ms' md' cs S = true) ∨
    (∃ ms' md' c cs, ms = 1 :: ms' ∧ md = none :: md' ∧ es = c :: cs ∧ okE sg c S .pk = true ∧ disj (pv c) (mus cs ++ L) = true ∧ okArgs sg L ms' md' cs S = true) ∨
    (∃ ms' md' i cs st, ms = 2 :: ms' ∧ md = some i :: md' ∧ es = .var i :: cs ∧ S[i]? = some st ∧ st.own = true ∧ okArgs sg L ms' md' cs S = true) := by
  unfold okArgs at h
  split at h
  · exact .inl ⟨rfl, rfl, rfl⟩
  · simp only [Bool.and_eq_true] at h
    exact .inr (.inl ⟨_, _, _, _, rfl, rfl, rfl, h.1, h.2⟩)
  · simp only [Bool.and_eq_true] at h
    exact .inr (.inr (.inl ⟨_, _, _, _, rfl, rfl, rfl, h.1.1, h.1.2, h.2⟩))
  · rename_i ms' i md' e es'
    simp only [Bool.and_eq_true] at h
    obtain ⟨⟨h1, h2⟩, h3⟩ := h
    have he : e = .var i := by
      split at h1
      · rename_i j
        have : i = j := by simpa using h1
        rw [this]
      · cases h1
    subst he
    split at h2
    · rename_i q; exact .inr (.inr (.inr ⟨_, _, _, _, _, rfl, rfl, rfl, q, rfl, h3⟩))
    · rename_i q; exact .inr (.inr (.inr ⟨_, _, _, _, _, rfl, rfl, rfl, q, rfl, h3⟩))
    · cases h2
  · cases h
/-- what is asked of a comprehension besides its parts -/
theorem comp_join {X : Cx} {sc scope : Scope} {S : List Sta} {vs : List Nat} {k : ItK} {it : List CE} {p : Pt} {ifs : List CE} {e : CE} {elt tg iter : Expr} {tests : List Expr} {pos : Pos} (O : XOk G N X sc)
    (hi : PI X tg iter (tW G S k it)) (hi2 : ∀ i, it = [.var i] → k = .val → S[i]? ≠ some .N ∧ i < S.length ∧ PI X tg iter (tW G (bor1 S (.var i)) .val [.var i])) (hv : k = .val → ∃ i, it = [.var i])
    (hns : notSet iter = true) (hp : trP N p scope tg = true) (hb : blkC N sc scope (ownOf N vs) = true) (hov : (ownOf N vs).map (·.2) = vs) (hfr : vs.all (freeSl S) = true) (hpv : ∀ v ∈ ptVars p, v ∈ vs)
    (ht : ∀ (X' : Cx), XOk G N X' (relS scope sc) → PTs X' tests (tTs G (setAll (setAll (borW k S it) .N vs) .S (ptVars p)) ifs)) (he : ∀ (X' : Cx), XOk G N X' (relS scope sc) → PE X' elt (tE G (setAll (setAll (borW k S it) .N vs) .S (ptVars p)) .sh e)) (m : Md) :
    PE X (.ListComp elt [⟨tg, iter, tests, 0⟩] scope pos) (tE G S m (.comp vs k it p ifs e)) := by
  have no : nonOwn S vs := free_nonOwn hfr
  have core : ∀ (S' : List Sta), PI X tg iter (tW G S' k it) → nonOwn S' vs → borW k S' it = borW k S it → PE X (.ListComp elt [⟨tg, iter, tests, 0⟩] scope pos) (tCo G S' vs k it p ifs e) := fun S' hi no' eb => by
    refine comp_core O.calm (by rw [O.hN]; exact O.nd) O.K hi (by rw [O.hN, O.hs]; exact blkOk_by hb) hov (fun s H C cl fp => ?_) (fun s H C cl fp => ?_) (fun s H C cl fp => ?_) no' hpv (folded hns)
    · refine pg_ok (X := X.blk s H scope (compEnvC scope cl C X.env) fp) O.hN O.nd O.calm O.K blk_loc p tg _ hp fun v hvp => ?_
      rw [eb]
      have hvs := hpv v hvp
      unfold asgSl
      have hl : v < (borW k S it).length := (borW_free (k := k) (it := it) no v hvs).elim get_lt get_lt
      rw [setAll_in hvs hl]
    · rw [eb]; exact ht _ (O.blk s H scope C cl fp)
    · rw [eb]; exact he _ (O.blk s H scope C cl fp)
  refine comp_all (core S hi no rfl) (fun i hit hk => ?_) hv m
  obtain ⟨h1, h2, h3⟩ := hi2 i hit hk
  subst hit hk
  refine ⟨h1, h2, core _ h3 (fun j hj => ?_) ?_⟩
  · rw [bor_free (no j hj)]; exact no j hj
  · show borS (bor1 S (.var i)) [.var i] = borS S [.var i]
    exact bor1_idem
def Good (G : Glob) (N : List Str) (c : CE) : Prop :=
  (∀ (X : Cx) (sc : Scope) (e : Expr) (S : List Sta) (m : Md), XOk G N X sc → trE N G.gname G.fname G.free c sc e = true → okE G.sg c S m = true → PE X e (tE G S m c)) ∧
  (∀ (X : Cx) (sc : Scope) (e : Expr) (S : List Sta), XOk G N X sc → trE N G.gname G.fname G.free c sc e = true → okE G.sg c S .pk = true → testB c = true → PT X e (tT G S c)) ∧
  (∀ (X : Cx) (sc : Scope) (op : BoolOp) (y : Expr) (r : List Expr) (pp : Pos) (S : List Sta), XOk G N X sc → trE N G.gname G.fname G.free c sc (.BoolOp op (y :: r) pp) = true → okE G.sg c S .pk = true → testB c = true → PW X (.BoolOp op (y :: r) pp) (tT G S c))
def kindC : CE → Nat
  | .and _ _ => 2
  | .or _ _ => 2
  | .cmp _ _ _ => 1
  | .chn _ _ _ _ _ => 1
  | .isc _ _ _ => 1
  | .not _ => 1
  | .ite _ _ _ => 1
  | _ => 0
theorem no_bool {c : CE} {sc : Scope} {op : BoolOp} {vs : List Expr} {pp : Pos} (hk : kindC c ≠ 2) : trE N G.gname G.fname G.free c sc (.BoolOp op vs pp) = true → False := fun h => by
  cases c <;> first | exact absurd rfl hk | (unfold trE at h; cases h)
theorem plain_true {c : CE} {sc : Scope} {e : Expr} (hk : kindC c = 0) (h : trE N G.gname G.fname G.free c sc e = true) : ∀ (env : PySem.Env) whole, isTrue e env whole = (do let v ← whole; standAt e.pos; holding [v] (truthy v)) := fun env whole => by
  cases c <;> first | (unfold trE at h; split at h <;> first | rfl | (cases h; done)) | (cases hk; done) | (unfold trE at h; cases h; done)
theorem Good.plain {c : CE} (pe : ∀ (X : Cx) (sc : Scope) (e : Expr) (S : List Sta) (m : Md), XOk G N X sc → trE N G.gname G.fname G.free c sc e = true → okE G.sg c S m = true → PE X e (tE G S m c)) (hk : kindC c = 0) : Good G N c :=
  ⟨pe, fun X sc e S O h ok _ => tt_pe (pe X sc e S .pk O h ok) O.K (plain_true hk h X.env), fun X sc op y r pp S O h ok _ => (no_bool (by rw [hk]; decide) h).elim⟩
theorem Good.test {c : CE} (pe : ∀ (X : Cx) (sc : Scope) (e : Expr) (S : List Sta) (m : Md), XOk G N X sc → trE N G.gname G.fname G.free c sc e = true → okE G.sg c S m = true → PE X e (tE G S m c))
    (pt : ∀ (X : Cx) (sc : Scope) (e : Expr) (S : List Sta), XOk G N X sc → trE N G.gname G.fname G.free c sc e = true → okE G.sg c S .pk = true → testB c = true → PT X e (tT G S c)) (hk : kindC c = 1) : Good G N c :=
  ⟨pe, pt, fun X sc op y r pp S O h ok _ => (no_bool (by rw [hk]; decide) h).elim⟩
theorem Good.bool {c : CE} (pe : ∀ (X : Cx) (sc : Scope) (e : Expr) (S : List Sta) (m : Md), XOk G N X sc → trE N G.gname G.fname G.free c sc e = true → okE G.sg c S m = true → PE X e (tE G S m c))
    (pw : ∀ (X : Cx) (sc : Scope) (op : BoolOp) (y : Expr) (r : List Expr) (pp : Pos) (S : List Sta), XOk G N X sc → trE N G.gname G.fname G.free c sc (.BoolOp op (y :: r) pp) = true → okE G.sg c S .pk = true → testB c = true → PW X (.BoolOp op (y :: r) pp) (tT G S c)) (hk : kindC c = 2) : Good G N c := by
  refine ⟨pe, fun X sc e S O h ok tb => ?_, pw⟩
  have : ∃ op y r pp, e = .BoolOp op (y :: r) pp := by
    cases c <;> first | (cases hk; done) | (have h' := h; unfold trE at h'; split at h' <;> first | exact ⟨_, _, _, _, rfl⟩ | (cases h'; done))
  obtain ⟨op, y, r, pp, rfl⟩ := this
  exact (pw X sc op y r pp S O h ok tb).pt
theorem exIt : ∀ (c : CE) (X : Cx) (sc : Scope) (e : Expr) (S : List Sta), XOk G N X sc → trE N G.gname G.fname G.free c sc e = true → okIt1 G.sg c S = true → Good G N c → PE X e (tIt G S c) := fun c X sc e S O h ok g => by
  rcases nv_or ok with ⟨i, rfl⟩ | ⟨hv, ok2⟩
  · exact pe_varO O.hN O.hs h
  · have := g.1 X sc e S .sh O h ok2
    cases c <;> first | exact this | cases hv
mutual
theorem exG : ∀ (c : CE), Good G N c
  | .lit v => .plain (fun X sc e S m O h ok => all_of (ex_lit h (by unfold okE at ok; exact ok)) m) rfl
  | .glb g => .plain (fun X sc e S m O h ok => all_of (ex_glb O.hs O.gl h) m) rfl
  | .var i => .plain (fun X sc e S m O h ok => ex_var O.hN O.hs h ok) rfl
  | .tup es => .plain (fun X sc e S m O h ok => by
    unfold trE at h
    split at h
    · rename_i xs kk pp
      unfold okE at ok
      exact all_of (ex_tup (exSh es X sc xs S O h ok)) m
    · cases h) rfl
  | .lst es => .plain (fun X sc e S m O h ok => by
    unfold trE at h
    split at h
    · rename_i xs pp
      unfold okE at ok
      exact all_of (ex_lst (exSh es X sc xs S O h ok)) m
    · cases h) rfl
  | .dct0 t => .plain (fun X sc e S m O h ok => by
    unfold trE at h
    split at h
    · unfold okE at ok
      exact all_of (ex_dct (by simpa using ok)) m
    · cases h) rfl
  | .op o a b => .plain (fun X sc e S m O h ok => by
    unfold trE at h
    split at h
    · rename_i x p y pp
      unfold okE at ok
      simp only [Bool.and_eq_true, decide_eq_true_eq] at h ok
      rw [h.1.1]
      exact all_of (ex_op ((exG a).1 X sc x S .pk O h.1.2 ok.1.1) ((exG b).1 X sc y S .pk O h.2 ok.1.2) O.K ok.2) m
    · cases h) rfl
  | .neg a => .plain (fun X sc e S m O h ok => by
    unfold trE at h
    split at h
    · rename_i x pp
      unfold okE at ok
      exact all_of (ex_neg ((exG a).1 X sc x S .pk O h ok)) m
    · cases h) rfl
  | .cmp o a b => .test (fun X sc e S m O h ok => by
    unfold trE at h
    split at h
    · rename_i x p y pp
      unfold okE at ok
      simp only [Bool.and_eq_true, decide_eq_true_eq] at h ok
      rw [h.1.1.1]
      exact all_of (ex_cmp ((exG a).1 X sc x S .pk O h.1.2 ok.1.1) ((exG b).1 X sc y S .pk O h.2 ok.1.2) O.K (by have := O.hu; omega) ok.2 (notSet_ok h.1.1.2 _)) m
    · cases h) (fun X sc e S O h ok tb => by
    unfold trE at h
    split at h
    · rename_i x p y pp
      unfold okE at ok
      simp only [Bool.and_eq_true, decide_eq_true_eq] at h ok
      rw [h.1.1.1]
      exact tt_cmp ((exG a).1 X sc x S .pk O h.1.2 ok.1.1) ((exG b).1 X sc y S .pk O h.2 ok.1.2) O.K (by have := O.hu; omega) ok.2 (notSet_ok h.1.1.2 _)
    · cases h) rfl
  | .chn o o' a b c => .test (fun X sc e S m O h ok => by
    unfold trE at h
    split at h
    · rename_i x p p' y z pp
      unfold okE at ok
      simp only [Bool.and_eq_true, decide_eq_true_eq] at h ok
      rw [h.1.1.1.1.1, h.1.1.1.1.2]
      exact all_of (ex_chn ((exG a).1 X sc x S .pk O h.1.1.2 ok.1.1.1.1) ((exG b).1 X sc y S .pk O h.1.2 ok.1.1.1.2) ((exG c).1 X sc z S .pk O h.2 ok.1.1.2) O.K (by have := O.hu; omega) ok.1.2 ok.2 h.1.1.1.2) m
    · cases h) (fun X sc e S O h ok tb => by
    unfold trE at h
    split at h
    · rename_i x p p' y z pp
      unfold okE at ok
      simp only [Bool.and_eq_true, decide_eq_true_eq] at h ok
      rw [h.1.1.1.1.1, h.1.1.1.1.2]
      exact tt_chn ((exG a).1 X sc x S .pk O h.1.1.2 ok.1.1.1.1) ((exG b).1 X sc y S .pk O h.1.2 ok.1.1.1.2) ((exG c).1 X sc z S .pk O h.2 ok.1.1.2) O.K (by have := O.hu; omega) ok.1.2 ok.2 h.1.1.1.2
    · cases h) rfl
  | .isc ng a v => .test (fun X sc e S m O h ok => by
    unfold trE at h
    split at h
    · rename_i x p cst ku pu pp
      unfold okE at ok
      simp only [Bool.and_eq_true, decide_eq_true_eq] at h
      rw [h.1.1]
      exact all_of (ex_isc ((exG a).1 X sc x S .pk O h.2 ok) h.1.2) m
    · cases h) (fun X sc e S O h ok tb => by
    unfold trE at h
    split at h
    · rename_i x p cst ku pu pp
      unfold okE at ok
      simp only [Bool.and_eq_true, decide_eq_true_eq] at h
      rw [h.1.1]
      exact tt_isc ((exG a).1 X sc x S .pk O h.2 ok) h.1.2
    · cases h) rfl
  | .and a b => .bool (fun X sc e S m O h ok => by
    unfold trE at h
    split at h
    · rename_i x y r pp
      unfold okE at ok
      simp only [Bool.and_eq_true] at h ok
      refine ex_and ((exG a).1 X sc x S m O h.1 ok.1) ?_ O.K
      have h2 := h.2
      split at h2
      · exact pe_one ((exG b).1 X sc y S m O h2 ok.2)
      · exact (exG b).1 X sc _ S m O h2 ok.2
    · cases h) (fun X sc op y r pp S O h ok tb => by
    unfold trE at h
    split at h
    · rename_i q
      cases q
      rename_i y2 r2
      unfold okE at ok
      unfold testB at tb
      simp only [Bool.and_eq_true] at h ok tb
      refine tt_and ((exG a).2.1 X sc y S O h.1 ok.1 tb.1) ?_
      have h2 := h.2
      split at h2
      · exact pw_and1 ((exG b).2.1 X sc y2 S O h2 ok.2 tb.2)
      · exact (exG b).2.2 X sc .And y2 _ pp S O h2 ok.2 tb.2
    · cases h) rfl
  | .or a b => .bool (fun X sc e S m O h ok => by
    unfold trE at h
    split at h
    · rename_i x y r pp
      unfold okE at ok
      simp only [Bool.and_eq_true] at h ok
      refine ex_or ((exG a).1 X sc x S m O h.1 ok.1) ?_ O.K
      have h2 := h.2
      split at h2
      · exact pe_one ((exG b).1 X sc y S m O h2 ok.2)
      · exact (exG b).1 X sc _ S m O h2 ok.2
    · cases h) (fun X sc op y r pp S O h ok tb => by
    unfold trE at h
    split at h
    · rename_i q
      cases q
      rename_i y2 r2
      unfold okE at ok
      unfold testB at tb
      simp only [Bool.and_eq_true] at h ok tb
      refine tt_or ((exG a).2.1 X sc y S O h.1 ok.1 tb.1) ?_
      have h2 := h.2
      split at h2
      · exact pw_or1 ((exG b).2.1 X sc y2 S O h2 ok.2 tb.2)
      · exact (exG b).2.2 X sc .Or y2 _ pp S O h2 ok.2 tb.2
    · cases h) rfl
  | .not a => .test (fun X sc e S m O h ok => by
    unfold trE at h
    split at h
    · rename_i x pp
      unfold okE at ok
      simp only [Bool.and_eq_true] at h
      exact all_of (ex_not ((exG a).1 X sc x S .pk O h.2 ok) O.K) m
    · cases h) (fun X sc e S O h ok tb => by
    unfold trE at h
    split at h
    · rename_i x pp
      unfold okE at ok
      simp only [Bool.and_eq_true] at h
      exact tt_not ((exG a).2.1 X sc x S O h.2 ok h.1)
    · cases h) rfl
  | .ite t a b => .test (fun X sc e S m O h ok => by
    unfold trE at h
    split at h
    · rename_i x y z pp
      unfold okE at ok
      simp only [Bool.and_eq_true] at h ok
      exact ex_ite ((exG t).2.1 X sc x S O h.1.1.2 ok.1.1 h.1.1.1) ((exG a).1 X sc y S m O h.1.2 ok.1.2) ((exG b).1 X sc z S m O h.2 ok.2)
    · cases h) (fun X sc e S O h ok tb => by
    unfold testB at tb
    cases tb) rfl
  | .ix a b => .plain (fun X sc e S m O h ok => by
    unfold trE at h
    split at h
    · rename_i x y pp
      unfold okE at ok
      simp only [Bool.and_eq_true, decide_eq_true_eq] at h ok
      exact ex_ix ((exG a).1 X sc x S .pk O h.1.2 ok.1.1.2) ((exG b).1 X sc y S .pk O h.2 ok.1.2) O.K (by have := O.hu; omega) ok.2 h.1.1 ok.1.1.1
    · cases h) rfl
  | .sl a lo hi => .plain (fun X sc e S m O h ok => by
    unfold trE at h
    split at h
    · rename_i x l hh p2 pp
      unfold okE at ok
      simp only [Bool.and_eq_true] at h ok
      refine all_of (ex_sl ((exG a).1 X sc x S .pk O h.1.1 ok.1.1.1) ?_ ?_ O.K ok.2) m
      · have h2 := h.1.2
        cases l with
        | none =>
          simp only at h2
          cases lo with
          | nil => exact po_nil
          | cons _ _ => cases h2
        | some l => exact exPO lo X sc l S O h2 ok.1.1.2
      · have h2 := h.2
        cases hh with
        | none =>
          simp only at h2
          cases hi with
          | nil => exact po_nil
          | cons _ _ => cases h2
        | some l => exact exPO hi X sc l S O h2 ok.1.2
    · cases h) rfl
  | .rev _ => .plain (fun X sc e S m O h ok => by unfold trE at h; cases h) rfl
  | .call f md es => .plain (fun X sc e S m O h ok => by
    unfold trE at h
    split at h
    · rename_i x xp args pp
      unfold okE at ok
      simp only [Bool.and_eq_true, decide_eq_true_eq] at h
      cases hs : G.sg f with
      | none => rw [hs] at ok; cases ok
      | some s =>
        rw [hs] at ok
        simp only [Bool.and_eq_true, Bool.or_eq_true, decide_eq_true_eq] at ok
        obtain ⟨k, a, fd, ps, Fn, hr, hm, hk, hb⟩ := O.fns f s hs
        obtain ⟨n1, n2⟩ := trEs_ns h.2
        rw [h.1.1.1] at hm
        exact ex_call hs Fn hr (kind_of O.hs h.1.1.2) hm hk hb (fun xs r hc => O.chk f s xs r hs hc) (exArgs es X sc args S s.md md (somes md) O h.2 ok.1.2) n1 (okN_ok h.1.2).1 ok.1.2 ok.2 (ok.1.1.imp id id) fun hn => by
          rw [hn] at n2
          exact List.eq_nil_of_length_eq_zero n2.symm
    · cases h) rfl
  | .bi b es => .plain (fun X sc e S m O h ok => by
    unfold trE at h
    split at h
    · rename_i x xp args pp
      unfold okE at ok
      split at h
      · rename_i hb
        split at h
        · rename_i y yp args2 pp2
          simp only [Bool.and_eq_true, decide_eq_true_eq] at h
          have eb : b = .listR := by cases b <;> first | rfl | cases hb
          subst eb
          rw [h.1.1.1.1.1.1.1, h.1.1.1.1.1.1.2]
          exact all_of (exListR es X sc args2 S O h.1.1.1.1.1.2 h.1.1.1.1.2 h.1.1.1.2 h.1.1.2 h.1.2 h.2 ok) m
        · cases h
      · simp only [Bool.and_eq_true] at h
        obtain ⟨n1, n2⟩ := trEs_ns h.1.2
        cases hv : biVal b with
        | none => rw [hv] at h; simp at h
        | some yv =>
          rw [hv] at h
          simp only [decide_eq_true_eq] at h
          obtain ⟨y, v⟩ := yv
          have ey : y = x := h.1.1.1.1
          subst ey
          cases args with
          | nil => simp at h
          | cons a args => exact all_of (ex_bi hv O.calm (by have := O.hu; omega) (kind_of O.hs h.1.1.1.2) (O.free _ h.1.1.2) O.K (exPk es X sc _ S O h.1.2 ok) n1) m
    · cases h) rfl
  | .met me a es => .plain (fun X sc e S m O h ok => by
    unfold trE at h
    split at h
    · rename_i c k p mm apos v cpos
      cases me with
      | join =>
        simp only [Bool.true_and, Bool.and_eq_true, decide_eq_true_eq] at h
        obtain ⟨⟨⟨rfl, h1⟩, h2⟩, h3⟩ := h
        unfold okE at ok
        simp only [Bool.and_eq_true] at ok
        cases es with
        | nil => unfold trEs at h3; cases h3
        | cons c1 cs =>
          unfold trEs at h3
          simp only [Bool.and_eq_true] at h3
          cases cs with
          | cons _ _ => have h4 := h3.2; unfold trEs at h4; cases h4
          | nil =>
            have ok2 := ok.1.2
            unfold okEs at ok2
            simp only [Bool.and_eq_true] at ok2
            exact all_of (ex_join ((exG a).1 X sc _ S .pk O h2 ok.1.1.2) ((exG c1).1 X sc v S .pk O h3.1.2 ok2.1.1) O.K ok.2 (starEach_ns h3.1.1) rfl h1) m
      | _ => simp at h
    · cases h) rfl
  | .pop _ _ => .plain (fun X sc e S m O h ok => by unfold trE at h; cases h) rfl
  | .dcomp _ _ _ _ _ _ _ _ => .plain (fun X sc e S m O h ok => by unfold trE at h; cases h) rfl
  | .comp vs k it p ifs e' => .plain (fun X sc e S m O h ok => by
    unfold trE at h
    split at h
    · rename_i elt tg iter tests scope pp
      unfold okE at ok
      simp only [Bool.and_eq_true, decide_eq_true_eq] at h ok
      obtain ⟨⟨⟨⟨⟨⟨⟨⟨⟨a1, a2⟩, a3⟩, a4⟩, a5⟩, a6⟩, a7⟩, a8⟩, a9⟩, a10⟩ := h
      obtain ⟨⟨⟨⟨b1, b2⟩, b3⟩, b4⟩, b5⟩ := ok
      have htg : (k = .enum ∨ k = .zip) → ∃ ps, p = .tp ps := fun hk => by
        rcases hk with rfl | rfl <;> (cases p with | tp ps => exact ⟨ps, rfl⟩ | nm _ => simp at a8)
      have htu : (k = .enum ∨ k = .zip) → ∃ es kk tp, tg = .Tuple es kk tp := fun hk => by
        obtain ⟨ps, rfl⟩ := htg hk
        unfold trP at a3
        split at a3
        · exact ⟨_, _, _, rfl⟩
        · cases a3
      have hi := exI it k X sc iter S tg O a2 b1 htu
      refine comp_join O hi (fun i hit hk => ?_) (fun hk => ?_) a1 a3 a4 a5 b2 (fun v hv => by simpa using List.all_eq_true.mp b3 v hv) (fun X' O' => ?_) (fun X' O' => (exG e').1 X' _ elt _ .sh O' a10 b5) m
      · subst hit hk
        unfold okIt at b1
        simp only [isVar, Bool.true_and, Bool.not_true, Bool.false_and, Bool.or_false] at b1
        have b1' : S[i]? ≠ some .N ∧ i < S.length := okIt1_var (sg := G.sg).mp (by unfold okIt1; simp [b1])
        have a2 := trI_val a2
        refine ⟨b1'.1, b1'.2, pi_val (pe_varO O.hN O.hs a2) O.K (okIt_bor (okIt1_var.mpr b1'))⟩
      · subst hk
        cases it with
        | nil => unfold okIt at b1; cases b1
        | cons c r =>
          cases r with
          | nil =>
            cases c with
            | var i => exact ⟨i, rfl⟩
            | _ => unfold okIt at b1; simp [isVar] at b1
          | cons _ _ => unfold okIt at b1; cases b1
      · exact exTs ifs X' _ tests _ O' a9 b4 a6 a7
    · cases h) rfl
theorem exSh : ∀ (cs : List CE) (X : Cx) (sc : Scope) (es : List Expr) (S : List Sta), XOk G N X sc → trEs N G.gname G.fname G.free cs sc es = true → okEs G.sg cs S .sh = true → PA X es (tA G S (shs cs) cs)
  | [], X, sc, es, S, O, h, ok => by
    cases es with
    | nil => exact pa_nil'
    | cons _ _ => unfold trEs at h; cases h
  | c :: cs, X, sc, es, S, O, h, ok => by
    cases es with
    | nil => unfold trEs at h; cases h
    | cons e es =>
      unfold trEs at h
      unfold okEs at ok
      simp only [Bool.and_eq_true] at h ok
      exact pa_cons' (show Md.sh ≠ Md.fr by decide) ((exG c).1 X sc e S .sh O h.1.2 ok.1.1) (exSh cs X sc es S O h.2 ok.1.2) (fun _ => ok.2) h.1.1
theorem exPk : ∀ (cs : List CE) (X : Cx) (sc : Scope) (es : List Expr) (S : List Sta), XOk G N X sc → trEs N G.gname G.fname G.free cs sc es = true → okEs G.sg cs S .pk = true → PA X es (tA G S (pks cs) cs)
  | [], X, sc, es, S, O, h, ok => by
    cases es with
    | nil => exact pa_nil'
    | cons _ _ => unfold trEs at h; cases h
  | c :: cs, X, sc, es, S, O, h, ok => by
    cases es with
    | nil => unfold trEs at h; cases h
    | cons e es =>
      unfold trEs at h
      unfold okEs at ok
      simp only [Bool.and_eq_true] at h ok
      exact pa_cons' (show Md.pk ≠ Md.fr by decide) ((exG c).1 X sc e S .pk O h.1.2 ok.1.1) (exPk cs X sc es S O h.2 ok.1.2) (fun _ => ok.2) h.1.1
theorem exPO : ∀ (cs : List CE) (X : Cx) (sc : Scope) (e : Expr) (S : List Sta), XOk G N X sc → trEs N G.gname G.fname G.free cs sc [e] = true → okEs G.sg cs S .pk = true → PO X (some e) (tPO G S cs)
  | [], X, sc, e, S, O, h, ok => by unfold trEs at h; cases h
  | c :: cs, X, sc, e, S, O, h, ok => by
    unfold trEs at h
    unfold okEs at ok
    simp only [Bool.and_eq_true] at h ok
    cases cs with
    | nil => exact po_one ((exG c).1 X sc e S .pk O h.1.2 ok.1.1)
    | cons _ _ => have h2 := h.2; unfold trEs at h2; cases h2
theorem exListR : ∀ (cs : List CE) (X : Cx) (sc : Scope) (es : List Expr) (S : List Sta), XOk G N X sc → glB sc "list" = true → glB sc "range" = true → G.free.contains "list" = true → G.free.contains "range" = true → (cs.length = 1 ∨ cs.length = 2) →
    trEs N G.gname G.fname G.free cs sc es = true → okEs G.sg cs S .pk = true → ∀ {p p2 pos pos2 : Pos}, PE X (.Call (.Name "list" p) [.Call (.Name "range" p2) es [] pos2] [] pos) (tE G S .fr (.bi .listR cs))
  | [], X, sc, es, S, O, g1, g2, f1, f2, hl, h, ok => by simp at hl
  | [c], X, sc, es, S, O, g1, g2, f1, f2, hl, h, ok => by
    cases es with
    | nil => unfold trEs at h; cases h
    | cons e es =>
      unfold trEs at h
      unfold okEs at ok
      simp only [Bool.and_eq_true] at h ok
      cases es with
      | nil => exact ex_listR1 O g1 g2 f1 f2 ((exG c).1 X sc e S .pk O h.1.2 ok.1.1) h.1.1
      | cons _ _ => have h2 := h.2; unfold trEs at h2; cases h2
  | [c, c2], X, sc, es, S, O, g1, g2, f1, f2, hl, h, ok => by
    cases es with
    | nil => unfold trEs at h; cases h
    | cons e es =>
      unfold trEs at h
      unfold okEs at ok
      simp only [Bool.and_eq_true] at h ok
      cases es with
      | nil => have h2 := h.2; unfold trEs at h2; cases h2
      | cons e2 es =>
        obtain ⟨⟨h1, h2⟩, h3⟩ := h
        obtain ⟨⟨o1, o2⟩, o3⟩ := ok
        unfold trEs at h3
        unfold okEs at o2
        simp only [Bool.and_eq_true] at h3 o2
        cases es with
        | nil => exact ex_listR2 O g1 g2 f1 f2 ((exG c).1 X sc e S .pk O h2 o1) ((exG c2).1 X sc e2 S .pk O h3.1.2 o2.1.1) (by rw [mus_one] at o3; exact o3) h1 h3.1.1
        | cons _ _ => have h4 := h3.2; unfold trEs at h4; cases h4
  | _ :: _ :: _ :: _, X, sc, es, S, O, g1, g2, f1, f2, hl, h, ok => by simp at hl
theorem exArgs : ∀ (cs : List CE) (X : Cx) (sc : Scope) (es : List Expr) (S : List Sta) (ms : List Nat) (md : List (Option Nat)) (L : List Nat), XOk G N X sc → trEs N G.gname G.fname G.free cs sc es = true → okArgs G.sg L ms md cs S = true → PA X es (tAr G S ms md cs)
  | [], X, sc, es, S, ms, md, L, O, h, ok => by
    cases es with
    | nil =>
      rcases okArgs_inv ok with ⟨rfl, rfl, _⟩ | ⟨_, _, _, _, _, _, q, _⟩ | ⟨_, _, _, _, _, _, q, _⟩ | ⟨_, _, _, _, _, _, _, q, _⟩
      · exact par_nil
      all_goals cases q
    | cons _ _ => unfold trEs at h; cases h
  | c :: cs, X, sc, es, S, ms, md, L, O, h, ok => by
    cases es with
    | nil => unfold trEs at h; cases h
    | cons e es =>
      unfold trEs at h
      simp only [Bool.and_eq_true] at h
      rcases okArgs_inv ok with ⟨_, _, q⟩ | ⟨ms', md', c', cs', rfl, rfl, q, o1, o2⟩ | ⟨ms', md', c', cs', rfl, rfl, q, o1, o2, o3⟩ | ⟨ms', md', i, cs', st, rfl, rfl, q, o1, o2, o3⟩
      · cases q
      · cases q
        exact par_sh ((exG c).1 X sc e S .sh O h.1.2 o1) (exArgs cs X sc es S ms' md' L O h.2 o2) h.1.1
      · cases q
        exact par_pk ((exG c).1 X sc e S .pk O h.1.2 o1) (exArgs cs X sc es S ms' md' L O h.2 o3) h.1.1 (disj_iff.mpr fun z hz k => disj_iff.mp o2 z hz (List.mem_append_left _ k))
      · cases q
        exact par_io (pe_varO O.hN O.hs h.1.2) o1 o2 (exArgs cs X sc es S ms' md' L O h.2 o3) h.1.1
theorem exTs : ∀ (cs : List CE) (X : Cx) (sc : Scope) (es : List Expr) (S : List Sta), XOk G N X sc → trEs N G.gname G.fname G.free cs sc es = true → okEs G.sg cs S .pk = true → cs.length ≤ 1 → cs.all testB = true → PTs X es (tTs G S cs)
  | [], X, sc, es, S, O, h, ok, hl, tb => by
    cases es with
    | nil => exact pts_nil'
    | cons _ _ => unfold trEs at h; cases h
  | [c], X, sc, es, S, O, h, ok, hl, tb => by
    cases es with
    | nil => unfold trEs at h; cases h
    | cons e es =>
      unfold trEs at h
      unfold okEs at ok
      simp only [Bool.and_eq_true] at h ok
      cases es with
      | nil => exact pts_one' ((exG c).2.1 X sc e S O h.1.2 ok.1.1 (by simpa using tb))
      | cons _ _ => have h2 := h.2; unfold trEs at h2; cases h2
  | _ :: _ :: _, X, sc, es, S, O, h, ok, hl, tb => by simp at hl
theorem exI : ∀ (it : List CE) (k : ItK) (X : Cx) (sc : Scope) (e : Expr) (S : List Sta) (tg : Expr), XOk G N X sc → trI N G.gname G.fname G.free k it sc e = true → okIt G.sg k it S = true → ((k = .enum ∨ k = .zip) → ∃ es kk tp, tg = .Tuple es kk tp) → PI X tg e (tW G S k it)
  | [], k, X, sc, e, S, tg, O, h, ok, ht => by
    cases k <;> (unfold okIt at ok; cases ok)
  | [c], k, X, sc, e, S, tg, O, h, ok, ht => by
    have g := exG c
    cases k with
    | val =>
      unfold okIt at ok
      have h := trI_val h
      simp only [Bool.and_eq_true] at ok
      have ok2 : okIt1 G.sg c S = true := ok.2
      exact pi_val (exIt c X sc e S O h ok2 g) O.K ok2
    | seq =>
      unfold okIt at ok
      have h := trI_seq h
      try simp only at ok
      have ok2 : okIt1 G.sg c S = true := ok
      exact pi_seq (exIt c X sc e S O h ok2 g) O.K ok2
    | rng1 =>
      unfold okIt at ok
      obtain ⟨xp, args, pp, rfl, h1, h2, h3⟩ := trI_call (y := "range") (by rfl) h
      try simp only at ok
      cases args with
      | nil => unfold trEs at h3; cases h3
      | cons a args =>
        unfold trEs at h3
        simp only [Bool.and_eq_true] at h3
        cases args with
        | nil => exact pi_rng1 (kind_of O.hs h1) (O.free _ h2) (g.1 X sc a S .pk O h3.1.2 ok) h3.1.1
        | cons _ _ => have h4 := h3.2; unfold trEs at h4; cases h4
    | enum =>
      obtain ⟨tes, kk, tp, rfl⟩ := ht (.inl rfl)
      unfold okIt at ok
      obtain ⟨xp, args, pp, rfl, h1, h2, h3⟩ := trI_call (y := "enumerate") (by rfl) h
      try simp only at ok
      have ok2 : okIt1 G.sg c S = true := ok
      cases args with
      | nil => unfold trEs at h3; cases h3
      | cons a args =>
        unfold trEs at h3
        simp only [Bool.and_eq_true] at h3
        cases args with
        | nil => exact pi_enumE (kind_of O.hs h1) (O.free _ h2) (exIt c X sc a S O h3.1.2 ok2 g) O.K ok2 h3.1.1
        | cons _ _ => have h4 := h3.2; unfold trEs at h4; cases h4
    | _ => unfold okIt at ok; cases ok
  | [c, c2], k, X, sc, e, S, tg, O, h, ok, ht => by
    have g := exG c
    have g2 := exG c2
    cases k with
    | rng2 =>
      unfold okIt at ok
      obtain ⟨xp, args, pp, rfl, h1, h2, h3⟩ := trI_call (y := "range") (by rfl) h
      simp only [Bool.and_eq_true] at ok
      cases args with
      | nil => unfold trEs at h3; cases h3
      | cons a args =>
        unfold trEs at h3
        simp only [Bool.and_eq_true] at h3
        cases args with
        | nil => have h4 := h3.2; unfold trEs at h4; cases h4
        | cons a2 args =>
          obtain ⟨⟨n1, n2⟩, n3⟩ := h3
          unfold trEs at n3
          simp only [Bool.and_eq_true] at n3
          cases args with
          | nil => exact pi_rng2 (kind_of O.hs h1) (O.free _ h2) (g.1 X sc a S .pk O n2 ok.1.1) (g2.1 X sc a2 S .pk O n3.1.2 ok.1.2) n1 n3.1.1 ok.2
          | cons _ _ => have h4 := n3.2; unfold trEs at h4; cases h4
    | zip =>
      obtain ⟨tes, kk, tp, rfl⟩ := ht (.inr rfl)
      unfold okIt at ok
      obtain ⟨xp, args, pp, rfl, h1, h2, h3⟩ := trI_call (y := "zip") (by rfl) h
      simp only [Bool.and_eq_true] at ok
      obtain ⟨⟨⟨o1, o2⟩, o3⟩, o4⟩ := ok
      have ok1 : okIt1 G.sg c S = true := o1
      have ok2 : okIt1 G.sg c2 S = true := o2
      have hv : isVar c2 = true ∨ isVar c = false ∨ ∃ i, c = .var i ∧ S[i]? = some .S := by
        simp only [Bool.or_eq_true] at o3
        rcases o3 with o3 | o3
        · exact .inl o3
        · right
          cases c with
          | var i => exact .inr ⟨i, rfl, by simpa using o3⟩
          | _ => exact .inl rfl
      cases args with
      | nil => unfold trEs at h3; cases h3
      | cons a args =>
        unfold trEs at h3
        simp only [Bool.and_eq_true] at h3
        cases args with
        | nil => have h4 := h3.2; unfold trEs at h4; cases h4
        | cons a2 args =>
          obtain ⟨⟨n1, n2⟩, n3⟩ := h3
          unfold trEs at n3
          simp only [Bool.and_eq_true] at n3
          cases args with
          | nil => exact pi_zipE (kind_of O.hs h1) (O.free _ h2) (exIt c X sc a S O n2 ok1 g) (exIt c2 X sc a2 S O n3.1.2 ok2 g2) O.K ok1 ok2 hv n1 n3.1.1
          | cons _ _ => have h4 := n3.2; unfold trEs at h4; cases h4
    | _ => unfold okIt at ok; cases ok
  | _ :: _ :: _ :: _, k, X, sc, e, S, tg, O, h, ok, ht => by
    cases k <;> (unfold okIt at ok; cases ok)
end
end
end Ev
end

section
set_option Elab.async false
set_option linter.all false
set_option maxRecDepth 100000
set_option maxHeartbeats 8000000
/-! EwC: statements: the static check, the text check, the reading. -/
namespace Ev
open PySem PySem.Spec PyProof.Rows L2
def joinSt (a b : Sta) : Sta := if a = b then a else if a.le .S && b.le .S then .S else .N
def joinS2 (a b : List Sta) : Option (List Sta) :=
  let j := List.zipWith joinSt a b
  if stsLe a j && stsLe b j then some j else none
def joinO : Option (List Sta) → Option (List Sta) → Option (Option (List Sta))
  | none, x => some x
  | some a, none => some (some a)
  | some a, some b => match joinS2 a b with
    | some j => some (some j)
    | none => none
def okRet (sg : Nat → Option Sig) (fr mv : Bool) (e : CE) (S : List Sta) : Bool := if mv then fr && (match e with | .var i => decide (S[i]? = some .O) | _ => false) else okE sg e S (if fr then .fr else .sh)
def ownI (S : List Sta) (i : Nat) : Bool := match S[i]? with
  | some .O => true
  | some .I => true
  | _ => false
section
variable (sg : Nat → Option Sig) (fr : Bool)
mutual
def anS : CS → List Sta → Option (List Sta) → Option (Option (List Sta))
  | .pass, S, _ => some (some S)
  | .never, _, _ => some none
  | .brk, S, L => match L with | some L' => if stsLe S L' then some none else none | none => none
  | .cnt, S, L => match L with | some L' => if stsLe S L' then some none else none | none => none
  | .ret mv e, S, _ => if okRet sg fr mv e S then some none else none
  | .expr e, S, _ => if okE sg e S .pk then some (some S) else none
  | .asg p own e, S, _ => if own then (match p with
      | .nm i => if okE sg e S .fr && asgSl S i then some (some (S.set i .O)) else none
      | _ => none)
    else if okE sg e S .sh && (ptVars p).all (asgSl S) then some (some (setAll S .S (ptVars p))) else none
  | .mov i j, S, _ => if decide (S[j]? = some .O) && asgSl S i && decide (i ≠ j) then some (some ((S.set j .N).set i .O)) else none
  | .shr i, S, _ => if decide (S[i]? = some .O) then some (some (S.set i .S)) else none
  | .aug i _ e, S, _ => if decide (S[i]? = some .S) && okE sg e S .pk then some (some S) else none
  | .setIx i k v, S, _ => if ownI S i && okE sg v S .sh && okE sg k S .sh then some (some S) else none
  | .augIx _ _ _ _, _, _ => none
  | .app i e, S, _ => if ownI S i && okE sg e S .sh then some (some S) else none
  | .ext i e, S, _ => if ownI S i && okE sg e S .pk && disj (pv e) [i] then some (some S) else none
  | .ife t a b, S, L => if okE sg t S .pk then (match anSs a S L with
      | some r1 => match anSs b S L with
        | some r2 => joinO r1 r2
        | none => none
      | none => none) else none
  | .whl iv t b, S, _ => if stsLe S iv && okE sg t iv .pk then (match anSs b iv (some iv) with
      | some none => some (some iv)
      | some (some r) => if stsLe r iv then some (some iv) else none
      | none => none) else none
  | .for iv p k it b, S, _ => if stsLe S iv && okIt sg k it iv && (ptVars p).all (asgSl (borW k iv it)) then (match anSs b (setAll (borW k iv it) .S (ptVars p)) (some (borW k iv it)) with
      | some none => some (some iv)
      | some (some r) => if stsLe r (borW k iv it) then some (some iv) else none
      | none => none) else none
  | .tryr b, S, L => anSs b S L
def anSs : List CS → List Sta → Option (List Sta) → Option (Option (List Sta))
  | [], S, _ => some (some S)
  | c :: cs, S, L => match anS c S L with
    | some (some S') => anSs cs S' L
    | some none => some none
    | none => none
end
end
/-! ### the text -/
def notComp : CE → Bool
  | .comp _ _ _ _ _ _ => false
  | .dcomp _ _ _ _ _ _ _ _ => false
  | .tup _ => false
  | _ => true
def isFn (sc : Scope) : Bool := match sc.kind with
  | .function => true
  | _ => false
/-- the comprehension's value is stored within -/
def swB (sc : Scope) (x : Str) (px : Pos) : Expr → Bool
  | .ListComp _ _ s p => (match sc.names.lookup x with | some .local => true | _ => false) && (px.line == p.line) && !(s.names.any fun (n, k) => n == x && (k == .local || k == .cell))
  | _ => false
section
variable (N : List Str) (gn : Nat → Str) (fn : Nat → Str) (fr : List Str)
mutual
def trS : CS → Scope → Stmt → Bool
  | .pass, _, st => match st with | .Pass _ => true | _ => false
  | .never, _, _ => true
  | .brk, _, st => match st with | .Break _ => true | _ => false
  | .cnt, _, st => match st with | .Continue _ => true | _ => false
  | .ret mv e, sc, st => match st with
    | .Return (some v) _ => trE N gn fn fr e sc v
    | .Return none _ => !mv && (match e with | .lit v => (match v with | .non => true | _ => false) | _ => false)
    | _ => false
  | .expr e, sc, st => match st with | .Expr v _ => notComp e && trE N gn fn fr e sc v | _ => false
  | .asg p _ e, sc, st => match st with
    | .Assign [tg] v _ => (match p with
      | .nm i => (match tg with | .Name x _ => decide (N[i]? = some x) && locB sc x | _ => false)
      | .tp _ => trP N p sc tg && notComp e) && trE N gn fn fr e sc v
    | _ => false
  | .mov i j, sc, st => match st with
    | .Assign [.Name x _] v _ => decide (N[i]? = some x) && locB sc x && trE N gn fn fr (.var j) sc v
    | _ => false
  | .shr _, _, _ => false
  | .aug i o e, sc, st => match st with
    | .AugAssign (.Name x _) p v _ => decide (N[i]? = some x) && locB sc x && decide (p = opOf o) && trE N gn fn fr e sc v
    | _ => false
  | .setIx i k v, sc, st => match st with
    | .Assign [.Subscript o kx _] vx _ => trE N gn fn fr (.var i) sc o && notSlice kx && trE N gn fn fr k sc kx && trE N gn fn fr v sc vx
    | _ => false
  | .augIx i k o v, sc, st => match st with
    | .AugAssign (.Subscript ob kx _) p vx _ => decide (p = opOf o) && trE N gn fn fr (.var i) sc ob && notSlice kx && trE N gn fn fr k sc kx && trE N gn fn fr v sc vx
    | _ => false
  | .app i e, sc, st => match st with
    | .Expr (.Call (.Attribute o m apos) [v] [] cpos) _ => decide (m = "append") && (apos.endLine == cpos.line) && trE N gn fn fr (.var i) sc o && notStar v && trE N gn fn fr e sc v
    | _ => false
  | .ext i e, sc, st => match st with
    | .Expr (.Call (.Attribute o m apos) [v] [] cpos) _ => decide (m = "extend") && (apos.endLine == cpos.line) && trE N gn fn fr (.var i) sc o && notStar v && trE N gn fn fr e sc v
    | _ => false
  | .ife t a b, sc, st => match st with
    | .If tv av bv _ => testB t && trE N gn fn fr t sc tv && trSs a sc av && trSs b sc bv
    | _ => false
  | .whl _ t b, sc, st => match st with
    | .While tv bv [] _ => testB t && trE N gn fn fr t sc tv && trSs b sc bv
    | _ => false
  | .for _ p k it b, sc, st => match st with
    | .For tg iter bv [] _ => notSet iter && trI N gn fn fr k it sc iter && trP N p sc tg && (match k with | .enum => (match p with | .tp _ => true | _ => false) | .zip => (match p with | .tp _ => true | _ => false) | _ => true) && trSs b sc bv
    | _ => false
  | .tryr b, sc, st => match st with
    | .Try bv (_ :: _) [] [] _ => trSs b sc bv
    | _ => false
def trSs : List CS → Scope → List Stmt → Bool
  | [], _, sts => match sts with | [] => true | _ => false
  | c :: cs, sc, sts => match c with
    | .shr _ => trSs cs sc sts
    | _ => match sts with
      | [] => false
      | st :: sts => trS c sc st && trSs cs sc sts
end
end
/-! ### the reading -/
def RetOk (K : PySem.W.Frag) (F : Frm) (E : Addr → Prop) (fr : Bool) (env : Env) (x : EV) (v : V) (H : Hp) : Prop := ∃ (S2 : List Sta) (σ2 : L2.St),
  (x.isCon = true ∧ fr = true ∧ ∃ p, v = .ref p ∧ ¬ E p ∧ F.H0 p = none ∧ Wr H p ∧ Rel K F (plusA E p) S2 env σ2 H ∧ RepC K H (Av F (plusA E p) S2 σ2) p x) ∨
  ((fr = true → x.isCon = false) ∧ Rel K F E S2 env σ2 H ∧ Rep K H (Av F E S2 σ2) v x)
def EndOk (K : PySem.W.Frag) (fr : Bool) (F : Frm) (E : Addr → Prop) (L r : Option (List Sta)) (fl : Fl) (env : Env) (D : Ends) : Prop := match fl with
  | .nx => ∀ S', r = some S' → ∀ σ' H', Rel K F E S' env σ' H' → D.nx σ' H'
  | .brk => ∀ L', L = some L' → ∀ σ' H', Rel K F E L' env σ' H' → D.bk σ' H'
  | .cnt => ∀ L', L = some L' → ∀ σ' H', Rel K F E L' env σ' H' → D.ct σ' H'
  | .ret x => ∀ v H', RetOk K F E fr env x v H' → D.rt v H'
def tS (G : Glob) (W : Nat) (fr : Bool) (L : Option (List Sta)) (S : List Sta) (r : Option (List Sta)) (c : CS) : TS := fun D σ H => ∃ (F : Frm) (E : Addr → Prop) (env : Env) (fl : Fl) (env' : Env),
  Rel G.K F E S env σ H ∧ ex G.cf G.gb W c env = some (fl, env') ∧ EndOk G.K fr F E L r fl env' D
def tSs (G : Glob) (W : Nat) (fr : Bool) (L : Option (List Sta)) (S : List Sta) (r : Option (List Sta)) (cs : List CS) : TS := fun D σ H => ∃ (F : Frm) (E : Addr → Prop) (env : Env) (fl : Fl) (env' : Env),
  Rel G.K F E S env σ H ∧ exs G.cf G.gb W cs env = some (fl, env') ∧ EndOk G.K fr F E L r fl env' D
theorem _root_.L2.PS.imp {X : Cx} {e : Stmt} {t t' : TS} (h : PS X e t) (k : ∀ D σ H, t' D σ H → t D σ H) : PS X e t' := ⟨fun pins s σ H D I q => h.run pins s σ H D I (k D σ H q)⟩
theorem _root_.L2.PSs.imp {X : Cx} {e : List Stmt} {t t' : TS} (h : PSs X e t) (k : ∀ D σ H, t' D σ H → t D σ H) : PSs X e t' := ⟨fun pins s σ H D I q => h.run pins s σ H D I (k D σ H q)⟩
/-- a def's frame -/
structure FOk (G : Glob) (N : List Str) (X : Cx) (sc : Scope) : Prop where
  O : XOk G N X sc
  fnC : ∀ x, sc.names.lookup x = some .cell → X.fn x = true
  kind : sc.kind = .function
  po : PassesOwn (model X.prog X.w) X.A X.env X.xe
theorem FOk.nox {G : Glob} {N : List Str} {X : Cx} {sc : Scope} (O : FOk G N X sc) : FOk G N X.nox sc := ⟨O.O.nox, O.fnC, O.kind, PassesOwn.never⟩
end Ev
end

section
set_option Elab.async false
set_option linter.all false
set_option maxRecDepth 100000
set_option maxHeartbeats 8000000
/-! EwD: statements, piece by piece. -/
namespace Ev
open PySem PySem.Spec PyProof.Rows L2
section
variable {G : Glob} {N : List Str} {X : Cx} {sc : Scope} {S S' : List Sta} {L r : Option (List Sta)} {W : Nat} {fr : Bool} {st : Stmt} {e : CE} {i : Nat} {pos : Pos}
theorem FOk.loc (O : FOk G N X sc) : ∀ x, locB sc x = true → Loc X.env.scope x ∧ (X.fn x = true ∨ X.env.scope.names.lookup x = some .local) := fun x h => by
  rw [O.O.hs]
  rcases locB_ok h with h | h
  · exact ⟨.inl h, .inr h⟩
  · exact ⟨.inr h, .inl (O.fnC x h)⟩
theorem end_nx {K : PySem.W.Frag} {F : Frm} {E : Addr → Prop} {env : Env} {D : Ends} (h : EndOk K fr F E L (some S') .nx env D) : ∀ σ' H', Rel K F E S' env σ' H' → D.nx σ' H' := h S' rfl
theorem st_pass : PS X (.Pass pos) (tS G W fr L S (some S) .pass) := ps_pass.imp fun D σ H ⟨F, E, env, fl, env', R, ee, q⟩ => by
  rw [ex] at ee
  cases ee
  exact end_nx q σ H R
theorem st_never : PS X st (tS G W fr L S none .never) := ps_never.imp fun D σ H ⟨F, E, env, fl, env', R, ee, q⟩ => by
  rw [ex] at ee
  cases ee
theorem st_brk {L' : List Sta} (h : stsLe S L' = true) : PS X (.Break pos) (tS G W fr (some L') S none .brk) := ps_break.imp fun D σ H ⟨F, E, env, fl, env', R, ee, q⟩ => by
  rw [ex] at ee
  cases ee
  exact q L' rfl σ H (R.weak h)
theorem st_cnt {L' : List Sta} (h : stsLe S L' = true) : PS X (.Continue pos) (tS G W fr (some L') S none .cnt) := ps_continue.imp fun D σ H ⟨F, E, env, fl, env', R, ee, q⟩ => by
  rw [ex] at ee
  cases ee
  exact q L' rfl σ H (R.weak h)
theorem ex_ret {cf : Cf} {gb : Gb} {mv : Bool} {env env' : Env} {fl : Fl} (h : ex cf gb W (.ret mv e) env = some (fl, env')) : ∃ v, ev cf gb e env = some (v, env') ∧ fl = .ret v ∧ (mv = true → v.isCon = true) := by
  rw [ex] at h
  split at h
  · split at h
    · cases h
    · rename_i hn
      cases h
      refine ⟨_, by assumption, rfl, fun hm => ?_⟩
      rw [hm] at hn
      simpa using hn
  · cases h
/-- what is returned is told apart -/
theorem ret_post {K : PySem.W.Frag} {F : Frm} {E : Addr → Prop} {env env' : Env} {σ : L2.St} {H H' : Hp} {x : EV} {v : V} {l pvs : List Nat} {m : Md} (R : Rel K F E S env σ H) (hm : m = if fr then .fr else .sh) (p : Post K F E S σ m l pvs H env' x v H') : RetOk K F E fr env' x v H' := by
  cases fr with
  | true =>
    have hm : m = .fr := hm
    subst hm
    rcases p.2 with ⟨hc, R1, r⟩ | ⟨hc, pp, rfl, hp, w, R1, r⟩
    · exact ⟨S, σ, .inr ⟨fun _ => hc, R1, r⟩⟩
    · refine ⟨S, σ, .inl ⟨hc, rfl, pp, rfl, fun e => R.eT pp e hp, ?_, w, R1, r⟩⟩
      cases z : F.H0 pp with
      | none => rfl
      | some o => exact absurd hp (R.live pp (by rw [z]; simp))
  | false =>
    have hm : m = .sh := hm
    subst hm
    exact ⟨S, σ, .inr ⟨(fun h => nomatch h), p.2.1, p.2.2⟩⟩
theorem Rel.release {K : PySem.W.Frag} {F : Frm} {E : Addr → Prop} {env : Env} {σ : L2.St} {H : Hp} {a : Addr} {x : EV} (R : Rel K F E S env σ H) (hi : S[i]? = some .O) (ha : σ[i]? = some (some (.ref a))) (hx : env[i]? = some (some x)) :
    ¬ E a ∧ F.H0 a = none ∧ Wr H a ∧ x.isCon = true ∧ Rel K F (plusA E a) (S.set i .N) env σ H ∧ RepC K H (Av F (plusA E a) (S.set i .N) σ) a x := by
  have own : OwnA S σ a := ⟨i, .O, hi, rfl, ha⟩
  obtain ⟨e, v, e1, e2, y, b, q1, q2, hc, rc, hw⟩ := R.slot i .O hi
  rw [ha] at e2
  rw [hx] at e1
  cases e1
  cases e2
  cases q1
  cases q2
  have sub : ∀ {b}, OwnA (S.set i .N) σ b → OwnA S σ b := fun {b} ⟨j, s1, q1, q2, q3⟩ => by
    rcases set_get q1 with ⟨_, e⟩ | ⟨_, q1⟩
    · rw [← e] at q2; cases q2
    · exact ⟨j, s1, q1, q2, q3⟩
  have hA : ∀ b, ¬ Av F E S σ b → H b ≠ none → ¬ Av F (plusA E a) (S.set i .N) σ b := fun b n _ q => n (by
    rcases q with q | (q | q) | q
    · exact .inl q
    · exact .inr (.inl q)
    · exact .inr (.inr (q ▸ own))
    · exact .inr (.inr (sub q)))
  have li : i < S.length := get_lt hi
  refine ⟨fun h => R.eD a h own, R.fresh i a hi ha, hw, hc, ⟨by simp [R.le], by simp [R.ls], fun j st' h => ?_, fun j k b s1 s2 ne q1 q2 q3 q4 q5 => ?_, R.pres, R.live, R.a0, R.m0, fun b hb => ?_, fun b hb q => ?_, fun j b q1 q2 => ?_, fun j b q1 q2 => ?_, fun p hp => (R.kept p hp).mono .rfl hA, fun p hp => ?_, fun j hj => ios_set hi (by decide) (by decide) (R.ios j hj), fun j hj => R.bx j (b_set (by decide) hj), R.ioa⟩, rc.mono' .rfl hA (fun _ q => q) fun _ _ q => q⟩
  · by_cases hj : i = j
    · subst hj
      rw [List.getElem?_set_self li] at h
      cases h
      exact ⟨_, _, hx, ha, trivial⟩
    · rw [List.getElem?_set_ne hj] at h
      obtain ⟨e, v, e1, e2, ok⟩ := R.slot j st' h
      exact ⟨e, v, e1, e2, ok.mono .rfl hA fun _ _ _ z => z⟩
  · rcases set_get q1 with ⟨_, e⟩ | ⟨n1, q1⟩
    · rw [← e] at q2; cases q2
    rcases set_get q3 with ⟨_, e⟩ | ⟨n3, q3⟩
    · rw [← e] at q4; rcases q4 with q4 | q4 <;> cases q4
    · exact R.uniq j k b s1 s2 ne q1 q2 q3 q4 q5
  · rcases hb with hb | rfl
    · exact R.eT b hb
    · exact R.av_tracked (.inr (.inr own))
  · rcases hb with hb | rfl
    · exact R.eD b hb (sub q)
    · obtain ⟨j, s1, q1, q2, q3⟩ := q
      rcases set_get q1 with ⟨_, e⟩ | ⟨n1, q1⟩
      · rw [← e] at q2; cases q2
      · exact R.uniq i j b .O s1 n1 hi rfl q1 (.inl q2) ha q3
  · rcases set_get q1 with ⟨_, e⟩ | ⟨n1, q1⟩
    · cases e
    · exact R.fresh j b q1 q2
  · rcases set_get q1 with ⟨_, e⟩ | ⟨n1, q1⟩
    · cases e
    · exact R.inn j b q1 q2
  · obtain ⟨f1, f2, f3⟩ := R.fix p hp
    have ne : i ≠ p.1 := fun e => by rw [← e, hi] at f1; cases f1
    exact ⟨by rw [List.getElem?_set_ne ne]; exact f1, f2, f3⟩
theorem st_ret {mv : Bool} {v : Expr} (O : FOk G N X sc) (h : trE N G.gname G.fname G.free e sc v = true) (ok : okRet G.sg fr mv e S = true) : PS X (.Return (some v) pos) (tS G W fr L S none (.ret mv e)) := by
  unfold okRet at ok
  cases mv with
  | true =>
    simp only [if_true, Bool.and_eq_true] at ok
    obtain ⟨hf, ok⟩ := ok
    cases e with
    | var i =>
      simp only [decide_eq_true_eq] at ok
      refine (ps_ret (pe_varO O.O.hN O.O.hs h)).imp fun D σ H ⟨F, E, env, fl, env', R, ee, q⟩ => ?_
      obtain ⟨x, h1, rfl, _⟩ := ex_ret ee
      rw [ev] at h1
      split at h1
      · rename_i y ey
        cases h1
        obtain ⟨e0, v0, e1, e2, y', a, q1, q2, _⟩ := R.slot i .O ok
        subst q2
        obtain ⟨k1, k2, k3, k4, k5, k6⟩ := R.release ok e2 ey
        exact ⟨.ref a, e2, q (.ref a) H ⟨_, _, .inl ⟨k4, hf, a, rfl, k1, k2, k3, k5, k6⟩⟩⟩
      · cases h1
    | _ => cases ok
  | false =>
    simp only [Bool.false_eq_true, if_false] at ok
    refine (ps_ret ((exG e).1 X sc v S _ O.O h ok)).imp fun D σ H ⟨F, E, env, fl, env', R, ee, q⟩ => ?_
    obtain ⟨x, h1, rfl, _⟩ := ex_ret ee
    exact ⟨F, E, env, env', x, R, h1, fun u H' p => q u H' (ret_post R rfl p)⟩
theorem st_retN {mv : Bool} : PS X (.Return none pos) (tS G W fr L S none (.ret mv (.lit .non))) := ps_retN.imp fun D σ H ⟨F, E, env, fl, env', R, ee, q⟩ => by
  obtain ⟨x, h1, rfl, _⟩ := ex_ret ee
  rw [ev] at h1
  cases h1
  exact q .non H ⟨S, σ, .inr ⟨fun _ => rfl, R, .non⟩⟩
theorem sw_none {v : Expr} {l : Nat} {env : PySem.Env} {c : CE} (hn : notComp c = true) (h : trE N G.gname G.fname G.free c sc v = true) (t : Option Expr) : swapsWith v t l env = pure false := by
  cases c <;> first | (cases hn; done) | (unfold trE at h; split at h <;> first | rfl | (cases h; done)) | (unfold trE at h; cases h; done)
theorem st_expr {v : Expr} (O : FOk G N X sc) (hn : notComp e = true) (h : trE N G.gname G.fname G.free e sc v = true) (ok : okE G.sg e S .pk = true) : PS X (.Expr v pos) (tS G W fr L S (some S) (.expr e)) :=
  (ps_expr ((exG e).1 X sc v S .pk O.O h ok) (sw_none hn h none)).imp fun D σ H ⟨F, E, env, fl, env', R, ee, q⟩ => by
    rw [ex] at ee
    split at ee
    · cases ee
      exact ⟨F, E, env, env', _, R, by assumption, fun u H' p => end_nx q σ H' p.2.1⟩
    · cases ee
end
end Ev
end

section
set_option Elab.async false
set_option linter.all false
set_option maxRecDepth 100000
set_option maxHeartbeats 8000000
/-! EwE: stores. -/
namespace Ev
open PySem PySem.Spec PyProof.Rows L2
section
variable {G : Glob} {N : List Str} {X : Cx} {sc : Scope} {S S' : List Sta} {L r : Option (List Sta)} {W : Nat} {fr : Bool} {st : Stmt} {e : CE} {i : Nat} {pos : Pos}
theorem sw_comp {elt : Expr} {gs : List Comprehension} {scope : Scope} {p px : Pos} {x : Str} {l : Nat} {env : PySem.Env} (hk : env.scope.kind = .function) : swapsWith (.ListComp elt gs scope p) (some (.Name x px)) l env = pure (swB env.scope x px (.ListComp elt gs scope p)) := by
  have hb : env.blockKind = .function := by unfold Env.blockKind; rw [hk]; rfl
  unfold swapsWith swB
  simp only [hb, Expr.pos, Env.kindOf]
  cases h : List.lookup x env.scope.names with
  | none => rfl
  | some k => cases k <;> rfl
theorem comp_join_ps {scope : Scope} {vs : List Nat} {k : ItK} {it : List CE} {p : Pt} {ifs : List CE} {elt tg iter : Expr} {tests : List Expr} {y : Str} {py spos : Pos} (O : XOk G N X sc)
    (hy : N[i]? = some y) (hyl : sc.names.lookup y = some .local) (hsw : swapsWith (.ListComp elt [⟨tg, iter, tests, 0⟩] scope pos) (some (.Name y py)) spos.line X.env = pure true)
    (hi : PI X tg iter (tW G S k it)) (hi2 : ∀ i, it = [.var i] → k = .val → S[i]? ≠ some .N ∧ i < S.length ∧ PI X tg iter (tW G (bor1 S (.var i)) .val [.var i])) (hv : k = .val → ∃ i, it = [.var i])
    (hns : notSet iter = true) (hp : trP N p scope tg = true) (hb : blkC N sc scope (ownOf N vs) = true) (hov : (ownOf N vs).map (·.2) = vs) (hfr : vs.all (freeSl S) = true) (hpv : ∀ v ∈ ptVars p, v ∈ vs)
    (ht : ∀ (X' : Cx), XOk G N X' (relS scope sc) → PTs X' tests (tTs G (setAll (setAll (borW k S it) .N vs) .S (ptVars p)) ifs)) (he : ∀ (X' : Cx), XOk G N X' (relS scope sc) → PE X' elt (tE G (setAll (setAll (borW k S it) .N vs) .S (ptVars p)) .sh e)) :
    PS X (.Assign [.Name y py] (.ListComp elt [⟨tg, iter, tests, 0⟩] scope pos) spos) (tAsg (tE G S .fr (.comp vs k it p ifs e)) (gName i)) := by
  have no : nonOwn S vs := free_nonOwn hfr
  have core : ∀ (S' : List Sta), PI X tg iter (tW G S' k it) → nonOwn S' vs → borW k S' it = borW k S it → PS X (.Assign [.Name y py] (.ListComp elt [⟨tg, iter, tests, 0⟩] scope pos) spos) (tAsg (tCo G S' vs k it p ifs e) (gName i)) := fun S' hi no' eb => by
    refine (ps_setLc (own := ownOf N vs) (g := tP G (setAll (borW k S' it) .N vs) p) (tt := tTs G (setAll (setAll (borW k S' it) .N vs) .S (ptVars p)) ifs) (te := tE G (setAll (setAll (borW k S' it) .N vs) .S (ptVars p)) .sh e) O.calm (by rw [O.hN]; exact O.nd) (by rw [O.hN]; exact hy) (by rw [O.hs]; exact hyl) hsw hi (by rw [O.hN, O.hs]; exact blkOk_by hb) (fun s H C cl fp => ?_) (fun s H C cl fp => ?_) (fun s H C cl fp => ?_) (folded hns)).imp fun D σ H h => ?_
    · refine pg_ok (X := X.blk s H scope (compEnvC scope cl C X.env) fp) O.hN O.nd O.calm O.K blk_loc p tg _ hp fun v hvp => ?_
      rw [eb]
      have hvs := hpv v hvp
      unfold asgSl
      have hl : v < (borW k S it).length := (borW_free (k := k) (it := it) no v hvs).elim get_lt get_lt
      rw [setAll_in hvs hl]
    · rw [eb]; exact ht _ (O.blk s H scope C cl fp)
    · rw [eb]; exact he _ (O.blk s H scope C cl fp)
    · rw [hov]
      exact tLc_of no' hpv h
  refine comp_all_ps ⟨i, rfl⟩ (core S hi no rfl) (fun i hit hk => ?_) hv
  obtain ⟨h1, h2, h3⟩ := hi2 i hit hk
  subst hit hk
  refine ⟨h1, h2, core _ h3 (fun j hj => ?_) ?_⟩
  · rw [bor_free (no j hj)]; exact no j hj
  · show borS (bor1 S (.var i)) [.var i] = borS S [.var i]
    exact bor1_idem
/-- a walk whose one thing is a variable -/
theorem walk_var {k : ItK} {it : List CE} {iter tg : Expr} (O : XOk G N X sc) (hi : trI N G.gname G.fname G.free k it sc iter = true) (b1 : okIt G.sg k it S = true) :
    (∀ i, it = [.var i] → k = .val → S[i]? ≠ some .N ∧ i < S.length ∧ PI X tg iter (tW G (bor1 S (.var i)) .val [.var i])) ∧ (k = .val → ∃ i, it = [.var i]) := by
  refine ⟨fun i hit hk => ?_, fun hk => ?_⟩
  · subst hit hk
    unfold okIt at b1
    simp only [isVar, Bool.true_and, Bool.not_true, Bool.false_and, Bool.or_false] at b1
    have b1' : S[i]? ≠ some .N ∧ i < S.length := okIt1_var (sg := G.sg).mp (by unfold okIt1; simp [b1])
    have hi := trI_val hi
    exact ⟨b1'.1, b1'.2, pi_val (pe_varO O.hN O.hs hi) O.K (okIt_bor (okIt1_var.mpr b1'))⟩
  · subst hk
    cases it with
    | nil => unfold okIt at b1; cases b1
    | cons c r =>
      cases r with
      | nil =>
        cases c with
        | var i => exact ⟨i, rfl⟩
        | _ => unfold okIt at b1; simp [isVar] at b1
      | cons _ _ => unfold okIt at b1; cases b1
theorem sh_imp {c : CE} {m : Md} {σ : L2.St} {H : Hp} {Q : VK} (hm : m ≠ .pk) (h : tE G S m c σ H Q) : tE G S .fr c σ H Q := by
  cases m with
  | fr => exact h
  | sh =>
    obtain ⟨F, E, env, env', x, R, ee, q⟩ := h
    exact ⟨F, E, env, env', x, R, ee, fun v H' p => q v H' (p.toSh R)⟩
  | pk => exact absurd rfl hm
/-- name = value -/
theorem asg_pe {v : Expr} {x : Str} {px : Pos} {m : Md} (O : FOk G N X sc) (hx : N[i]? = some x) (hl : locB sc x = true) (h : trE N G.gname G.fname G.free e sc v = true) (ok : okE G.sg e S m = true) (hm : m ≠ .pk) : PS X (.Assign [.Name x px] v pos) (tAsg (tE G S m e) (gName i)) := by
  obtain ⟨l1, l2⟩ := O.loc x hl
  have norm : swapsWith v (some (.Name x px)) pos.line X.env = pure false → PS X (.Assign [.Name x px] v pos) (tAsg (tE G S m e) (gName i)) := fun hs =>
    ps_set (by rw [O.O.hN]; exact O.O.nd) (by rw [O.O.hN]; exact hx) l1 ((exG e).1 X sc v S m O.O h ok) hs l2
  cases e with
  | comp vs k it p ifs e' =>
    have h0 := h
    have ok0 := ok
    unfold trE at h
    split at h
    · rename_i elt tg iter tests scope pp
      unfold okE at ok
      simp only [Bool.and_eq_true, decide_eq_true_eq] at h ok
      obtain ⟨⟨⟨⟨⟨⟨⟨⟨⟨a1, a2⟩, a3⟩, a4⟩, a5⟩, a6⟩, a7⟩, a8⟩, a9⟩, a10⟩ := h
      obtain ⟨⟨⟨⟨b1, b2⟩, b3⟩, b4⟩, b5⟩ := ok
      have hsw := sw_comp (elt := elt) (gs := [⟨tg, iter, tests, 0⟩]) (scope := scope) (p := pp) (px := px) (x := x) (l := pos.line) (env := X.env) (by rw [O.O.hs]; exact O.kind)
      rw [O.O.hs] at hsw
      cases hb : swB sc x px (.ListComp elt [⟨tg, iter, tests, 0⟩] scope pp) with
      | false => rw [hb] at hsw; exact norm hsw
      | true =>
        rw [hb] at hsw
        have hyl : sc.names.lookup x = some .local := by
          unfold swB at hb
          simp only [Bool.and_eq_true] at hb
          have := hb.1.1
          split at this
          · assumption
          · cases this
        have htu : (k = .enum ∨ k = .zip) → ∃ es kk tp, tg = .Tuple es kk tp := fun hk => by
          have : ∃ ps, p = .tp ps := by
            rcases hk with rfl | rfl <;> (cases p with | tp ps => exact ⟨ps, rfl⟩ | nm _ => simp at a8)
          obtain ⟨ps, rfl⟩ := this
          unfold trP at a3
          split at a3
          · exact ⟨_, _, _, rfl⟩
          · cases a3
        obtain ⟨w1, w2⟩ := walk_var (tg := tg) O.O a2 b1
        have main := comp_join_ps (spos := pos) O.O hx hyl hsw (exI it k X sc iter S tg O.O a2 b1 htu) w1 w2 a1 a3 a4 a5 b2 (fun v hv => by simpa using List.all_eq_true.mp b3 v hv) (fun X' O' => exTs ifs X' _ tests _ O' a9 b4 a6 a7) (fun X' O' => (exG e').1 X' _ elt _ .sh O' a10 b5)
        exact main.imp fun D σ H h => sh_imp hm h
    · cases h
  | tup es => exact norm (by unfold trE at h; split at h <;> first | rfl | (cases h; done))
  | dcomp _ _ _ _ _ _ _ _ => unfold trE at h; cases h
  | _ => exact norm (sw_none rfl h _)
theorem ex_asg {cf : Cf} {gb : Gb} {p : Pt} {o : Bool} {env env' : Env} {fl : Fl} (h : ex cf gb W (.asg p o e) env = some (fl, env')) : ∃ v s1, ev cf gb e env = some (v, s1) ∧ (o = true → v.isCon = true) ∧ bindP p v s1 = some env' ∧ fl = .nx := by
  rw [ex] at h
  split at h
  · split at h
    · cases h
    · rename_i hn
      split at h
      · cases h
        refine ⟨_, _, by assumption, fun ho => ?_, by assumption, rfl⟩
        rw [ho] at hn
        simpa using hn
      · cases h
  · cases h
theorem st_asgS {v : Expr} {x : Str} {px : Pos} (O : FOk G N X sc) (hx : N[i]? = some x) (hl : locB sc x = true) (h : trE N G.gname G.fname G.free e sc v = true) (ok : okE G.sg e S .sh = true) (ha : asgSl S i = true) : PS X (.Assign [.Name x px] v pos) (tS G W fr L S (some (S.set i .S)) (.asg (.nm i) false e)) :=
  (asg_pe O hx hl h ok (by decide)).imp fun D σ H ⟨F, E, env, fl, env', R, ee, q⟩ => by
    obtain ⟨y, s1, h1, _, h2, rfl⟩ := ex_asg ee
    unfold bindP at h2
    cases h2
    obtain ⟨st, e1, n1, n2⟩ := asg_ne ha
    exact ⟨F, E, env, s1, y, R, h1, fun u H' ⟨_, R1, r1⟩ => end_nx q _ H' (R1.setS e1 n1 n2 r1)⟩
theorem st_asgO {v : Expr} {x : Str} {px : Pos} (O : FOk G N X sc) (hx : N[i]? = some x) (hl : locB sc x = true) (h : trE N G.gname G.fname G.free e sc v = true) (ok : okE G.sg e S .fr = true) (ha : asgSl S i = true) : PS X (.Assign [.Name x px] v pos) (tS G W fr L S (some (S.set i .O)) (.asg (.nm i) true e)) :=
  (asg_pe O hx hl h ok (by decide)).imp fun D σ H ⟨F, E, env, fl, env', R, ee, q⟩ => by
    obtain ⟨y, s1, h1, hc, h2, rfl⟩ := ex_asg ee
    unfold bindP at h2
    cases h2
    obtain ⟨st, e1, n1, n2⟩ := asg_ne ha
    refine ⟨F, E, env, s1, y, R, h1, fun u H' ⟨_, po⟩ => ?_⟩
    rcases po with ⟨hc', _, _⟩ | ⟨_, p, rfl, hp, hw, R1, rc⟩
    · rw [hc rfl] at hc'; cases hc'
    · refine end_nx q _ H' (R1.setO e1 n1 n2 (hc rfl) rc hw ?_ (fun z => R.eT p z hp) fun j hj z => ?_)
      · cases z : F.H0 p with
        | none => rfl
        | some o => exact absurd hp (R.live p (by rw [z]; simp))
      · obtain ⟨e', v', k1, k2, y', a, k3, k4, _, rc'⟩ := R.slot j .B hj
        rw [z] at k2
        cases k2
        cases k4
        exact rc'.tracked hp
theorem st_asgT {v tg : Expr} {ps : List Pt} (O : FOk G N X sc) (hp : trP N (.tp ps) sc tg = true) (hn : notComp e = true) (h : trE N G.gname G.fname G.free e sc v = true) (ok : okE G.sg e S .sh = true) (ha : ∀ w ∈ ptVars (.tp ps), asgSl S w = true) : PS X (.Assign [tg] v pos) (tS G W fr L S (some (setAll S .S (ptVars (.tp ps)))) (.asg (.tp ps) false e)) := by
  have htg : ∃ es kk tp, tg = .Tuple es kk tp := by
    unfold trP at hp
    split at hp
    · exact ⟨_, _, _, rfl⟩
    · cases hp
  obtain ⟨es, kk, tp, rfl⟩ := htg
  have hsw : swappedStores [.Tuple es kk tp] v X.env = pure none := by
    cases e <;> first | (cases hn; done) | (unfold trE at h; split at h <;> first | rfl | (cases h; done)) | (unfold trE at h; cases h; done)
  refine (ps_asg ((exG e).1 X sc v S .sh O.O h ok) (pg_ok O.O.hN O.O.nd O.O.calm O.O.K O.loc (.tp ps) _ S hp ha) (show swapsWith v (some (.Tuple es kk tp)) pos.line X.env = pure false from sw_none hn h _) hsw rfl).imp fun D σ H ⟨F, E, env, fl, env', R, ee, q⟩ => ?_
  obtain ⟨y, s1, h1, _, h2, rfl⟩ := ex_asg ee
  exact ⟨F, E, env, s1, y, R, h1, fun u H' ⟨_, R1, r1⟩ => ⟨F, E, s1, env', y, R1, r1, h2, fun σ' R2 _ _ => end_nx q σ' H' R2⟩⟩
end
end Ev
end

section
set_option Elab.async false
set_option linter.all false
set_option maxRecDepth 100000
set_option maxHeartbeats 8000000
/-! EwF: moves, augmented stores, stores into lists and dicts, append, extend. -/
namespace Ev
open PySem PySem.Spec PyProof.Rows L2
def rIp (f : EV → EV → Option EV) : TIp := fun x y H Q => ∃ i j k, x = .int i ∧ y = .int j ∧ f (.int i) (.int j) = some (.int k) ∧ Q (.int k) H
section
variable {X : Cx}
theorem ip_all : ∀ o : Op, PIp X (opOf o) (rIp (opE o)) := fun o pins s σ H x y v u Q I rx ry h => by
  obtain ⟨i, j, k, rfl, rfl, e, q⟩ := h
  cases o with
  | add => cases e; exact iop_add pins s σ H _ _ _ _ Q I rx ry ⟨i, j, rfl, rfl, q⟩
  | sub => cases e; exact iop_sub pins s σ H _ _ _ _ Q I rx ry ⟨i, j, rfl, rfl, q⟩
  | mul =>
    simp only [opE] at e
    split at e
    · rename_i hl
      simp only [lim64, Bool.or_eq_true, Bool.and_eq_true, decide_eq_true_eq] at hl
      cases e
      exact iop_mul pins s σ H _ _ _ _ Q I rx ry ⟨i, j, rfl, rfl, hl, q⟩
    · cases e
  | fdiv =>
    simp only [opE] at e
    split at e
    · rename_i hl
      simp only [divOk, shlOk, Bool.and_eq_true, decide_eq_true_eq] at hl
      cases e
      exact iop_fdiv pins s σ H _ _ _ _ Q I rx ry ⟨i, j, rfl, rfl, hl, q⟩
    · cases e
  | mod =>
    simp only [opE] at e
    split at e
    · rename_i hl
      simp only [decide_eq_true_eq] at hl
      cases e
      exact iop_mod pins s σ H _ _ _ _ Q I rx ry ⟨i, j, rfl, rfl, hl, q⟩
    · cases e
  | shl =>
    simp only [opE] at e
    split at e
    · rename_i hl
      simp only [divOk, shlOk, Bool.and_eq_true, decide_eq_true_eq] at hl
      cases e
      exact iop_shl pins s σ H _ _ _ _ Q I rx ry ⟨i, j, rfl, rfl, ⟨hl.1.1, hl.1.2, hl.2⟩, q⟩
    · cases e
end
section
variable {K : PySem.W.Frag} {H : Hp} {A : Addr → Prop}
theorem RepK.has {k : Key} {x : EV} (hk : KeyR k x) : ∀ {kv : List (Key × V)} {xs : List (EV × EV)}, RepK K H A kv xs → (kv.any fun p => decide (p.1 = k)) = dHas x xs
  | _, _, .nil => rfl
  | _, _, .cons h r t => by
    rw [List.any_cons, dHas, RepK.has hk t, ← h.eq hk]
theorem RepK.rep {k : Key} {x w : EV} {v : V} (hk : KeyR k x) (hv : Rep K H A v w) : ∀ {kv : List (Key × V)} {xs : List (EV × EV)}, RepK K H A kv xs → RepK K H A (kv.map fun p => if p.1 = k then (p.1, v) else p) (dRep x w xs)
  | _, _, .nil => .nil
  | _, _, .cons (k := k1) (e := e1) (v := v1) h r t => by
    rw [List.map_cons, dRep]
    have e := h.eq hk
    cases q : eqE e1 x with
    | true =>
      rw [q, decide_eq_true_eq] at e
      rw [if_pos e, if_pos rfl]
      exact .cons h hv (RepK.rep hk hv t)
    | false =>
      rw [q, decide_eq_false_iff_not] at e
      rw [if_neg e, if_neg (by decide)]
      exact .cons h r (RepK.rep hk hv t)
theorem RepK.app : ∀ {kv kv2 : List (Key × V)} {xs xs2 : List (EV × EV)}, RepK K H A kv xs → RepK K H A kv2 xs2 → RepK K H A (kv ++ kv2) (xs ++ xs2)
  | _, _, _, _, .nil, h => h
  | _, _, _, _, .cons h r t, q => .cons h r (RepK.app t q)
theorem RepK.put {k : Key} {x w : EV} {v : V} (hk : KeyR k x) (hv : Rep K H A v w) {kv : List (Key × V)} {xs : List (EV × EV)} (r : RepK K H A kv xs) : RepK K H A (putK kv k v) (dPut xs x w) := by
  unfold putK dPut
  rw [RepK.has hk r]
  split
  · exact RepK.rep hk hv r
  · exact r.app (.cons hk hv .nil)
theorem RepT.has {k : List Key} {x : EV} (hk : TKeyR k x) : ∀ {kv : List (List Key × V)} {xs : List (EV × EV)}, RepT K H A kv xs → (kv.any fun p => decide (p.1 = k)) = dHas x xs
  | _, _, .nil => rfl
  | _, _, .cons h r t => by
    rw [List.any_cons, dHas, RepT.has hk t, ← h.eq hk]
theorem RepT.rep {k : List Key} {x w : EV} {v : V} (hk : TKeyR k x) (hv : Rep K H A v w) : ∀ {kv : List (List Key × V)} {xs : List (EV × EV)}, RepT K H A kv xs → RepT K H A (kv.map fun p => if p.1 = k then (p.1, v) else p) (dRep x w xs)
  | _, _, .nil => .nil
  | _, _, .cons (k := k1) (e := e1) (v := v1) h r t => by
    rw [List.map_cons, dRep]
    have e := h.eq hk
    cases q : eqE e1 x with
    | true =>
      rw [q, decide_eq_true_eq] at e
      rw [if_pos e, if_pos rfl]
      exact .cons h hv (RepT.rep hk hv t)
    | false =>
      rw [q, decide_eq_false_iff_not] at e
      rw [if_neg e, if_neg (by decide)]
      exact .cons h r (RepT.rep hk hv t)
theorem RepT.app : ∀ {kv kv2 : List (List Key × V)} {xs xs2 : List (EV × EV)}, RepT K H A kv xs → RepT K H A kv2 xs2 → RepT K H A (kv ++ kv2) (xs ++ xs2)
  | _, _, _, _, .nil, h => h
  | _, _, _, _, .cons h r t, q => .cons h r (RepT.app t q)
theorem RepT.put {k : List Key} {x w : EV} {v : V} (hk : TKeyR k x) (hv : Rep K H A v w) {kv : List (List Key × V)} {xs : List (EV × EV)} (r : RepT K H A kv xs) : RepT K H A (putK kv k v) (dPut xs x w) := by
  unfold putK dPut
  rw [RepT.has hk r]
  split
  · exact RepT.rep hk hv r
  · exact r.app (.cons hk hv .nil)
end
theorem set_dict' {X : Cx} (hu : X.A.units + 1 < cLine) : PSet X (fun o i v H Q => ∃ a H', o = .ref a ∧ DPut H a i v H' ∧ Q H') := by
  intro pins s σ H o i v ov iv u Q I ro ri rv h
  obtain ⟨a, H', eo, g, q⟩ := h
  subst eo
  cases (show ov = Value.ref a from ro)
  exact d_setItem hu I g ri rv fun s' I' => ⟨H', I', q⟩
theorem PSet.or {X : Cx} {t u : TSet} (h : PSet X t) (k : PSet X u) : PSet X (fun o i v H Q => t o i v H Q ∨ u o i v H Q) := fun pins s σ H o i v ov iv w Q I ro ri rv q => by
  rcases q with q | q
  · exact h pins s σ H o i v ov iv w Q I ro ri rv q
  · exact k pins s σ H o i v ov iv w Q I ro ri rv q
section
variable {G : Glob} {N : List Str} {X : Cx} {sc : Scope} {S S' : List Sta} {L r : Option (List Sta)} {W : Nat} {fr : Bool} {st : Stmt} {e k : CE} {i j : Nat} {pos p2 : Pos}
theorem ownI_iff (h : ownI S i = true) : ∃ st, S[i]? = some st ∧ st.own = true := by
  unfold ownI at h
  split at h
  · rename_i q; exact ⟨_, q, rfl⟩
  · rename_i q; exact ⟨_, q, rfl⟩
  · cases h
/-- an own slot's container -/
theorem Rel.ownAt {K : PySem.W.Frag} {F : Frm} {E : Addr → Prop} {env : Env} {σ : L2.St} {H : Hp} {st : Sta} (R : Rel K F E S env σ H) (hi : S[i]? = some st) (ho : st.own = true) : ∃ a x, σ[i]? = some (some (.ref a)) ∧ env[i]? = some (some x) ∧ x.isCon = true ∧ RepC K H (Av F E S σ) a x ∧ Wr H a := by
  obtain ⟨e, v, e1, e2, ok⟩ := R.slot i st hi
  cases st with
  | O => obtain ⟨x, a, rfl, rfl, q⟩ := ok; exact ⟨a, x, e2, e1, q⟩
  | I => obtain ⟨x, a, rfl, rfl, q⟩ := ok; exact ⟨a, x, e2, e1, q⟩
  | _ => cases ho
theorem st_mov {v : Expr} {x : Str} {px : Pos} (O : FOk G N X sc) (hx : N[i]? = some x) (hl : locB sc x = true) (h : trE N G.gname G.fname G.free (.var j) sc v = true) (hj : S[j]? = some .O) (ha : asgSl S i = true) (ij : i ≠ j) : PS X (.Assign [.Name x px] v pos) (tS G W fr L S (some ((S.set j .N).set i .O)) (.mov i j)) := by
  obtain ⟨l1, l2⟩ := O.loc x hl
  refine (ps_set (by rw [O.O.hN]; exact O.O.nd) (by rw [O.O.hN]; exact hx) l1 (pe_varO O.O.hN O.O.hs h) (sw_none (c := .var j) rfl h _) l2).imp fun D σ H ⟨F, E, env, fl, env', R, ee, q⟩ => ?_
  obtain ⟨a, y, h1, h2, hc, rc, hw⟩ := R.ownAt hj rfl
  obtain ⟨k1, k2, k3, k4, k5, k6⟩ := R.release hj h1 h2
  rw [ex, h2] at ee
  cases ee
  obtain ⟨st, e1, n1, n2⟩ := asg_ne ha
  refine ⟨.ref a, h1, end_nx q _ H (k5.setO (st := st) (by rw [List.getElem?_set_ne (fun z => ij z.symm)]; exact e1) n1 n2 hc k6 k3 k2 k1 fun w hw' z => ?_)⟩
  rcases set_get hw' with ⟨_, e⟩ | ⟨ne, hw'⟩
  · cases e
  · exact R.uniq j w a .O .B ne hj rfl hw' (.inr rfl) h1 z
theorem st_aug {v : Expr} {x : Str} {px : Pos} {o : Op} (O : FOk G N X sc) (hx : N[i]? = some x) (hl : locB sc x = true) (h : trE N G.gname G.fname G.free e sc v = true) (hi : S[i]? = some .S) (ok : okE G.sg e S .pk = true) : PS X (.AugAssign (.Name x px) (opOf o) v pos) (tS G W fr L S (some S) (.aug i o e)) := by
  obtain ⟨l1, l2⟩ := O.loc x hl
  refine (ps_aug (by rw [O.O.hN]; exact O.O.nd) (by rw [O.O.hN]; exact hx) l1 ((exG e).1 X sc v S .pk O.O h ok) (ip_all o) l2).imp fun D σ H ⟨F, E, env, fl, env', R, ee, q⟩ => ?_
  obtain ⟨e0, v0, e1, e2, y, u, rfl, rfl, r⟩ := R.slot i .S hi
  rw [ex, e1] at ee
  simp only at ee
  split at ee
  · rename_i z s1 hz
    split at ee
    · rename_i m n
      split at ee
      · rename_i w hw
        cases ee
        cases r
        refine ⟨.int m, e2, F, E, env, s1, .int n, R, hz, fun u H' ⟨st, R1, p1, _⟩ => ?_⟩
        have hk : ∃ k, w = .int k := by
          cases o <;> (simp only [opE] at hw; try split at hw) <;> first | (cases hw; exact ⟨_, rfl⟩) | cases hw
        obtain ⟨k, rfl⟩ := hk
        refine ⟨m, n, k, rfl, p1.int', hw, ?_⟩
        have := R1.setS hi (by decide) (by decide) (.int k)
        have es : S.set i .S = S := List.ext_getElem? fun j => by
          by_cases ij : i = j
          · subst ij; rw [List.getElem?_set_self (get_lt hi), hi]
          · rw [List.getElem?_set_ne ij]
        rw [es] at this
        exact end_nx q _ H' this
      · cases ee
    · cases ee
  · cases ee
theorem stepE_mono {l : List Nat} {σ : L2.St} {H H' : Hp} {A : Addr → Prop} {K : PySem.W.Frag} {F : Frm} {E : Addr → Prop} {u : V} {w : EV} (st : Step (WA l S σ) H H') (r : Rep K H (Av F E S σ) u w) : Rep K H' (Av F E S σ) u w := st.stay r
theorem st_setIx {vx kx o : Expr} {v : CE} (O : FOk G N X sc) (ho : trE N G.gname G.fname G.free (.var i) sc o = true) (hk : trE N G.gname G.fname G.free k sc kx = true) (hv : trE N G.gname G.fname G.free v sc vx = true) (hs : notSlice kx = true) (ow : ownI S i = true) (okv : okE G.sg v S .sh = true) (okk : okE G.sg k S .sh = true) :
    PS X (.Assign [.Subscript o kx p2] vx pos) (tS G W fr L S (some S) (.setIx i k v)) := by
  obtain ⟨sti, hi, hown⟩ := ownI_iff ow
  have hsw : swapsWith vx (some (.Subscript o kx p2)) pos.line X.env = pure false := by
    unfold swapsWith
    cases vx <;> rfl
  have hu : X.A.units + 1 < cLine := by have := O.O.hu; omega
  refine (ps_asg ((exG v).1 X sc vx S .sh O.O hv okv) (pg_sub (pe_varO O.O.hN O.O.hs ho) ((exG k).1 X sc kx S .sh O.O hk okk) (PSet.or set_list (set_dict' hu)) (fun u => by cases kx <;> first | rfl | cases hs)) hsw rfl rfl).imp fun D σ H ⟨F, E, env, fl, env', R, ee, q⟩ => ?_
  rw [ex] at ee
  split at ee
  · rename_i w s1 h1
    split at ee
    · rename_i y s2 h2
      refine ⟨F, E, env, s1, w, R, h1, fun uw H1 ⟨st1, R1, r1⟩ => ?_⟩
      obtain ⟨a, x1, ha, _⟩ := R1.ownAt hi hown
      refine ⟨.ref a, ha, F, E, s1, s2, y, R1, h2, fun uy H2 ⟨st2, R2, r2⟩ => ?_⟩
      have rw2 := st2.stay r1
      obtain ⟨a', x, ha', hx, hc, rc, hw⟩ := R2.ownAt hi hown
      rw [ha] at ha'
      cases ha'
      have av : Av F E S σ a := .inr (.inr ⟨i, sti, hi, hown, ha⟩)
      have kp : ∀ {o : HO}, Keep (Av F E S σ) H2 (upd H2 a o) := fun {o} => keep_upd av (R2.own_tup ⟨i, sti, hi, hown, ha⟩)
      rw [hx] at ee
      cases x with
      | lst xs =>
        simp only at ee
        cases y with
        | int n =>
          simp only at ee
          split at ee
          · rename_i jj hj
            cases ee
            cases r2
            obtain ⟨vs, hh, rs⟩ := rc
            refine .inl ⟨a, vs, n, jj, rfl, rfl, hh, by rw [rs.length, ← ixN_eq]; exact hj, ?_⟩
            exact end_nx q _ _ (R2.write hi hown ha rfl ⟨_, upd_same, (rs.mono kp fun b n _ => n).set (rw2.mono kp fun b n _ => n) jj⟩ (fun _ _ => nofun))
          · cases ee
        | _ => cases ee
      | dct t kvs =>
        simp only at ee
        split at ee
        · rename_i hkk
          cases ee
          simp only [Bool.and_eq_true, decide_eq_true_eq] at hkk
          obtain ⟨u0, w1, w2⟩ := hw
          rcases rc with ⟨rfl, kv, hd, rk⟩ | ⟨rfl, kv, hd, rk⟩
          · have hh : H2 a = some (.dK kv) := by
              rcases hd with hd | ⟨o', hd⟩
              · exact hd
              · rw [w1] at hd; cases hd; exact absurd rfl (w2 _ _)
            simp only [keyOk, if_pos] at hkk
            obtain ⟨kk, rfl, hkr⟩ := KeyR.of r2 hkk.1
            refine .inr ⟨a, _, rfl, DPut.k hh (by rw [rk.length, ← SZ_eq]; exact hkk.2), ?_⟩
            exact end_nx q _ _ (R2.write hi hown ha rfl (.inl ⟨rfl, _, .inl upd_same, RepK.put hkr (rw2.mono kp fun b n _ => n) (rk.mono kp fun b n _ => n)⟩) (fun _ _ => nofun))
          · have hh : H2 a = some (.dT kv) := by
              rcases hd with hd | ⟨o', hd⟩
              · exact hd
              · rw [w1] at hd; cases hd; exact absurd rfl (w2 _ _)
            simp only [keyOk] at hkk
            cases y with
            | tup ys =>
              cases r2 with
              | tup hb rs =>
                obtain ⟨ks, rfl, hks⟩ := KeysR.of rs (by simpa using hkk.1)
                refine .inr ⟨a, _, rfl, DPut.t hh hb (by rw [rk.length, ← SZ_eq]; exact hkk.2), ?_⟩
                exact end_nx q _ _ (R2.write hi hown ha rfl (.inr ⟨rfl, _, .inl upd_same, RepT.put (.tup hks) (rw2.mono kp fun b n _ => n) (rk.mono kp fun b n _ => n)⟩) (fun _ _ => nofun))
            | _ => simp at hkk
        · cases ee
      | _ => cases hc
    · cases ee
  · cases ee
theorem attr_base {o : Expr} {m : Str} {env : PySem.Env} {w : Sem Value} (h : trE N G.gname G.fname G.free (.var i) sc o = true) : attributeBase o m env w = w := by
  unfold trE at h
  split at h
  · rfl
  · cases h
theorem st_app {o v : Expr} {apos cpos : Pos} (O : FOk G N X sc) (hl : (apos.endLine == cpos.line) = true) (ho : trE N G.gname G.fname G.free (.var i) sc o = true) (hn : notStar v = true) (h : trE N G.gname G.fname G.free e sc v = true) (ow : ownI S i = true) (ok : okE G.sg e S .sh = true) :
    PS X (.Expr (.Call (.Attribute o "append" apos) [v] [] cpos) pos) (tS G W fr L S (some S) (.app i e)) := by
  obtain ⟨sti, hi, hown⟩ := ownI_iff ow
  have hfew : ((backTo cpos (starEach [v] X.env)).all (fun x => !x.1) && (backToKw cpos (keywordEach [] X.env)).all (fun x => x.1.isSome) && decide (([v] : List Expr).length + ([] : List Keyword).length + (if ([] : List Keyword).isEmpty then 0 else 1) < 30)) = true := by
    rw [starEach_ns hn]; rfl
  refine (ps_expr (pe_bm F.plainAttrs_list F.slot_list_append F.type_list_append mt_append (pe_varO O.O.hN O.O.hs ho) (pa_cons ((exG e).1 X sc v S .sh O.O h ok) pa_nil (starEach_ns hn)) (attr_base ho) hfew hl (starEach_ns hn) rfl) rfl).imp fun D σ H ⟨F, E, env, fl, env', R, ee, q⟩ => ?_
  obtain ⟨a, x0, ha, hx0, hc0, rc0, hw0⟩ := R.ownAt hi hown
  rw [ex, hx0] at ee
  cases x0 with
  | lst xs0 =>
    simp only at ee
    obtain ⟨vs0, hh0, rs0⟩ := rc0
    split at ee
    · rename_i w s1 h1
      refine ⟨.ref a, ha, .inl ⟨rfl, vs0, .inl (.inl hh0)⟩, F, E, env, s1, w, R, h1, fun uw H1 ⟨st1, R1, r1⟩ => ?_⟩
      obtain ⟨a', x, ha', hx, hc, rc, hw⟩ := R1.ownAt hi hown
      rw [ha] at ha'
      cases ha'
      have av : Av F E S σ a := .inr (.inr ⟨i, sti, hi, hown, ha⟩)
      have kp : ∀ {o : HO}, Keep (Av F E S σ) H1 (upd H1 a o) := fun {o} => keep_upd av (R1.own_tup ⟨i, sti, hi, hown, ha⟩)
      rw [hx] at ee
      cases x with
      | lst xs =>
        simp only at ee
        split at ee
        · rename_i hz
          cases ee
          obtain ⟨vs, hh, rs⟩ := rc
          refine ⟨a, vs, uw, rfl, rfl, hh, by rw [rs.length, ← SZ_eq]; exact hz, ?_⟩
          exact end_nx q _ _ (R1.write hi hown ha rfl ⟨_, upd_same, (rs.mono kp fun b n _ => n).append (.cons (r1.mono kp fun b n _ => n) .nil)⟩ (fun _ _ => nofun))
        · cases ee
      | _ => cases ee
    · cases ee
  | _ => cases ee
theorem st_ext {o v : Expr} {apos cpos : Pos} (O : FOk G N X sc) (hl : (apos.endLine == cpos.line) = true) (ho : trE N G.gname G.fname G.free (.var i) sc o = true) (hn : notStar v = true) (h : trE N G.gname G.fname G.free e sc v = true) (ow : ownI S i = true) (ok : okE G.sg e S .pk = true) :
    PS X (.Expr (.Call (.Attribute o "extend" apos) [v] [] cpos) pos) (tS G W fr L S (some S) (.ext i e)) := by
  obtain ⟨sti, hi, hown⟩ := ownI_iff ow
  have hfew : ((backTo cpos (starEach [v] X.env)).all (fun x => !x.1) && (backToKw cpos (keywordEach [] X.env)).all (fun x => x.1.isSome) && decide (([v] : List Expr).length + ([] : List Keyword).length + (if ([] : List Keyword).isEmpty then 0 else 1) < 30)) = true := by
    rw [starEach_ns hn]; rfl
  refine (ps_expr (pe_bm F.plainAttrs_list F.slot_list_extend F.type_list_extend mt_extend (pe_varO O.O.hN O.O.hs ho) (pa_cons ((exG e).1 X sc v S .pk O.O h ok) pa_nil (starEach_ns hn)) (attr_base ho) hfew hl (starEach_ns hn) rfl) rfl).imp fun D σ H ⟨F, E, env, fl, env', R, ee, q⟩ => ?_
  obtain ⟨a, x0, ha, hx0, hc0, rc0, hw0⟩ := R.ownAt hi hown
  rw [ex, hx0] at ee
  cases x0 with
  | lst xs0 =>
    simp only at ee
    obtain ⟨vs0, hh0, rs0⟩ := rc0
    split at ee
    · rename_i ys s1 h1
      refine ⟨.ref a, ha, .inl ⟨rfl, vs0, .inl (.inl hh0)⟩, F, E, env, s1, .lst ys, R, h1, fun uw H1 ⟨st1, R1, r1, _⟩ => ?_⟩
      obtain ⟨b, us, rfl, hb, rus⟩ := r1.lst
      obtain ⟨a', x, ha', hx, hc, rc, hw⟩ := R1.ownAt hi hown
      rw [ha] at ha'
      cases ha'
      have av : Av F E S σ a := .inr (.inr ⟨i, sti, hi, hown, ha⟩)
      have kp : ∀ {o : HO}, Keep (Av F E S σ) H1 (upd H1 a o) := fun {o} => keep_upd av (R1.own_tup ⟨i, sti, hi, hown, ha⟩)
      rw [hx] at ee
      cases x with
      | lst xs =>
        simp only at ee
        split at ee
        · rename_i hz
          cases ee
          obtain ⟨vs, hh, rs⟩ := rc
          refine ⟨a, b, vs, us, rfl, rfl, hh, hb, by rw [rs.length, rus.length, ← SZ_eq]; exact hz, ?_⟩
          exact end_nx q _ _ (R1.write hi hown ha rfl ⟨_, upd_same, (rs.mono kp fun b n _ => n).append (rus.mono kp fun b n _ => n)⟩ (fun _ _ => nofun))
        · cases ee
      | _ => cases ee
    · cases ee
  | _ => cases ee
end
end Ev
end

section
set_option Elab.async false
set_option linter.all false
set_option maxRecDepth 100000
set_option maxHeartbeats 8000000
/-! EwG: loops. -/
namespace Ev
open PySem PySem.Spec PyProof.Rows L2
section
variable {K : PySem.W.Frag} {F F1 : Frm} {E Y : Addr → Prop} {un : List Sta → List Sta} {fr : Bool} {env : Env} {x : EV} {v : V} {H : Hp} {a : Addr} {od : Obj} {u : HO}
theorem ret_exit (ex : Exit K F1 F Y un) (hY : ∀ b, Y b → ¬ E b) (h : RetOk K F1 (orA E Y) fr env x v H) : RetOk K F E fr env x v H := by
  obtain ⟨S2, σ2, h⟩ := h
  refine ⟨un S2, σ2, ?_⟩
  rcases h with ⟨hc, hf, p, rfl, hp, h0, hw, R, rc⟩ | ⟨hc, R, rp⟩
  · have pY : ∀ b, Y b → ¬ plusA E p b := fun b hb z => by
      rcases z with z | z
      · exact hY b hb z
      · subst z; exact hp (.inr hb)
    have R' : Rel K F1 (orA (plusA E p) Y) S2 env σ2 H := R.lessE fun b z => by
      rcases z with (z | z) | z
      · exact .inl (.inl z)
      · exact .inr z
      · exact .inl (.inr z)
    refine .inl ⟨hc, hf, p, rfl, fun z => hp (.inl z), ex.H0 p h0, hw, ex.run _ _ _ _ _ pY R', rc.mono' .rfl (fun b n _ z => n ?_) (fun _ q => q) fun _ _ q => q⟩
    rcases z with z | (z | z) | z
    · exact .inl (by rw [ex.A0]; exact z)
    · exact .inr (.inl (.inl (.inl z)))
    · exact .inr (.inl (.inr z))
    · rcases ex.own _ _ _ _ _ pY R' b z with z | z
      · exact .inr (.inr z)
      · exact .inr (.inl (.inl (.inr z)))
  · refine .inr ⟨hc, ex.run _ _ _ _ _ hY R, rp.mono .rfl fun b n _ z => n ?_⟩
    rcases z with z | z | z
    · exact .inl (by rw [ex.A0]; exact z)
    · exact .inr (.inl (.inl z))
    · rcases ex.own _ _ _ _ _ hY R b z with z | z
      · exact .inr (.inr z)
      · exact .inr (.inl (.inr z))
theorem ret_exitL (hu : openD u) (ex : ExitL K F1 F Y un a od u) (hY : ∀ b, Y b → ¬ E b) (pa : ∀ p, F1.H0 p = none → p ≠ a) (h : RetOk K F1 (orA E Y) fr env x v H) : H a = some (.frz od u) ∧ RetOk K F E fr env x v (upd H a u) := by
  obtain ⟨S2, σ2, h⟩ := h
  rcases h with ⟨hc, hf, p, rfl, hp, h0, hw, R, rc⟩ | ⟨hc, R, rp⟩
  · have pY : ∀ b, Y b → ¬ plusA E p b := fun b hb z => by
      rcases z with z | z
      · exact hY b hb z
      · subst z; exact hp (.inr hb)
    have R' : Rel K F1 (orA (plusA E p) Y) S2 env σ2 H := R.lessE fun b z => by
      rcases z with (z | z) | z
      · exact .inl (.inl z)
      · exact .inr z
      · exact .inl (.inr z)
    obtain ⟨k1, k2⟩ := ex.run _ _ _ _ _ pY R'
    have ne := pa p h0
    obtain ⟨kp, rd⟩ := keep_swap (A := Av F1 (plusA (orA E Y) p) S2 σ2) k1 hu.isDf (u := u) frz_from
    obtain ⟨w, w1, w2⟩ := hw
    refine ⟨k1, un S2, σ2, .inl ⟨hc, hf, p, rfl, fun z => hp (.inl z), ex.H0 p h0, ⟨w, by rw [upd_ne ne]; exact w1, w2⟩, k2, rc.mono' kp (fun b n _ z => n ?_) (fun vs q => by rw [upd_ne ne]; exact q) fun w nf q => rd p w nf q⟩⟩
    rcases z with z | (z | z) | z
    · exact .inl (by rw [ex.A0]; exact z)
    · exact .inr (.inl (.inl (.inl z)))
    · exact .inr (.inl (.inr z))
    · rcases ex.own _ _ _ _ _ pY R' b z with z | z
      · exact .inr (.inr z)
      · exact .inr (.inl (.inl (.inr z)))
  · obtain ⟨k1, k2⟩ := ex.run _ _ _ _ _ hY R
    obtain ⟨kp, rd⟩ := keep_swap (A := Av F1 (orA E Y) S2 σ2) k1 hu.isDf (u := u) frz_from
    refine ⟨k1, un S2, σ2, .inr ⟨hc, k2, rp.mono kp fun b n _ z => n ?_⟩⟩
    rcases z with z | z | z
    · exact .inl (by rw [ex.A0]; exact z)
    · exact .inr (.inl (.inl z))
    · rcases ex.own _ _ _ _ _ hY R b z with z | z
      · exact .inr (.inr z)
      · exact .inr (.inl (.inr z))
end
section
variable {G : Glob} {N : List Str} {X : Cx} {sc : Scope} {S S' iv : List Sta} {L r : Option (List Sta)} {W : Nat} {fr : Bool} {e t : CE} {i : Nat} {pos : Pos} {b : List CS} {p : Pt} {k : ItK} {it : List CE} {tg iter : Expr} {bv : List Stmt}
theorem ife_inv {cf : Cf} {gb : Gb} {a b : List CS} {env env' : Env} {fl : Fl} (h : ex cf gb W (.ife t a b) env = some (fl, env')) : ∃ x s1 c, ev cf gb t env = some (x, s1) ∧ truE x = some c ∧ exs cf gb W (if c then a else b) s1 = some (fl, env') := by
  rw [ex] at h
  split at h
  · split at h
    · exact ⟨_, _, true, by assumption, by assumption, h⟩
    · exact ⟨_, _, false, by assumption, by assumption, h⟩
    · cases h
  · cases h
theorem joinO_le {r1 r2 r : Option (List Sta)} (h : joinO r1 r2 = some r) : (∀ s, r1 = some s → ∃ s', r = some s' ∧ stsLe s s' = true) ∧ (∀ s, r2 = some s → ∃ s', r = some s' ∧ stsLe s s' = true) := by
  cases r1 with
  | none =>
    cases h
    exact ⟨(fun s hs => nomatch hs), fun s hs => ⟨s, hs, stsLe_refl s⟩⟩
  | some a =>
    cases r2 with
    | none =>
      cases h
      exact ⟨fun s hs => ⟨s, hs, stsLe_refl s⟩, fun s hs => nomatch hs⟩
    | some b =>
      unfold joinO joinS2 at h
      simp only at h
      split at h
      · rename_i j hj
        cases h
        split at hj
        · rename_i hc
          cases hj
          simp only [Bool.and_eq_true] at hc
          exact ⟨fun s hs => by cases hs; exact ⟨_, rfl, hc.1⟩, fun s hs => by cases hs; exact ⟨_, rfl, hc.2⟩⟩
        · cases hj
      · cases h
/-- the end of a branch is the end of the whole -/
theorem end_le {K : PySem.W.Frag} {F : Frm} {E : Addr → Prop} {r1 r : Option (List Sta)} {fl : Fl} {env : Env} {D : Ends} (hle : ∀ s, r1 = some s → ∃ s', r = some s' ∧ stsLe s s' = true) (h : EndOk K fr F E L r fl env D) : EndOk K fr F E L r1 fl env D := by
  cases fl with
  | nx =>
    intro s hs σ' H' R
    obtain ⟨s', h1, h2⟩ := hle s hs
    exact h s' h1 σ' H' (R.weak h2)
  | brk => exact h
  | cnt => exact h
  | ret v => exact h
theorem st_ife {a : List CS} {r1 r2 : Option (List Sta)} {tv : Expr} {av : List Stmt} (ht : PT X tv (tT G S t)) (ha : PSs X av (tSs G W fr L S r1 a)) (hb : PSs X bv (tSs G W fr L S r2 b)) (hj : joinO r1 r2 = some r) : PS X (.If tv av bv pos) (tS G W fr L S r (.ife t a b)) :=
  (ps_if ht ha hb).imp fun D σ H ⟨F, E, env, fl, env', R, ee, q⟩ => by
    obtain ⟨x, s1, c, h1, h2, h3⟩ := ife_inv ee
    obtain ⟨j1, j2⟩ := joinO_le hj
    refine ⟨F, E, env, s1, x, c, R, h1, h2, fun H1 _ R1 => ?_⟩
    cases c with
    | true => exact (show tSs G W fr L S r1 a D σ H1 from ⟨F, E, s1, fl, env', R1, h3, end_le j1 q⟩)
    | false => exact (show tSs G W fr L S r2 b D σ H1 from ⟨F, E, s1, fl, env', R1, h3, end_le j2 q⟩)
theorem st_whl {tv : Expr} (po : PassesOwn (model X.prog X.w) X.A X.env X.xe) (hS : stsLe S iv = true) (ht : PT X tv (tT G iv t)) (hb : PSs X bv (tSs G W fr (some iv) iv r b)) (hr : ∀ s, r = some s → stsLe s iv = true) : PS X (.While tv bv [] pos) (tS G W fr L S (some iv) (.whl iv t b)) :=
  (ps_while po ht hb).imp fun D σ H ⟨F, E, env, fl, env', R, ee, q⟩ => by
    rw [ex] at ee
    refine ⟨fun m σ H => ∃ env, Rel G.K F E iv env σ H ∧ whlL (fun s => ev G.cf G.gb t s) (fun s => exs G.cf G.gb W b s) m env = some (fl, env'), ⟨W, env, R.weak hS, ee⟩, fun m σ H ⟨env, R, hw⟩ => ?_⟩
    cases m with
    | zero => rw [whlL] at hw; cases hw
    | succ m =>
      rw [whlL] at hw
      split at hw
      · rename_i x s1 h1
        split at hw
        · rename_i h2
          refine ⟨F, E, env, s1, x, true, R, h1, h2, fun H1 _ R1 => ?_⟩
          simp only [if_true]
          refine ⟨fun σ' H' => ∃ env2, Rel G.K F E iv env2 σ' H' ∧ whlL (fun s => ev G.cf G.gb t s) (fun s => exs G.cf G.gb W b s) m env2 = some (fl, env'), fun σ' H' h => ⟨m, Nat.lt_succ_self m, h⟩, ?_⟩
          cases hx : exs G.cf G.gb W b s1 with
          | none => rw [hx] at hw; cases hw
          | some f2 =>
            obtain ⟨f2, s2⟩ := f2
            rw [hx] at hw
            refine ⟨F, E, s1, f2, s2, R1, hx, ?_⟩
            cases f2 with
            | nx => exact fun s hs σ' H' R2 => ⟨s2, R2.weak (hr s hs), hw⟩
            | cnt => exact fun L' hL σ' H' R2 => by cases hL; exact ⟨s2, R2, hw⟩
            | brk =>
              simp only at hw
              cases hw
              exact fun L' hL σ' H' R2 => by cases hL; exact end_nx q σ' H' R2
            | ret v =>
              simp only at hw
              cases hw
              exact q
        · rename_i h2
          cases hw
          refine ⟨F, E, env, _, x, false, R, h1, h2, fun H1 _ R1 => ?_⟩
          simp only [Bool.false_eq_true, if_false]
          exact end_nx q σ H1 R1
        · cases hw
      · cases hw
/-- what is walked is not an unlocked dict -/
def tFo (G : Glob) (W : Nat) (fr : Bool) (L : Option (List Sta)) (S iv : List Sta) (p : Pt) (k : ItK) (it : List CE) (b : List CS) : TS := fun D σ H => ∃ (F : Frm) (E : Addr → Prop) (env : Env) (fl : Fl) (env' : Env),
  Rel G.K F E S env σ H ∧ ex G.cf G.gb W (.for iv p k it b) env = some (fl, env') ∧ Locked G k it env σ H ∧ EndOk G.K fr F E L (some S) fl env' D
theorem for_core (po : PassesOwn (model X.prog X.w) X.A X.env X.xe) (hc : X.calm = true) (hi : PI X tg iter (tW G S k it)) (hg : PG X tg (tP G (borW k S it) p)) (hb : PSs X bv (tSs G W fr (some (borW k S it)) (setAll (borW k S it) .S (ptVars p)) r b)) (hr : ∀ s, r = some s → stsLe s (borW k S it) = true)
    (hs : ∀ x, foldedSetIterable iter X.env x = pure x) : PS X (.For tg iter bv [] pos) (tFo G W fr L S iv p k it b) :=
  (ps_for po hc hi hg hb hs).imp fun D σ H ⟨F, E, env, fl, env', R, ee, hlk, q⟩ => by
    rw [ex] at ee
    split at ee
    · rename_i ws env1 e1
      split at ee
      · rename_i xs e2
        refine ⟨F, E, env, env1, ws, xs, R, e1, e2, fun x hk hw t kvs hx => hlk ws env1 e1 x hk hw t kvs hx, fun J H1 F1 Y st0 wk => ?_⟩
        have hY : ∀ c, Y c → ¬ E c := fun c hc z => R.eD c z (wk.own c hc)
        have out : ∀ {σ2 : L2.St} {H2 : Hp} {env2 : Env}, Rel G.K F1 (orA E Y) (borW k S it) env2 σ2 H2 → Rel G.K F E S env2 σ2 H2 := fun {σ2 H2 env2} R2 => by
          have := wk.out.run E _ _ _ _ hY R2
          rwa [unbW_borW] at this
        refine ⟨fun i m σ H => m + i = xs.length ∧ ∃ envi, Rel G.K F1 (orA E Y) (borW k S it) envi σ H ∧ forL p (fun s => exs G.cf G.gb W b s) (xs.drop i) envi = some (fl, env'), ⟨xs.length, by simp, env1, wk.rel, by simpa using ee⟩, fun i m σ H ⟨hm, envi, Ri, hf⟩ => ?_⟩
        by_cases hlt : i < xs.length
        · obtain ⟨x, hx⟩ : ∃ x, xs[i]? = some x := ⟨xs[i], List.getElem?_eq_getElem hlt⟩
          have hdrop : xs.drop i = x :: xs.drop (i + 1) := by
            have := List.getElem?_eq_some_iff.mp hx
            rw [← this.2]
            exact List.drop_eq_getElem_cons hlt
          rw [hdrop, forL] at hf
          cases hbp : bindP p x envi with
          | none => rw [hbp] at hf; cases hf
          | some t1 =>
            rw [hbp] at hf
            simp only at hf
            obtain ⟨hgo, hyl⟩ := (wk.srv _ _ _ _ _ Ri i).1 x hx
            refine .inr ⟨hgo, fun σ' H' => (m - 1) + (i + 1) = xs.length ∧ ∃ envi, Rel G.K F1 (orA E Y) (borW k S it) envi σ' H' ∧ forL p (fun s => exs G.cf G.gb W b s) (xs.drop (i + 1)) envi = some (fl, env'), fun σ' H' h => ⟨m - 1, by omega, h⟩, fun v H' hv => ?_⟩
            obtain ⟨hxt, hrp⟩ := hyl v H' hv
            refine ⟨F1, orA E Y, envi, t1, x, Ri.grow hxt, hrp, hbp, fun σ2 R3 _ _ => ?_⟩
            cases hx2 : exs G.cf G.gb W b t1 with
            | none => rw [hx2] at hf; cases hf
            | some f2 =>
              obtain ⟨f2, s2⟩ := f2
              rw [hx2] at hf
              refine ⟨F1, orA E Y, t1, f2, s2, R3, hx2, ?_⟩
              cases f2 with
              | nx => exact fun s hs' σ' H' R2 => ⟨by omega, s2, R2.weak (hr s hs'), hf⟩
              | cnt => exact fun L' hL σ' H' R2 => by cases hL; exact ⟨by omega, s2, R2, hf⟩
              | brk =>
                simp only at hf
                cases hf
                exact fun L' hL σ' H' R2 => by cases hL; exact end_nx q σ' H' (out R2)
              | ret v2 =>
                simp only at hf
                cases hf
                exact fun w H2 hw => q w H2 (ret_exit wk.out hY hw)
        · have hn : xs.drop i = [] := List.drop_eq_nil_of_le (by omega)
          rw [hn, forL] at hf
          cases hf
          exact .inl ⟨(wk.srv _ _ _ _ _ Ri i).2 (by omega), end_nx q σ H (out Ri)⟩
      · cases ee
    · cases ee
/-- any walk; h: as the statuses stand, or as they stand while the one thing is lent -/
theorem st_for (hS : stsLe S iv = true) {st : Stmt} (h : ∀ L, PS X st (tFo G W fr L iv iv p k it b)) (hl : ∀ i, it = [.var i] → k = .val → iv[i]? ≠ some .N ∧ i < iv.length ∧ ∀ L, PS X st (tFo G W fr L (bor1 iv (.var i)) iv p k it b)) (hd : k = .val → ∃ i, it = [.var i]) : PS X st (tS G W fr L S (some iv) (.for iv p k it b)) := by
  refine ⟨fun pins s σ H D I ⟨F, E, env, fl, env', R0, ee, q⟩ => ?_⟩
  have R := R0.weak hS
  by_cases hk : k = .val ∧ ∃ i, it = [.var i]
  · obtain ⟨rfl, i, rfl⟩ := hk
    obtain ⟨hs, hlt, h2⟩ := hl i rfl rfl
    by_cases hx : ∃ t kvs, env[i]? = some (some (.dct t kvs))
    · obtain ⟨t, kvs, hx⟩ := hx
      obtain ⟨a, u, ha, hu, hq⟩ := lock_walk R hs hlt hx
      rcases hq with ⟨o, w, rfl⟩ | ⟨hq, hw⟩
      · exact (h L).run pins s σ H D I ⟨F, E, env, fl, env', R, ee, fun _ _ _ _ _ _ _ _ _ => ⟨i, a, o, w, rfl, ha, hu⟩, q⟩
      · refine (ps_lock (h2 none)).run pins s σ H D I ⟨a, u, hu, hq.mut, fun od => ?_⟩
        obtain ⟨F1, Y, R1, exl, hy⟩ := hw od
        have hYE : ∀ b, Y b → ¬ E b := fun b hb z => R.eD b z (hy b hb)
        refine ⟨F1, orA E Y, env, fl, env', R1, ee, fun _ _ _ _ _ _ _ _ _ => ⟨i, a, od, u, rfl, ha, upd_same⟩, ?_⟩
        have pa : ∀ p, F1.H0 p = none → p ≠ a := fun p hp e => exl.pinned (e ▸ hp)
        cases fl with
        | nx =>
          intro s' hs' σ' H' R2
          cases hs'
          obtain ⟨k1, k2⟩ := exl.run E _ _ _ _ hYE R2
          rw [unb_bor] at k2
          exact ⟨k1, end_nx q σ' _ k2⟩
        | brk => exact fun L' hL => nomatch hL
        | cnt => exact fun L' hL => nomatch hL
        | ret x =>
          intro v H' hr
          obtain ⟨k1, k2⟩ := ret_exitL hq exl hYE pa hr
          exact ⟨k1, q v _ k2⟩
    · refine (h L).run pins s σ H D I ⟨F, E, env, fl, env', R, ee, fun ws s1 hw y _ hy t kvs hyd => ?_, q⟩
      obtain ⟨y', h3, h4⟩ := evs_one hw
      rw [hy] at h4
      cases h4
      rw [ev] at h3
      split at h3
      · rename_i z ez
        cases h3
        exact absurd ⟨t, kvs, by rw [ez, hyd]⟩ hx
      · cases h3
  · refine (h L).run pins s σ H D I ⟨F, E, env, fl, env', R, ee, fun ws s1 hw y hk2 hy t kvs hyd => ?_, q⟩
    obtain ⟨i, hi⟩ := hd hk2
    exact absurd ⟨hk2, i, hi⟩ hk
end
end Ev
end

section
set_option Elab.async false
set_option linter.all false
set_option maxRecDepth 100000
set_option maxHeartbeats 8000000
/-! EwH: every statement that is looked at, read. -/
namespace Ev
open PySem PySem.Spec PyProof.Rows L2
section
variable {sg : Nat → Option Sig} {fr : Bool} {cf : Cf} {gb : Gb} {W : Nat}
theorem joinO_none {r1 r2 : Option (List Sta)} (h : joinO r1 r2 = some none) : r1 = none ∧ r2 = none := by
  cases r1 with
  | none => cases h; exact ⟨rfl, rfl⟩
  | some a =>
    cases r2 with
    | none => cases h
    | some b =>
      unfold joinO at h
      simp only at h
      split at h <;> cases h
theorem exs_cons_nx {c : CS} {cs : List CS} {s s' : Env} (h : exs cf gb W (c :: cs) s = some (.nx, s')) : ∃ s1, ex cf gb W c s = some (.nx, s1) ∧ exs cf gb W cs s1 = some (.nx, s') := by
  rw [exs] at h
  split at h
  · exact ⟨_, by assumption, h⟩
  all_goals cases h
mutual
theorem anS_nx : ∀ (c : CS) (S : List Sta) (L : Option (List Sta)) (s s' : Env), anS sg fr c S L = some none → ex cf gb W c s = some (.nx, s') → False
  | .pass, S, L, s, s', h, e => by unfold anS at h; cases h
  | .never, S, L, s, s', h, e => by rw [ex] at e; cases e
  | .brk, S, L, s, s', h, e => by rw [ex] at e; cases e
  | .cnt, S, L, s, s', h, e => by rw [ex] at e; cases e
  | .ret mv x, S, L, s, s', h, e => by
    obtain ⟨v, _, h2, _⟩ := ex_ret e
    cases h2
  | .expr _, S, L, s, s', h, e => by unfold anS at h; split at h <;> cases h
  | .asg p o x, S, L, s, s', h, e => by
    unfold anS at h
    split at h
    · split at h
      · split at h <;> cases h
      · cases h
    · split at h <;> cases h
  | .mov _ _, S, L, s, s', h, e => by unfold anS at h; split at h <;> cases h
  | .shr _, S, L, s, s', h, e => by unfold anS at h; split at h <;> cases h
  | .aug _ _ _, S, L, s, s', h, e => by unfold anS at h; split at h <;> cases h
  | .setIx _ _ _, S, L, s, s', h, e => by unfold anS at h; split at h <;> cases h
  | .augIx _ _ _ _, S, L, s, s', h, e => by unfold anS at h; cases h
  | .app _ _, S, L, s, s', h, e => by unfold anS at h; split at h <;> cases h
  | .ext _ _, S, L, s, s', h, e => by unfold anS at h; split at h <;> cases h
  | .ife t a b, S, L, s, s', h, e => by
    unfold anS at h
    split at h
    · split at h
      · rename_i r1 h1
        split at h
        · rename_i r2 h2
          obtain ⟨rfl, rfl⟩ := joinO_none h
          obtain ⟨x, s1, c, q1, q2, q3⟩ := ife_inv e
          cases c with
          | true => exact anSs_nx a S L s1 s' h1 q3
          | false => exact anSs_nx b S L s1 s' h2 q3
        · cases h
      · cases h
    · cases h
  | .whl _ _ _, S, L, s, s', h, e => by
    unfold anS at h
    split at h
    · split at h
      · cases h
      · split at h <;> cases h
      · cases h
    · cases h
  | .for _ _ _ _ _, S, L, s, s', h, e => by
    unfold anS at h
    split at h
    · split at h
      · cases h
      · split at h <;> cases h
      · cases h
    · cases h
  | .tryr b, S, L, s, s', h, e => by
    unfold anS at h
    rw [ex] at e
    exact anSs_nx b S L s s' h e
theorem anSs_nx : ∀ (cs : List CS) (S : List Sta) (L : Option (List Sta)) (s s' : Env), anSs sg fr cs S L = some none → exs cf gb W cs s = some (.nx, s') → False
  | [], S, L, s, s', h, e => by unfold anSs at h; cases h
  | c :: cs, S, L, s, s', h, e => by
    obtain ⟨s1, e1, e2⟩ := exs_cons_nx e
    unfold anSs at h
    split at h
    · exact anSs_nx cs _ L s1 s' h e2
    · rename_i h1; exact anS_nx c S L s s1 h1 e1
    · cases h
end
end
section
variable {G : Glob} {N : List Str} {W : Nat} {fr : Bool}
theorem shr_ps {X : Cx} {S : List Sta} {L r : Option (List Sta)} {i : Nat} {cs : List CS} {sts : List Stmt} (hi : S[i]? = some .O) (h : PSs X sts (tSs G W fr L (S.set i .S) r cs)) : PSs X sts (tSs G W fr L S r (.shr i :: cs)) := h.imp fun D σ H ⟨F, E, env, fl, env', R, ee, q⟩ => by
  rw [exs, ex] at ee
  have hle : stsLe S (S.set i .S) = true := by
    have : ∀ (S : List Sta) (i : Nat), S[i]? = some .O → stsLe S (S.set i .S) = true := by
      intro S
      induction S with
      | nil => intro i h; simp at h
      | cons a S ih =>
        intro i h
        cases i with
        | zero =>
          simp at h
          subst h
          show (Sta.le .O .S && stsLe S S) = true
          rw [stsLe_refl]
          rfl
        | succ i =>
          show (a.le a && stsLe S (S.set i .S)) = true
          rw [ih i (by simpa using h)]
          cases a <;> rfl
    exact this S i hi
  exact ⟨F, E, env, fl, env', R.weak hle, ee, q⟩
theorem seq_ps {X : Cx} {S S' : List Sta} {L r : Option (List Sta)} {c : CS} {cs : List CS} {st : Stmt} {sts : List Stmt} (h1 : PS X st (tS G W fr L S (some S') c)) (h2 : PSs X sts (tSs G W fr L S' r cs)) : PSs X (st :: sts) (tSs G W fr L S r (c :: cs)) := (pss_cons h1 h2).imp fun D σ H ⟨F, E, env, fl, env', R, ee, q⟩ => by
  rw [exs] at ee
  split at ee
  · rename_i s1 e1
    exact ⟨F, E, env, .nx, s1, R, e1, fun S2 hS σ' H' R' => by cases hS; exact ⟨F, E, s1, fl, env', R', ee, q⟩⟩
  · rename_i s1 e1
    cases ee
    exact ⟨F, E, env, .brk, env', R, e1, q⟩
  · rename_i s1 e1
    cases ee
    exact ⟨F, E, env, .cnt, env', R, e1, q⟩
  · rename_i s1 e1
    cases ee
    exact ⟨F, E, env, .ret _, env', R, e1, q⟩
  · cases ee
theorem last_ps {X : Cx} {S : List Sta} {L : Option (List Sta)} {c : CS} {cs : List CS} {st : Stmt} {sts : List Stmt} (h1 : PS X st (tS G W fr L S none c)) (hn : ∀ s s', ex G.cf G.gb W c s = some (.nx, s') → False) : PSs X (st :: sts) (tSs G W fr L S none (c :: cs)) := (pss_cons h1 pss_never).imp fun D σ H ⟨F, E, env, fl, env', R, ee, q⟩ => by
  rw [exs] at ee
  split at ee
  · rename_i s1 e1
    exact (hn _ _ e1).elim
  · rename_i s1 e1
    cases ee
    exact ⟨F, E, env, .brk, env', R, e1, q⟩
  · rename_i s1 e1
    cases ee
    exact ⟨F, E, env, .cnt, env', R, e1, q⟩
  · rename_i s1 e1
    cases ee
    exact ⟨F, E, env, .ret _, env', R, e1, q⟩
  · cases ee
def isNm (N : List Str) (sc : Scope) (i : Nat) (tg : Expr) : Bool := match tg with | .Name x _ => decide (N[i]? = some x) && locB sc x | _ => false
theorem isNm_inv {sc : Scope} {i : Nat} {tg : Expr} (h : isNm N sc i tg = true) : ∃ x px, tg = .Name x px ∧ N[i]? = some x ∧ locB sc x = true := by
  unfold isNm at h
  split at h
  · simp only [Bool.and_eq_true, decide_eq_true_eq] at h
    exact ⟨_, _, rfl, h.1, h.2⟩
  · cases h
theorem trSs_inv {c : CS} {cs : List CS} {sc : Scope} {sts : List Stmt} (h : trSs N G.gname G.fname G.free (c :: cs) sc sts = true) : (∃ i, c = .shr i ∧ trSs N G.gname G.fname G.free cs sc sts = true) ∨ (∃ st sts', sts = st :: sts' ∧ trS N G.gname G.fname G.free c sc st = true ∧ trSs N G.gname G.fname G.free cs sc sts' = true) := by
  cases sts with
  | nil => cases c <;> first | exact .inl ⟨_, rfl, h⟩ | (cases h; done)
  | cons st sts' =>
    cases c <;> first
      | exact .inl ⟨_, rfl, h⟩
      | exact .inr ⟨st, sts', rfl, Bool.and_eq_true_iff.mp h⟩
def GoodS (G : Glob) (N : List Str) (W : Nat) (fr : Bool) (c : CS) : Prop := ∀ (X : Cx) (sc : Scope) (st : Stmt) (S : List Sta) (L r : Option (List Sta)), FOk G N X sc → trS N G.gname G.fname G.free c sc st = true → anS G.sg fr c S L = some r → PS X st (tS G W fr L S r c)
def GoodSs (G : Glob) (N : List Str) (W : Nat) (fr : Bool) (cs : List CS) : Prop := ∀ (X : Cx) (sc : Scope) (sts : List Stmt) (S : List Sta) (L r : Option (List Sta)), FOk G N X sc → trSs N G.gname G.fname G.free cs sc sts = true → anSs G.sg fr cs S L = some r → PSs X sts (tSs G W fr L S r cs)
theorem exSs_nil : GoodSs G N W fr [] := fun X sc sts S L r O h an => by
  cases sts with
  | nil =>
    cases an
    exact pss_nil.imp fun D σ H ⟨F, E, env, fl, env', R, ee, q⟩ => by
      rw [exs] at ee
      cases ee
      exact end_nx q σ H R
  | cons _ _ => cases h
theorem anSs_inv {sg : Nat → Option Sig} {c : CS} {cs : List CS} {S : List Sta} {L r : Option (List Sta)} (h : anSs sg fr (c :: cs) S L = some r) : (∃ S', anS sg fr c S L = some (some S') ∧ anSs sg fr cs S' L = some r) ∨ (anS sg fr c S L = some none ∧ r = none) := by
  rw [anSs] at h
  split at h
  · exact .inl ⟨_, by assumption, h⟩
  · cases h; exact .inr ⟨by assumption, rfl⟩
  · cases h
theorem anS_shr {sg : Nat → Option Sig} {i : Nat} {S : List Sta} {L r : Option (List Sta)} (h : anS sg fr (.shr i) S L = some r) : S[i]? = some .O ∧ r = some (S.set i .S) := by
  rw [anS] at h
  split at h
  · rename_i q; cases h; exact ⟨by simpa using q, rfl⟩
  · cases h
theorem exSs_cons {c : CS} {cs : List CS} (g : GoodS G N W fr c) (gs : GoodSs G N W fr cs) : GoodSs G N W fr (c :: cs) := fun X sc sts S L r O h an => by
  rcases trSs_inv h with ⟨i, rfl, h⟩ | ⟨st, sts', rfl, h1, h2⟩
  · rcases anSs_inv an with ⟨S', a1, a2⟩ | ⟨a1, rfl⟩
    · obtain ⟨q1, q2⟩ := anS_shr a1
      cases q2
      exact shr_ps q1 (gs X sc sts _ L r O h a2)
    · obtain ⟨q1, q2⟩ := anS_shr a1
      cases q2
  · rcases anSs_inv an with ⟨S', a1, a2⟩ | ⟨a1, rfl⟩
    · exact seq_ps (g X sc st S L (some S') O h1 a1) (gs X sc sts' S' L r O h2 a2)
    · exact last_ps (g X sc st S L none O h1 a1) fun s s' e => anS_nx c S L s s' a1 e
mutual
theorem exS : ∀ (c : CS), GoodS G N W fr c
  | .pass => fun X sc st S L r O h an => by
    unfold trS at h
    unfold anS at an
    split at h
    · cases an; exact st_pass
    · cases h
  | .never => fun X sc st S L r O h an => by
    unfold anS at an
    cases an
    exact st_never
  | .brk => fun X sc st S L r O h an => by
    unfold trS at h
    unfold anS at an
    split at h
    · split at an
      · split at an
        · cases an; exact st_brk (by assumption)
        · cases an
      · cases an
    · cases h
  | .cnt => fun X sc st S L r O h an => by
    unfold trS at h
    unfold anS at an
    split at h
    · split at an
      · split at an
        · cases an; exact st_cnt (by assumption)
        · cases an
      · cases an
    · cases h
  | .ret mv e => fun X sc st S L r O h an => by
    unfold trS at h
    unfold anS at an
    split at an
    · rename_i ok
      cases an
      split at h
      · exact st_ret O h ok
      · simp only [Bool.and_eq_true] at h
        obtain ⟨_, h⟩ := h
        split at h
        · split at h
          · exact st_retN
          · cases h
        · cases h
      · cases h
    · cases an
  | .expr e => fun X sc st S L r O h an => by
    unfold trS at h
    unfold anS at an
    split at an
    · rename_i ok
      cases an
      split at h
      · simp only [Bool.and_eq_true] at h
        exact st_expr O h.1 h.2 ok
      · cases h
    · cases an
  | .asg p o e => fun X sc st S L r O h an => by
    unfold trS at h
    split at h
    · rename_i tg v pos
      simp only [Bool.and_eq_true] at h
      obtain ⟨h1, h2⟩ := h
      unfold anS at an
      split at an
      · rename_i ho
        subst ho
        split at an
        · split at an
          · rename_i i ok
            cases an
            simp only [Bool.and_eq_true] at ok
            obtain ⟨x, px, rfl, hn1, hn2⟩ := isNm_inv (N := N) (sc := sc) (i := i) (tg := tg) h1
            exact st_asgO O hn1 hn2 h2 ok.1 ok.2
          · cases an
        · cases an
      · rename_i ho
        have ho : o = false := by simpa using ho
        subst ho
        split at an
        · rename_i ok
          cases an
          simp only [Bool.and_eq_true] at ok
          cases p with
          | nm i =>
            obtain ⟨x, px, rfl, hn1, hn2⟩ := isNm_inv (N := N) (sc := sc) (i := i) (tg := tg) h1
            · skip
              have hv : ptVars (.nm i) = [i] := by rw [ptVars]
              have ok2 := ok.2
              rw [hv] at ok2 ⊢
              have : setAll S .S [i] = S.set i .S := by unfold setAll; unfold setAll; rfl
              rw [this]
              exact st_asgS O hn1 hn2 h2 ok.1 (by simpa using ok2)
          | tp ps =>
            have h1 : (trP N (.tp ps) sc tg && notComp e) = true := h1
            simp only [Bool.and_eq_true] at h1
            exact st_asgT O h1.1 h1.2 h2 ok.1 fun w hw => List.all_eq_true.mp ok.2 w hw
        · cases an
    · cases h
  | .mov i j => fun X sc st S L r O h an => by
    unfold trS at h
    unfold anS at an
    split at an
    · rename_i ok
      cases an
      simp only [Bool.and_eq_true, decide_eq_true_eq] at ok
      split at h
      · simp only [Bool.and_eq_true, decide_eq_true_eq] at h
        exact st_mov O h.1.1 h.1.2 h.2 ok.1.1 ok.1.2 ok.2
      · cases h
    · cases an
  | .shr _ => fun X sc st S L r O h an => by unfold trS at h; cases h
  | .aug i o e => fun X sc st S L r O h an => by
    unfold trS at h
    unfold anS at an
    split at an
    · rename_i ok
      cases an
      simp only [Bool.and_eq_true, decide_eq_true_eq] at ok
      split at h
      · simp only [Bool.and_eq_true, decide_eq_true_eq] at h
        rw [h.1.2]
        exact st_aug O h.1.1.1 h.1.1.2 h.2 ok.1 ok.2
      · cases h
    · cases an
  | .setIx i k v => fun X sc st S L r O h an => by
    unfold trS at h
    unfold anS at an
    split at an
    · rename_i ok
      cases an
      simp only [Bool.and_eq_true] at ok
      split at h
      · simp only [Bool.and_eq_true] at h
        exact st_setIx O h.1.1.1 h.1.2 h.2 h.1.1.2 ok.1.1 ok.1.2 ok.2
      · cases h
    · cases an
  | .augIx _ _ _ _ => fun X sc st S L r O h an => by unfold anS at an; cases an
  | .app i e => fun X sc st S L r O h an => by
    unfold trS at h
    unfold anS at an
    split at an
    · rename_i ok
      cases an
      simp only [Bool.and_eq_true] at ok
      split at h
      · simp only [Bool.and_eq_true, decide_eq_true_eq] at h
        obtain ⟨⟨⟨⟨rfl, a2⟩, a3⟩, a4⟩, a5⟩ := h
        exact st_app O a2 a3 a4 a5 ok.1 ok.2
      · cases h
    · cases an
  | .ext i e => fun X sc st S L r O h an => by
    unfold trS at h
    unfold anS at an
    split at an
    · rename_i ok
      cases an
      simp only [Bool.and_eq_true] at ok
      split at h
      · simp only [Bool.and_eq_true, decide_eq_true_eq] at h
        obtain ⟨⟨⟨⟨rfl, a2⟩, a3⟩, a4⟩, a5⟩ := h
        exact st_ext O a2 a3 a4 a5 ok.1.1 ok.1.2
      · cases h
    · cases an
  | .ife t a b => fun X sc st S L r O h an => by
    unfold trS at h
    unfold anS at an
    split at h
    · simp only [Bool.and_eq_true] at h
      split at an
      · rename_i ok
        split at an
        · rename_i r1 h1
          split at an
          · rename_i r2 h2
            exact st_ife ((exG t).2.1 X sc _ S O.O h.1.1.2 ok h.1.1.1) (exSs a X sc _ S L r1 O h.1.2 h1) (exSs b X sc _ S L r2 O h.2 h2) an
          · cases an
        · cases an
      · cases an
    · cases h
  | .whl iv t b => fun X sc st S L r O h an => by
    unfold trS at h
    unfold anS at an
    split at h
    · simp only [Bool.and_eq_true] at h
      split at an
      · rename_i ok
        simp only [Bool.and_eq_true] at ok
        have pt := (exG t).2.1 X sc _ iv O.O h.1.2 ok.2 h.1.1
        split at an
        · rename_i hb
          cases an
          exact st_whl O.po ok.1 pt (exSs b X sc _ iv (some iv) none O h.2 hb) fun s hs => nomatch hs
        · rename_i rr hb
          split at an
          · rename_i hle
            cases an
            exact st_whl O.po ok.1 pt (exSs b X sc _ iv (some iv) (some rr) O h.2 hb) fun s hs => by cases hs; exact hle
          · cases an
        · cases an
      · cases an
    · cases h
  | .for iv p k it b => fun X sc st S L r O h an => by
    unfold trS at h
    unfold anS at an
    split at h
    · rename_i tg iter bv pos
      simp only [Bool.and_eq_true] at h
      obtain ⟨⟨⟨⟨a1, a2⟩, a3⟩, a4⟩, a5⟩ := h
      split at an
      · rename_i ok
        simp only [Bool.and_eq_true] at ok
        obtain ⟨⟨b1, b2⟩, b3⟩ := ok
        have htu : (k = .enum ∨ k = .zip) → ∃ es kk tp, tg = .Tuple es kk tp := fun hk => by
          have : ∃ ps, p = .tp ps := by
            rcases hk with rfl | rfl <;> (cases p with | tp ps => exact ⟨ps, rfl⟩ | nm _ => simp at a4)
          obtain ⟨ps, rfl⟩ := this
          unfold trP at a3
          split at a3
          · exact ⟨_, _, _, rfl⟩
          · cases a3
        obtain ⟨w1, w2⟩ := walk_var (tg := tg) O.O a2 b2
        have pg : PG X tg (tP G (borW k iv it) p) := pg_ok O.O.hN O.O.nd O.O.calm O.O.K O.loc p tg _ a3 fun v hv => List.all_eq_true.mp b3 v hv
        have main : ∀ rr, anSs G.sg fr b (setAll (borW k iv it) .S (ptVars p)) (some (borW k iv it)) = some rr → (∀ s, rr = some s → stsLe s (borW k iv it) = true) → PS X (.For tg iter bv [] pos) (tS G W fr L S (some iv) (.for iv p k it b)) := fun rr hb hle => by
          have body := exSs b X sc bv (setAll (borW k iv it) .S (ptVars p)) (some (borW k iv it)) rr O a5 hb
          refine st_for b1 (fun L => for_core O.po O.O.calm (exI it k X sc iter iv tg O.O a2 b2 htu) pg body hle (folded a1)) (fun i hit hk => ?_) w2
          obtain ⟨q1, q2, q3⟩ := w1 i hit hk
          refine ⟨q1, q2, fun L => ?_⟩
          subst hit hk
          have eb : borW .val (bor1 iv (.var i)) [.var i] = borW .val iv [.var i] := by
            show borS (bor1 iv (.var i)) [.var i] = borS iv [.var i]
            exact bor1_idem
          exact for_core O.po O.O.calm q3 (by rw [eb]; exact pg) (by rw [eb]; exact body) (by rw [eb]; exact hle) (folded a1)
        split at an
        · rename_i hb
          cases an
          exact main none hb fun s hs => nomatch hs
        · rename_i rr hb
          split at an
          · rename_i hle
            cases an
            exact main (some rr) hb fun s hs => by cases hs; exact hle
          · cases an
        · cases an
      · cases an
    · cases h
  | .tryr b => fun X sc st S L r O h an => by
    unfold trS at h
    unfold anS at an
    split at h
    · exact (ps_try_thru0 (exSs b X.nox sc _ S L r O.nox h an)).imp fun D σ H ⟨F, E, env, fl, env', R, ee, q⟩ => by
        rw [ex] at ee
        exact ⟨F, E, env, fl, env', R, ee, q⟩
    · cases h
theorem exSs : ∀ (cs : List CS), GoodSs G N W fr cs
  | [] => exSs_nil
  | c :: cs => exSs_cons (exS c) (exSs cs)
end
end
end Ev
end

section
set_option Elab.async false
set_option linter.all false
set_option maxRecDepth 100000
set_option maxHeartbeats 8000000
/-! EwI: a def's entry and its end. -/
namespace Ev
open PySem PySem.Spec PyProof.Rows L2
def staOf : Nat → Sta
  | 0 => .S
  | 1 => .B
  | 2 => .I
  | _ => .N
def entS (n : Nat) (ms : List Nat) : List Sta := ms.map staOf ++ List.replicate (n - ms.length) .N
section
variable {K : PySem.W.Frag} {H H' : Hp} {A M : Addr → Prop} {ms : List Nat} {us : List V} {xs : List EV}
theorem ArgC.lens (h : ArgC K H A M ms us xs) : us.length = ms.length ∧ xs.length = ms.length := by
  induction h with
  | nil => exact ⟨rfl, rfl⟩
  | sh _ _ ih => simp [ih]
  | pk _ _ _ _ ih => simp [ih]
  | io _ _ _ _ _ _ ih => simp [ih]
theorem ArgC.at (h : ArgC K H A M ms us xs) : ∀ (i m : Nat), ms[i]? = some m → ∃ u x, us[i]? = some u ∧ xs[i]? = some x ∧
    ((m = 0 ∧ Rep K H A u x) ∨ (m = 1 ∧ ∃ a, u = .ref a ∧ x.isCon = true ∧ RepC K H A a x ∧ ¬ M a) ∨ (m = 2 ∧ ∃ a, u = .ref a ∧ x.isCon = true ∧ RepC K H A a x ∧ Wr H a ∧ M a)) := by
  induction h with
  | nil => intro i m h; simp at h
  | sh r _ ih =>
    intro i m h
    cases i with
    | zero => simp at h; subst h; exact ⟨_, _, rfl, rfl, .inl ⟨rfl, r⟩⟩
    | succ i => simpa using ih i m (by simpa using h)
  | pk c r n _ ih =>
    intro i m h
    cases i with
    | zero => simp at h; subst h; exact ⟨_, _, rfl, rfl, .inr (.inl ⟨rfl, _, rfl, c, r, n⟩)⟩
    | succ i => simpa using ih i m (by simpa using h)
  | io c r w hm hd _ ih =>
    intro i m h
    cases i with
    | zero => simp at h; subst h; exact ⟨_, _, rfl, rfl, .inr (.inr ⟨rfl, _, rfl, c, r, w, hm⟩)⟩
    | succ i => simpa using ih i m (by simpa using h)
theorem ArgC.apart (h : ArgC K H A M ms us xs) : ∀ (i j : Nat) (a : Addr), i < j → ms[i]? = some 2 → ms[j]? = some 2 → us[i]? = some (.ref a) → us[j]? ≠ some (.ref a) := by
  induction h with
  | nil => intro i j a _ h; simp at h
  | sh _ _ ih =>
    intro i j a hij h1 h2 h3
    cases i with
    | zero => simp at h1
    | succ i =>
      cases j with
      | zero => omega
      | succ j => simpa using ih i j a (by omega) (by simpa using h1) (by simpa using h2) (by simpa using h3)
  | pk _ _ _ _ ih =>
    intro i j a hij h1 h2 h3
    cases i with
    | zero => simp at h1
    | succ i =>
      cases j with
      | zero => omega
      | succ j => simpa using ih i j a (by omega) (by simpa using h1) (by simpa using h2) (by simpa using h3)
  | @io ms b vs x xs _ _ _ _ hd _ ih =>
    intro i j a hij h1 h2 h3
    cases j with
    | zero => omega
    | succ j =>
      cases i with
      | zero =>
        have h3 : b = a := by simpa using h3
        subst h3
        simpa using hd j (by simpa using h2)
      | succ i => simpa using ih i j a (by omega) (by simpa using h1) (by simpa using h2) (by simpa using h3)
theorem entS_get {n i : Nat} {ms : List Nat} : (∀ m, ms[i]? = some m → (entS n ms)[i]? = some (staOf m)) ∧ (ms[i]? = none → ∀ st, (entS n ms)[i]? = some st → st = .N) := by
  refine ⟨fun m h => ?_, fun h st hs => ?_⟩
  · unfold entS
    rw [List.getElem?_append_left (by rw [List.length_map]; exact get_lt h), List.getElem?_map, h]
    rfl
  · unfold entS at hs
    have hl : ms.length ≤ i := List.getElem?_eq_none_iff.mp h
    rw [List.getElem?_append_right (by rw [List.length_map]; exact hl), List.getElem?_replicate] at hs
    split at hs
    · cases hs; rfl
    · cases hs
def iaOf (σ : L2.St) (ms : List Nat) : List (Nat × Addr) := (List.range ms.length).filterMap fun i => match (ms[i]? : Option Nat), (σ[i]? : Option (Option V)) with
  | some 2, some (some (V.ref a)) => some (i, a)
  | _, _ => none
theorem mem_iaOf {σ : L2.St} {ms : List Nat} {p : Nat × Addr} : p ∈ iaOf σ ms ↔ ms[p.1]? = some 2 ∧ σ[p.1]? = some (some (.ref p.2)) := by
  unfold iaOf
  rw [List.mem_filterMap]
  constructor
  · rintro ⟨j, hj, e⟩
    split at e
    · cases e; exact ⟨by assumption, by assumption⟩
    · cases e
  · rintro ⟨h1, h2⟩
    refine ⟨p.1, ?_, by rw [h1, h2]; rfl⟩
    rw [List.mem_range]
    exact get_lt h1
def entF (H : Hp) (A M : Addr → Prop) (n : Nat) (ms : List Nat) (env : Env) (σ : L2.St) : Frm := ⟨H, A, M, [], fixes (entS n ms) env σ, (List.range ms.length).filter fun i => decide (ms[i]? = some 2), iaOf σ ms⟩
theorem entry_rel {n : Nat} {N : List Str} (h : ArgC K H A M ms us xs) (hMA : ∀ a, M a → A a) (hA : ∀ a, A a → H a ≠ none) (hn : ms.length ≤ n) (hN : N.length = n) :
    Rel K (entF H A M n ms (startE n xs) (start N us)) (fun _ => False) (entS n ms) (startE n xs) (start N us) H := by
  obtain ⟨l1, l2⟩ := h.lens
  have hS : (entS n ms).length = n := by unfold entS; simp; omega
  have hE : (startE n xs).length = n := by unfold startE; simp; omega
  have hσ : (start N us).length = n := by unfold L2.start; simp; omega
  have gE : ∀ {i : Nat} {x : EV}, xs[i]? = some x → (startE n xs)[i]? = some (some x) := fun {i x} hx => by
    unfold startE
    rw [List.getElem?_append_left (by rw [List.length_map]; exact get_lt hx), List.getElem?_map, hx]
    rfl
  have gσ : ∀ {i : Nat} {u : V}, us[i]? = some u → (start N us)[i]? = some (some u) := fun {i u} hx => by
    unfold L2.start
    rw [List.getElem?_append_left (by rw [List.length_map]; exact get_lt hx), List.getElem?_map, hx]
    rfl
  -- what a slot's status tells
  have at' : ∀ (i : Nat) (st : Sta), (entS n ms)[i]? = some st → st ≠ .N → ∃ m u x, ms[i]? = some m ∧ staOf m = st ∧ us[i]? = some u ∧ xs[i]? = some x ∧
      ((m = 0 ∧ Rep K H A u x) ∨ (m = 1 ∧ ∃ a, u = .ref a ∧ x.isCon = true ∧ RepC K H A a x ∧ ¬ M a) ∨ (m = 2 ∧ ∃ a, u = .ref a ∧ x.isCon = true ∧ RepC K H A a x ∧ Wr H a ∧ M a)) := fun i st hst hne => by
    cases hm : ms[i]? with
    | none => exact absurd (entS_get.2 hm st hst) hne
    | some m =>
      obtain ⟨u, x, h1, h2, h3⟩ := h.at i m hm
      have := entS_get (n := n).1 m hm
      rw [hst] at this
      cases this
      exact ⟨m, u, x, rfl, rfl, h1, h2, h3⟩
  have ownM : ∀ {i : Nat} {st : Sta} {a : Addr}, (entS n ms)[i]? = some st → st.own = true → (start N us)[i]? = some (some (.ref a)) → M a ∧ ms[i]? = some 2 ∧ us[i]? = some (.ref a) ∧ st = .I := fun {i st a} h1 h2 h3 => by
    obtain ⟨m, u, x, q1, q2, q3, q4, q5⟩ := at' i st h1 (fun e => by rw [e] at h2; cases h2)
    rw [gσ q3] at h3
    cases h3
    rcases q5 with ⟨rfl, _⟩ | ⟨rfl, _⟩ | ⟨rfl, b, e, _, _, _, hm⟩
    · rw [← q2] at h2; cases h2
    · rw [← q2] at h2; cases h2
    · cases e; exact ⟨hm, q1, q3, q2.symm⟩
  have hav : ∀ b, ¬ A b → H b ≠ none → ¬ Av (entF H A M n ms (startE n xs) (start N us)) (fun _ => False) (entS n ms) (start N us) b := fun b nb _ q => by
    rcases q with q | q | ⟨i, st, h1, h2, h3⟩
    · exact nb q
    · exact q
    · exact nb (hMA b (ownM h1 h2 h3).1)
  have rc' : ∀ {a : Addr} {x : EV}, RepC K H A a x → RepC K H (Av (entF H A M n ms (startE n xs) (start N us)) (fun _ => False) (entS n ms) (start N us)) a x := fun {a x} r => r.mono' .rfl hav (fun _ q => q) fun _ _ q => q
  refine ⟨hE.trans hS.symm, hσ.trans hS.symm, fun i st hst => ?_, fun i j a st st' ne h1 h2 h3 h4 h5 h6 => ?_, fun a o ha _ => ha, fun a ha => ha, hA, hMA, fun a ha => ha.elim, fun a ha => ha.elim, fun i a h1 h2 => ?_, fun i a h1 h2 => (ownM h1 rfl h2).1, fun p hp => (by cases hp), fun p hp => mem_fixes.mp hp, fun i hi => ?_, fun i hi => ?_, fun p hp => ?_⟩
  · by_cases hne : st = .N
    · subst hne
      have hl := get_lt hst
      obtain ⟨e, he⟩ : ∃ e, (startE n xs)[i]? = some e := ⟨(startE n xs)[i]'(by omega), List.getElem?_eq_getElem _⟩
      obtain ⟨v, hv⟩ : ∃ v, (start N us)[i]? = some v := ⟨(start N us)[i]'(by omega), List.getElem?_eq_getElem _⟩
      exact ⟨e, v, he, hv, trivial⟩
    · obtain ⟨m, u, x, q1, q2, q3, q4, q5⟩ := at' i st hst hne
      refine ⟨some x, some u, gE q4, gσ q3, ?_⟩
      rcases q5 with ⟨rfl, r⟩ | ⟨rfl, a, rfl, c, r, _⟩ | ⟨rfl, a, rfl, c, r, w, _⟩
      · rw [← q2]; exact ⟨x, u, rfl, rfl, r.mono .rfl hav⟩
      · rw [← q2]; exact ⟨x, a, rfl, rfl, c, rc' r⟩
      · rw [← q2]; exact ⟨x, a, rfl, rfl, c, rc' r, w⟩
  · obtain ⟨m1, m2, m3, _⟩ := ownM h1 h2 h5
    rcases h4 with h4 | h4
    · obtain ⟨_, k2, k3, _⟩ := ownM h3 h4 h6
      rcases Nat.lt_or_gt_of_ne ne with lt | lt
      · exact h.apart i j a lt m2 k2 m3 k3
      · exact h.apart j i a lt k2 m2 k3 m3
    · subst h4
      obtain ⟨m, u, x, q1, q2, q3, q4, q5⟩ := at' j .B h3 (by decide)
      rw [gσ q3] at h6
      cases h6
      rcases q5 with ⟨rfl, _⟩ | ⟨rfl, b, e, _, _, nm⟩ | ⟨rfl, _⟩
      · cases q2
      · cases e; exact nm m1
      · cases q2
  · obtain ⟨_, _, _, e⟩ := ownM h1 rfl h2
    cases e
  · have hi : i ∈ (List.range ms.length).filter fun i => decide (ms[i]? = some 2) := hi
    rw [List.mem_filter] at hi
    exact .inl (entS_get.1 2 (by simpa using hi.2))
  · obtain ⟨m, u, x, q1, q2, q3, q4, q5⟩ := at' i .B hi (by decide)
    rcases q5 with ⟨rfl, _⟩ | ⟨rfl, a, rfl, _⟩ | ⟨rfl, _⟩
    · cases q2
    · exact ⟨(i, a, x), mem_fixes.mpr ⟨hi, gσ q3, gE q4⟩, rfl⟩
    · cases q2
  · have hp : p ∈ iaOf (start N us) ms := hp
    obtain ⟨q1, q2⟩ := mem_iaOf.mp hp
    refine ⟨?_, q2⟩
    show p.1 ∈ (List.range ms.length).filter fun i => decide (ms[i]? = some 2)
    rw [List.mem_filter, List.mem_range]
    exact ⟨get_lt q1, by simpa using q1⟩
end
end Ev
end

section
set_option Elab.async false
set_option linter.all false
set_option maxRecDepth 100000
set_option maxHeartbeats 8000000
/-! EwJ: a def's end. -/
namespace Ev
open PySem PySem.Spec PyProof.Rows L2
section
variable {K : PySem.W.Frag} {H H' : Hp} {A M : Addr → Prop} {ms : List Nat} {us : List V} {xs : List EV} {n : Nat} {N : List Str} {fr : Bool} {env' : Env} {x : EV} {v : V}
theorem ArgC.hasM (h : ArgC K H A M ms us xs) (hM : ∀ a, M a → ∃ i : Nat, ms[i]? = some 2 ∧ us[i]? = some (.ref a)) {a : Addr} (ha : M a) (vs : List V) : H a ≠ some (.tup vs) := by
  obtain ⟨i, h1, h2⟩ := hM a ha
  obtain ⟨u, y, q1, q2, q3⟩ := h.at i 2 h1
  rw [h2] at q1
  cases q1
  rcases q3 with ⟨e, _⟩ | ⟨e, _⟩ | ⟨_, b, e, _, rc, _⟩
  · cases e
  · cases e
  · cases e; exact rc.notup vs
theorem ret_step {E : Addr → Prop} {S2 : List Sta} {σ2 : L2.St} (h : ArgC K H A M ms us xs) (hM : ∀ a, M a → ∃ i : Nat, ms[i]? = some 2 ∧ us[i]? = some (.ref a)) (R : Rel K (entF H A M n ms (startE n xs) (start N us)) E S2 env' σ2 H') : Step M H H' :=
  ⟨fun a o na ha => R.pres a o ha na, fun a ha => R.live a ha, fun a w ha => R.pres a _ ha fun m => h.hasM hM m w ha⟩
theorem outC_of {A' : Addr → Prop} : ∀ (ms : List Nat) (us : List V) (k : Nat), us.length = ms.length → (∀ i : Nat, ms[i]? = some 2 → ∃ a x', us[i]? = some (.ref a) ∧ env'[k + i]? = some (some x') ∧ x'.isCon = true ∧ RepC K H' A' a x' ∧ Wr H' a) → OutC K H' A' ms us (ioOf k ms env')
  | [], [], k, _, _ => .nil
  | m :: ms, u :: us, k, hl, h => by
    have rest := outC_of ms us (k + 1) (by simpa using hl) fun i hi => by
      obtain ⟨a, x', q1, q2, q3⟩ := h (i + 1) (by simpa using hi)
      exact ⟨a, x', by simpa using q1, by rw [show k + 1 + i = k + (i + 1) by omega]; exact q2, q3⟩
    by_cases hm : m = 2
    · subst hm
      obtain ⟨a, x', q1, q2, q3, q4, q5⟩ := h 0 rfl
      have q1 : u = .ref a := by simpa using q1
      subst q1
      have q2 : env'[k]? = some (some x') := by simpa using q2
      rw [ioOf, if_pos rfl, q2]
      exact .io q3 q4 q5 rest
    · rw [ioOf, if_neg hm]
      exact .sh hm rest
  | [], _ :: _, _, hl, _ => by simp at hl
  | _ :: _, [], _, hl, _ => by simp at hl
theorem ret_call (h : ArgC K H A M ms us xs) (hM : ∀ a, M a → ∃ i : Nat, ms[i]? = some 2 ∧ us[i]? = some (.ref a)) (hn : ms.length ≤ n) (r : RetOk K (entF H A M n ms (startE n xs) (start N us)) (fun _ => False) fr env' x v H') : CallPost K fr ms A M H us x (ioOf 0 ms env') v H' := by
  obtain ⟨S2, σ2, r⟩ := r
  have key : ∀ {E : Addr → Prop}, Rel K (entF H A M n ms (startE n xs) (start N us)) E S2 env' σ2 H' → ∀ i : Nat, ms[i]? = some 2 → ∃ a x', us[i]? = some (.ref a) ∧ env'[0 + i]? = some (some x') ∧ x'.isCon = true ∧ RepC K H' (Av (entF H A M n ms (startE n xs) (start N us)) E S2 σ2) a x' ∧ Wr H' a := fun {E} R i hi => by
    obtain ⟨u, y, q1, q2, q3⟩ := h.at i 2 hi
    have hu : ∃ a, u = .ref a := by
      rcases q3 with ⟨e, _⟩ | ⟨e, _⟩ | ⟨_, b, e, _⟩
      · cases e
      · cases e
      · exact ⟨b, e⟩
    obtain ⟨a, rfl⟩ := hu
    have g : (start N us)[i]? = some (some (.ref a)) := by
      unfold L2.start
      rw [List.getElem?_append_left (by rw [List.length_map]; exact get_lt q1), List.getElem?_map, q1]
      rfl
    have hia : (i, a) ∈ iaOf (start N us) ms := mem_iaOf.mpr ⟨hi, g⟩
    obtain ⟨k1, k2⟩ := R.ioa (i, a) hia
    have hI : S2[i]? = some .I := by
      rcases R.ios i k1 with z | z
      · exact z
      · obtain ⟨p, hp, e⟩ := R.bx i z
        obtain ⟨f1, _, _⟩ := mem_fixes.mp hp
        rw [e, entS_get.1 2 hi] at f1
        cases f1
    obtain ⟨e, w, e1, e2, x', b, z1, z2, z3, z4, z5⟩ := R.slot i .I hI
    have k2 : σ2[i]? = some (some (.ref a)) := k2
    rw [k2] at e2
    cases e2
    cases z2
    subst z1
    exact ⟨a, x', q1, by rw [Nat.zero_add]; exact e1, z3, z4, z5⟩
  obtain ⟨l1, l2⟩ := h.lens
  rcases r with ⟨hc, hf, p, rfl, hp, h0, hw, R, rc⟩ | ⟨hc, R, rp⟩
  · have sub : ∀ b, ¬ Av (entF H A M n ms (startE n xs) (start N us)) (plusA (fun _ => False) p) S2 σ2 b → H' b ≠ none → ¬ orA A (· = p) b := fun b nb _ z => nb (by
      rcases z with z | z
      · exact .inl z
      · exact .inr (.inl (.inr z)))
    refine ⟨ret_step h hM R, .inl ⟨hc, hf, p, rfl, h0, hw, rc.mono' .rfl sub (fun _ q => q) (fun _ _ q => q), outC_of ms us 0 l1 fun i hi => ?_⟩⟩
    obtain ⟨a, x', q1, q2, q3, q4, q5⟩ := key R i hi
    exact ⟨a, x', q1, q2, q3, q4.mono' .rfl sub (fun _ q => q) (fun _ _ q => q), q5⟩
  · have sub : ∀ b, ¬ Av (entF H A M n ms (startE n xs) (start N us)) (fun _ => False) S2 σ2 b → H' b ≠ none → ¬ A b := fun b nb _ z => nb (.inl z)
    refine ⟨ret_step h hM R, .inr ⟨hc, rp.mono .rfl sub, outC_of ms us 0 l1 fun i hi => ?_⟩⟩
    obtain ⟨a, x', q1, q2, q3, q4, q5⟩ := key R i hi
    exact ⟨a, x', q1, q2, q3, q4.mono' .rfl sub (fun _ q => q) (fun _ _ q => q), q5⟩
end
end Ev
end

section
set_option Elab.async false
set_option linter.all false
set_option maxRecDepth 100000
set_option maxHeartbeats 8000000
/-! EwK: defs. -/
namespace Ev
open PySem PySem.Spec PyProof.Rows L2
/-- what is looked at of a def -/
structure DefOk (K : PySem.W.Frag) (mg : Str → Option Value) (Pg : List Fn) (sg : Nat → Option Sig) (fname gname : Nat → Str) (free : List Str) (f : Nat) (s : Sig) : Prop where
  ex : ∃ (F : Fn) (st : Stmt) (qual : Str) (a : Addr) (fd : FuncData) (N ps : List Str) (r : Option (List Sta)), Pg[f]? = some F ∧ F.md = s.md ∧ FunD K (fname f) qual (defArgs st) (defBody st) (defScope st) [] [] a fd ∧ FnScope N ps (defScope st) ∧ L2.Binds K fd ps [] ∧ mg (fname f) = some (.ref a) ∧
    N.length = F.n ∧ F.md.length ≤ F.n ∧ F.md.length = ps.length ∧ trSs N gname fname free F.body (defScope st) (defBody st) = true ∧ anSs sg s.fr F.body (entS F.n F.md) none = some r
section
variable {P : Program} {w : World} {K : PySem.W.Frag} {mg : Str → Option Value} {base : Heap} {Pg : List Fn} {gb : Gb} {W : Nat} {sg : Nat → Option Sig} {fname gname : Nat → Str} {free : List Str}
theorem run_chk {d f : Nat} {s : Sig} {F : Fn} {xs : List EV} {r : EV × List EV} (hF : Pg[f]? = some F) (hm : F.md = s.md) (h : run Pg gb W d f xs = some r) : chkE s.md xs = true := by
  cases d with
  | zero => cases h
  | succ d =>
    rw [run] at h
    simp only [hF] at h
    split at h
    · rename_i hc; rw [← hm]; exact hc
    · cases h
theorem run_inv {d f : Nat} {F : Fn} {xs os : List EV} {x : EV} (hF : Pg[f]? = some F) (h : run Pg gb W (d + 1) f xs = some (x, os)) : ∃ fl s, exs (run Pg gb W d) gb W F.body (startE F.n xs) = some (fl, s) ∧ os = ioOf 0 F.md s ∧ (fl = .ret x ∨ (fl = .nx ∧ x = .non)) := by
  rw [run] at h
  simp only [hF] at h
  split at h
  · split at h
    · cases h; exact ⟨_, _, by assumption, rfl, .inl rfl⟩
    · cases h; exact ⟨_, _, by assumption, rfl, .inr ⟨rfl, rfl⟩⟩
    · cases h
  · cases h
theorem defs_ok (hdef : ∀ f s, sg f = some s → DefOk K mg Pg sg fname gname free f s) (hfree : ∀ x, free.contains x = true → mg x = none)
    (hgl : ∀ g v, gb g = some v → ∃ u z, mg (gname g) = some z ∧ RelV u z ∧ v.isCon = false ∧ ∀ H A, Rep K H A u v) :
    ∀ (d f : Nat) (s : Sig) (F : Fn) (st : Stmt) (qual : Str) (a : Addr) (fd : FuncData) (N ps : List Str) (r : Option (List Sta)), sg f = some s → Pg[f]? = some F → F.md = s.md → FunD K (fname f) qual (defArgs st) (defBody st) (defScope st) [] [] a fd → FnScope N ps (defScope st) →
      N.length = F.n → F.md.length ≤ F.n → F.md.length = ps.length → trSs N gname fname free F.body (defScope st) (defBody st) = true → anSs sg s.fr F.body (entS F.n F.md) none = some r →
      FnOk P w K mg base CX0 d a fd ps (spE K (run Pg gb W d) sg f) := by
  intro d
  induction d with
  | zero =>
    intro f s F st qual a fd N ps r hs hF hm hfun hsc h1 h2 h3 h4 h5
    have no : ∀ vs H Q E, ¬ spE K (run Pg gb W 0) sg f vs H Q E := fun vs H Q E ⟨_, _, _, _, _, _, _, h, _⟩ => by cases h
    exact ⟨fun vs H Q E h => (no _ _ _ _ h).elim, fun A outer s H args us vs Q E _ _ _ _ h => (no _ _ _ _ h).elim⟩
  | succ d ih =>
    intro f s F st qual a fd N ps r hs hF hm hfun hsc h1 h2 h3 h4 h5
    refine hfun.ok hsc (fun vs H Q E h => ?_) fun cdv A outer s0 H vs Q E hr h => ?_
    · obtain ⟨s', A, M, xs, x, os, q1, q2, q3, _⟩ := h
      rw [hs] at q1
      cases q1
      rw [q3.lens.1, ← hm, h3]
    · obtain ⟨s', A0, M, xs, x, os, q1, q2, q3, q4, q5, q6, q7⟩ := h
      rw [hs] at q1
      cases q1
      rw [← hm] at q3 q6
      obtain ⟨fl, env', e1, e2, e3⟩ := run_inv hF q2
      let G : Glob := ⟨K, run Pg gb W d, gb, sg, fname, gname, free⟩
      have O : FOk G N (cxOf CX0 P w K mg base N qual (defScope st) a cdv A outer s0 H E).nox (defScope st) := by
        refine ⟨⟨rfl, rfl, rfl, hsc.nd, rfl, ?_, hfree, hgl, fun f' s' hs' => ?_, fun f' s' xs r hs' hr => ?_⟩, fun _ _ => rfl, hsc.kind, PassesOwn.never⟩
        · have := hr.un
          show (A.deeper _).units + 100 < cLine
          omega
        · obtain ⟨F', st', qual', a', fd', N', ps', r', k1, k2, k3, k4, k5, k6, k7, k8, k9, k10, k11⟩ := (hdef f' s' hs').ex
          exact ⟨d, a', fd', ps', ih f' s' F' st' qual' a' fd' N' ps' r' hs' k1 k2 k3 k4 k7 k8 k9 k10 k11, hr, k6, k3.kp, k5⟩
        · obtain ⟨F', st', qual', a', fd', N', ps', r', k1, k2, _⟩ := (hdef f' s' hs').ex
          exact run_chk k1 k2 hr
      refine ⟨_, (exSs (G := G) (fr := s.fr) (W := W) F.body _ _ _ _ none r O h4 h5).nox, ?_⟩
      refine ⟨_, _, _, fl, env', entry_rel q3 q4 q5 h2 h1, e1, ?_⟩
      have fin : ∀ v H', RetOk K (entF H A0 M F.n F.md (startE F.n xs) (start N vs)) (fun _ => False) s.fr env' x v H' → Q v H' := fun v H' hret => by
        have := ret_call q3 q6 h2 hret
        rw [← e2, hm] at this
        exact q7 v H' this
      rcases e3 with rfl | ⟨rfl, rfl⟩
      · exact fin
      · exact fun S' _ σ' H' R => fin .non H' ⟨S', σ', .inr ⟨fun _ => rfl, R, .non⟩⟩
end
end Ev
end

section
set_option Elab.async false
set_option linter.all false
set_option maxRecDepth 100000
set_option maxHeartbeats 8000000
/-! EwL: a law's end. -/
namespace Ev
open PySem PySem.Spec PyProof.Rows L2
/-- a def of the text with its core: its name, its statement, its slots' names, how many are parameters, whether it hands on new containers -/
structure DefT where
  name : Str
  st : Stmt
  N : List Str
  np : Nat
  F : Fn
  fr : Bool
def DefT.ps (d : DefT) : List Str := d.N.take d.np
def DefT.sig (d : DefT) : Sig := ⟨d.F.md, d.fr⟩
def sgD (ds : List DefT) (f : Nat) : Option Sig := (ds[f]?).map DefT.sig
def pgD (ds : List DefT) : List Fn := ds.map DefT.F
def fnameD (ds : List DefT) (f : Nat) : Str := ((ds[f]?).map DefT.name).getD ""
def gnD (gi : List (Str × Int)) (g : Nat) : Str := ((gi[g]?).map Prod.fst).getD ""
def gbD (gi : List (Str × Int)) (g : Nat) : Option EV := (gi[g]?).map fun p => .int p.2
def scB (N ps : List Str) (sc : Scope) : Bool := isFn sc && !sc.isCoroutine && !sc.isGenerator && decide N.Nodup && decide (N.take ps.length = ps) && ps.all (locB sc) && sc.names.all fun y => decide (y.2 ≠ .free)
theorem scB_ok {N ps : List Str} {sc : Scope} (h : scB N ps sc = true) : FnScope N ps sc := by
  unfold scB at h
  simp only [Bool.and_eq_true, Bool.not_eq_true', decide_eq_true_eq, List.all_eq_true] at h
  obtain ⟨⟨⟨⟨⟨⟨h1, h2⟩, h3⟩, h4⟩, h5⟩, h6⟩, h7⟩ := h
  refine ⟨?_, h2, h3, h4, h5, fun x hx => locB_ok (h6 x hx), fun y hy => h7 y hy⟩
  unfold isFn at h1
  split at h1
  · assumption
  · cases h1
def DefT.okB (gn fn : Nat → Str) (fr : List Str) (sg : Nat → Option Sig) (d : DefT) : Bool :=
  scB d.N d.ps (defScope d.st) && decide (d.N.length = d.F.n) && decide (d.F.md.length ≤ d.F.n) && decide (d.F.md.length = d.ps.length) && trSs d.N gn fn fr d.F.body (defScope d.st) (defBody d.st) && (anSs sg d.fr d.F.body (entS d.F.n d.F.md) none).isSome
def DefT.BindOk (d : DefT) : Prop := ∀ (kV doc pm : Value) (an : Option Addr) (cdv ct : Value) (us : List Value), us.length = d.ps.length → bindArgs (PySem.W.fnOf d.name d.name (defArgs d.st) (defBody d.st) (defScope d.st) .none kV doc pm an cdv ct) ⟨us, []⟩ = pure (d.ps.zip us)
structure AllGood (ds : List DefT) (gi : List (Str × Int)) (fr : List Str) : Prop where
  ok : ds.all (DefT.okB (gnD gi) (fnameD ds) fr (sgD ds)) = true
  bind : ∀ (i : Nat) (d : DefT), ds[i]? = some d → d.BindOk
def faD (ds : List DefT) (gi : List (Str × Int)) (fr : List Str) : List He.Fa := ds.map (fun d => He.Fa.glo d.name) ++ fr.map He.Fa.free ++ gi.map fun p => He.Fa.int p.1 p.2
def dfD (d : DefT) : He.DefD := ⟨(d.name, none), d.name, d.name, defArgs d.st, defBody d.st, defScope d.st, [], []⟩
def dfsD (ds : List DefT) : List He.DefD := ds.map dfD
section
variable {P : Program} {w : World} {K : PySem.W.Frag} {mg : Str → Option Value} {h base : Heap} {ds : List DefT} {gi : List (Str × Int)} {fr : List Str} {W : Nat}
theorem _root_.He.SaysD.factM {fa : List He.Fa} {fn : List He.DefD} (c : He.SaysD fa fn K) {f : He.Fa} (hf : f ∈ fa) : f.ok K = true := by
  obtain ⟨i, hi, e⟩ := List.mem_iff_getElem.mp hf
  exact c.fact i (by rw [List.getElem?_eq_getElem hi, e])
theorem glo_at (X : K.In h) (G : h.Ns mainGlobals mg) (c : He.SaysD (faD ds gi fr) (dfsD ds) K) {f : Nat} {d : DefT} (hd : ds[f]? = some d) : mg d.name = some (.ref (He.ga K d.name)) :=
  He.glo_ok X G (c.factM (List.mem_append_left _ (List.mem_append_left _ (List.mem_map.mpr ⟨d, List.mem_of_getElem? hd, rfl⟩))))
theorem defOk_of (X : K.In h) (G : h.Ns mainGlobals mg) (c : He.SaysD (faD ds gi fr) (dfsD ds) K) (A : AllGood ds gi fr) {f : Nat} {d : DefT} (hd : ds[f]? = some d) :
    ∃ (fd : FuncData) (r : Option (List Sta)), (pgD ds)[f]? = some d.F ∧ FunD K (fnameD ds f) d.name (defArgs d.st) (defBody d.st) (defScope d.st) [] [] (He.ga K d.name) fd ∧ FnScope d.N d.ps (defScope d.st) ∧ L2.Binds K fd d.ps [] ∧ mg (fnameD ds f) = some (.ref (He.ga K d.name)) ∧
      d.N.length = d.F.n ∧ d.F.md.length ≤ d.F.n ∧ d.F.md.length = d.ps.length ∧ trSs d.N (gnD gi) (fnameD ds) fr d.F.body (defScope d.st) (defBody d.st) = true ∧ anSs (sgD ds) d.fr d.F.body (entS d.F.n d.F.md) none = some r := by
  obtain ⟨fd, F⟩ := c.def_ f (d := dfD d) (by unfold dfsD; rw [List.getElem?_map, hd]; rfl)
  have F : FunD K d.name d.name (defArgs d.st) (defBody d.st) (defScope d.st) [] [] (He.ga K d.name) fd := F
  have b := List.all_eq_true.mp A.ok d (List.mem_of_getElem? hd)
  unfold DefT.okB at b
  simp only [Bool.and_eq_true, decide_eq_true_eq] at b
  obtain ⟨⟨⟨⟨⟨b1, b2⟩, b3⟩, b4⟩, b5⟩, b6⟩ := b
  obtain ⟨r, hr⟩ := Option.isSome_iff_exists.mp b6
  have en : fnameD ds f = d.name := by unfold fnameD; rw [hd]; rfl
  refine ⟨fd, r, by unfold pgD; rw [List.getElem?_map, hd]; rfl, by rw [en]; exact F, scB_ok b1, F.bindsN (A.bind f d hd), by rw [en]; exact glo_at X G c hd, b2, b3, b4, b5, hr⟩
theorem sgD_some {f : Nat} {s : Sig} (h : sgD ds f = some s) : ∃ d, ds[f]? = some d ∧ s = d.sig := by
  unfold sgD at h
  rw [Option.map_eq_some_iff] at h
  obtain ⟨d, h1, h2⟩ := h
  exact ⟨d, h1, h2.symm⟩
theorem law_fn (X : K.In h) (G : h.Ns mainGlobals mg) (c : He.SaysD (faD ds gi fr) (dfsD ds) K) (A : AllGood ds gi fr) {li : Nat} {dl : DefT} (hl : ds[li]? = some dl) {fa : Addr} (hfa : mg dl.name = some (.ref fa)) {x : Str} (hx : dl.ps = [x]) (k : Nat) :
    ∃ fd : FuncData, (∀ (s : Shared) (v : Value), BindsTo s fd ⟨[v], []⟩ [(x, v)]) ∧ ∀ base : Heap, K.In base → base.Ns mainGlobals mg → FnOk P w K mg base CX0 k fa fd [x] (spE K (run (pgD ds) (gbD gi) W k) (sgD ds) li) := by
  have e := hfa.symm.trans (glo_at X G c hl)
  cases e
  obtain ⟨fd, r, k1, k2, k3, k4, k5, k6, k7, k8, k9, k10⟩ := defOk_of X G c A hl
  have en : fnameD ds li = dl.name := by unfold fnameD; rw [hl]; rfl
  have F := k2
  rw [en] at F
  refine ⟨fd, fun s v => ?_, fun base X' G' => ?_⟩
  · have := F.bindsA (A.bind li dl hl) s [v] (by rw [hx]; rfl)
    rw [hx] at this
    exact this
  · rw [← hx]
    refine defs_ok (Pg := pgD ds) (W := W) (fname := fnameD ds) (gname := gnD gi) (free := fr) (fun f s hs => ?_) (fun y hy => ?_) (fun g v hg => ?_) k li dl.sig dl.F dl.st dl.name (He.ga K dl.name) fd dl.N dl.ps r (by unfold sgD; rw [hl]; rfl) k1 rfl k2 k3 k6 k7 k8 k9 k10
    · obtain ⟨d, hd, rfl⟩ := sgD_some hs
      obtain ⟨fd', r', q1, q2, q3, q4, q5, q6, q7, q8, q9, q10⟩ := defOk_of X' G' c A hd
      exact ⟨d.F, d.st, d.name, He.ga K d.name, fd', d.N, d.ps, r', q1, rfl, q2, q3, q4, q5, q6, q7, q8, q9, q10⟩
    · have hy : y ∈ fr := by simpa using hy
      exact He.free_ok X' G' (c.factM (List.mem_append_left _ (List.mem_append_right _ (List.mem_map.mpr ⟨y, hy, rfl⟩))))
    · unfold gbD at hg
      rw [Option.map_eq_some_iff] at hg
      obtain ⟨p, hp, rfl⟩ := hg
      obtain ⟨t, ht⟩ := He.int_ok X' G' (c.factM (List.mem_append_right _ (List.mem_map.mpr ⟨p, List.mem_of_getElem? hp, rfl⟩)))
      refine ⟨.int p.2, _, ?_, ⟨t, rfl⟩, rfl, fun H A => .int _⟩
      unfold gnD
      rw [hp]
      exact ht
theorem law_sp {H : Hp} {a : Addr} {ns : List Int} {k li : Nat} {s : Sig} (hs : sgD ds li = some s) (hm : s.md = [0]) (hrun : run (pgD ds) (gbD gi) W k li [.scr ns] = some (.bl true, [])) (hS : SqL K H a (ns.map V.int)) :
    spE K (run (pgD ds) (gbD gi) W k) (sgD ds) li [.ref a] H (fun v _ => v = .bl true) fun _ _ _ => False := by
  refine ⟨s, fun _ => False, fun _ => False, [.scr ns], .bl true, [], hs, hrun, ?_, fun _ h => h, fun _ h => h.elim, fun _ h => h.elim, fun v H' h => ?_⟩
  · rw [hm]
    refine .sh (.scr ?_) .nil
    rcases hS with h | h
    · exact .inl ⟨id, h⟩
    · exact .inr h
  · obtain ⟨_, ⟨hc, _⟩ | ⟨_, r, _⟩⟩ := h
    · cases hc
    · cases r; rfl
end
end Ev
end

section
set_option linter.all false
set_option maxRecDepth 100000
/-! Wp: what must hold so that the evaluator answers, read off a core term from the left. -/
namespace Ev
def wpC (B : EV → Env → (Option EV → Env → Prop) → Prop) : List EV → Env → (List EV → Env → Prop) → Prop
  | [], s, Q => Q [] s
  | x :: xs, s, Q => B x s fun r s1 => wpC B xs s1 fun ys s2 => Q (match r with | some y => y :: ys | none => ys) s2
def oP {α : Type} (o : Option α) (Q : α → Prop) : Prop := match o with
  | some z => Q z
  | none => False
@[simp] theorem oP_some {α : Type} {z : α} {Q : α → Prop} : oP (some z) Q = Q z := rfl
@[simp] theorem oP_none {α : Type} {Q : α → Prop} : oP none Q = False := rfl
theorem oP_iff {α : Type} {o : Option α} {Q : α → Prop} : oP o Q ↔ ∃ z, o = some z ∧ Q z := by
  cases o with
  | none => simp
  | some z => simp
/-- what is stored as one's own is a container -/
def ownP (o : Bool) (v : EV) (Q : Prop) : Prop := match o with
  | true => v.isCon = true ∧ Q
  | false => Q
theorem ownP_elim {o : Bool} {v : EV} {Q : Prop} (h : ownP o v Q) : (o && !v.isCon) = false ∧ Q := by
  cases o with
  | true => exact ⟨by rw [h.1]; rfl, h.2⟩
  | false => exact ⟨rfl, h⟩
theorem ownP_mono {o : Bool} {v : EV} {Q Q' : Prop} (h : ownP o v Q) (k : Q → Q') : ownP o v Q' := by
  cases o with
  | true => exact ⟨h.1, k h.2⟩
  | false => exact k h
/-- a slot's value -/
def gv' : Env → Nat → Option EV
  | [], _ => none
  | o :: _, 0 => o
  | _ :: s, i + 1 => gv' s i
def bP (b : Option Bool) (t f : Prop) : Prop := match b with
  | some true => t
  | some false => f
  | none => False
@[simp] theorem bP_t {t f : Prop} : bP (some true) t f = t := rfl
@[simp] theorem bP_f {t f : Prop} : bP (some false) t f = f := rfl
@[simp] theorem bP_n {t f : Prop} : bP none t f = False := rfl
theorem bP_ite {b : Bool} {t f : Prop} : bP (some b) t f ↔ (b = true → t) ∧ (b = false → f) := by cases b <;> simp
def slP (x : EV) (l h : List EV) (Q : EV → Prop) : Prop := match l, h with
  | [], [] => oP (slE x none none) Q
  | [.int i], [] => oP (slE x (some i) none) Q
  | [], [.int j] => oP (slE x none (some j)) Q
  | [.int i], [.int j] => oP (slE x (some i) (some j)) Q
  | _, _ => False
def revP (x : EV) (Q : EV → Prop) : Prop := match x with
  | .str x => x.length ≤ SZ ∧ Q (.str x.reverse)
  | .lst x => Q (.lst x.reverse)
  | .tup x => Q (.tup x.reverse)
  | _ => False
def negP (x : EV) (Q : EV → Prop) : Prop := match x with
  | .int i => Q (.int (-i))
  | _ => False
def popP (x : Option EV) (vs : List EV) (Q : EV → EV → Prop) : Prop := match x with
  | some (.lst xs) => match vs with
    | [] => oP xs.getLast? fun y => Q y (.lst xs.dropLast)
    | [.int k] => oP (ixN xs.length k) fun j => oP xs[j]? fun y => Q y (.lst (xs.eraseIdx j))
    | _ => False
  | _ => False
section
variable (cf : Cf) (gb : Gb)
mutual
def wpE : CE → Env → (EV → Env → Prop) → Prop
  | .lit v, s, Q => Q v s
  | .glb g, s, Q => oP (gb g) fun v => Q v s
  | .var i, s, Q => oP (gv' s i) fun v => Q v s
  | .tup es, s, Q => wpEs es s fun vs s1 => vs.length ≤ SZ ∧ Q (.tup vs) s1
  | .lst es, s, Q => wpEs es s fun vs s1 => vs.length ≤ SZ ∧ Q (.lst vs) s1
  | .dct0 t, s, Q => Q (.dct t []) s
  | .op o a b, s, Q => wpE a s fun x s1 => wpE b s1 fun y s2 => oP (opE o x y) fun z => Q z s2
  | .neg a, s, Q => wpE a s fun x s1 => negP x fun y => Q y s1
  | .cmp o a b, s, Q => wpE a s fun x s1 => wpE b s1 fun y s2 => oP (cmE o x y) fun z => Q (.bl z) s2
  | .chn o o' a b c, s, Q => wpE a s fun x s1 => wpE b s1 fun y s2 => bP (cmE o x y) (wpE c s2 fun z s3 => oP (cmE o' y z) fun r => Q (.bl r) s3) (Q (.bl false) s2)
  | .isc ng a v, s, Q => wpE a s fun x s1 => oP (iscE x v) fun r => Q (.bl (if ng then !r else r)) s1
  | .and a b, s, Q => wpE a s fun x s1 => bP (truE x) (wpE b s1 Q) (Q x s1)
  | .or a b, s, Q => wpE a s fun x s1 => bP (truE x) (Q x s1) (wpE b s1 Q)
  | .not a, s, Q => wpE a s fun x s1 => oP (truE x) fun t => Q (.bl (!t)) s1
  | .ite t a b, s, Q => wpE t s fun x s1 => bP (truE x) (wpE a s1 Q) (wpE b s1 Q)
  | .ix a b, s, Q => wpE a s fun x s1 => wpE b s1 fun y s2 => oP (ixE x y) fun z => Q z s2
  | .sl a lo hi, s, Q => wpE a s fun x s1 => wpEs lo s1 fun l s2 => wpEs hi s2 fun h s3 => slP x l h fun z => Q z s3
  | .rev a, s, Q => wpE a s fun x s1 => revP x fun y => Q y s1
  | .call f md es, s, Q => wpEs es s fun vs s1 => ∃ r os, cf f (reload md vs s1) = some (r, os) ∧ Q r (outs md os s1)
  | .bi b es, s, Q => wpEs es s fun vs s1 => oP (biE b vs) fun r => Q r s1
  | .met m a es, s, Q => wpE a s fun x s1 => wpEs es s1 fun vs s2 => oP (meE m x vs) fun r => Q r s2
  | .pop i es, s, Q => wpEs es s fun vs s1 => popP (gv' s1 i) vs fun y c => Q y (s1.set i (some c))
  | .comp vs k it tg ifs e, s, Q => wpEs it s fun ws s1 => oP (itE k ws) fun xs =>
      wpC (fun x t R => oP (bindP tg x t) fun t1 => wpTs ifs t1 fun b t2 => if b then wpE e t2 fun y t3 => R (some y) t3 else R none t2) xs s1 fun ys s2 => ys.length ≤ SZ ∧ Q (.lst ys) (restore vs s1 s2)
  | .dcomp t vs k it tg ifs ke ve, s, Q => wpEs it s fun ws s1 => oP (itE k ws) fun xs =>
      wpC (fun x u R => oP (bindP tg x u) fun t1 => wpTs ifs t1 fun b t2 => if b then wpE ke t2 fun y t3 => wpE ve t3 fun z t4 => R (some (.tup [y, z])) t4 else R none t2) xs s1 fun ys s2 => oP (dAll t ys []) fun d => d.length ≤ SZ ∧ Q (.dct t d) (restore vs s1 s2)
def wpEs : List CE → Env → (List EV → Env → Prop) → Prop
  | [], s, Q => Q [] s
  | e :: es, s, Q => wpE e s fun v s1 => wpEs es s1 fun vs s2 => Q (v :: vs) s2
def wpTs : List CE → Env → (Bool → Env → Prop) → Prop
  | [], s, Q => Q true s
  | e :: es, s, Q => wpE e s fun x s1 => bP (truE x) (wpTs es s1 Q) (Q false s1)
end
theorem wpC_sound {B : EV → Env → (Option EV → Env → Prop) → Prop} {b : EV → Env → Option (Option EV × Env)} (hb : ∀ x s R, B x s R → ∃ r t, b x s = some (r, t) ∧ R r t) : ∀ (xs : List EV) (s : Env) (Q : List EV → Env → Prop), wpC B xs s Q → ∃ ys t, compL b xs s = some (ys, t) ∧ Q ys t
  | [], s, Q, h => ⟨[], s, rfl, h⟩
  | x :: xs, s, Q, h => by
    obtain ⟨r, t, e1, h1⟩ := hb _ _ _ h
    obtain ⟨ys, u, e2, h2⟩ := wpC_sound hb xs t _ h1
    refine ⟨_, u, ?_, h2⟩
    simp only [compL, e1, e2]
    all_goals (cases r <;> rfl)
theorem gv'_some : ∀ {s : Env} {i : Nat} {v : EV}, gv' s i = some v → s[i]? = some (some v)
  | [], _, _, h => by cases h
  | o :: s, 0, v, h => by rw [List.getElem?_cons_zero]; exact congrArg some h
  | o :: s, i + 1, v, h => by rw [List.getElem?_cons_succ]; exact gv'_some h
theorem bP_elim {b : Option Bool} {t f : Prop} (h : bP b t f) : (b = some true ∧ t) ∨ (b = some false ∧ f) := by
  cases b with
  | none => exact h.elim
  | some b => cases b with
    | true => exact .inl ⟨rfl, h⟩
    | false => exact .inr ⟨rfl, h⟩
theorem oP_elim {α : Type} {o : Option α} {Q : α → Prop} (h : oP o Q) : ∃ z, o = some z ∧ Q z := oP_iff.mp h
mutual
theorem wpE_sound {cf : Cf} {gb : Gb} : ∀ (c : CE) (s : Env) (Q : EV → Env → Prop), wpE cf gb c s Q → ∃ v t, ev cf gb c s = some (v, t) ∧ Q v t
  | .lit v, s, Q, h => ⟨v, s, rfl, h⟩
  | .glb g, s, Q, h => by
    obtain ⟨v, e, h⟩ := oP_elim h
    exact ⟨v, s, by simp only [ev, e], h⟩
  | .var i, s, Q, h => by
    obtain ⟨v, e, h⟩ := oP_elim h
    exact ⟨v, s, by simp only [ev, gv'_some e], h⟩
  | .tup es, s, Q, h => by
    obtain ⟨vs, t, e, h1, h2⟩ := wpEs_sound es s _ h
    exact ⟨_, t, by simp only [ev, e, h1, if_true], h2⟩
  | .lst es, s, Q, h => by
    obtain ⟨vs, t, e, h1, h2⟩ := wpEs_sound es s _ h
    exact ⟨_, t, by simp only [ev, e, h1, if_true], h2⟩
  | .dct0 t, s, Q, h => ⟨_, s, rfl, h⟩
  | .op o a b, s, Q, h => by
    obtain ⟨x, s1, e1, h⟩ := wpE_sound a s _ h
    obtain ⟨y, s2, e2, h⟩ := wpE_sound b s1 _ h
    obtain ⟨z, e3, h⟩ := oP_elim h
    exact ⟨z, s2, by simp only [ev, e1, e2, e3], h⟩
  | .neg a, s, Q, h => by
    obtain ⟨x, s1, e1, h⟩ := wpE_sound a s _ h
    cases x with
    | int i => exact ⟨_, s1, by simp only [ev, e1], h⟩
    | _ => exact h.elim
  | .cmp o a b, s, Q, h => by
    obtain ⟨x, s1, e1, h⟩ := wpE_sound a s _ h
    obtain ⟨y, s2, e2, h⟩ := wpE_sound b s1 _ h
    obtain ⟨z, e3, h⟩ := oP_elim h
    exact ⟨_, s2, by simp only [ev, e1, e2, e3], h⟩
  | .chn o o' a b c, s, Q, h => by
    obtain ⟨x, s1, e1, h⟩ := wpE_sound a s _ h
    obtain ⟨y, s2, e2, h⟩ := wpE_sound b s1 _ h
    rcases bP_elim h with ⟨e3, h⟩ | ⟨e3, h⟩
    · obtain ⟨z, s3, e4, h⟩ := wpE_sound c s2 _ h
      obtain ⟨r, e5, h⟩ := oP_elim h
      exact ⟨_, s3, by simp only [ev, e1, e2, e3, e4, e5], h⟩
    · exact ⟨_, s2, by simp only [ev, e1, e2, e3], h⟩
  | .isc ng a v, s, Q, h => by
    obtain ⟨x, s1, e1, h⟩ := wpE_sound a s _ h
    obtain ⟨z, e3, h⟩ := oP_elim h
    exact ⟨_, s1, by simp only [ev, e1, e3], h⟩
  | .and a b, s, Q, h => by
    obtain ⟨x, s1, e1, h⟩ := wpE_sound a s _ h
    rcases bP_elim h with ⟨e3, h⟩ | ⟨e3, h⟩
    · obtain ⟨y, s2, e2, h⟩ := wpE_sound b s1 _ h
      exact ⟨_, s2, by simp only [ev, e1, e2, e3], h⟩
    · exact ⟨_, s1, by simp only [ev, e1, e3], h⟩
  | .or a b, s, Q, h => by
    obtain ⟨x, s1, e1, h⟩ := wpE_sound a s _ h
    rcases bP_elim h with ⟨e3, h⟩ | ⟨e3, h⟩
    · exact ⟨_, s1, by simp only [ev, e1, e3], h⟩
    · obtain ⟨y, s2, e2, h⟩ := wpE_sound b s1 _ h
      exact ⟨_, s2, by simp only [ev, e1, e2, e3], h⟩
  | .not a, s, Q, h => by
    obtain ⟨x, s1, e1, h⟩ := wpE_sound a s _ h
    obtain ⟨z, e3, h⟩ := oP_elim h
    exact ⟨_, s1, by simp only [ev, e1, e3], h⟩
  | .ite t a b, s, Q, h => by
    obtain ⟨x, s1, e1, h⟩ := wpE_sound t s _ h
    rcases bP_elim h with ⟨e3, h⟩ | ⟨e3, h⟩
    · obtain ⟨y, s2, e2, h⟩ := wpE_sound a s1 _ h
      exact ⟨_, s2, by simp only [ev, e1, e2, e3], h⟩
    · obtain ⟨y, s2, e2, h⟩ := wpE_sound b s1 _ h
      exact ⟨_, s2, by simp only [ev, e1, e2, e3], h⟩
  | .ix a b, s, Q, h => by
    obtain ⟨x, s1, e1, h⟩ := wpE_sound a s _ h
    obtain ⟨y, s2, e2, h⟩ := wpE_sound b s1 _ h
    obtain ⟨z, e3, h⟩ := oP_elim h
    exact ⟨z, s2, by simp only [ev, e1, e2, e3], h⟩
  | .sl a lo hi, s, Q, h => by
    obtain ⟨x, s1, e1, h⟩ := wpE_sound a s _ h
    obtain ⟨l, s2, e2, h⟩ := wpEs_sound lo s1 _ h
    obtain ⟨r, s3, e3, h⟩ := wpEs_sound hi s2 _ h
    unfold slP at h
    split at h
    · obtain ⟨z, e4, h⟩ := oP_elim h
      exact ⟨z, s3, by simp only [ev, e1, e2, e3, e4], h⟩
    · obtain ⟨z, e4, h⟩ := oP_elim h
      exact ⟨z, s3, by simp only [ev, e1, e2, e3, e4], h⟩
    · obtain ⟨z, e4, h⟩ := oP_elim h
      exact ⟨z, s3, by simp only [ev, e1, e2, e3, e4], h⟩
    · obtain ⟨z, e4, h⟩ := oP_elim h
      exact ⟨z, s3, by simp only [ev, e1, e2, e3, e4], h⟩
    · exact h.elim
  | .rev a, s, Q, h => by
    obtain ⟨x, s1, e1, h⟩ := wpE_sound a s _ h
    cases x with
    | str i => exact ⟨_, s1, by simp only [ev, e1, h.1, if_true], h.2⟩
    | lst i => exact ⟨_, s1, by simp only [ev, e1], h⟩
    | tup i => exact ⟨_, s1, by simp only [ev, e1], h⟩
    | _ => exact h.elim
  | .call f md es, s, Q, h => by
    obtain ⟨vs, s1, e1, r, os, e2, h⟩ := wpEs_sound es s _ h
    exact ⟨r, _, by simp only [ev, e1, e2], h⟩
  | .bi b es, s, Q, h => by
    obtain ⟨vs, s1, e1, h⟩ := wpEs_sound es s _ h
    obtain ⟨z, e3, h⟩ := oP_elim h
    exact ⟨z, s1, by simp only [ev, e1, e3], h⟩
  | .met m a es, s, Q, h => by
    obtain ⟨x, s1, e1, h⟩ := wpE_sound a s _ h
    obtain ⟨vs, s2, e2, h⟩ := wpEs_sound es s1 _ h
    obtain ⟨z, e3, h⟩ := oP_elim h
    exact ⟨z, s2, by simp only [ev, e1, e2, e3], h⟩
  | .pop i es, s, Q, h => by
    obtain ⟨vs, s1, e1, h⟩ := wpEs_sound es s _ h
    unfold popP at h
    split at h
    · rename_i xs e2
      have e2 := gv'_some e2
      split at h
      · obtain ⟨z, e3, h⟩ := oP_elim h
        exact ⟨z, _, by simp only [ev, e1, e2, e3], h⟩
      · obtain ⟨j, e3, h⟩ := oP_elim h
        obtain ⟨z, e4, h⟩ := oP_elim h
        exact ⟨z, _, by simp only [ev, e1, e2, e3, e4], h⟩
      · exact h.elim
    · exact h.elim
  | .comp vs k it tg ifs e, s, Q, h => by
    obtain ⟨ws, s1, e1, h⟩ := wpEs_sound it s _ h
    obtain ⟨xs, e2, h⟩ := oP_elim h
    obtain ⟨ys, s2, e3, h1, h2⟩ := wpC_sound (b := fun x t => match bindP tg x t with
          | some t1 => match tsts cf gb ifs t1 with
            | some (true, t2) => match ev cf gb e t2 with
              | some (y, t3) => some (some y, t3)
              | none => none
            | some (false, t2) => some (none, t2)
            | none => none
          | none => none) (fun x t R hb => by
        obtain ⟨t1, f1, hb⟩ := oP_elim hb
        obtain ⟨b, t2, f2, hb⟩ := wpTs_sound ifs t1 _ hb
        cases b with
        | true =>
          obtain ⟨y, t3, f3, hb⟩ := wpE_sound e t2 _ hb
          exact ⟨_, _, by simp only [f1, f2, f3], hb⟩
        | false => exact ⟨_, _, by simp only [f1, f2], hb⟩) xs s1 _ h
    refine ⟨_, _, ?_, h2⟩
    rw [ev]
    simp only [e1, e2]
    split
    · rename_i q
      cases q.symm.trans e3
      rw [if_pos h1]
    · rename_i q
      cases q.symm.trans e3
  | .dcomp t vs k it tg ifs ke ve, s, Q, h => by
    obtain ⟨ws, s1, e1, h⟩ := wpEs_sound it s _ h
    obtain ⟨xs, e2, h⟩ := oP_elim h
    obtain ⟨ys, s2, e3, h⟩ := wpC_sound (b := fun x u => match bindP tg x u with
          | some t1 => match tsts cf gb ifs t1 with
            | some (true, t2) => match ev cf gb ke t2 with
              | some (y, t3) => match ev cf gb ve t3 with
                | some (z, t4) => some (some (.tup [y, z]), t4)
                | none => none
              | none => none
            | some (false, t2) => some (none, t2)
            | none => none
          | none => none) (fun x t R hb => by
        obtain ⟨t1, f1, hb⟩ := oP_elim hb
        obtain ⟨b, t2, f2, hb⟩ := wpTs_sound ifs t1 _ hb
        cases b with
        | true =>
          obtain ⟨y, t3, f3, hb⟩ := wpE_sound ke t2 _ hb
          obtain ⟨z, t4, f4, hb⟩ := wpE_sound ve t3 _ hb
          exact ⟨_, _, by simp only [f1, f2, f3, f4], hb⟩
        | false => exact ⟨_, _, by simp only [f1, f2], hb⟩) xs s1 _ h
    obtain ⟨d, e4, h1, h2⟩ := oP_elim h
    refine ⟨_, _, ?_, h2⟩
    rw [ev]
    simp only [e1, e2]
    split
    · rename_i q
      cases q.symm.trans e3
      simp only [e4]
      rw [if_pos h1]
    · rename_i q
      cases q.symm.trans e3
theorem wpEs_sound {cf : Cf} {gb : Gb} : ∀ (c : List CE) (s : Env) (Q : List EV → Env → Prop), wpEs cf gb c s Q → ∃ v t, evs cf gb c s = some (v, t) ∧ Q v t
  | [], s, Q, h => ⟨[], s, rfl, h⟩
  | e :: es, s, Q, h => by
    obtain ⟨x, s1, e1, h⟩ := wpE_sound e s _ h
    obtain ⟨vs, s2, e2, h⟩ := wpEs_sound es s1 _ h
    exact ⟨_, s2, by simp only [evs, e1, e2], h⟩
theorem wpTs_sound {cf : Cf} {gb : Gb} : ∀ (c : List CE) (s : Env) (Q : Bool → Env → Prop), wpTs cf gb c s Q → ∃ v t, tsts cf gb c s = some (v, t) ∧ Q v t
  | [], s, Q, h => ⟨true, s, rfl, h⟩
  | e :: es, s, Q, h => by
    obtain ⟨x, s1, e1, h⟩ := wpE_sound e s _ h
    rcases bP_elim h with ⟨e3, h⟩ | ⟨e3, h⟩
    · obtain ⟨b, s2, e2, h⟩ := wpTs_sound es s1 _ h
      exact ⟨b, s2, by simp only [tsts, e1, e2, e3], h⟩
    · exact ⟨false, s1, by simp only [tsts, e1, e3], h⟩
end
end
/-! ### statements -/
def wpF (p : Pt) (B : Env → (Fl → Env → Prop) → Prop) : List EV → Env → (Fl → Env → Prop) → Prop
  | [], s, Q => Q .nx s
  | x :: xs, s, Q => oP (bindP p x s) fun s1 => B s1 fun fl s2 => match fl with
    | .nx => wpF p B xs s2 Q
    | .cnt => wpF p B xs s2 Q
    | .brk => Q .nx s2
    | .ret v => Q (.ret v) s2
def lstP (x : Option EV) (Q : List EV → Prop) : Prop := match x with
  | some (.lst xs) => Q xs
  | _ => False
def setP (x : Option EV) (y w : EV) (Q : EV → Prop) : Prop := match x with
  | some (.lst xs) => match y with
    | .int n => oP (ixN xs.length n) fun j => Q (.lst (xs.set j w))
    | _ => False
  | some (.dct t kvs) => keyOk t y = true ∧ kvs.length < SZ ∧ Q (.dct t (dPut kvs y w))
  | _ => False
def augP (o : Op) (x y : EV) (Q : EV → Prop) : Prop := match x, y with
  | .int i, .int j => oP (opE o (.int i) (.int j)) Q
  | _, _ => False
def extP (x : Option EV) (y : EV) (Q : EV → Prop) : Prop := match x, y with
  | some (.lst xs), .lst ys => xs.length + ys.length ≤ SZ ∧ Q (.lst (xs ++ ys))
  | _, _ => False
def aixP (x : Option EV) (y : EV) (Q : List EV → Nat → Int → Prop) : Prop := match x, y with
  | some (.lst xs), .int n => oP (ixN xs.length n) fun j => match xs[j]? with
    | some (.int i) => Q xs j i
    | _ => False
  | _, _ => False
section
variable (cf : Cf) (gb : Gb) (W : Nat)
mutual
def wpS : CS → Env → (Fl → Env → Prop) → Prop
  | .pass, s, Q => Q .nx s
  | .never, _, _ => False
  | .brk, s, Q => Q .brk s
  | .cnt, s, Q => Q .cnt s
  | .ret fr e, s, Q => wpE cf gb e s fun v s1 => ownP fr v (Q (.ret v) s1)
  | .expr e, s, Q => wpE cf gb e s fun _ s1 => Q .nx s1
  | .asg p o e, s, Q => wpE cf gb e s fun v s1 => ownP o v (oP (bindP p v s1) fun s2 => Q .nx s2)
  | .mov i j, s, Q => oP (gv' s j) fun v => Q .nx (s.set i (some v))
  | .shr _, s, Q => Q .nx s
  | .aug i o e, s, Q => oP (gv' s i) fun x => wpE cf gb e s fun y s1 => augP o x y fun z => Q .nx (s1.set i (some z))
  | .setIx i k v, s, Q => wpE cf gb v s fun w s1 => wpE cf gb k s1 fun y s2 => setP (gv' s2 i) y w fun z => Q .nx (s2.set i (some z))
  | .augIx i k o v, s, Q => wpE cf gb k s fun y s1 => aixP (gv' s1 i) y fun xs j x => wpE cf gb v s1 fun w s2 => augP o (.int x) w fun z => Q .nx (s2.set i (some (.lst (xs.set j z))))
  | .app i e, s, Q => lstP (gv' s i) fun _ => wpE cf gb e s fun v s1 => lstP (gv' s1 i) fun xs => xs.length < SZ ∧ Q .nx (s1.set i (some (.lst (xs ++ [v]))))
  | .ext i e, s, Q => lstP (gv' s i) fun _ => wpE cf gb e s fun v s1 => extP (gv' s1 i) v fun z => Q .nx (s1.set i (some z))
  | .ife t a b, s, Q => wpE cf gb t s fun x s1 => bP (truE x) (wpSs a s1 Q) (wpSs b s1 Q)
  | .whl _ t b, s, Q => ∃ fl s1, whlL (fun s => ev cf gb t s) (fun s => exs cf gb W b s) W s = some (fl, s1) ∧ Q fl s1
  | .for _ p k it b, s, Q => wpEs cf gb it s fun ws s1 => oP (itE k ws) fun xs => wpF p (fun t R => wpSs b t R) xs s1 Q
  | .tryr b, s, Q => wpSs b s Q
def wpSs : List CS → Env → (Fl → Env → Prop) → Prop
  | [], s, Q => Q .nx s
  | c :: cs, s, Q => wpS c s fun fl s1 => match fl with
    | .nx => wpSs cs s1 Q
    | .brk => Q .brk s1
    | .cnt => Q .cnt s1
    | .ret v => Q (.ret v) s1
end
end
theorem wpF_sound {p : Pt} {B : Env → (Fl → Env → Prop) → Prop} {b : Env → Option (Fl × Env)} (hb : ∀ s R, B s R → ∃ fl t, b s = some (fl, t) ∧ R fl t) : ∀ (xs : List EV) (s : Env) (Q : Fl → Env → Prop), wpF p B xs s Q → ∃ fl t, forL p b xs s = some (fl, t) ∧ Q fl t
  | [], s, Q, h => ⟨.nx, s, rfl, h⟩
  | x :: xs, s, Q, h => by
    obtain ⟨s1, e1, h⟩ := oP_elim h
    obtain ⟨fl, s2, e2, h⟩ := hb _ _ h
    cases fl with
    | nx =>
      obtain ⟨fl, t, e3, h⟩ := wpF_sound hb xs s2 Q h
      exact ⟨fl, t, by simp only [forL, e1, e2, e3], h⟩
    | cnt =>
      obtain ⟨fl, t, e3, h⟩ := wpF_sound hb xs s2 Q h
      exact ⟨fl, t, by simp only [forL, e1, e2, e3], h⟩
    | brk => exact ⟨_, _, by simp only [forL, e1, e2], h⟩
    | ret v => exact ⟨_, _, by simp only [forL, e1, e2], h⟩
mutual
theorem wpS_sound {cf : Cf} {gb : Gb} {W : Nat} : ∀ (c : CS) (s : Env) (Q : Fl → Env → Prop), wpS cf gb W c s Q → ∃ fl t, ex cf gb W c s = some (fl, t) ∧ Q fl t
  | .pass, s, Q, h => ⟨_, _, rfl, h⟩
  | .never, _, _, h => h.elim
  | .brk, s, Q, h => ⟨_, _, rfl, h⟩
  | .cnt, s, Q, h => ⟨_, _, rfl, h⟩
  | .ret fr e, s, Q, h => by
    obtain ⟨v, s1, e1, h⟩ := wpE_sound e s _ h
    obtain ⟨h1, h2⟩ := ownP_elim h
    exact ⟨_, _, by simp only [ex, e1, h1, Bool.false_eq_true, if_false], h2⟩
  | .expr e, s, Q, h => by
    obtain ⟨v, s1, e1, h⟩ := wpE_sound e s _ h
    exact ⟨_, _, by simp only [ex, e1], h⟩
  | .asg p o e, s, Q, h => by
    obtain ⟨v, s1, e1, h⟩ := wpE_sound e s _ h
    obtain ⟨h1, h2⟩ := ownP_elim h
    obtain ⟨s2, e2, h2⟩ := oP_elim h2
    exact ⟨_, _, by simp only [ex, e1, e2, h1, Bool.false_eq_true, if_false], h2⟩
  | .mov i j, s, Q, h => by
    obtain ⟨v, e, h⟩ := oP_elim h
    exact ⟨_, _, by simp only [ex, gv'_some e], h⟩
  | .shr _, s, Q, h => ⟨_, _, rfl, h⟩
  | .aug i o e, s, Q, h => by
    obtain ⟨x, e0, h⟩ := oP_elim h
    obtain ⟨y, s1, e1, h⟩ := wpE_sound e s _ h
    unfold augP at h
    split at h
    · obtain ⟨z, e2, h⟩ := oP_elim h
      exact ⟨_, _, by simp only [ex, gv'_some e0, e1, e2], h⟩
    · exact h.elim
  | .setIx i k v, s, Q, h => by
    obtain ⟨w, s1, e1, h⟩ := wpE_sound v s _ h
    obtain ⟨y, s2, e2, h⟩ := wpE_sound k s1 _ h
    unfold setP at h
    split at h
    · rename_i xs e3
      split at h
      · obtain ⟨j, e4, h⟩ := oP_elim h
        exact ⟨_, _, by simp only [ex, e1, e2, gv'_some e3, e4], h⟩
      · exact h.elim
    · rename_i t kvs e3
      obtain ⟨h1, h2, h⟩ := h
      exact ⟨_, _, by simp only [ex, e1, e2, gv'_some e3, h1, h2, decide_true, Bool.and_true, if_true], h⟩
    · exact h.elim
  | .augIx i k o v, s, Q, h => by
    obtain ⟨y, s1, e1, h⟩ := wpE_sound k s _ h
    unfold aixP at h
    split at h
    · rename_i xs n e2
      obtain ⟨j, e3, h⟩ := oP_elim h
      split at h
      · rename_i x e4
        obtain ⟨w, s2, e5, h⟩ := wpE_sound v s1 _ h
        unfold augP at h
        split at h
        · rename_i a b q1
          cases q1
          obtain ⟨z, e6, h⟩ := oP_elim h
          exact ⟨_, _, by simp only [ex, e1, gv'_some e2, e3, e4, e5, e6], h⟩
        · exact h.elim
      · exact h.elim
    · exact h.elim
  | .app i e, s, Q, h => by
    rw [wpS] at h
    unfold lstP at h
    split at h
    · rename_i ys e0
      obtain ⟨v, s1, e1, h⟩ := wpE_sound e s _ h
      split at h
      · rename_i xs e2
        exact ⟨_, _, by simp only [ex, gv'_some e0, e1, gv'_some e2, h.1, if_true], h.2⟩
      · exact h.elim
    · exact h.elim
  | .ext i e, s, Q, h => by
    rw [wpS] at h
    unfold lstP at h
    split at h
    · rename_i ys e0
      obtain ⟨v, s1, e1, h⟩ := wpE_sound e s _ h
      unfold extP at h
      split at h
      · rename_i xs zs e2
        exact ⟨_, _, by simp only [ex, gv'_some e0, e1, gv'_some e2, h.1, if_true], h.2⟩
      · exact h.elim
    · exact h.elim
  | .ife t a b, s, Q, h => by
    obtain ⟨x, s1, e1, h⟩ := wpE_sound t s _ h
    rcases bP_elim h with ⟨e3, h⟩ | ⟨e3, h⟩
    · obtain ⟨fl, s2, e2, h⟩ := wpSs_sound a s1 _ h
      exact ⟨fl, s2, by simp only [ex, e1, e2, e3], h⟩
    · obtain ⟨fl, s2, e2, h⟩ := wpSs_sound b s1 _ h
      exact ⟨fl, s2, by simp only [ex, e1, e2, e3], h⟩
  | .whl _ t b, s, Q, h => h
  | .for _ p k it b, s, Q, h => by
    obtain ⟨ws, s1, e1, h⟩ := wpEs_sound it s _ h
    obtain ⟨xs, e2, h⟩ := oP_elim h
    obtain ⟨fl, t, e3, h⟩ := wpF_sound (b := fun s => exs cf gb W b s) (fun s R hb => wpSs_sound b s R hb) xs s1 Q h
    exact ⟨fl, t, by simp only [ex, e1, e2, e3], h⟩
  | .tryr b, s, Q, h => by
    obtain ⟨fl, t, e, h⟩ := wpSs_sound b s Q h
    exact ⟨fl, t, by simp only [ex, e], h⟩
theorem wpSs_sound {cf : Cf} {gb : Gb} {W : Nat} : ∀ (c : List CS) (s : Env) (Q : Fl → Env → Prop), wpSs cf gb W c s Q → ∃ fl t, exs cf gb W c s = some (fl, t) ∧ Q fl t
  | [], s, Q, h => ⟨.nx, s, rfl, h⟩
  | c :: cs, s, Q, h => by
    obtain ⟨fl, s1, e1, h⟩ := wpS_sound c s _ h
    cases fl with
    | nx =>
      obtain ⟨fl, t, e2, h⟩ := wpSs_sound cs s1 Q h
      exact ⟨fl, t, by simp only [exs, e1, e2], h⟩
    | brk => exact ⟨_, _, by simp only [exs, e1], h⟩
    | cnt => exact ⟨_, _, by simp only [exs, e1], h⟩
    | ret v => exact ⟨_, _, by simp only [exs, e1], h⟩
end
/-! ### rules for loops, calls -/
/-- a call: the callee's answer and what it hands back -/
def RunP (Pg : List Fn) (gb : Gb) (W d f : Nat) (vs : List EV) (R : EV → List EV → Prop) : Prop := ∃ v os, run Pg gb W d f vs = some (v, os) ∧ R v os
theorem run_of {Pg : List Fn} {gb : Gb} {W d f : Nat} {vs : List EV} {F : Fn} {R : EV → List EV → Prop} (hF : Pg[f]? = some F) (hc : chkE F.md vs = true) (h : wpSs (run Pg gb W d) gb W F.body (startE F.n vs) fun fl s => match fl with
    | .ret v => R v (ioOf 0 F.md s)
    | .nx => R .non (ioOf 0 F.md s)
    | _ => False) : RunP Pg gb W (d + 1) f vs R := by
  obtain ⟨fl, t, e, h⟩ := wpSs_sound _ _ _ h
  cases fl with
  | ret v => exact ⟨_, _, by rw [run]; simp only [hF, hc, e, if_true], h⟩
  | nx => exact ⟨_, _, by rw [run]; simp only [hF, hc, e, if_true], h⟩
  | brk => exact h.elim
  | cnt => exact h.elim
/-! ### a weaker end -/
theorem oP_mono {α : Type} {o : Option α} {Q Q' : α → Prop} (h : oP o Q) (k : ∀ z, Q z → Q' z) : oP o Q' := by
  cases o with
  | none => exact h
  | some z => exact k z h
theorem bP_mono {b : Option Bool} {t f t' f' : Prop} (h : bP b t f) (k1 : t → t') (k2 : f → f') : bP b t' f' := by
  cases b with
  | none => exact h
  | some b => cases b with
    | true => exact k1 h
    | false => exact k2 h
theorem wpC_mono {B : EV → Env → (Option EV → Env → Prop) → Prop} (hb : ∀ x s R R', (∀ r t, R r t → R' r t) → B x s R → B x s R') : ∀ (xs : List EV) (s : Env) (Q Q' : List EV → Env → Prop), (∀ v t, Q v t → Q' v t) → wpC B xs s Q → wpC B xs s Q'
  | [], s, Q, Q', k, h => k _ _ h
  | x :: xs, s, Q, Q', k, h => hb x s _ _ (fun r t h => wpC_mono hb xs t _ _ (fun ys u h => k _ _ h) h) h
theorem wpF_mono {p : Pt} {B : Env → (Fl → Env → Prop) → Prop} (hb : ∀ s R R', (∀ r t, R r t → R' r t) → B s R → B s R') : ∀ (xs : List EV) (s : Env) (Q Q' : Fl → Env → Prop), (∀ v t, Q v t → Q' v t) → wpF p B xs s Q → wpF p B xs s Q'
  | [], s, Q, Q', k, h => k _ _ h
  | x :: xs, s, Q, Q', k, h => oP_mono h fun s1 h => hb s1 _ _ (fun fl t h => by
      cases fl with
      | nx => exact wpF_mono hb xs t Q Q' k h
      | cnt => exact wpF_mono hb xs t Q Q' k h
      | brk => exact k _ _ h
      | ret v => exact k _ _ h) h
section
variable {cf : Cf} {gb : Gb} {W : Nat}
mutual
theorem wpE_mono : ∀ (c : CE) (s : Env) (Q Q' : EV → Env → Prop), (∀ v t, Q v t → Q' v t) → wpE cf gb c s Q → wpE cf gb c s Q'
  | .lit v, s, Q, Q', k, h => k _ _ h
  | .glb g, s, Q, Q', k, h => oP_mono h fun _ h => k _ _ h
  | .var i, s, Q, Q', k, h => oP_mono h fun _ h => k _ _ h
  | .tup es, s, Q, Q', k, h => wpEs_mono es s _ _ (fun _ _ h => ⟨h.1, k _ _ h.2⟩) h
  | .lst es, s, Q, Q', k, h => wpEs_mono es s _ _ (fun _ _ h => ⟨h.1, k _ _ h.2⟩) h
  | .dct0 t, s, Q, Q', k, h => k _ _ h
  | .op o a b, s, Q, Q', k, h => wpE_mono a s _ _ (fun _ _ h => wpE_mono b _ _ _ (fun _ _ h => oP_mono h fun _ h => k _ _ h) h) h
  | .neg a, s, Q, Q', k, h => wpE_mono a s _ _ (fun v _ h => by
      cases v with
      | int i => exact k _ _ h
      | _ => exact h.elim) h
  | .cmp o a b, s, Q, Q', k, h => wpE_mono a s _ _ (fun _ _ h => wpE_mono b _ _ _ (fun _ _ h => oP_mono h fun _ h => k _ _ h) h) h
  | .chn o o' a b c, s, Q, Q', k, h => wpE_mono a s _ _ (fun _ _ h => wpE_mono b _ _ _ (fun _ _ h => bP_mono h (fun h => wpE_mono c _ _ _ (fun _ _ h => oP_mono h fun _ h => k _ _ h) h) fun h => k _ _ h) h) h
  | .isc ng a v, s, Q, Q', k, h => wpE_mono a s _ _ (fun _ _ h => oP_mono h fun _ h => k _ _ h) h
  | .and a b, s, Q, Q', k, h => wpE_mono a s _ _ (fun _ _ h => bP_mono h (fun h => wpE_mono b _ _ _ k h) fun h => k _ _ h) h
  | .or a b, s, Q, Q', k, h => wpE_mono a s _ _ (fun _ _ h => bP_mono h (fun h => k _ _ h) fun h => wpE_mono b _ _ _ k h) h
  | .not a, s, Q, Q', k, h => wpE_mono a s _ _ (fun _ _ h => oP_mono h fun _ h => k _ _ h) h
  | .ite t a b, s, Q, Q', k, h => wpE_mono t s _ _ (fun _ _ h => bP_mono h (fun h => wpE_mono a _ _ _ k h) fun h => wpE_mono b _ _ _ k h) h
  | .ix a b, s, Q, Q', k, h => wpE_mono a s _ _ (fun _ _ h => wpE_mono b _ _ _ (fun _ _ h => oP_mono h fun _ h => k _ _ h) h) h
  | .sl a lo hi, s, Q, Q', k, h => wpE_mono a s _ _ (fun x _ h => wpEs_mono lo _ _ _ (fun l _ h => wpEs_mono hi _ _ _ (fun r _ h => by
      unfold slP at h ⊢
      split at h
      · exact oP_mono h fun _ h => k _ _ h
      · exact oP_mono h fun _ h => k _ _ h
      · exact oP_mono h fun _ h => k _ _ h
      · exact oP_mono h fun _ h => k _ _ h
      · exact h.elim) h) h) h
  | .rev a, s, Q, Q', k, h => wpE_mono a s _ _ (fun v _ h => by
      cases v with
      | str i => exact ⟨h.1, k _ _ h.2⟩
      | lst i => exact k _ _ h
      | tup i => exact k _ _ h
      | _ => exact h.elim) h
  | .call f md es, s, Q, Q', k, h => wpEs_mono es s _ _ (fun _ _ ⟨r, os, e, h⟩ => ⟨r, os, e, k _ _ h⟩) h
  | .bi b es, s, Q, Q', k, h => wpEs_mono es s _ _ (fun _ _ h => oP_mono h fun _ h => k _ _ h) h
  | .met m a es, s, Q, Q', k, h => wpE_mono a s _ _ (fun _ _ h => wpEs_mono es _ _ _ (fun _ _ h => oP_mono h fun _ h => k _ _ h) h) h
  | .pop i es, s, Q, Q', k, h => wpEs_mono es s _ _ (fun vs _ h => by
      unfold popP at h ⊢
      split at h
      · split at h
        · exact oP_mono h fun _ h => k _ _ h
        · exact oP_mono h fun _ h => oP_mono h fun _ h => k _ _ h
        · exact h.elim
      · exact h.elim) h
  | .comp vs kk it tg ifs e, s, Q, Q', k, h => by
    rw [wpE] at h ⊢
    refine wpEs_mono it s _ _ (fun _ _ h => oP_mono h fun xs h => ?_) h
    refine wpC_mono ?_ xs _ _ _ (fun _ _ h => ⟨h.1, k _ _ h.2⟩) h
    intro x t R R' kr hb
    refine oP_mono hb fun t1 hb => wpTs_mono ifs t1 _ _ (fun b t2 hb => ?_) hb
    cases b with
    | true => exact wpE_mono e t2 _ _ (fun _ _ h => kr _ _ h) hb
    | false => exact kr _ _ hb
  | .dcomp dt vs kk it tg ifs ke ve, s, Q, Q', k, h => by
    rw [wpE] at h ⊢
    refine wpEs_mono it s _ _ (fun _ _ h => oP_mono h fun xs h => ?_) h
    refine wpC_mono ?_ xs _ _ _ (fun _ _ h => oP_mono h fun _ h => ⟨h.1, k _ _ h.2⟩) h
    intro x t R R' kr hb
    refine oP_mono hb fun t1 hb => wpTs_mono ifs t1 _ _ (fun b t2 hb => ?_) hb
    cases b with
    | true => exact wpE_mono ke t2 _ _ (fun _ _ h => wpE_mono ve _ _ _ (fun _ _ h => kr _ _ h) h) hb
    | false => exact kr _ _ hb
theorem wpEs_mono : ∀ (c : List CE) (s : Env) (Q Q' : List EV → Env → Prop), (∀ v t, Q v t → Q' v t) → wpEs cf gb c s Q → wpEs cf gb c s Q'
  | [], s, Q, Q', k, h => k _ _ h
  | e :: es, s, Q, Q', k, h => wpE_mono e s _ _ (fun _ _ h => wpEs_mono es _ _ _ (fun _ _ h => k _ _ h) h) h
theorem wpTs_mono : ∀ (c : List CE) (s : Env) (Q Q' : Bool → Env → Prop), (∀ v t, Q v t → Q' v t) → wpTs cf gb c s Q → wpTs cf gb c s Q'
  | [], s, Q, Q', k, h => k _ _ h
  | e :: es, s, Q, Q', k, h => wpE_mono e s _ _ (fun _ _ h => bP_mono h (fun h => wpTs_mono es _ _ _ k h) fun h => k _ _ h) h
end
mutual
theorem wpS_mono : ∀ (c : CS) (s : Env) (Q Q' : Fl → Env → Prop), (∀ v t, Q v t → Q' v t) → wpS cf gb W c s Q → wpS cf gb W c s Q'
  | .pass, s, Q, Q', k, h => k _ _ h
  | .never, s, Q, Q', k, h => h
  | .brk, s, Q, Q', k, h => k _ _ h
  | .cnt, s, Q, Q', k, h => k _ _ h
  | .ret fr e, s, Q, Q', k, h => wpE_mono e s _ _ (fun _ _ h => ownP_mono h fun h => k _ _ h) h
  | .expr e, s, Q, Q', k, h => wpE_mono e s _ _ (fun _ _ h => k _ _ h) h
  | .asg p o e, s, Q, Q', k, h => wpE_mono e s _ _ (fun _ _ h => ownP_mono h fun h => oP_mono h fun _ h => k _ _ h) h
  | .mov i j, s, Q, Q', k, h => oP_mono h fun _ h => k _ _ h
  | .shr _, s, Q, Q', k, h => k _ _ h
  | .aug i o e, s, Q, Q', k, h => oP_mono h fun x h => wpE_mono e s _ _ (fun y _ h => by
      unfold augP at h ⊢
      split at h
      · exact oP_mono h fun _ h => k _ _ h
      · exact h.elim) h
  | .setIx i kk v, s, Q, Q', k, h => wpE_mono v s _ _ (fun w _ h => wpE_mono kk _ _ _ (fun y _ h => by
      unfold setP at h ⊢
      split at h
      · split at h
        · exact oP_mono h fun _ h => k _ _ h
        · exact h.elim
      · exact ⟨h.1, h.2.1, k _ _ h.2.2⟩
      · exact h.elim) h) h
  | .augIx i kk o v, s, Q, Q', k, h => wpE_mono kk s _ _ (fun y _ h => by
      unfold aixP at h ⊢
      split at h
      · refine oP_mono h fun j h => ?_
        split at h
        · refine wpE_mono v _ _ _ (fun w _ h => ?_) h
          unfold augP at h ⊢
          split at h
          · exact oP_mono h fun _ h => k _ _ h
          · exact h.elim
        · exact h.elim
      · exact h.elim) h
  | .app i e, s, Q, Q', k, h => by
    rw [wpS] at h ⊢
    unfold lstP at h ⊢
    split at h
    · refine wpE_mono e s _ _ (fun v t h => ?_) h
      split at h
      · exact ⟨h.1, k _ _ h.2⟩
      · exact h.elim
    · exact h.elim
  | .ext i e, s, Q, Q', k, h => by
    rw [wpS] at h ⊢
    unfold lstP at h ⊢
    split at h
    · refine wpE_mono e s _ _ (fun v t h => ?_) h
      unfold extP at h ⊢
      split at h
      · exact ⟨h.1, k _ _ h.2⟩
      · exact h.elim
    · exact h.elim
  | .ife t a b, s, Q, Q', k, h => wpE_mono t s _ _ (fun _ _ h => bP_mono h (fun h => wpSs_mono a _ _ _ k h) fun h => wpSs_mono b _ _ _ k h) h
  | .whl _ t b, s, Q, Q', k, h => by
    obtain ⟨fl, s1, e, h⟩ := h
    exact ⟨fl, s1, e, k _ _ h⟩
  | .for _ p kk it b, s, Q, Q', k, h => wpEs_mono it s _ _ (fun _ _ h => oP_mono h fun xs h => wpF_mono (fun s R R' kr hb => wpSs_mono b s _ _ kr hb) xs _ _ _ k h) h
  | .tryr b, s, Q, Q', k, h => wpSs_mono b s Q Q' k h
theorem wpSs_mono : ∀ (c : List CS) (s : Env) (Q Q' : Fl → Env → Prop), (∀ v t, Q v t → Q' v t) → wpSs cf gb W c s Q → wpSs cf gb W c s Q'
  | [], s, Q, Q', k, h => k _ _ h
  | c :: cs, s, Q, Q', k, h => wpS_mono c s _ _ (fun fl t h => by
      cases fl with
      | nx => exact wpSs_mono cs t _ _ k h
      | brk => exact k _ _ h
      | cnt => exact k _ _ h
      | ret v => exact k _ _ h) h
end
/-- a walk with an invariant over what is done and what is left -/
theorem wpF_inv {p : Pt} {b : List CS} {Q : Fl → Env → Prop} (I : List EV → List EV → Env → Prop)
    (step : ∀ pre x post s, I pre (x :: post) s → oP (bindP p x s) fun s1 => wpSs cf gb W b s1 fun fl s2 => match fl with
      | .nx => I (pre ++ [x]) post s2
      | .cnt => I (pre ++ [x]) post s2
      | .brk => Q .nx s2
      | .ret v => Q (.ret v) s2) (fin : ∀ pre s, I pre [] s → Q .nx s) : ∀ (xs pre : List EV) (s : Env), I pre xs s → wpF p (fun t R => wpSs cf gb W b t R) xs s Q
  | [], pre, s, h => fin pre s h
  | x :: xs, pre, s, h => oP_mono (step pre x xs s h) fun s1 h => wpSs_mono b s1 _ _ (fun fl s2 h => by
      cases fl with
      | nx => exact wpF_inv I step fin xs _ s2 h
      | cnt => exact wpF_inv I step fin xs _ s2 h
      | brk => exact h
      | ret v => exact h) h
/-- a comprehension's walk with an invariant: what is made, what is left -/
theorem wpC_inv {tg : Pt} {ifs : List CE} {e : CE} {Q : List EV → Env → Prop} (I : List EV → List EV → Env → Prop)
    (step : ∀ acc x post s, I acc (x :: post) s → oP (bindP tg x s) fun s1 => wpTs cf gb ifs s1 fun b s2 => if b then wpE cf gb e s2 fun y s3 => I (acc ++ [y]) post s3 else I acc post s2)
    (fin : ∀ acc s, I acc [] s → Q acc s) : ∀ (xs acc : List EV) (s : Env), I acc xs s → wpC (fun x t R => oP (bindP tg x t) fun t1 => wpTs cf gb ifs t1 fun b t2 => if b then wpE cf gb e t2 fun y t3 => R (some y) t3 else R none t2) xs s fun ys t => Q (acc ++ ys) t
  | [], acc, s, h => by
    rw [wpC, List.append_nil]
    exact fin acc s h
  | x :: xs, acc, s, h => oP_mono (step acc x xs s h) fun s1 h => wpTs_mono ifs s1 _ _ (fun b s2 h => by
      cases b with
      | true =>
        refine wpE_mono e s2 _ _ (fun y s3 h => ?_) h
        have := wpC_inv I step fin xs _ s3 h
        simp only [List.append_assoc, List.singleton_append] at this
        exact this
      | false => exact wpC_inv I step fin xs acc s2 h) h
theorem wpC_inv0 {tg : Pt} {ifs : List CE} {e : CE} {Q : List EV → Env → Prop} {xs : List EV} {s : Env} (I : List EV → List EV → Env → Prop)
    (step : ∀ acc x post s, I acc (x :: post) s → oP (bindP tg x s) fun s1 => wpTs cf gb ifs s1 fun b s2 => if b then wpE cf gb e s2 fun y s3 => I (acc ++ [y]) post s3 else I acc post s2)
    (fin : ∀ acc s, I acc [] s → Q acc s) (start : I [] xs s) : wpC (fun x t R => oP (bindP tg x t) fun t1 => wpTs cf gb ifs t1 fun b t2 => if b then wpE cf gb e t2 fun y t3 => R (some y) t3 else R none t2) xs s Q :=
  wpC_inv I step fin xs [] s start
/-- .. where the body is a function of the item -/
theorem wpC_fun {tg : Pt} {ifs : List CE} {e : CE} {Q : List EV → Env → Prop} {xs : List EV} {s : Env} (g : EV → Option EV) (J : Env → Prop)
    (step : ∀ x, x ∈ xs → ∀ s, J s → oP (bindP tg x s) fun s1 => wpTs cf gb ifs s1 fun b s2 => if b then wpE cf gb e s2 fun y s3 => g x = some y ∧ J s3 else g x = none ∧ J s2)
    (start : J s) (fin : ∀ s, J s → Q (xs.filterMap g) s) : wpC (fun x t R => oP (bindP tg x t) fun t1 => wpTs cf gb ifs t1 fun b t2 => if b then wpE cf gb e t2 fun y t3 => R (some y) t3 else R none t2) xs s Q := by
  refine wpC_inv (Q := Q) (fun acc post s => (∃ pre, xs = pre ++ post ∧ acc = pre.filterMap g) ∧ J s) (fun acc x post s ⟨⟨pre, e1, e2⟩, h⟩ => ?_) (fun acc s ⟨⟨pre, e1, e2⟩, h⟩ => ?_) xs [] s ⟨⟨[], rfl, rfl⟩, start⟩
  · refine oP_mono (step x (by rw [e1]; simp) s h) fun s1 h => wpTs_mono ifs s1 _ _ (fun b s2 h => ?_) h
    cases b with
    | true => exact wpE_mono e s2 _ _ (fun y s3 h => ⟨⟨pre ++ [x], by rw [e1]; simp, by rw [e2]; simp [h.1]⟩, h.2⟩) h
    | false => exact ⟨⟨pre ++ [x], by rw [e1]; simp, by rw [e2]; simp [h.1]⟩, h.2⟩
  · have : xs = pre := by rw [e1, List.append_nil]
    rw [e2, ← this]
    exact fin s h
/-- while: an invariant and a measure; W turns are enough -/
theorem wp_while {t : CE} {b : List CS} {Q : Fl → Env → Prop} (I : Env → Prop) (m : Env → Nat)
    (step : ∀ s, I s → wpE cf gb t s fun x s1 => bP (truE x) (wpSs cf gb W b s1 fun fl s2 => match fl with
      | .nx => I s2 ∧ m s2 < m s
      | .cnt => I s2 ∧ m s2 < m s
      | .brk => Q .nx s2
      | .ret v => Q (.ret v) s2) (Q .nx s1)) : ∀ (n : Nat) (s : Env), I s → m s < n → ∃ fl s1, whlL (fun s => ev cf gb t s) (fun s => exs cf gb W b s) n s = some (fl, s1) ∧ Q fl s1
  | 0, s, h, hm => absurd hm (Nat.not_lt_zero _)
  | n + 1, s, h, hm => by
    obtain ⟨x, s1, e1, h⟩ := wpE_sound t s _ (step s h)
    rw [whlL]
    simp only [e1]
    rcases bP_elim h with ⟨e2, h⟩ | ⟨e2, h⟩
    · obtain ⟨fl, s2, e3, h⟩ := wpSs_sound b s1 _ h
      simp only [e2, e3]
      cases fl with
      | nx => exact wp_while I m step n s2 h.1 (by omega)
      | cnt => exact wp_while I m step n s2 h.1 (by omega)
      | brk => exact ⟨_, _, rfl, h⟩
      | ret v => exact ⟨_, _, rfl, h⟩
    · simp only [e2]
      exact ⟨_, _, rfl, h⟩
/-- the same with a number that falls -/
theorem wp_whileN {t : CE} {b : List CS} {Q : Fl → Env → Prop} (I : Nat → Env → Prop)
    (step : ∀ k s, I k s → wpE cf gb t s fun x s1 => bP (truE x) (wpSs cf gb W b s1 fun fl s2 => match fl with
      | .nx => ∃ k', k' < k ∧ I k' s2
      | .cnt => ∃ k', k' < k ∧ I k' s2
      | .brk => Q .nx s2
      | .ret v => Q (.ret v) s2) (Q .nx s1)) : ∀ (n k : Nat) (s : Env), I k s → k < n → ∃ fl s1, whlL (fun s => ev cf gb t s) (fun s => exs cf gb W b s) n s = some (fl, s1) ∧ Q fl s1
  | 0, k, s, h, hm => absurd hm (Nat.not_lt_zero _)
  | n + 1, k, s, h, hm => by
    obtain ⟨x, s1, e1, h⟩ := wpE_sound t s _ (step k s h)
    rw [whlL]
    simp only [e1]
    rcases bP_elim h with ⟨e2, h⟩ | ⟨e2, h⟩
    · obtain ⟨fl, s2, e3, h⟩ := wpSs_sound b s1 _ h
      simp only [e2, e3]
      cases fl with
      | nx =>
        obtain ⟨k', hk, h⟩ := h
        exact wp_whileN I step n k' s2 h (by omega)
      | cnt =>
        obtain ⟨k', hk, h⟩ := h
        exact wp_whileN I step n k' s2 h (by omega)
      | brk => exact ⟨_, _, rfl, h⟩
      | ret v => exact ⟨_, _, rfl, h⟩
    · simp only [e2]
      exact ⟨_, _, rfl, h⟩
end
end Ev
end

section
set_option linter.all false
set_option maxRecDepth 100000
/-! Pl: plain lemmas about the evaluator's functions. -/
namespace Ev
theorem run_eq {Pg : List Fn} {gb : Gb} {W d f : Nat} {vs os : List EV} {F : Fn} {v : EV} (hF : Pg[f]? = some F) (hc : chkE F.md vs = true) (h : wpSs (run Pg gb W d) gb W F.body (startE F.n vs) fun fl s => (fl = .ret v ∨ (fl = .nx ∧ v = .non)) ∧ ioOf 0 F.md s = os) : run Pg gb W (d + 1) f vs = some (v, os) := by
  obtain ⟨fl, t, e, h1, h2⟩ := wpSs_sound _ _ _ h
  rw [run]
  simp only [hF, hc, e, if_true]
  rcases h1 with rfl | ⟨rfl, rfl⟩
  · simp only [h2]
  · simp only [h2]
theorem oP_of {α : Type} {o : Option α} {Q : α → Prop} {z : α} (h : o = some z) (q : Q z) : oP o Q := by rw [h]; exact q
theorem bP_t' {o : Option Bool} {t f : Prop} (h : o = some true) (q : t) : bP o t f := by rw [h]; exact q
theorem bP_f' {o : Option Bool} {t f : Prop} (h : o = some false) (q : f) : bP o t f := by rw [h]; exact q
theorem bP_b {o : Option Bool} {t f : Prop} {b : Bool} (h : o = some b) (q1 : b = true → t) (q2 : b = false → f) : bP o t f := by
  rw [h]
  cases b with
  | true => exact q1 rfl
  | false => exact q2 rfl
abbrev tI (l : List Int) : EV := .tup (l.map .int)
abbrev tN (l : List Nat) : EV := .tup (l.map fun n : Nat => .int (n : Int))
/-! ### ranges, zips -/
theorem rngL_eq : ∀ (n : Nat) (a : Int), rngL a 1 n = (List.range n).map fun i => EV.int (a + (i : Nat))
  | 0, a => rfl
  | n + 1, a => by
    rw [rngL, rngL_eq n (a + 1), List.range_succ_eq_map, List.map_cons, List.map_map]
    congr 1
    · simp
    · refine List.map_congr_left fun i _ => ?_
      show EV.int (a + 1 + (i : Int)) = EV.int (a + ((i + 1 : Nat) : Int))
      congr 1
      omega
theorem rngL0 (n : Nat) : rngL 0 1 n = (List.range n).map fun i => EV.int ((i : Nat) : Int) := by
  rw [rngL_eq]
  refine List.map_congr_left fun i _ => ?_
  rw [Int.zero_add]
theorem itE_rng1 {n : Nat} (h : n < 2 ^ 62) : itE .rng1 [.int (n : Int)] = some ((List.range n).map fun i => EV.int ((i : Nat) : Int)) := by
  have h2 : (n : Int) < 2 ^ 62 := by exact_mod_cast h
  have : lim62 (n : Int) = true := by
    unfold lim62
    simp only [Bool.and_eq_true, decide_eq_true_eq]
    exact ⟨by omega, h2⟩
  show (if lim62 (n : Int) then some (rngL 0 1 (n : Int).toNat) else none) = _
  rw [this, if_pos rfl, Int.toNat_natCast, rngL0]
theorem zipL_map {α β : Type} (f : α → EV) (g : β → EV) : ∀ (xs : List α) (ys : List β), zipL (xs.map f) (ys.map g) = (xs.zip ys).map fun p => EV.tup [f p.1, g p.2]
  | [], _ => by simp [zipL]
  | _ :: _, [] => by simp [zipL]
  | x :: xs, y :: ys => by simp [zipL, zipL_map f g xs ys]
theorem enumL_map {α : Type} (f : α → EV) : ∀ (xs : List α) (i : Int), enumL i (xs.map f) = xs.zipIdx.map fun p => EV.tup [.int (i + (p.2 : Nat)), f p.1]
  | [], i => rfl
  | x :: xs, i => by
    rw [List.map_cons, enumL, enumL_map f xs (i + 1), List.zipIdx_cons, List.map_cons]
    congr 1
    · simp
    · rw [List.zipIdx_succ, List.map_map]
      refine List.map_congr_left fun p _ => ?_
      show EV.tup [.int (i + 1 + (p.2 : Nat)), f p.1] = EV.tup [.int (i + ((p.2 + 1 : Nat) : Int)), f p.1]
      congr 3
      omega
/-! ### sums, all, any -/
theorem sumE_map {α : Type} (f : α → Int) : ∀ l : List α, sumE (l.map fun x => EV.int (f x)) = some (l.map f).sum
  | [] => rfl
  | a :: l => by simp [sumE, sumE_map f l]
theorem allInt_map {α : Type} (f : α → Int) : ∀ l : List α, allInt (l.map fun x => EV.int (f x)) = some (l.map f)
  | [] => rfl
  | a :: l => by simp [allInt, allInt_map f l]
theorem all_flatT_bl {α : Type} (f : α → Bool) : ∀ l : List α, (l.map fun x => EV.bl (f x)).all flatT = true
  | [] => rfl
  | a :: l => by simp [flatT]
theorem all_flatT_int {α : Type} (f : α → Int) : ∀ l : List α, (l.map fun x => EV.int (f x)).all flatT = true
  | [] => rfl
  | a :: l => by simp [flatT]
theorem all1_map {α : Type} (f : α → Bool) (l : List α) : biE .all [.lst (l.map fun x => EV.bl (f x))] = some (.bl (l.all f)) := by
  show (if (l.map fun x => EV.bl (f x)).all flatT then some (EV.bl ((l.map fun x => EV.bl (f x)).all tr0)) else none) = _
  rw [all_flatT_bl, if_pos rfl, List.all_map]
  rfl
theorem any1_map {α : Type} (f : α → Bool) (l : List α) : biE .any [.lst (l.map fun x => EV.bl (f x))] = some (.bl (l.any f)) := by
  show (if (l.map fun x => EV.bl (f x)).all flatT then some (EV.bl ((l.map fun x => EV.bl (f x)).any tr0)) else none) = _
  rw [all_flatT_bl, if_pos rfl, List.any_map]
  rfl
theorem any1_tN (l : List Nat) : biE .any [tN l] = some (.bl (l.any (· != 0))) := by
  show (if (l.map fun x : Nat => EV.int (x : Int)).all flatT then some (EV.bl ((l.map fun x : Nat => EV.int (x : Int)).any tr0)) else none) = _
  rw [all_flatT_int, if_pos rfl, List.any_map]
  congr 2
  refine congrArg (fun g => List.any l g) (funext fun n => ?_)
  show ((n : Int) != 0) = (n != 0)
  rw [Bool.eq_iff_iff]
  simp
/-! ### equality, order of rows -/
theorem plains_int {α : Type} (f : α → Int) : ∀ l : List α, plains (l.map fun x => EV.int (f x)) = true
  | [] => rfl
  | a :: l => by rw [List.map_cons, plains, plains_int f l]; rfl
theorem depths_int {α : Type} (f : α → Int) : ∀ l : List α, depths (l.map fun x => EV.int (f x)) = 0
  | [] => rfl
  | a :: l => by rw [List.map_cons, depths, depths_int f l]; rfl
theorem plain_tN (l : List Nat) : plain (tN l) = true := plains_int _ l
theorem depth_tN (l : List Nat) : depth (tN l) = 1 := by
  show depths (l.map fun n : Nat => EV.int (n : Int)) + 1 = 1
  rw [depths_int]
theorem okD_tN (l : List Nat) : okD (tN l) = true := by
  unfold okD
  rw [plain_tN, depth_tN]
  rfl
theorem plains_map {α : Type} (f : α → EV) (h : ∀ x, plain (f x) = true) : ∀ l : List α, plains (l.map f) = true
  | [] => rfl
  | a :: l => by rw [List.map_cons, plains, plains_map f h l, h]; rfl
theorem depths_le {α : Type} (f : α → EV) (n : Nat) (h : ∀ x, depth (f x) ≤ n) : ∀ l : List α, depths (l.map f) ≤ n
  | [] => Nat.zero_le _
  | a :: l => by
    rw [List.map_cons, depths]
    exact Nat.max_le.mpr ⟨h a, depths_le f n h l⟩
theorem okD_lst {α : Type} (f : α → EV) (n : Nat) (h : ∀ x, plain (f x) = true) (k : ∀ x, depth (f x) ≤ n) (hn : n + 1 ≤ 60) (l : List α) : okD (.lst (l.map f)) = true := by
  unfold okD
  rw [plain, plains_map f h, depth]
  have := depths_le f n k l
  simp only [Bool.true_and, decide_eq_true_eq]
  omega
mutual
theorem eqE_refl : ∀ x : EV, plain x = true → eqE x x = true
  | .non, _ => rfl
  | .bl b, _ => by simp [eqE]
  | .int i, _ => by simp [eqE]
  | .str s, _ => by simp [eqE]
  | .tup xs, h => eqEs_refl xs h
  | .lst xs, h => eqEs_refl xs h
  | .dct _ _, h => by cases h
  | .scr _, h => by cases h
theorem eqEs_refl : ∀ x : List EV, plains x = true → eqEs x x = true
  | [], _ => rfl
  | x :: xs, h => by
    rw [plains, Bool.and_eq_true] at h
    rw [eqEs, eqE_refl x h.1, eqEs_refl xs h.2]
    rfl
end
theorem eqEs_map {α : Type} [DecidableEq α] (f : α → EV) (h : ∀ a b, eqE (f a) (f b) = decide (a = b)) : ∀ a b : List α, eqEs (a.map f) (b.map f) = decide (a = b)
  | [], [] => by rw [decide_eq_true rfl]; rfl
  | [], b :: bs => rfl
  | a :: as, [] => rfl
  | a :: as, b :: bs => by
    rw [List.map_cons, List.map_cons, eqEs, h, eqEs_map f h as bs, Bool.eq_iff_iff]
    simp
theorem eqE_nat (a b : Nat) : eqE (.int (a : Int)) (.int (b : Int)) = decide (a = b) := by
  show decide ((a : Int) = (b : Int)) = _
  rw [Bool.eq_iff_iff, decide_eq_true_eq, decide_eq_true_eq]
  omega
theorem eqE_tN (a b : List Nat) : eqE (tN a) (tN b) = decide (a = b) := eqEs_map _ eqE_nat a b
theorem eqE_rows (a b : List (List Nat)) : eqE (.lst (a.map tN)) (.lst (b.map tN)) = decide (a = b) := eqEs_map _ eqE_tN a b
/-- the order of rows -/
def ltN : List Nat → List Nat → Bool
  | [], [] => false
  | [], _ :: _ => true
  | _ :: _, [] => false
  | a :: as, b :: bs => if a = b then ltN as bs else decide (a < b)
theorem ltE_tN : ∀ a b : List Nat, ltE (tN a) (tN b) = ltN a b
  | [], [] => rfl
  | [], _ :: _ => rfl
  | _ :: _, [] => rfl
  | a :: as, b :: bs => by
    show (if eqE (.int (a : Int)) (.int (b : Int)) then ltE (tN as) (tN bs) else ltE (.int (a : Int)) (.int (b : Int))) = _
    rw [eqE_nat, ltE_tN as bs, ltN]
    by_cases e : a = b
    · simp [e]
    · simp [e, ltE]
theorem ltN_irr : ∀ a : List Nat, ltN a a = false
  | [] => rfl
  | a :: as => by rw [ltN, if_pos rfl]; exact ltN_irr as
theorem ltN_trans : ∀ {a b c : List Nat}, ltN a b = true → ltN b c = true → ltN a c = true
  | [], [], _, h, _ => by cases h
  | [], _ :: _, [], _, h => by cases h
  | [], _ :: _, _ :: _, _, _ => rfl
  | _ :: _, [], _, h, _ => by cases h
  | _ :: _, _ :: _, [], _, h => by cases h
  | a :: as, b :: bs, c :: cs, h, k => by
    rw [ltN] at h k ⊢
    by_cases e : a = b
    · subst e
      rw [if_pos rfl] at h
      by_cases e2 : a = c
      · subst e2
        rw [if_pos rfl] at k ⊢
        exact ltN_trans h k
      · rw [if_neg e2] at k ⊢
        exact k
    · rw [if_neg e, decide_eq_true_eq] at h
      by_cases e2 : b = c
      · subst e2
        rw [if_neg e, decide_eq_true_eq]
        exact h
      · rw [if_neg e2, decide_eq_true_eq] at k
        rw [if_neg (by omega), decide_eq_true_eq]
        omega
theorem ltN_tri : ∀ (a b : List Nat), ltN a b = true ∨ a = b ∨ ltN b a = true
  | [], [] => .inr (.inl rfl)
  | [], _ :: _ => .inl rfl
  | _ :: _, [] => .inr (.inr rfl)
  | a :: as, b :: bs => by
    rw [ltN, ltN]
    by_cases e : a = b
    · subst e
      rw [if_pos rfl, if_pos rfl]
      rcases ltN_tri as bs with h | h | h
      · exact .inl h
      · exact .inr (.inl (by rw [h]))
      · exact .inr (.inr h)
    · rw [if_neg e, if_neg (Ne.symm e), decide_eq_true_eq, decide_eq_true_eq]
      omega
/-! ### sorting -/
section
variable {α : Type} (lt : α → α → Bool)
def ins (x : α) : List α → List α
  | [] => [x]
  | y :: ys => if lt y x then y :: ins x ys else x :: y :: ys
def isort : List α → List α
  | [] => []
  | x :: xs => ins lt x (isort xs)
theorem insE_map {f : α → EV} (h : ∀ a b, ltE (f a) (f b) = lt a b) (x : α) : ∀ l : List α, insE (f x) (l.map f) = (ins lt x l).map f
  | [] => rfl
  | y :: ys => by
    rw [List.map_cons, insE, h, ins, insE_map h x ys]
    cases lt y x <;> rfl
theorem sortE_map {f : α → EV} (h : ∀ a b, ltE (f a) (f b) = lt a b) : ∀ l : List α, sortE (l.map f) = (isort lt l).map f
  | [] => rfl
  | x :: xs => by rw [List.map_cons, sortE, sortE_map h xs, insE_map lt h, isort]
theorem mem_ins {x y : α} : ∀ {l : List α}, y ∈ ins lt x l ↔ y = x ∨ y ∈ l
  | [] => by simp [ins]
  | z :: zs => by
    rw [ins]
    split
    · rw [List.mem_cons, mem_ins (l := zs), List.mem_cons]
      constructor
      · rintro (h | h | h)
        · exact .inr (.inl h)
        · exact .inl h
        · exact .inr (.inr h)
      · rintro (h | h | h)
        · exact .inr (.inl h)
        · exact .inl h
        · exact .inr (.inr h)
    · rw [List.mem_cons]
theorem mem_isort {y : α} : ∀ {l : List α}, y ∈ isort lt l ↔ y ∈ l
  | [] => Iff.rfl
  | x :: xs => by rw [isort, mem_ins, mem_isort, List.mem_cons]
variable (irr : ∀ a, lt a a = false) (tr : ∀ a b c, lt a b = true → lt b c = true → lt a c = true) (tri : ∀ a b, lt a b = true ∨ a = b ∨ lt b a = true)
include tr tri in
theorem ins_sorted {x : α} : ∀ {l : List α}, x ∉ l → l.Pairwise (fun a b => lt a b = true) → (ins lt x l).Pairwise (fun a b => lt a b = true)
  | [], _, _ => by simp [ins]
  | y :: ys, hn, h => by
    rw [List.pairwise_cons] at h
    rw [ins]
    have ne : x ≠ y := fun e => hn (by rw [e]; exact List.mem_cons_self)
    split
    · rename_i hy
      rw [List.pairwise_cons]
      refine ⟨fun z hz => ?_, ins_sorted (fun hm => hn (List.mem_cons_of_mem _ hm)) h.2⟩
      rcases (mem_ins lt).mp hz with rfl | hz
      · exact hy
      · exact h.1 z hz
    · rename_i hy
      have hxy : lt x y = true := by
        rcases tri x y with q | q | q
        · exact q
        · exact absurd q ne
        · exact absurd q hy
      rw [List.pairwise_cons]
      refine ⟨fun z hz => ?_, List.pairwise_cons.mpr h⟩
      rcases List.mem_cons.mp hz with rfl | hz
      · exact hxy
      · exact tr _ _ _ hxy (h.1 z hz)
include tr tri in
theorem isort_sorted : ∀ {l : List α}, l.Nodup → (isort lt l).Pairwise (fun a b => lt a b = true)
  | [], _ => List.Pairwise.nil
  | x :: xs, h => by
    rw [List.nodup_cons] at h
    rw [isort]
    exact ins_sorted lt tr tri (fun hm => h.1 ((mem_isort lt).mp hm)) (isort_sorted h.2)
include irr tr in
theorem sorted_uniq : ∀ {a b : List α}, a.Pairwise (fun x y => lt x y = true) → b.Pairwise (fun x y => lt x y = true) → (∀ x, x ∈ a ↔ x ∈ b) → a = b
  | [], [], _, _, _ => rfl
  | [], y :: ys, _, _, h => absurd ((h y).mpr List.mem_cons_self) (by simp)
  | x :: xs, [], _, _, h => absurd ((h x).mp List.mem_cons_self) (by simp)
  | x :: xs, y :: ys, ha, hb, h => by
    rw [List.pairwise_cons] at ha hb
    have e : x = y := by
      rcases List.mem_cons.mp ((h x).mp List.mem_cons_self) with e | hx
      · exact e
      · rcases List.mem_cons.mp ((h y).mpr List.mem_cons_self) with e | hy
        · exact e.symm
        · have := tr _ _ _ (ha.1 y hy) (hb.1 x hx)
          rw [irr] at this
          cases this
    subst e
    congr 1
    refine sorted_uniq ha.2 hb.2 fun z => ?_
    constructor
    · intro hz
      rcases List.mem_cons.mp ((h z).mp (List.mem_cons_of_mem _ hz)) with e | q
      · subst e
        have := ha.1 z hz
        rw [irr] at this
        cases this
      · exact q
    · intro hz
      rcases List.mem_cons.mp ((h z).mpr (List.mem_cons_of_mem _ hz)) with e | q
      · subst e
        have := hb.1 z hz
        rw [irr] at this
        cases this
      · exact q
end
/-- rows of one length -/
theorem shEs_int {α β : Type} (f : α → Int) (g : β → Int) : ∀ (a : List α) (b : List β), a.length = b.length → shEs (a.map fun x => EV.int (f x)) (b.map fun x => EV.int (g x)) = true
  | [], [], _ => rfl
  | a :: as, b :: bs, h => by
    rw [List.map_cons, List.map_cons, shEs, shEs_int f g as bs (by simpa using h)]
    rfl
  | [], b :: bs, h => by simp at h
  | a :: as, [], h => by simp at h
theorem sortOk_rows {l : List (List Nat)} {n : Nat} (h : ∀ r ∈ l, r.length = n) (hn : 0 < n) : sortOk (l.map tN) = true := by
  unfold sortOk
  rw [Bool.and_eq_true, Bool.and_eq_true]
  refine ⟨⟨?_, ?_⟩, ?_⟩
  · rw [List.all_map]
    exact List.all_eq_true.mpr fun r _ => okD_tN r
  · rw [Bool.or_eq_true]
    left
    rw [List.all_map]
    refine List.all_eq_true.mpr fun r hr => ?_
    have := h r hr
    cases r with
    | nil => simp at this; omega
    | cons _ _ => rfl
  · rw [Bool.or_eq_true]
    left
    cases l with
    | nil => rfl
    | cons r rs =>
      simp only [List.map_cons, List.all_map]
      refine List.all_eq_true.mpr fun q hq => ?_
      exact shEs_int (fun n : Nat => (n : Int)) (fun n : Nat => (n : Int)) r q ((h r List.mem_cons_self).trans (h q (List.mem_cons_of_mem _ hq)).symm)
theorem sorted_rows {l : List (List Nat)} {n : Nat} (h : ∀ r ∈ l, r.length = n) (hn : 0 < n ∨ l = []) : biE .sorted [.lst (l.map tN)] = some (.lst ((isort ltN l).map tN)) := by
  show (if sortOk (l.map tN) then some (EV.lst (sortE (l.map tN))) else none) = _
  have : sortOk (l.map tN) = true := by
    rcases hn with hn | rfl
    · exact sortOk_rows h hn
    · rfl
  rw [this, if_pos rfl, sortE_map ltN ltE_tN]
theorem rows_sorted {l : List (List Nat)} (h : l.Nodup) : (isort ltN l).Pairwise fun a b => ltN a b = true := isort_sorted ltN (fun _ _ _ => ltN_trans) ltN_tri h
theorem rows_uniq {a b : List (List Nat)} (ha : a.Pairwise fun a b => ltN a b = true) (hb : b.Pairwise fun a b => ltN a b = true) (h : ∀ x, x ∈ a ↔ x ∈ b) : a = b := sorted_uniq ltN ltN_irr (fun _ _ _ => ltN_trans) ha hb h
/-! ### places, slices -/
theorem ixN_nat {n i : Nat} (h : i < n) : ixN n (i : Int) = some i := by
  unfold ixN
  rw [if_pos (by omega), if_pos (by omega)]
  simp
theorem atE_nat {α : Type} {xs : List α} {i : Nat} (h : i < xs.length) : atE xs (i : Int) = xs[i]? := by
  unfold atE
  rw [ixN_nat h]
theorem atE_map {α : Type} (f : α → EV) {xs : List α} {i : Nat} {a : α} (h : xs[i]? = some a) : atE (xs.map f) (i : Int) = some (f a) := by
  have hl : i < xs.length := by
    rcases Nat.lt_or_ge i xs.length with q | q
    · exact q
    · rw [List.getElem?_eq_none q] at h; cases h
  rw [atE_nat (by simpa using hl), List.getElem?_map, h]
  rfl
theorem atE_neg1 {α : Type} {xs : List α} {a : α} (h : xs.getLast? = some a) : atE xs (-1) = some a := by
  unfold atE ixN
  have hl : 0 < xs.length := by
    cases xs with
    | nil => cases h
    | cons _ _ => simp
  rw [if_neg (by omega), if_pos (by omega)]
  have : ((-1 : Int) + (xs.length : Int)).toNat = xs.length - 1 := by omega
  simp only [this]
  rw [← h, List.getLast?_eq_getElem?]
theorem sIx_some {n d i : Nat} (h : i ≤ n) : sIx n d (some (i : Int)) = i := by
  show (if (i : Int) < 0 then ((i : Int) + (n : Int)).toNat else min (i : Int).toNat n) = i
  rw [if_neg (by omega), Int.toNat_natCast]
  omega
theorem cut_to {α : Type} {xs : List α} {i : Nat} (h : i ≤ xs.length) : cut xs none (some (i : Int)) = xs.take i := by
  unfold cut
  rw [sIx_some h]
  show (xs.drop 0).take (i - 0) = _
  rw [List.drop_zero, Nat.sub_zero]
theorem cut_from {α : Type} {xs : List α} {i : Nat} (h : i ≤ xs.length) : cut xs (some (i : Int)) none = xs.drop i := by
  unfold cut
  rw [sIx_some h]
  show (xs.drop i).take (xs.length - i) = _
  rw [List.take_of_length_le (by rw [List.length_drop]; exact Nat.le_refl _)]
theorem dHas_map {α β : Type} {f : α → EV} {g : β → EV} (h : ∀ a b, eqE (f a) (f b) = true ↔ a = b) (x : α) : ∀ l : List (α × β), dHas (f x) (l.map fun p => (f p.1, g p.2)) = true ↔ x ∈ l.map (·.1)
  | [] => by simp [dHas]
  | p :: l => by
    rw [List.map_cons, dHas, Bool.or_eq_true, h, dHas_map h x l, List.map_cons, List.mem_cons]
    exact or_congr eq_comm Iff.rfl
theorem dHas_keys {α : Type} {f : α → EV} {w : EV} (h : ∀ a b, eqE (f a) (f b) = true ↔ a = b) (x : α) : ∀ l : List α, dHas (f x) (l.map fun a => (f a, w)) = true ↔ x ∈ l
  | [] => by simp [dHas]
  | p :: l => by
    rw [List.map_cons, dHas, Bool.or_eq_true, h, dHas_keys h x l, List.mem_cons]
    exact or_congr eq_comm Iff.rfl
theorem eqI_tN (a b : List Nat) : eqE (tN a) (tN b) = true ↔ a = b := by rw [eqE_tN, decide_eq_true_eq]
theorem dRep_same {w : EV} {x : EV} : ∀ {l : List (EV × EV)}, (∀ p ∈ l, p.2 = w) → dRep x w l = l
  | [], _ => rfl
  | (k, v) :: l, h => by
    rw [dRep, dRep_same fun p hp => h p (List.mem_cons_of_mem _ hp)]
    have : v = w := h (k, v) List.mem_cons_self
    subst this
    split <;> rfl
theorem keysOf_map {α : Type} (f : α → EV) (g : α → EV) : ∀ l : List α, keysOf (l.map fun a => (f a, g a)) = l.map f
  | [] => rfl
  | a :: l => by rw [List.map_cons, keysOf, keysOf_map f g l, List.map_cons]
theorem leafs_int {α : Type} (f : α → Int) : ∀ l : List α, (l.map fun x => EV.int (f x)).all leafK = true
  | [] => rfl
  | a :: l => by rw [List.map_cons, List.all_cons, leafs_int f l]; rfl
theorem key_tN (l : List Nat) : keyOk 1 (tN l) = true := leafs_int (fun n : Nat => (n : Int)) l
theorem itE_rngN {n : Nat} (h : n < 2 ^ 62) : itE .rng1 [.int (n : Int)] = some ((List.range n).map fun i : Nat => EV.int (i : Int)) := itE_rng1 h
theorem listR_to {n : Nat} (h : n ≤ SZ) : biE .listR [.int (n : Int)] = some (.lst ((List.range n).map fun i : Nat => EV.int (i : Int))) := by
  have hz : SZ = 16777216 := rfl
  have h1 : lim24 0 (n : Int) = true := by
    unfold lim24 lim62
    simp only [Bool.and_eq_true, decide_eq_true_eq]
    refine ⟨⟨⟨by decide, by decide⟩, by omega, by omega⟩, by omega⟩
  show (if lim24 0 (n : Int) then some (EV.lst (rngL 0 1 ((n : Int) - 0).toNat)) else none) = _
  rw [h1, if_pos rfl, Int.sub_zero, Int.toNat_natCast, rngL0]
theorem listR_from {a n : Nat} (h : n ≤ SZ) (ha : a < 2 ^ 62) : biE .listR [.int (a : Int), .int (n : Int)] = some (.lst (((List.range (n - a)).map (a + ·)).map fun i : Nat => EV.int (i : Int))) := by
  have hz : SZ = 16777216 := rfl
  have h1 : lim24 (a : Int) (n : Int) = true := by
    unfold lim24 lim62
    simp only [Bool.and_eq_true, decide_eq_true_eq]
    refine ⟨⟨⟨by omega, by omega⟩, by omega, by omega⟩, by omega⟩
  show (if lim24 (a : Int) (n : Int) then some (EV.lst (rngL (a : Int) 1 ((n : Int) - (a : Int)).toNat)) else none) = _
  rw [h1, if_pos rfl, rngL_eq, List.map_map]
  have : ((n : Int) - (a : Int)).toNat = n - a := by omega
  rw [this]
  rfl
end Ev
end

section
set_option linter.all false
set_option maxRecDepth 100000
/-! Wq: one rule a construct, for `apply`. -/
namespace Ev
section
variable {cf : Cf} {gb : Gb} {W : Nat} {s : Env} {Q : EV → Env → Prop} {R : List EV → Env → Prop} {T : Bool → Env → Prop} {F : Fl → Env → Prop} {a b c : CE} {es : List CE} {v x y : EV} {i : Nat} {o o' : Cm} {p : Op} {cs : List CS}
theorem w_lit (h : Q v s) : wpE cf gb (.lit v) s Q := h
theorem w_glb {g : Nat} (e : gb g = some v) (h : Q v s) : wpE cf gb (.glb g) s Q := oP_of e h
theorem w_var (e : gv' s i = some v) (h : Q v s) : wpE cf gb (.var i) s Q := oP_of e h
theorem w_tup (h : wpEs cf gb es s fun vs s1 => vs.length ≤ SZ ∧ Q (.tup vs) s1) : wpE cf gb (.tup es) s Q := h
theorem w_lst (h : wpEs cf gb es s fun vs s1 => vs.length ≤ SZ ∧ Q (.lst vs) s1) : wpE cf gb (.lst es) s Q := h
theorem w_dct {t : Nat} (h : Q (.dct t []) s) : wpE cf gb (.dct0 t) s Q := h
theorem w_op (h : wpE cf gb a s fun x s1 => wpE cf gb b s1 fun y s2 => oP (opE p x y) fun z => Q z s2) : wpE cf gb (.op p a b) s Q := h
theorem w_neg (h : wpE cf gb a s fun x s1 => negP x fun y => Q y s1) : wpE cf gb (.neg a) s Q := h
theorem w_cmp (h : wpE cf gb a s fun x s1 => wpE cf gb b s1 fun y s2 => oP (cmE o x y) fun z => Q (.bl z) s2) : wpE cf gb (.cmp o a b) s Q := h
theorem w_chn (h : wpE cf gb a s fun x s1 => wpE cf gb b s1 fun y s2 => bP (cmE o x y) (wpE cf gb c s2 fun z s3 => oP (cmE o' y z) fun r => Q (.bl r) s3) (Q (.bl false) s2)) : wpE cf gb (.chn o o' a b c) s Q := h
theorem w_isc {ng : Bool} (h : wpE cf gb a s fun x s1 => oP (iscE x v) fun r => Q (.bl (if ng then !r else r)) s1) : wpE cf gb (.isc ng a v) s Q := h
theorem w_iscT (h : wpE cf gb a s fun x s1 => oP (iscE x v) fun r => Q (.bl (!r)) s1) : wpE cf gb (.isc true a v) s Q := h
theorem w_iscF (h : wpE cf gb a s fun x s1 => oP (iscE x v) fun r => Q (.bl r) s1) : wpE cf gb (.isc false a v) s Q := h
theorem w_and (h : wpE cf gb a s fun x s1 => bP (truE x) (wpE cf gb b s1 Q) (Q x s1)) : wpE cf gb (.and a b) s Q := h
theorem w_or (h : wpE cf gb a s fun x s1 => bP (truE x) (Q x s1) (wpE cf gb b s1 Q)) : wpE cf gb (.or a b) s Q := h
theorem w_not (h : wpE cf gb a s fun x s1 => oP (truE x) fun t => Q (.bl (!t)) s1) : wpE cf gb (.not a) s Q := h
theorem w_ite (h : wpE cf gb a s fun x s1 => bP (truE x) (wpE cf gb b s1 Q) (wpE cf gb c s1 Q)) : wpE cf gb (.ite a b c) s Q := h
theorem w_ix (h : wpE cf gb a s fun x s1 => wpE cf gb b s1 fun y s2 => oP (ixE x y) fun z => Q z s2) : wpE cf gb (.ix a b) s Q := h
theorem w_sl0 (h : wpE cf gb a s fun x s1 => oP (slE x none none) fun z => Q z s1) : wpE cf gb (.sl a [] []) s Q := h
def iP (x : EV) (Q : Int → Prop) : Prop := match x with
  | .int i => Q i
  | _ => False
theorem iP_int {i : Int} {Q : Int → Prop} (h : Q i) : iP (.int i) Q := h
theorem w_sl1 (h : wpE cf gb a s fun x s1 => wpE cf gb b s1 fun l s2 => iP l fun i => oP (slE x (some i) none) fun z => Q z s2) : wpE cf gb (.sl a [b] []) s Q :=
  wpE_mono a _ _ _ (fun x s1 h => wpE_mono b _ _ _ (fun l s2 h => by
    cases l with
    | int i => exact h
    | _ => exact h.elim) h) h
theorem w_sl2 (h : wpE cf gb a s fun x s1 => wpE cf gb b s1 fun l s2 => iP l fun i => oP (slE x none (some i)) fun z => Q z s2) : wpE cf gb (.sl a [] [b]) s Q :=
  wpE_mono a _ _ _ (fun x s1 h => wpE_mono b _ _ _ (fun l s2 h => by
    cases l with
    | int i => exact h
    | _ => exact h.elim) h) h
theorem w_sl3 (h : wpE cf gb a s fun x s1 => wpE cf gb b s1 fun l s2 => wpE cf gb c s2 fun k s3 => iP l fun i => iP k fun j => oP (slE x (some i) (some j)) fun z => Q z s3) : wpE cf gb (.sl a [b] [c]) s Q :=
  wpE_mono a _ _ _ (fun x s1 h => wpE_mono b _ _ _ (fun l s2 h => wpE_mono c _ _ _ (fun k s3 h => by
    cases l with
    | int i =>
      cases k with
      | int j => exact h
      | _ => exact h.elim
    | _ => exact h.elim) h) h) h
theorem w_rev (h : wpE cf gb a s fun x s1 => revP x fun y => Q y s1) : wpE cf gb (.rev a) s Q := h
theorem w_call {f : Nat} {md : List (Option Nat)} (h : wpEs cf gb es s fun vs s1 => ∃ r os, cf f (reload md vs s1) = some (r, os) ∧ Q r (outs md os s1)) : wpE cf gb (.call f md es) s Q := h
theorem w_bi {k : Bi} (h : wpEs cf gb es s fun vs s1 => oP (biE k vs) fun r => Q r s1) : wpE cf gb (.bi k es) s Q := h
theorem w_met {m : Me} (h : wpE cf gb a s fun x s1 => wpEs cf gb es s1 fun vs s2 => oP (meE m x vs) fun r => Q r s2) : wpE cf gb (.met m a es) s Q := h
theorem w_pop (h : wpEs cf gb es s fun vs s1 => popP (gv' s1 i) vs fun y c => Q y (s1.set i (some c))) : wpE cf gb (.pop i es) s Q := h
theorem w_comp {vs : List Nat} {k : ItK} {it : List CE} {tg : Pt} {ifs : List CE} {e : CE} (h : wpEs cf gb it s fun ws s1 => oP (itE k ws) fun xs =>
      wpC (fun x t R => oP (bindP tg x t) fun t1 => wpTs cf gb ifs t1 fun b t2 => if b then wpE cf gb e t2 fun y t3 => R (some y) t3 else R none t2) xs s1 fun ys s2 => ys.length ≤ SZ ∧ Q (.lst ys) (restore vs s1 s2)) : wpE cf gb (.comp vs k it tg ifs e) s Q := h
theorem w_nil (h : R [] s) : wpEs cf gb [] s R := h
theorem w_cons (h : wpE cf gb a s fun v s1 => wpEs cf gb es s1 fun vs s2 => R (v :: vs) s2) : wpEs cf gb (a :: es) s R := h
theorem w_tnil (h : T true s) : wpTs cf gb [] s T := h
theorem w_tcons (h : wpE cf gb a s fun x s1 => bP (truE x) (wpTs cf gb es s1 T) (T false s1)) : wpTs cf gb (a :: es) s T := h
/-! statements, with the rest of the block -/
theorem w_end (h : F .nx s) : wpSs cf gb W [] s F := h
theorem w_pass (h : wpSs cf gb W cs s F) : wpSs cf gb W (.pass :: cs) s F := h
theorem w_brk (h : F .brk s) : wpSs cf gb W (.brk :: cs) s F := h
theorem w_cnt (h : F .cnt s) : wpSs cf gb W (.cnt :: cs) s F := h
theorem w_ret {e : CE} (h : wpE cf gb e s fun v s1 => F (.ret v) s1) : wpSs cf gb W (.ret false e :: cs) s F := h
theorem w_retO {e : CE} (h : wpE cf gb e s fun v s1 => v.isCon = true ∧ F (.ret v) s1) : wpSs cf gb W (.ret true e :: cs) s F := h
theorem w_expr {e : CE} (h : wpE cf gb e s fun v s1 => wpSs cf gb W cs s1 F) : wpSs cf gb W (.expr e :: cs) s F := h
theorem w_asg {e : CE} (h : wpE cf gb e s fun v s1 => wpSs cf gb W cs (s1.set i (some v)) F) : wpSs cf gb W (.asg (.nm i) false e :: cs) s F := h
theorem w_asgO {e : CE} (h : wpE cf gb e s fun v s1 => v.isCon = true ∧ wpSs cf gb W cs (s1.set i (some v)) F) : wpSs cf gb W (.asg (.nm i) true e :: cs) s F := h
theorem w_asgP {e : CE} {ps : List Pt} (h : wpE cf gb e s fun v s1 => oP (bindP (.tp ps) v s1) fun s2 => wpSs cf gb W cs s2 F) : wpSs cf gb W (.asg (.tp ps) false e :: cs) s F := h
theorem w_mov {j : Nat} (e : gv' s j = some v) (h : wpSs cf gb W cs (s.set i (some v)) F) : wpSs cf gb W (.mov i j :: cs) s F := oP_of (Q := fun v => wpSs cf gb W cs (s.set i (some v)) F) e h
theorem w_shr (h : wpSs cf gb W cs s F) : wpSs cf gb W (.shr i :: cs) s F := h
theorem w_aug {e : CE} (q : gv' s i = some x) (h : wpE cf gb e s fun y s1 => augP p x y fun z => wpSs cf gb W cs (s1.set i (some z)) F) : wpSs cf gb W (.aug i p e :: cs) s F := oP_of (Q := fun x => wpE cf gb e s fun y s1 => augP p x y fun z => wpSs cf gb W cs (s1.set i (some z)) F) q h
theorem w_setIx {k v : CE} (h : wpE cf gb v s fun w s1 => wpE cf gb k s1 fun y s2 => setP (gv' s2 i) y w fun z => wpSs cf gb W cs (s2.set i (some z)) F) : wpSs cf gb W (.setIx i k v :: cs) s F := h
theorem w_app {e : CE} {xs : List EV} (q : gv' s i = some (.lst xs)) (h : wpE cf gb e s fun v s1 => lstP (gv' s1 i) fun xs => xs.length < SZ ∧ wpSs cf gb W cs (s1.set i (some (.lst (xs ++ [v])))) F) : wpSs cf gb W (.app i e :: cs) s F := by
  show lstP (gv' s i) _
  rw [q]
  exact h
theorem w_ext {e : CE} {xs : List EV} (q : gv' s i = some (.lst xs)) (h : wpE cf gb e s fun v s1 => extP (gv' s1 i) v fun z => wpSs cf gb W cs (s1.set i (some z)) F) : wpSs cf gb W (.ext i e :: cs) s F := by
  show lstP (gv' s i) _
  rw [q]
  exact h
/-- an if: the rest of the block behind each branch -/
theorem w_ife {t : CE} {x y : List CS} (h : wpE cf gb t s fun v s1 => bP (truE v) (wpSs cf gb W x s1 fun fl s2 => match fl with
    | .nx => wpSs cf gb W cs s2 F
    | .brk => F .brk s2
    | .cnt => F .cnt s2
    | .ret v => F (.ret v) s2) (wpSs cf gb W y s1 fun fl s2 => match fl with
    | .nx => wpSs cf gb W cs s2 F
    | .brk => F .brk s2
    | .cnt => F .cnt s2
    | .ret v => F (.ret v) s2)) : wpSs cf gb W (.ife t x y :: cs) s F := h
theorem w_for {iv : List Sta} {q : Pt} {k : ItK} {it : List CE} {b : List CS} (h : wpEs cf gb it s fun ws s1 => oP (itE k ws) fun xs => wpF q (fun t R => wpSs cf gb W b t R) xs s1 fun fl s2 => match fl with
    | .nx => wpSs cf gb W cs s2 F
    | .brk => F .brk s2
    | .cnt => F .cnt s2
    | .ret v => F (.ret v) s2) : wpSs cf gb W (.for iv q k it b :: cs) s F := h
theorem w_whl {iv : List Sta} {t : CE} {b : List CS} (h : ∃ fl s1, whlL (fun s => ev cf gb t s) (fun s => exs cf gb W b s) W s = some (fl, s1) ∧ match fl with
    | .nx => wpSs cf gb W cs s1 F
    | .brk => F .brk s1
    | .cnt => F .cnt s1
    | .ret v => F (.ret v) s1) : wpSs cf gb W (.whl iv t b :: cs) s F := h
theorem w_try {b : List CS} (h : wpSs cf gb W b s fun fl s2 => match fl with
    | .nx => wpSs cf gb W cs s2 F
    | .brk => F .brk s2
    | .cnt => F .cnt s2
    | .ret v => F (.ret v) s2) : wpSs cf gb W (.tryr b :: cs) s F := h
/-- one statement apart -/
theorem w_seq {c : CS} (J : Env → Prop) (h : wpS cf gb W c s fun fl s1 => fl = .nx ∧ J s1) (k : ∀ s1, J s1 → wpSs cf gb W cs s1 F) : wpSs cf gb W (c :: cs) s F :=
  wpS_mono c s _ _ (fun fl s1 h => by
    obtain ⟨rfl, h⟩ := h
    exact k s1 h) h
end
/-! ### operators by values -/
section
variable {i j : Int} {Q : EV → Prop} {B : Bool → Prop} {b : Bool} {t f : Prop} {xs ys : List EV} {x y : EV} {s : List Nat}
theorem p_add (h : Q (.int (i + j))) : oP (opE .add (.int i) (.int j)) Q := h
theorem p_sub (h : Q (.int (i - j))) : oP (opE .sub (.int i) (.int j)) Q := h
theorem p_neg (h : Q (.int (-i))) : negP (.int i) Q := h
theorem p_eq (h : B (decide (i = j))) : oP (cmE .eq (.int i) (.int j)) B := h
theorem p_ne (h : B (!decide (i = j))) : oP (cmE .ne (.int i) (.int j)) B := h
theorem p_lt (h : B (decide (i < j))) : oP (cmE .lt (.int i) (.int j)) B := h
theorem p_gt (h : B (decide (j < i))) : oP (cmE .gt (.int i) (.int j)) B := h
theorem p_le (h : B (!decide (j < i))) : oP (cmE .le (.int i) (.int j)) B := h
theorem p_ge (h : B (!decide (i < j))) : oP (cmE .ge (.int i) (.int j)) B := h
theorem p_tru (h : B b) : oP (truE (.bl b)) B := h
theorem p_len (h : Q (.int xs.length)) : oP (biE .len [.lst xs]) Q := h
theorem p_lenT (h : Q (.int xs.length)) : oP (biE .len [.tup xs]) Q := h
theorem p_int (h : Q (.int i)) : oP (biE .int [.int i]) Q := h
theorem p_intB (h : Q (.int (if b then 1 else 0))) : oP (biE .int [.bl b]) Q := h
theorem p_list (h : Q (.lst xs)) : oP (biE .list [.lst xs]) Q := h
theorem p_listT (h : Q (.lst xs)) : oP (biE .list [.tup xs]) Q := h
theorem p_tuple (h : Q (.tup xs)) : oP (biE .tuple [.lst xs]) Q := h
theorem p_tupleT (h : Q (.tup xs)) : oP (biE .tuple [.tup xs]) Q := h
theorem p_abs (h : Q (.int (if i < 0 then -i else i))) : oP (biE .abs [.int i]) Q := h
theorem p_max2 (h : Q (.int (if j > i then j else i))) : oP (biE .max [.int i, .int j]) Q := h
theorem p_min2 (h : Q (.int (if j < i then j else i))) : oP (biE .min [.int i, .int j]) Q := h
theorem p_val {X : List EV → Prop} (h : X xs) : oP (itE .val [.lst xs]) X := h
theorem p_valT {X : List EV → Prop} (h : X xs) : oP (itE .val [.tup xs]) X := h
theorem p_valD {X : List EV → Prop} {t : Nat} {kvs : List (EV × EV)} (h : X (keysOf kvs)) : oP (itE .val [.dct t kvs]) X := h
theorem p_valS {X : List EV → Prop} (h : X (chars s)) : oP (itE .val [.str s]) X := h
theorem p_seq {X : List EV → Prop} (h : X xs) : oP (itE .seq [.lst xs]) X := h
theorem p_seqT {X : List EV → Prop} (h : X xs) : oP (itE .seq [.tup xs]) X := h
theorem p_enum {X : List EV → Prop} (h : X (enumL 0 xs)) : oP (itE .enum [.lst xs]) X := h
theorem p_zip {X : List EV → Prop} (h : X (zipL xs ys)) : oP (itE .zip [.lst xs, .lst ys]) X := h
theorem p_zipT {X : List EV → Prop} (h : X (zipL xs ys)) : oP (itE .zip [.tup xs, .tup ys]) X := h
theorem p_true (h : t) : bP (truE (.bl true)) t f := h
theorem p_false (h : f) : bP (truE (.bl false)) t f := h
theorem p_trueC (h : t) : bP (some true) t f := h
theorem p_falseC (h : f) : bP (some false) t f := h
theorem p_nt (h : f) : bP (truE (.bl (!true))) t f := h
theorem p_nf (h : t) : bP (truE (.bl (!false))) t f := h
theorem p_isN (h : B true) : oP (iscE .non .non) B := h
theorem p_isNT (h : B false) : oP (iscE (.tup xs) .non) B := h
theorem p_isNL (h : B false) : oP (iscE (.lst xs) .non) B := h
theorem p_isNI (h : B false) : oP (iscE (.int i) .non) B := h
theorem p_isNS (h : B false) : oP (iscE (.str s) .non) B := h
theorem p_isTT (h : B true) : oP (iscE (.bl true) (.bl true)) B := h
theorem p_isFF (h : B true) : oP (iscE (.bl false) (.bl false)) B := h
theorem p_isTF (h : B false) : oP (iscE (.bl true) (.bl false)) B := h
theorem p_isFT (h : B false) : oP (iscE (.bl false) (.bl true)) B := h
theorem p_isB {c : Bool} (h : B (decide (b = c))) : oP (iscE (.bl b) (.bl c)) B := h
theorem p_cons (h : t) : bP (truE (.lst (x :: xs))) t f := h
theorem p_nil (h : f) : bP (truE (.lst [])) t f := h
/-- a test -/
theorem p_bl (h1 : b = true → t) (h2 : b = false → f) : bP (truE (.bl b)) t f := bP_b rfl h1 h2
theorem p_dec {p : Prop} [Decidable p] (h1 : p → t) (h2 : ¬ p → f) : bP (truE (.bl (decide p))) t f := bP_b rfl (fun h => h1 (of_decide_eq_true h)) fun h => h2 (of_decide_eq_false h)
theorem p_ndec {p : Prop} [Decidable p] (h1 : ¬ p → t) (h2 : p → f) : bP (truE (.bl (!decide p))) t f := bP_b rfl (fun h => h1 (by simpa using h)) fun h => h2 (by simpa using h)
theorem p_lst (h1 : xs ≠ [] → t) (h2 : xs = [] → f) : bP (truE (.lst xs)) t f := by
  cases xs with
  | nil => exact h2 rfl
  | cons _ _ => exact h1 (by simp)
theorem p_setL {w : EV} {n : Int} {X : EV → Prop} {k : Nat} (e : ixN xs.length n = some k) (h : X (.lst (xs.set k w))) : setP (some (.lst xs)) (.int n) w X := oP_of (Q := fun j => X (.lst (xs.set j w))) e h
theorem p_setD {w : EV} {kvs : List (EV × EV)} {tt : Nat} {X : EV → Prop} (e : keyOk tt y = true) (e2 : kvs.length < SZ) (h : X (.dct tt (dPut kvs y w))) : setP (some (.dct tt kvs)) y w X := ⟨e, e2, h⟩
theorem p_app {X : List EV → Prop} (h : X xs) : lstP (some (.lst xs)) X := h
theorem p_ext {X : EV → Prop} (e : xs.length + ys.length ≤ SZ) (h : X (.lst (xs ++ ys))) : extP (some (.lst xs)) (.lst ys) X := ⟨e, h⟩
theorem p_augI {o : Op} (h : oP (opE o (.int i) (.int j)) Q) : augP o (.int i) (.int j) Q := h
theorem p_ix {k : EV} {z : EV} (e : ixE x k = some z) (h : Q z) : oP (ixE x k) Q := oP_of e h
theorem p_set {e : Env} {k : Nat} {w : EV} {X : EV → Prop} {z : EV} (q : gv' e k = some z) (h : setP (some z) y w X) : setP (gv' e k) y w X := by rw [q]; exact h
theorem p_lstP {e : Env} {k : Nat} {X : List EV → Prop} {z : EV} (q : gv' e k = some z) (h : lstP (some z) X) : lstP (gv' e k) X := by rw [q]; exact h
theorem p_extP {e : Env} {k : Nat} {X : EV → Prop} {z : EV} (q : gv' e k = some z) (h : extP (some z) y X) : extP (gv' e k) y X := by rw [q]; exact h
theorem p_popP {e : Env} {k : Nat} {vs : List EV} {X : EV → EV → Prop} {z : EV} (q : gv' e k = some z) (h : popP (some z) vs X) : popP (gv' e k) vs X := by rw [q]; exact h
theorem p_bind {p : Pt} {e t : Env} {X : Env → Prop} (q : bindP p x e = some t) (h : X t) : oP (bindP p x e) X := oP_of q h
theorem p_mod (h : 0 < j) (k : Q (.int (i % j))) : oP (opE .mod (.int i) (.int j)) Q := by
  have : opE .mod (.int i) (.int j) = some (.int (i % j)) := by
    show (if _ then _ else _) = _
    rw [if_pos (by simpa using h)]
  exact oP_of this k
theorem p_fdiv (h : 0 < j ∧ j < 1073741824) (k : Q (.int (i / j))) : oP (opE .fdiv (.int i) (.int j)) Q := by
  have : opE .fdiv (.int i) (.int j) = some (.int (i / j)) := by
    show (if _ then _ else _) = _
    rw [if_pos (by simp [divOk, h.1, h.2])]
  exact oP_of this k
theorem p_mul (h : (-(2 ^ 64) < i ∧ i < 2 ^ 64) ∨ (-(2 ^ 64) < j ∧ j < 2 ^ 64)) (k : Q (.int (i * j))) : oP (opE .mul (.int i) (.int j)) Q := by
  have : opE .mul (.int i) (.int j) = some (.int (i * j)) := by
    show (if _ then _ else _) = _
    rw [if_pos]
    simp only [lim64, Bool.or_eq_true, Bool.and_eq_true, decide_eq_true_eq]
    exact h
  exact oP_of this k
theorem p_sz {vs : List EV} {X : Prop} (h : Nat.ble vs.length SZ = true) (q : X) : vs.length ≤ SZ ∧ X := ⟨Nat.le_of_ble_eq_true h, q⟩
theorem p_con {v : EV} {X : Prop} (h : v.isCon = true) (q : X) : v.isCon = true ∧ X := ⟨h, q⟩
theorem p_addT (h : xs.length + ys.length ≤ SZ) (k : Q (.tup (xs ++ ys))) : oP (opE .add (.tup xs) (.tup ys)) Q := by
  have : opE .add (.tup xs) (.tup ys) = some (.tup (xs ++ ys)) := by
    show (if _ then _ else _) = _
    rw [if_pos h]
  exact oP_of this k
theorem p_addL (h : xs.length + ys.length ≤ SZ) (k : Q (.lst (xs ++ ys))) : oP (opE .add (.lst xs) (.lst ys)) Q := by
  have : opE .add (.lst xs) (.lst ys) = some (.lst (xs ++ ys)) := by
    show (if _ then _ else _) = _
    rw [if_pos h]
  exact oP_of this k
theorem p_slTo {n : Nat} (h : n ≤ xs.length) (k : Q (.tup (xs.take n))) : oP (slE (.tup xs) none (some (n : Int))) Q := by
  have : slE (.tup xs) none (some (n : Int)) = some (.tup (xs.take n)) := by
    show some (EV.tup (cut xs none (some (n : Int)))) = _
    rw [cut_to h]
  exact oP_of this k
theorem p_slFrom {n : Nat} (h : n ≤ xs.length) (k : Q (.tup (xs.drop n))) : oP (slE (.tup xs) (some (n : Int)) none) Q := by
  have : slE (.tup xs) (some (n : Int)) none = some (.tup (xs.drop n)) := by
    show some (EV.tup (cut xs (some (n : Int)) none)) = _
    rw [cut_from h]
  exact oP_of this k
theorem p_ixT {n : Nat} {z : EV} (h : xs[n]? = some z) (k : Q z) : oP (ixE (.tup xs) (.int (n : Int))) Q := by
  have : ixE (.tup xs) (.int (n : Int)) = some z := by
    show atE xs (n : Int) = _
    rw [atE_nat (by
      rcases Nat.lt_or_ge n xs.length with q | q
      · exact q
      · rw [List.getElem?_eq_none q] at h; cases h)]
    exact h
  exact oP_of this k
theorem p_ixL {n : Nat} {z : EV} (h : xs[n]? = some z) (k : Q z) : oP (ixE (.lst xs) (.int (n : Int))) Q := by
  have : ixE (.lst xs) (.int (n : Int)) = some z := by
    show atE xs (n : Int) = _
    rw [atE_nat (by
      rcases Nat.lt_or_ge n xs.length with q | q
      · exact q
      · rw [List.getElem?_eq_none q] at h; cases h)]
    exact h
  exact oP_of this k
theorem p_ifT {b : Bool} {P' R' : Prop} (h : P') : (if true = true then P' else R') := by rw [if_pos rfl]; exact h
theorem p_ifF {P' R' : Prop} (h : R') : (if false = true then P' else R') := by rw [if_neg (by simp)]; exact h
end
/-! ### comprehensions over lists of one kind -/
section
variable {α : Type} {enc : α → EV} {l : List α} {tg : Pt} {ifs : List CE} {e : CE} {cf : Cf} {gb : Gb} {s : Env} {Q : List EV → Env → Prop}
theorem wpC_map (p : α → Bool) (f : α → EV) (J : Env → Prop)
    (step : ∀ x, x ∈ l → ∀ s, J s → oP (bindP tg (enc x) s) fun s1 => wpTs cf gb ifs s1 fun b s2 => b = p x ∧ if p x then wpE cf gb e s2 fun y s3 => y = f x ∧ J s3 else J s2)
    (start : J s) (fin : ∀ s, J s → Q ((l.filter p).map f) s) : wpC (fun x t R => oP (bindP tg x t) fun t1 => wpTs cf gb ifs t1 fun b t2 => if b then wpE cf gb e t2 fun y t3 => R (some y) t3 else R none t2) (l.map enc) s Q := by
  refine wpC_inv (Q := Q) (fun acc post s => (∃ pre post', l = pre ++ post' ∧ post = post'.map enc ∧ acc = (pre.filter p).map f) ∧ J s) (fun acc x post s ⟨⟨pre, post', e1, e2, e3⟩, h⟩ => ?_) (fun acc s ⟨⟨pre, post', e1, e2, e3⟩, h⟩ => ?_) (l.map enc) [] s ⟨⟨[], l, rfl, rfl, rfl⟩, start⟩
  · cases post' with
    | nil => cases e2
    | cons a post' =>
      cases e2
      refine oP_mono (step a (by rw [e1]; simp) s h) fun s1 h => wpTs_mono ifs s1 _ _ (fun b s2 h => ?_) h
      obtain ⟨rfl, h⟩ := h
      cases hb : p a with
      | true =>
        rw [hb] at h
        rw [if_pos rfl] at h ⊢
        exact wpE_mono e s2 _ _ (fun y s3 h => ⟨⟨pre ++ [a], post', by rw [e1]; simp, rfl, by rw [e3, h.1]; simp [hb]⟩, h.2⟩) h
      | false =>
        rw [hb] at h
        rw [if_neg (by simp)] at h ⊢
        exact ⟨⟨pre ++ [a], post', by rw [e1]; simp, rfl, by rw [e3]; simp [hb]⟩, h⟩
  · have : post' = [] := by
      cases post' with
      | nil => rfl
      | cons _ _ => cases e2
    subst this
    rw [List.append_nil] at e1
    rw [e3, ← e1]
    exact fin s h
theorem wpC_map0 (f : α → EV) (J : Env → Prop)
    (step : ∀ x, x ∈ l → ∀ s, J s → oP (bindP tg (enc x) s) fun s1 => wpE cf gb e s1 fun y s3 => y = f x ∧ J s3)
    (start : J s) (fin : ∀ s, J s → Q (l.map f) s) : wpC (fun x t R => oP (bindP tg x t) fun t1 => wpTs cf gb [] t1 fun b t2 => if b then wpE cf gb e t2 fun y t3 => R (some y) t3 else R none t2) (l.map enc) s Q := by
  refine wpC_map (fun _ => true) f J (fun x hx s h => oP_mono (step x hx s h) fun s1 h => ?_) start fun s h => ?_
  · exact ⟨rfl, by rw [if_pos rfl]; exact h⟩
  · have := fin s h
    rw [List.filter_eq_self.mpr (fun _ _ => rfl)]
    exact this
/-- a walk over such a list, with an invariant over the part taken -/
theorem wpF_map {p : Pt} {b : List CS} {F : Fl → Env → Prop} {W : Nat} (I : List α → List α → Env → Prop)
    (step : ∀ pre x post s, l = pre ++ x :: post → I pre (x :: post) s → oP (bindP p (enc x) s) fun s1 => wpSs cf gb W b s1 fun fl s2 => match fl with
      | .nx => I (pre ++ [x]) post s2
      | .cnt => I (pre ++ [x]) post s2
      | .brk => F .nx s2
      | .ret v => F (.ret v) s2) (fin : ∀ s, I l [] s → F .nx s) (start : I [] l s) : wpF p (fun t R => wpSs cf gb W b t R) (l.map enc) s F := by
  refine wpF_inv (fun pre post s => ∃ pre' post', l = pre' ++ post' ∧ post = post'.map enc ∧ I pre' post' s) (fun pre x post s ⟨pre', post', e1, e2, h⟩ => ?_) (fun pre s ⟨pre', post', e1, e2, h⟩ => ?_) (l.map enc) [] s ⟨[], l, rfl, rfl, start⟩
  · cases post' with
    | nil => cases e2
    | cons a post' =>
      cases e2
      refine oP_mono (step pre' a post' s e1 h) fun s1 h => wpSs_mono b s1 _ _ (fun fl s2 h => ?_) h
      cases fl with
      | nx => exact ⟨pre' ++ [a], post', by rw [e1]; simp, rfl, h⟩
      | cnt => exact ⟨pre' ++ [a], post', by rw [e1]; simp, rfl, h⟩
      | brk => exact h
      | ret v => exact h
  · have : post' = [] := by
      cases post' with
      | nil => rfl
      | cons _ _ => cases e2
    subst this
    rw [List.append_nil] at e1
    rw [← e1] at h
    exact fin s h
end
end Ev
end

local macro_rules | `(tactic| tm_at "ev") => `(tactic| (repeat (first | with_reducible refine Ev.w_lit ?_ | ((with_reducible refine Ev.w_var (v := ?_) ?_ ?_); rotate_left; exact rfl) | with_reducible refine Ev.w_cons ?_ | with_reducible refine Ev.w_nil ?_ | with_reducible refine Ev.w_op ?_ | with_reducible refine Ev.w_cmp ?_ | with_reducible refine Ev.w_ix ?_ | with_reducible refine Ev.w_bi ?_ | with_reducible refine Ev.w_call ?_ | with_reducible refine Ev.w_tup ?_ | with_reducible refine Ev.w_lst ?_ | with_reducible refine Ev.w_dct ?_ | with_reducible refine Ev.w_neg ?_ | with_reducible refine Ev.w_chn ?_ | with_reducible refine Ev.w_iscT ?_ | with_reducible refine Ev.w_iscF ?_ | with_reducible refine Ev.w_and ?_ | with_reducible refine Ev.w_or ?_ | with_reducible refine Ev.w_not ?_ | with_reducible refine Ev.w_ite ?_ | with_reducible refine Ev.w_sl0 ?_ | with_reducible refine Ev.w_sl1 ?_ | with_reducible refine Ev.w_sl2 ?_ | with_reducible refine Ev.w_sl3 ?_ | with_reducible refine Ev.w_met ?_ | with_reducible refine Ev.w_pop ?_ | with_reducible refine Ev.w_comp ?_ | with_reducible refine Ev.w_tnil ?_ | with_reducible refine Ev.w_tcons ?_ | with_reducible refine Ev.w_end ?_ | with_reducible refine Ev.w_pass ?_ | with_reducible refine Ev.w_brk ?_ | with_reducible refine Ev.w_cnt ?_ | with_reducible refine Ev.w_ret ?_ | with_reducible refine Ev.w_retO ?_ | with_reducible refine Ev.w_expr ?_ | with_reducible refine Ev.w_asg ?_ | with_reducible refine Ev.w_asgO ?_ | with_reducible refine Ev.w_asgP ?_ | with_reducible refine Ev.w_shr ?_ | ((with_reducible refine Ev.w_mov (v := ?_) ?_ ?_); rotate_left; exact rfl) | ((with_reducible refine Ev.w_aug (x := ?_) ?_ ?_); rotate_left; exact rfl) | with_reducible refine Ev.w_setIx ?_ | ((with_reducible refine Ev.w_app (xs := ?_) ?_ ?_); rotate_left; exact rfl) | ((with_reducible refine Ev.w_ext (xs := ?_) ?_ ?_); rotate_left; exact rfl) | with_reducible refine Ev.w_ife ?_ | with_reducible refine Ev.w_for ?_ | with_reducible refine Ev.w_whl ?_ | with_reducible refine Ev.w_try ?_ | ((with_reducible refine Ev.w_glb (v := ?_) ?_ ?_); rotate_left; exact rfl) | with_reducible refine Ev.iP_int ?_ | with_reducible refine Ev.p_add ?_ | with_reducible refine Ev.p_sub ?_ | with_reducible refine Ev.p_neg ?_ | with_reducible refine Ev.p_eq ?_ | with_reducible refine Ev.p_ne ?_ | with_reducible refine Ev.p_lt ?_ | with_reducible refine Ev.p_gt ?_ | with_reducible refine Ev.p_le ?_ | with_reducible refine Ev.p_ge ?_ | with_reducible refine Ev.p_tru ?_ | with_reducible refine Ev.p_len ?_ | with_reducible refine Ev.p_lenT ?_ | with_reducible refine Ev.p_int ?_ | with_reducible refine Ev.p_intB ?_ | with_reducible refine Ev.p_list ?_ | with_reducible refine Ev.p_listT ?_ | with_reducible refine Ev.p_tuple ?_ | with_reducible refine Ev.p_tupleT ?_ | with_reducible refine Ev.p_abs ?_ | with_reducible refine Ev.p_max2 ?_ | with_reducible refine Ev.p_min2 ?_ | with_reducible refine Ev.p_val ?_ | with_reducible refine Ev.p_valT ?_ | with_reducible refine Ev.p_valD ?_ | with_reducible refine Ev.p_valS ?_ | with_reducible refine Ev.p_seq ?_ | with_reducible refine Ev.p_seqT ?_ | with_reducible refine Ev.p_enum ?_ | with_reducible refine Ev.p_zip ?_ | with_reducible refine Ev.p_zipT ?_ | with_reducible refine Ev.p_true ?_ | with_reducible refine Ev.p_false ?_ | with_reducible refine Ev.p_trueC ?_ | with_reducible refine Ev.p_falseC ?_ | with_reducible refine Ev.p_nt ?_ | with_reducible refine Ev.p_nf ?_ | with_reducible refine Ev.p_isN ?_ | with_reducible refine Ev.p_isNT ?_ | with_reducible refine Ev.p_isNL ?_ | with_reducible refine Ev.p_isNI ?_ | with_reducible refine Ev.p_isNS ?_ | with_reducible refine Ev.p_isTT ?_ | with_reducible refine Ev.p_isFF ?_ | with_reducible refine Ev.p_isTF ?_ | with_reducible refine Ev.p_isFT ?_ | with_reducible refine Ev.p_isB ?_ | with_reducible refine Ev.p_cons ?_ | with_reducible refine Ev.p_nil ?_ | with_reducible refine Ev.p_app ?_ | with_reducible refine Ev.p_augI ?_ | with_reducible refine Ev.p_ifT ?_ | with_reducible refine Ev.p_ifF ?_ | ((with_reducible refine Ev.p_ix (z := ?_) ?_ ?_); rotate_left; exact rfl) | ((with_reducible refine Ev.p_set (z := ?_) ?_ ?_); rotate_left; exact rfl) | ((with_reducible refine Ev.p_lstP (z := ?_) ?_ ?_); rotate_left; exact rfl) | ((with_reducible refine Ev.p_extP (z := ?_) ?_ ?_); rotate_left; exact rfl) | ((with_reducible refine Ev.p_popP (z := ?_) ?_ ?_); rotate_left; exact rfl) | ((with_reducible refine Ev.p_bind (t := ?_) ?_ ?_); rotate_left; exact rfl) | ((with_reducible refine Ev.p_setL (k := ?_) ?_ ?_); rotate_left; exact rfl) | ((with_reducible refine Ev.p_sz ?_ ?_); exact rfl) | ((with_reducible refine Ev.p_con ?_ ?_); exact rfl) | ((with_reducible refine Ev.p_mod ?_ ?_); omega) | ((with_reducible refine Ev.p_fdiv ?_ ?_); omega) | ((with_reducible refine Ev.p_mul ?_ ?_); omega))))
section
set_option linter.all false
set_option maxRecDepth 100000
/-! Draw: what every law draws by. -/
namespace Ev
def streamFn : Fn := ⟨3, [0], [
  .asg (.nm 1) false (.lit (.int 17)),
  .for [.S, .S, .N] (.nm 2) .val [(.var 0)]
    [
    .asg (.nm 1) false (.op .mod (.bi .int [(.op .add (.op .add (.op .mul (.var 1) (.lit (.int 48271))) (.op .mod (.bi .int [(.var 2)]) (.lit (.int 65521)))) (.lit (.int 1)))]) (.lit (.int 2147483647)))],
  .ret false (.lst [(.bi .list [(.var 0)]), (.lit (.int 0)), (.lit (.int 0)), (.var 1)])]⟩
def drawFn : Fn := ⟨3, [2, 0], [
  .ife (.and (.cmp .eq (.ix (.var 0) (.lit (.int 1))) (.lit (.int 0))) (.cmp .lt (.ix (.var 0) (.lit (.int 2))) (.bi .len [(.ix (.var 0) (.lit (.int 0)))])))
    [
    .setIx 0 (.lit (.int 1)) (.bi .abs [(.bi .int [(.ix (.ix (.var 0) (.lit (.int 0))) (.ix (.var 0) (.lit (.int 2))))])]),
    .setIx 0 (.lit (.int 2)) (.op .add (.ix (.var 0) (.lit (.int 2))) (.lit (.int 1)))]
    [],
  .ife (.cmp .eq (.ix (.var 0) (.lit (.int 1))) (.lit (.int 0)))
    [
    .setIx 0 (.lit (.int 3)) (.op .mod (.bi .int [(.op .add (.op .mul (.ix (.var 0) (.lit (.int 3))) (.lit (.int 48271))) (.lit (.int 11)))]) (.lit (.int 2147483647))),
    .ret false (.op .mod (.bi .int [(.op .fdiv (.ix (.var 0) (.lit (.int 3))) (.lit (.int 97)))]) (.var 1))]
    [],
  .asg (.nm 2) false (.op .mod (.bi .int [(.ix (.var 0) (.lit (.int 1)))]) (.var 1)),
  .setIx 0 (.lit (.int 1)) (.op .fdiv (.ix (.var 0) (.lit (.int 1))) (.var 1)),
  .ret false (.var 2)]⟩
def pickFn (draw : Nat) : Fn := ⟨2, [2, 0], [
  .ret false (.ix (.var 1) (.call draw [some 0, none] [(.var 0), (.bi .len [(.var 1)])]))]⟩
abbrev StmV (ns : List Int) (a b c : Int) : EV := .lst [.lst (intsE ns), .int a, .int b, .int c]
def Stm (e : EV) : Prop := ∃ ns a b c, e = StmV ns a b c ∧ 0 ≤ a ∧ 0 ≤ b ∧ 0 ≤ c ∧ c < 2 ^ 64
theorem intsE_len : ∀ ns, (intsE ns).length = ns.length
  | [] => rfl
  | n :: ns => by rw [intsE, List.length_cons, intsE_len ns, List.length_cons]
theorem intsE_at : ∀ (ns : List Int) (i : Nat), i < ns.length → ∃ n, (intsE ns)[i]? = some (.int n)
  | [], _, h => by simp at h
  | n :: ns, 0, _ => ⟨n, rfl⟩
  | n :: ns, i + 1, h => by
    obtain ⟨m, e⟩ := intsE_at ns i (by simpa using h)
    exact ⟨m, by rw [intsE, List.getElem?_cons_succ]; exact e⟩
section
variable {Pg : List Fn} {gb : Gb} {W d f : Nat}
theorem draw_ok (hF : Pg[f]? = some drawFn) {e : EV} (hs : Stm e) {m : Nat} (h0 : 0 < m) (h1 : m < 1073741824) : ∃ (i : Nat) (e' : EV), run Pg gb W (d + 1) f [e, .int m] = some (.int i, [e']) ∧ i < m ∧ Stm e' := by
  obtain ⟨ns, a, b, c, rfl, ha, hb, hc, hc2⟩ := hs
  -- the first part: a new number
  have part2 : ∀ a b : Int, 0 ≤ a → 0 ≤ b → wpSs (run Pg gb W d) gb W (drawFn.body.drop 1) [some (StmV ns a b c), some (.int m), none] fun fl s => match fl with
      | .ret v => ∃ (i : Nat) (e' : EV), v = .int i ∧ ioOf 0 [2, 0] s = [e'] ∧ i < m ∧ Stm e'
      | _ => False := fun a b ha hb => by
    show wpSs _ _ _ [_, _, _, _] _ _
    tm_at "ev"
    refine p_dec (fun h => ?_) fun h => ?_
    · subst h
      tm_at "ev"
      have k1 : 0 ≤ (c * 48271 + 11) % 2147483647 := Int.emod_nonneg _ (by decide)
      have k2 : (c * 48271 + 11) % 2147483647 < 2147483647 := Int.emod_lt_of_pos _ (by decide)
      have k3 : 0 ≤ (c * 48271 + 11) % 2147483647 / 97 % (m : Int) := Int.emod_nonneg _ (by omega)
      have k4 : (c * 48271 + 11) % 2147483647 / 97 % (m : Int) < m := Int.emod_lt_of_pos _ (by omega)
      exact ⟨((c * 48271 + 11) % 2147483647 / 97 % (m : Int)).toNat, StmV ns 0 b ((c * 48271 + 11) % 2147483647), by rw [Int.toNat_of_nonneg k3], rfl, by omega, ⟨_, _, _, _, rfl, by omega, hb, k1, by omega⟩⟩
    · tm_at "ev"
      have k3 : 0 ≤ a % (m : Int) := Int.emod_nonneg _ (by omega)
      have k4 : a % (m : Int) < m := Int.emod_lt_of_pos _ (by omega)
      have k5 : 0 ≤ a / (m : Int) := Int.ediv_nonneg ha (by omega)
      exact ⟨(a % (m : Int)).toNat, StmV ns (a / (m : Int)) b c, by rw [Int.toNat_of_nonneg k3], rfl, by omega, ⟨_, _, _, _, rfl, k5, hb, hc, hc2⟩⟩
  have whole : wpSs (run Pg gb W d) gb W drawFn.body [some (StmV ns a b c), some (.int m), none] fun fl s => match fl with
      | .ret v => ∃ (i : Nat) (e' : EV), v = .int i ∧ ioOf 0 [2, 0] s = [e'] ∧ i < m ∧ Stm e'
      | _ => False := by
    show wpSs _ _ _ [_, _, _, _, _] _ _
    tm_at "ev"
    refine p_dec (fun h => ?_) fun h => ?_
    · subst h
      tm_at "ev"
      refine p_dec (fun hl => ?_) fun hl => ?_
      · tm_at "ev"
        have hbn : b = (b.toNat : Int) := (Int.toNat_of_nonneg hb).symm
        obtain ⟨n, hn⟩ := intsE_at ns b.toNat (by rw [intsE_len] at hl; omega)
        refine p_ix (z := .int n) (by show atE (intsE ns) b = _; rw [hbn, atE_nat (by omega)]; exact hn) ?_
        tm_at "ev"
        exact part2 (if n < 0 then -n else n) (b + 1) (by split <;> omega) (by omega)
      · tm_at "ev"
        exact part2 0 b (by omega) hb
    · tm_at "ev"
      refine p_dec (fun h' => absurd h' h) fun _ => ?_
      tm_at "ev"
      exact part2 a b ha hb
  obtain ⟨fl, s, e, h⟩ := wpSs_sound _ _ _ whole
  cases fl with
  | ret v =>
    obtain ⟨i, e', rfl, q, hi, hs⟩ := h
    refine ⟨i, e', ?_, hi, hs⟩
    rw [run]
    simp only [hF]
    have hc : chkE drawFn.md [StmV ns a b c, .int m] = true := rfl
    have e : exs (run Pg gb W d) gb W drawFn.body (startE drawFn.n [StmV ns a b c, .int m]) = some (.ret (.int (i : Int)), s) := e
    have q : ioOf 0 drawFn.md s = [e'] := q
    simp only [hc, if_true, e, q]
  | nx => exact h.elim
  | brk => exact h.elim
  | cnt => exact h.elim
theorem pick_ok {g : Nat} (hF : Pg[f]? = some drawFn) (hG : Pg[g]? = some (pickFn f)) {e : EV} (hs : Stm e) {xs : List EV} (h0 : 0 < xs.length) (h1 : xs.length < 1073741824) : ∃ (i : Nat) (x e' : EV), run Pg gb W (d + 2) g [e, .lst xs] = some (x, [e']) ∧ xs[i]? = some x ∧ Stm e' := by
  obtain ⟨i, e', hr, hi, hs'⟩ := draw_ok (gb := gb) (W := W) (d := d) hF hs h0 h1
  have hx : xs[i]? = some xs[i] := List.getElem?_eq_getElem hi
  refine ⟨i, xs[i], e', ?_, hx, hs'⟩
  obtain ⟨ns, a, b, c, rfl, _⟩ := hs
  obtain ⟨ns', a', b', c', rfl, _⟩ := hs'
  refine run_eq hG rfl ?_
  show wpSs _ _ _ [_] _ _
  tm_at "ev"
  refine ⟨.int i, [StmV ns' a' b' c'], hr, ?_⟩
  tm_at "ev"
  refine oP_of (z := xs[i]) (by show atE xs (i : Int) = _; rw [atE_nat hi]; exact hx) ?_
  exact ⟨.inl rfl, rfl⟩
theorem stream_ok (hF : Pg[f]? = some streamFn) (ns : List Int) : ∃ e, run Pg gb W (d + 1) f [.scr ns] = some (e, []) ∧ Stm e := by
  have whole : wpSs (run Pg gb W d) gb W streamFn.body [some (.scr ns), none, none] fun fl s => match fl with
      | .ret v => ioOf 0 [0] s = [] ∧ Stm v
      | _ => False := by
    show wpSs _ _ _ [_, _, _] _ _
    tm_at "ev"
    refine wpF_inv (fun _ post s => (∃ l, post = intsE l) ∧ ∃ (c : Int) (u : Option EV), s = [some (.scr ns), some (.int c), u] ∧ 0 ≤ c ∧ c < 2 ^ 64) ?_ ?_ _ [] _ ⟨⟨ns, rfl⟩, 17, none, rfl, by decide, by decide⟩
    · rintro pre x post _ ⟨⟨l, hl⟩, c, u, rfl, h1, h2⟩
      cases l with
      | nil => cases hl
      | cons n l =>
        rw [intsE] at hl
        cases hl
        tm_at "ev"
        refine ⟨⟨l, rfl⟩, _, _, rfl, Int.emod_nonneg _ (by decide), ?_⟩
        have : (c * 48271 + n % 65521 + 1) % 2147483647 < 2147483647 := Int.emod_lt_of_pos _ (by decide)
        omega
    · rintro pre _ ⟨_, c, u, rfl, h1, h2⟩
      tm_at "ev"
      refine ⟨by show 4 ≤ SZ; decide, ?_⟩
      tm_at "ev"
      exact ⟨rfl, ⟨ns, 0, 0, c, rfl, by decide, by decide, h1, h2⟩⟩
  obtain ⟨fl, s, e, h⟩ := wpSs_sound _ _ _ whole
  cases fl with
  | ret v =>
    refine ⟨v, ?_, h.2⟩
    rw [run]
    simp only [hF]
    have e : exs (run Pg gb W d) gb W streamFn.body (startE streamFn.n [.scr ns]) = some (.ret v, s) := e
    have q : ioOf 0 streamFn.md s = [] := h.1
    have hc : chkE streamFn.md [.scr ns] = true := rfl
    simp only [hc, if_true, e, q]
  | nx => exact h.elim
  | brk => exact h.elim
  | cnt => exact h.elim
end
end Ev
end

section
set_option linter.all false
set_option maxRecDepth 100000
/-! Ps: texts by values. -/
namespace Ev
def ChOk (s : List Nat) : Prop := (∀ c ∈ s, c < 1114112) ∧ s.length ≤ 100000
theorem ChOk.take {s : List Nat} (h : ChOk s) (n : Nat) : ChOk (s.take n) := ⟨fun c hc => h.1 c (List.mem_of_mem_take hc), by have := h.2; rw [List.length_take]; omega⟩
theorem ChOk.drop {s : List Nat} (h : ChOk s) (n : Nat) : ChOk (s.drop n) := ⟨fun c hc => h.1 c (List.mem_of_mem_drop hc), by have := h.2; rw [List.length_drop]; omega⟩
theorem ChOk.app {s t : List Nat} (h : ChOk s) (k : ChOk t) (hl : s.length + t.length ≤ 100000) : ChOk (s ++ t) := ⟨fun c hc => (List.mem_append.mp hc).elim (h.1 c) (k.1 c), by rw [List.length_append]; exact hl⟩
theorem ChOk.sz {s : List Nat} (h : ChOk s) : s.length ≤ SZ := by have := h.2; have : SZ = 16777216 := rfl; omega
theorem ChOk.plain {s : List Nat} (h : ChOk s) : Ev.plain (.str s) = true := List.all_eq_true.mpr fun c hc => by simpa using h.1 c hc
theorem ChOk.okD {s : List Nat} (h : ChOk s) : Ev.okD (.str s) = true := by
  unfold Ev.okD
  rw [h.plain]
  rfl
theorem cut_to' {α : Type} {xs : List α} {n : Nat} : cut xs none (some (n : Int)) = xs.take n := by
  unfold cut
  show (xs.drop 0).take ((if (n : Int) < 0 then ((n : Int) + (xs.length : Int)).toNat else min (n : Int).toNat xs.length) - 0) = _
  rw [if_neg (by omega), Int.toNat_natCast, Nat.sub_zero, List.drop_zero]
  rcases Nat.le_total n xs.length with h | h
  · rw [Nat.min_eq_left h]
  · rw [Nat.min_eq_right h, List.take_of_length_le (Nat.le_refl _), List.take_of_length_le h]
theorem cut_from' {α : Type} {xs : List α} {n : Nat} : cut xs (some (n : Int)) none = xs.drop n := by
  unfold cut
  show (xs.drop (if (n : Int) < 0 then ((n : Int) + (xs.length : Int)).toNat else min (n : Int).toNat xs.length)).take (xs.length - (if (n : Int) < 0 then ((n : Int) + (xs.length : Int)).toNat else min (n : Int).toNat xs.length)) = _
  rw [if_neg (by omega), Int.toNat_natCast]
  rcases Nat.le_total n xs.length with h | h
  · rw [Nat.min_eq_left h, List.take_of_length_le (by rw [List.length_drop]; exact Nat.le_refl _)]
  · rw [Nat.min_eq_right h, List.drop_of_length_le (Nat.le_refl _), List.drop_of_length_le h]
    simp
theorem cut_mid {α : Type} {xs : List α} {a b : Nat} : cut xs (some (a : Int)) (some (b : Int)) = (xs.drop a).take (b - a) := by
  unfold cut
  show (xs.drop (if (a : Int) < 0 then ((a : Int) + (xs.length : Int)).toNat else min (a : Int).toNat xs.length)).take ((if (b : Int) < 0 then ((b : Int) + (xs.length : Int)).toNat else min (b : Int).toNat xs.length) - (if (a : Int) < 0 then ((a : Int) + (xs.length : Int)).toNat else min (a : Int).toNat xs.length)) = _
  rw [if_neg (by omega), if_neg (by omega), Int.toNat_natCast, Int.toNat_natCast]
  rcases Nat.le_total a xs.length with h | h
  · rw [Nat.min_eq_left h]
    rcases Nat.le_total b xs.length with k | k
    · rw [Nat.min_eq_left k]
    · rw [Nat.min_eq_right k, List.take_of_length_le (by rw [List.length_drop]; exact Nat.le_refl _), List.take_of_length_le (by rw [List.length_drop]; omega)]
  · rw [Nat.min_eq_right h, List.drop_of_length_le (Nat.le_refl _), List.drop_of_length_le h]
    simp
section
variable {s t : List Nat} {Q : EV → Prop} {B : Bool → Prop} {P' R' : Prop} {xs ys : List EV}
theorem p_slS {a b : Nat} (h : ChOk s) (k : Q (.str ((s.drop a).take (b - a)))) : oP (slE (.str s) (some (a : Int)) (some (b : Int))) Q := by
  have : slE (.str s) (some (a : Int)) (some (b : Int)) = some (.str ((s.drop a).take (b - a))) := by
    show (if s.length ≤ SZ then some (EV.str (cut s _ _)) else none) = _
    rw [if_pos h.sz, cut_mid]
  exact oP_of this k
theorem p_slSto {n : Nat} (h : ChOk s) (k : Q (.str (s.take n))) : oP (slE (.str s) none (some (n : Int))) Q := by
  have : slE (.str s) none (some (n : Int)) = some (.str (s.take n)) := by
    show (if s.length ≤ SZ then some (EV.str (cut s _ _)) else none) = _
    rw [if_pos h.sz, cut_to']
  exact oP_of this k
theorem p_slSfrom {n : Nat} (h : ChOk s) (k : Q (.str (s.drop n))) : oP (slE (.str s) (some (n : Int)) none) Q := by
  have : slE (.str s) (some (n : Int)) none = some (.str (s.drop n)) := by
    show (if s.length ≤ SZ then some (EV.str (cut s _ _)) else none) = _
    rw [if_pos h.sz, cut_from']
  exact oP_of this k
theorem p_slLto {n : Nat} (k : Q (.lst (xs.take n))) : oP (slE (.lst xs) none (some (n : Int))) Q := by
  have : slE (.lst xs) none (some (n : Int)) = some (.lst (xs.take n)) := by
    show some (EV.lst (cut xs _ _)) = _
    rw [cut_to']
  exact oP_of this k
theorem p_slLfrom {n : Nat} (k : Q (.lst (xs.drop n))) : oP (slE (.lst xs) (some (n : Int)) none) Q := by
  have : slE (.lst xs) (some (n : Int)) none = some (.lst (xs.drop n)) := by
    show some (EV.lst (cut xs _ _)) = _
    rw [cut_from']
  exact oP_of this k
theorem p_lenS (h : ChOk s) (k : Q (.int s.length)) : oP (biE .len [.str s]) Q := by
  have : biE .len [.str s] = some (.int s.length) := by
    show (if s.length ≤ SZ then some (EV.int s.length) else none) = _
    rw [if_pos h.sz]
  exact oP_of this k
theorem p_addS (h : s.length + t.length ≤ 100000) (k : Q (.str (s ++ t))) : oP (opE .add (.str s) (.str t)) Q := by
  have hz : SZ = 16777216 := rfl
  have : opE .add (.str s) (.str t) = some (.str (s ++ t)) := by
    show (if s.length + t.length ≤ SZ then some (EV.str (s ++ t)) else none) = _
    rw [if_pos (by omega)]
  exact oP_of this k
theorem p_eqS (h1 : ChOk s) (h2 : ChOk t) (k : B (decide (s = t))) : oP (cmE .eq (.str s) (.str t)) B := by
  have : cmE .eq (.str s) (.str t) = some (decide (s = t)) := by
    show (if okD (.str s) && okD (.str t) then some (eqE (.str s) (.str t)) else none) = _
    rw [h1.okD, h2.okD]
    rfl
  exact oP_of this k
theorem p_neS (h1 : ChOk s) (h2 : ChOk t) (k : B (!decide (s = t))) : oP (cmE .ne (.str s) (.str t)) B := by
  have : cmE .ne (.str s) (.str t) = some (!decide (s = t)) := by
    show (if okD (.str s) && okD (.str t) then some (!eqE (.str s) (.str t)) else none) = _
    rw [h1.okD, h2.okD]
    rfl
  exact oP_of this k
theorem p_inS (k : B (isSub s t)) : oP (cmE .isin (.str s) (.str t)) B := k
theorem p_trS (h : ChOk s) (k1 : s ≠ [] → P') (k2 : s = [] → R') : bP (truE (.str s)) P' R' := by
  have : truE (.str s) = some (!s.isEmpty) := by
    show (if s.length ≤ SZ then some (!s.isEmpty) else none) = _
    rw [if_pos h.sz]
  refine bP_b this (fun h => k1 fun e => by rw [e] at h; simp at h) fun h => k2 (by
    cases s with
    | nil => rfl
    | cons _ _ => simp at h)
end
end Ev
end

section
set_option maxRecDepth 100000
namespace K68
open Ev
/-- _law_stream(script): 0 script, 1 mixed, 2 cell -/
def b_law_stream : List CS :=
  [
  .asg (.nm 1) false (.lit (.int 17)),
  .for [.S, .S, .N] (.nm 2) .val [(.var 0)]
    [
    .asg (.nm 1) false (.op .mod (.bi .int [(.op .add (.op .add (.op .mul (.var 1) (.lit (.int 48271))) (.op .mod (.bi .int [(.var 2)]) (.lit (.int 65521)))) (.lit (.int 1)))]) (.lit (.int 2147483647)))],
  .ret false (.lst [(.bi .list [(.var 0)]), (.lit (.int 0)), (.lit (.int 0)), (.var 1)])]
def f_law_stream : Fn := ⟨3, [0], b_law_stream⟩
/-- _law_draw(stream, many): 0 stream, 1 many, 2 value -/
def b_law_draw : List CS :=
  [
  .ife (.and (.cmp .eq (.ix (.var 0) (.lit (.int 1))) (.lit (.int 0))) (.cmp .lt (.ix (.var 0) (.lit (.int 2))) (.bi .len [(.ix (.var 0) (.lit (.int 0)))])))
    [
    .setIx 0 (.lit (.int 1)) (.bi .abs [(.bi .int [(.ix (.ix (.var 0) (.lit (.int 0))) (.ix (.var 0) (.lit (.int 2))))])]),
    .setIx 0 (.lit (.int 2)) (.op .add (.ix (.var 0) (.lit (.int 2))) (.lit (.int 1)))]
    [],
  .ife (.cmp .eq (.ix (.var 0) (.lit (.int 1))) (.lit (.int 0)))
    [
    .setIx 0 (.lit (.int 3)) (.op .mod (.bi .int [(.op .add (.op .mul (.ix (.var 0) (.lit (.int 3))) (.lit (.int 48271))) (.lit (.int 11)))]) (.lit (.int 2147483647))),
    .ret false (.op .mod (.bi .int [(.op .fdiv (.ix (.var 0) (.lit (.int 3))) (.lit (.int 97)))]) (.var 1))]
    [],
  .asg (.nm 2) false (.op .mod (.bi .int [(.ix (.var 0) (.lit (.int 1)))]) (.var 1)),
  .setIx 0 (.lit (.int 1)) (.op .fdiv (.ix (.var 0) (.lit (.int 1))) (.var 1)),
  .ret false (.var 2)]
def f_law_draw : Fn := ⟨3, [2, 0], b_law_draw⟩
/-- _law_pick(stream, rows): 0 stream, 1 rows -/
def b_law_pick : List CS :=
  [
  .ret false (.ix (.var 1) (.call 1 [some 0, none] [(.var 0), (.bi .len [(.var 1)])]))]
def f_law_pick : Fn := ⟨2, [2, 0], b_law_pick⟩
/-- _law_known_rules(stream): 0 stream, 1 rows -/
def b_law_known_rules : List CS :=
  [
  .asg (.nm 1) true (.lst [(.tup [(.lit (.str [97, 98])), (.lst [])]), (.tup [(.lit (.str [97])), (.lst [(.tup [(.lit (.str [97, 97])), (.lit (.str []))])])]), (.tup [(.lit (.str [97, 98])), (.lst [(.tup [(.lit (.str [97, 97])), (.lit (.str []))]), (.tup [(.lit (.str [98, 98])), (.lit (.str []))])])]), (.tup [(.lit (.str [97, 98])), (.lst [(.tup [(.lit (.str [97, 97])), (.lit (.str []))]), (.tup [(.lit (.str [98, 97])), (.lit (.str [97, 98]))])])]), (.tup [(.lit (.str [97, 98])), (.lst [(.tup [(.lit (.str [98, 97])), (.lit (.str [97, 98]))])])])]),
  .ext 1 (.lst [(.tup [(.lit (.str [97, 98])), (.lst [(.tup [(.lit (.str [97, 97])), (.lit (.str [97]))]), (.tup [(.lit (.str [98, 98])), (.lit (.str [98]))])])]), (.tup [(.lit (.str [97, 98])), (.lst [(.tup [(.lit (.str [97, 97])), (.lit (.str []))]), (.tup [(.lit (.str [98, 97, 98])), (.lit (.str [97, 98, 97]))]), (.tup [(.lit (.str [98, 98])), (.lit (.str []))])])]), (.tup [(.lit (.str [97, 98, 99])), (.lst [(.tup [(.lit (.str [98, 97])), (.lit (.str [97, 98]))]), (.tup [(.lit (.str [99, 97])), (.lit (.str [97, 99]))]), (.tup [(.lit (.str [99, 98])), (.lit (.str [98, 99]))])])])]),
  .ext 1 (.lst [(.tup [(.lit (.str [97])), (.lst [(.tup [(.lit (.str [97, 97, 97, 97])), (.lit (.str []))])])]), (.tup [(.lit (.str [97, 98])), (.lst [(.tup [(.lit (.str [97, 98])), (.lit (.str []))])])]), (.tup [(.lit (.str [97])), (.lst [(.tup [(.lit (.str [97, 97, 97, 97, 97])), (.lit (.str [97, 97]))])])])]),
  .ext 1 (.lst [(.tup [(.lit (.str [97, 98])), (.lst [(.tup [(.lit (.str [97, 97, 98])), (.lit (.str [98]))])])]), (.tup [(.lit (.str [97, 98, 99])), (.lst [(.tup [(.lit (.str [97, 98])), (.lit (.str [99]))])])]), (.tup [(.lit (.str [97, 98])), (.lst [(.tup [(.lit (.str [97, 97])), (.lit (.str []))]), (.tup [(.lit (.str [98, 98])), (.lit (.str []))]), (.tup [(.lit (.str [98, 97])), (.lit (.str [97, 98]))])])]), (.tup [(.lit (.str [97, 98])), (.lst [(.tup [(.lit (.str [97])), (.lit (.str []))])])])]),
  .ext 1 (.lst [(.tup [(.lit (.str [97, 98, 99])), (.lst [(.tup [(.lit (.str [97, 97])), (.lit (.str []))]), (.tup [(.lit (.str [98, 98])), (.lit (.str []))]), (.tup [(.lit (.str [99, 99])), (.lit (.str []))])])]), (.tup [(.lit (.str [97, 98])), (.lst [(.tup [(.lit (.str [97, 97, 97])), (.lit (.str [97]))]), (.tup [(.lit (.str [98, 97])), (.lit (.str [97, 98]))]), (.tup [(.lit (.str [98, 98])), (.lit (.str []))])])]), (.tup [(.lit (.str [97, 98, 99, 100])), (.lst [(.tup [(.lit (.str [100, 97])), (.lit (.str []))]), (.tup [(.lit (.str [97, 100])), (.lit (.str []))])])]), (.tup [(.lit (.str [97, 98, 99])), (.lst [(.tup [(.lit (.str [99, 97, 98])), (.lit (.str [98]))])])])]),
  .shr 1,
  .ret false (.call 2 [some 0, none] [(.var 0), (.var 1)])]
def f_law_known_rules : Fn := ⟨2, [2], b_law_known_rules⟩
/-- _law_word(stream, letters, most): 0 stream, 1 letters, 2 most, 3 k -/
def b_law_word : List CS :=
  [
  .ret false (.met .join (.lit (.str [])) [(.comp [3] .rng1 [(.call 1 [some 0, none] [(.var 0), (.op .add (.var 2) (.lit (.int 1)))])] (.nm 3) [] (.call 2 [some 0, none] [(.var 0), (.bi .list [(.var 1)])]))])]
def f_law_word : Fn := ⟨4, [2, 0, 0], b_law_word⟩
/-- first_place(rules, word): 0 rules, 1 word, 2 place, 3 number, 4 left, 5 _ -/
def bfirst_place : List CS :=
  [
  .for [.S, .S, .N, .N, .N, .N] (.nm 2) .rng1 [(.bi .len [(.var 1)])]
    [
    .for [.S, .S, .S, .N, .N, .N] (.tp [(.nm 3), (.tp [(.nm 4), (.nm 5)])]) .enum [(.var 0)]
      [
      .ife (.and (.var 4) (.cmp .eq (.sl (.var 1) [(.var 2)] [(.op .add (.var 2) (.bi .len [(.var 4)]))]) (.var 4)))
        [
        .ret false (.tup [(.var 2), (.var 3)])]
        []]],
  .ret false (.lit .non)]
def ffirst_place : Fn := ⟨6, [0, 0], bfirst_place⟩
/-- step_word(rules, word, place, number): 0 rules, 1 word, 2 place, 3 number, 4 left, 5 right -/
def bstep_word : List CS :=
  [
  .asg (.tp [(.nm 4), (.nm 5)]) false (.ix (.var 0) (.var 3)),
  .ret false (.op .add (.op .add (.sl (.var 1) [] [(.var 2)]) (.var 5)) (.sl (.var 1) [(.op .add (.var 2) (.bi .len [(.var 4)]))] []))]
def fstep_word : Fn := ⟨6, [0, 0, 0, 0], bstep_word⟩
/-- normal_word(rules, word): 0 rules, 1 word, 2 steps, 3 found -/
def bnormal_word : List CS :=
  [
  .asg (.nm 2) true (.lst []),
  .asg (.nm 3) false (.call 5 [none, none] [(.var 0), (.var 1)]),
  .whl [.S, .S, .O, .S] (.isc true (.var 3) .non)
    [
    .app 2 (.var 3),
    .asg (.nm 1) false (.call 6 [none, none, none, none] [(.var 0), (.var 1), (.ix (.var 3) (.lit (.int 0))), (.ix (.var 3) (.lit (.int 1)))]),
    .ife (.or (.cmp .gt (.bi .len [(.var 2)]) (.glb 0)) (.cmp .gt (.bi .len [(.var 1)]) (.glb 1)))
      [
      .never]
      [],
    .asg (.nm 3) false (.call 5 [none, none] [(.var 0), (.var 1)])],
  .shr 2,
  .ret false (.tup [(.var 1), (.var 2)])]
def fnormal_word : Fn := ⟨4, [0, 0], bnormal_word⟩
/-- is_greater(one, two): 0 one, 1 two -/
def bis_greater : List CS :=
  [
  .ret false (.cmp .gt (.tup [(.bi .len [(.var 0)]), (.var 0)]) (.tup [(.bi .len [(.var 1)]), (.var 1)]))]
def fis_greater : Fn := ⟨2, [0, 0], bis_greater⟩
/-- overlaps_of(rules): 0 rules, 1 found, 2 left, 3 right, 4 other, 5 end, 6 size, 7 place -/
def boverlaps_of : List CS :=
  [
  .asg (.nm 1) true (.lst []),
  .for [.S, .O, .N, .N, .N, .N, .N, .N] (.tp [(.nm 2), (.nm 3)]) .val [(.var 0)]
    [
    .for [.S, .O, .S, .S, .N, .N, .N, .N] (.tp [(.nm 4), (.nm 5)]) .val [(.var 0)]
      [
      .for [.S, .O, .S, .S, .S, .S, .N, .N] (.nm 6) .rng2 [(.lit (.int 1)), (.op .add (.bi .min [(.bi .len [(.var 2)]), (.bi .len [(.var 4)])]) (.lit (.int 1)))]
        [
        .ife (.and (.cmp .eq (.sl (.var 2) [(.op .sub (.bi .len [(.var 2)]) (.var 6))] []) (.sl (.var 4) [] [(.var 6)])) (.or (.cmp .lt (.var 6) (.bi .len [(.var 2)])) (.cmp .lt (.var 6) (.bi .len [(.var 4)]))))
          [
          .app 1 (.tup [(.op .add (.var 3) (.sl (.var 4) [(.var 6)] [])), (.op .add (.sl (.var 2) [] [(.op .sub (.bi .len [(.var 2)]) (.var 6))]) (.var 5))])]
          []],
      .for [.S, .O, .S, .S, .S, .S, .N, .N] (.nm 7) .rng1 [(.op .add (.op .sub (.bi .len [(.var 2)]) (.bi .len [(.var 4)])) (.lit (.int 1)))]
        [
        .ife (.and (.cmp .eq (.sl (.var 2) [(.var 7)] [(.op .add (.var 7) (.bi .len [(.var 4)]))]) (.var 4)) (.cmp .lt (.bi .len [(.var 4)]) (.bi .len [(.var 2)])))
          [
          .app 1 (.tup [(.var 3), (.op .add (.op .add (.sl (.var 2) [] [(.var 7)]) (.var 5)) (.sl (.var 2) [(.op .add (.var 7) (.bi .len [(.var 4)]))] []))])]
          []]]],
  .shr 1,
  .ret false (.var 1)]
def foverlaps_of : Fn := ⟨8, [0], boverlaps_of⟩
/-- is_settled(rules): 0 rules, 1 number, 2 rest, 3 left, 4 right, 5 one, 6 two -/
def bis_settled : List CS :=
  [
  .for [.S, .N, .N, .N, .N, .N, .N] (.tp [(.nm 1), (.tp [(.nm 3), (.nm 4)])]) .enum [(.var 0)]
    [
    .asg (.nm 2) false (.op .add (.sl (.var 0) [] [(.var 1)]) (.sl (.var 0) [(.op .add (.var 1) (.lit (.int 1)))] [])),
    .ife (.or (.not (.call 8 [none, none] [(.var 3), (.var 4)])) (.or (.isc true (.call 5 [none, none] [(.var 2), (.var 3)]) .non) (.isc true (.call 5 [none, none] [(.var 0), (.var 4)]) .non)))
      [
      .ret false (.lit (.bl false))]
      []],
  .ret false (.bi .all [(.comp [5, 6] .seq [(.call 9 [none] [(.var 0)])] (.tp [(.nm 5), (.nm 6)]) [] (.cmp .eq (.ix (.call 7 [none, none] [(.var 0), (.var 5)]) (.lit (.int 0))) (.ix (.call 7 [none, none] [(.var 0), (.var 6)]) (.lit (.int 0)))))])]
def fis_settled : Fn := ⟨7, [0], bis_settled⟩
/-- _law_word_steps(rules, word): 0 rules, 1 word, 2 found, 3 place, 4 left, 5 right -/
def b_law_word_steps : List CS :=
  [
  .asg (.nm 2) true (.lst []),
  .for [.S, .S, .O, .N, .N, .N] (.nm 3) .rng1 [(.bi .len [(.var 1)])]
    [
    .ext 2 (.comp [4, 5] .val [(.var 0)] (.tp [(.nm 4), (.nm 5)]) [(.and (.var 4) (.cmp .eq (.sl (.var 1) [(.var 3)] [(.op .add (.var 3) (.bi .len [(.var 4)]))]) (.var 4)))] (.op .add (.op .add (.sl (.var 1) [] [(.var 3)]) (.var 5)) (.sl (.var 1) [(.op .add (.var 3) (.bi .len [(.var 4)]))] [])))],
  .shr 2,
  .ret false (.var 2)]
def f_law_word_steps : Fn := ⟨6, [0, 0], b_law_word_steps⟩
/-- _law_normal_word(rules, word): 0 rules, 1 word, 2 again, 3 found -/
def b_law_normal_word : List CS :=
  [
  .for [.S, .S, .N, .N] (.nm 2) .rng1 [(.lit (.int 400))]
    [
    .asg (.nm 3) false (.call 11 [none, none] [(.var 0), (.var 1)]),
    .ife (.not (.var 3))
      [
      .ret false (.var 1)]
      [],
    .asg (.nm 1) false (.ix (.var 3) (.neg (.lit (.int 1))))],
  .ret false (.var 1)]
def f_law_normal_word : Fn := ⟨4, [0, 0], b_law_normal_word⟩
/-- _law_settled(rules): 0 rules, 1 i, 2 j, 3 left, 4 right, 5 other, 6 there, 7 many, 8 ends -/
def b_law_settled : List CS :=
  [
  .ife (.bi .any [(.comp [3, 4] .val [(.var 0)] (.tp [(.nm 3), (.nm 4)]) [] (.cmp .le (.tup [(.bi .len [(.var 3)]), (.var 3)]) (.tup [(.bi .len [(.var 4)]), (.var 4)])))])
    [
    .ret false (.lit (.bl false))]
    [],
  .for [.S, .N, .N, .N, .N, .N, .N, .N, .N] (.nm 1) .rng1 [(.bi .len [(.var 0)])]
    [
    .for [.S, .S, .N, .N, .N, .N, .N, .N, .N] (.nm 2) .rng1 [(.bi .len [(.var 0)])]
      [
      .ife (.or (.and (.cmp .ne (.var 1) (.var 2)) (.cmp .isin (.ix (.ix (.var 0) (.var 1)) (.lit (.int 0))) (.ix (.ix (.var 0) (.var 2)) (.lit (.int 0))))) (.cmp .isin (.ix (.ix (.var 0) (.var 1)) (.lit (.int 0))) (.ix (.ix (.var 0) (.var 2)) (.lit (.int 1)))))
        [
        .ret false (.lit (.bl false))]
        []]],
  .for [.S, .N, .N, .N, .N, .N, .N, .N, .N] (.tp [(.nm 3), (.nm 4)]) .val [(.var 0)]
    [
    .for [.S, .N, .N, .S, .S, .N, .N, .N, .N] (.tp [(.nm 5), (.nm 6)]) .val [(.var 0)]
      [
      .for [.S, .N, .N, .S, .S, .S, .S, .N, .N] (.nm 7) .rng2 [(.lit (.int 1)), (.bi .min [(.bi .len [(.var 3)]), (.bi .len [(.var 5)])])]
        [
        .ife (.cmp .eq (.sl (.var 3) [(.op .sub (.bi .len [(.var 3)]) (.var 7))] []) (.sl (.var 5) [] [(.var 7)]))
          [
          .asg (.nm 8) false (.lst [(.call 12 [none, none] [(.var 0), (.op .add (.var 4) (.sl (.var 5) [(.var 7)] []))]), (.call 12 [none, none] [(.var 0), (.op .add (.sl (.var 3) [] [(.op .sub (.bi .len [(.var 3)]) (.var 7))]) (.var 6))])]),
          .ife (.cmp .ne (.ix (.var 8) (.lit (.int 0))) (.ix (.var 8) (.lit (.int 1))))
            [
            .ret false (.lit (.bl false))]
            []]
          []]]],
  .ret false (.lit (.bl true))]
def f_law_settled : Fn := ⟨9, [0], b_law_settled⟩
/-- _law_is_none(rules): 0 rules -/
def b_law_is_none : List CS :=
  [
  .tryr
    [
    .ret false (.isc false (.call 10 [none] [(.var 0)]) (.bl false))]]
def f_law_is_none : Fn := ⟨1, [0], b_law_is_none⟩
/-- law(script): 0 script, 1 stream, 2 one, 3 two, 4 first, 5 second, 6 whole, 7 word, 8 found, 9 k, 10 few, 11 letters, 12 rules, 13 place, 14 number, 15 here, 16 left, 17 right -/
def blaw : List CS :=
  [
  .asg (.nm 1) true (.call 0 [none] [(.var 0)]),
  .asg (.tp [(.nm 11), (.nm 12)]) false (.call 3 [some 1] [(.var 1)]),
  .ife (.isc true (.call 10 [none] [(.var 12)]) (.bl true))
    [
    .ret false (.lit (.bl false))]
    [],
  .asg (.nm 2) false (.call 4 [some 1, none, none] [(.var 1), (.var 11), (.lit (.int 8))]),
  .asg (.nm 3) false (.call 4 [some 1, none, none] [(.var 1), (.var 11), (.lit (.int 8))]),
  .asg (.nm 4) false (.call 7 [none, none] [(.var 12), (.var 2)]),
  .asg (.nm 5) false (.call 7 [none, none] [(.var 12), (.var 3)]),
  .asg (.nm 6) false (.call 7 [none, none] [(.var 12), (.op .add (.var 2) (.var 3))]),
  .ife (.or (.cmp .ne (.ix (.var 4) (.lit (.int 0))) (.call 12 [none, none] [(.var 12), (.var 2)])) (.cmp .ne (.ix (.var 6) (.lit (.int 0))) (.ix (.call 7 [none, none] [(.var 12), (.op .add (.ix (.var 4) (.lit (.int 0))) (.ix (.var 5) (.lit (.int 0))))]) (.lit (.int 0)))))
    [
    .ret false (.lit (.bl false))]
    [],
  .ife (.or (.cmp .ne (.ix (.var 6) (.lit (.int 0))) (.call 12 [none, none] [(.var 12), (.op .add (.var 2) (.var 3))])) (.cmp .ne (.call 7 [none, none] [(.var 12), (.ix (.var 6) (.lit (.int 0)))]) (.tup [(.ix (.var 6) (.lit (.int 0))), (.lst [])])))
    [
    .ret false (.lit (.bl false))]
    [],
  .asg (.nm 7) false (.op .add (.var 2) (.var 3)),
  .for [.S, .O, .S, .S, .S, .S, .S, .S, .N, .N, .N, .S, .S, .N, .N, .N, .N, .N] (.tp [(.nm 13), (.nm 14)]) .seq [(.ix (.var 6) (.lit (.int 1)))]
    [
    .asg (.nm 15) false (.comp [9] .rng1 [(.bi .len [(.var 7)])] (.nm 9) [(.bi .any [(.comp [16, 17] .val [(.var 12)] (.tp [(.nm 16), (.nm 17)]) [] (.cmp .eq (.sl (.var 7) [(.var 9)] [(.op .add (.var 9) (.bi .len [(.var 16)]))]) (.var 16)))])] (.var 9)),
    .asg (.tp [(.nm 16), (.nm 17)]) false (.ix (.var 12) (.var 14)),
    .ife (.or (.not (.var 15)) (.or (.cmp .ne (.var 13) (.ix (.var 15) (.lit (.int 0)))) (.cmp .ne (.sl (.var 7) [(.var 13)] [(.op .add (.var 13) (.bi .len [(.var 16)]))]) (.var 16))))
      [
      .ret false (.lit (.bl false))]
      [],
    .asg (.nm 7) false (.op .add (.op .add (.sl (.var 7) [] [(.var 13)]) (.var 17)) (.sl (.var 7) [(.op .add (.var 13) (.bi .len [(.var 16)]))] []))],
  .ife (.cmp .ne (.var 7) (.ix (.var 6) (.lit (.int 0))))
    [
    .ret false (.lit (.bl false))]
    [],
  .asg (.nm 8) true (.lst [(.var 2)]),
  .asg (.nm 9) false (.lit (.int 0)),
  .whl [.S, .O, .S, .S, .S, .S, .S, .S, .O, .S, .N, .S, .S, .N, .N, .N, .N, .N] (.and (.cmp .lt (.var 9) (.bi .len [(.var 8)])) (.cmp .lt (.bi .len [(.var 8)]) (.lit (.int 40))))
    [
    .for [.S, .O, .S, .S, .S, .S, .S, .S, .O, .S, .N, .S, .S, .N, .N, .N, .N, .N] (.nm 7) .seq [(.op .add (.call 11 [none, none] [(.var 12), (.ix (.var 8) (.var 9))]) (.call 11 [none, none] [(.comp [16, 17] .val [(.var 12)] (.tp [(.nm 16), (.nm 17)]) [(.var 17)] (.tup [(.var 17), (.var 16)])), (.ix (.var 8) (.var 9))]))]
      [
      .ife (.and (.cmp .le (.bi .len [(.var 7)]) (.lit (.int 10))) (.cmp .notin (.var 7) (.var 8)))
        [
        .app 8 (.var 7)]
        []],
    .asg (.nm 9) false (.op .add (.var 9) (.lit (.int 1)))],
  .ife (.bi .any [(.comp [7] .val [(.var 8)] (.nm 7) [] (.or (.cmp .lt (.tup [(.bi .len [(.var 7)]), (.var 7)]) (.tup [(.bi .len [(.ix (.var 4) (.lit (.int 0)))]), (.ix (.var 4) (.lit (.int 0)))])) (.cmp .ne (.ix (.call 7 [none, none] [(.var 12), (.var 7)]) (.lit (.int 0))) (.ix (.var 4) (.lit (.int 0))))))])
    [
    .ret false (.lit (.bl false))]
    [],
  .asg (.nm 10) false (.ite (.cmp .eq (.call 1 [some 1, none] [(.var 1), (.lit (.int 2))]) (.lit (.int 0))) (.sl (.var 12) [] [(.neg (.lit (.int 1)))]) (.op .add (.var 12) (.lst [(.tup [(.op .add (.call 4 [some 1, none, none] [(.var 1), (.var 11), (.lit (.int 3))]) (.ix (.var 11) (.lit (.int 0)))), (.call 4 [some 1, none, none] [(.var 1), (.var 11), (.lit (.int 1))])])]))),
  .ife (.cmp .ne (.call 10 [none] [(.var 10)]) (.call 13 [none] [(.var 10)]))
    [
    .ret false (.lit (.bl false))]
    [],
  .ife (.not (.var 12))
    [
    .ret false (.lit (.bl true))]
    [],
  .asg (.nm 9) false (.call 1 [some 1, none] [(.var 1), (.bi .len [(.var 12)])]),
  .asg (.tp [(.nm 16), (.nm 17)]) false (.ix (.var 12) (.var 9)),
  .ret false (.and (.call 14 [none] [(.op .add (.op .add (.sl (.var 12) [] [(.var 9)]) (.lst [(.tup [(.var 17), (.var 16)])])) (.sl (.var 12) [(.op .add (.var 9) (.lit (.int 1)))] []))]) (.call 14 [none] [(.op .add (.var 12) (.lst [(.ix (.var 12) (.var 9))]))]))]
def flaw : Fn := ⟨18, [0], blaw⟩
def Pg : List Fn := [f_law_stream, f_law_draw, f_law_pick, f_law_known_rules, f_law_word, ffirst_place, fstep_word, fnormal_word, fis_greater, foverlaps_of, fis_settled, f_law_word_steps, f_law_normal_word, f_law_settled, f_law_is_none, flaw]
def gv : List Int := [2000, 200]
def gb (g : Nat) : Option EV := (gv[g]?).map EV.int
end K68
end

section
set_option linter.all false
set_option maxRecDepth 100000
/-! K68M: rules on words. -/
namespace K68
open Ev
abbrev Wd := List Nat
abbrev Rl := List (Wd × Wd)
/-- shortlex -/
def slt (a b : Wd) : Prop := a.length < b.length ∨ (a.length = b.length ∧ lexS a b = true)
def Step (R : Rl) (u v : Wd) : Prop := ∃ p l r s, (l, r) ∈ R ∧ l ≠ [] ∧ u = p ++ l ++ s ∧ v = p ++ r ++ s
inductive Star (R : Rl) : Wd → Wd → Prop
  | refl (w) : Star R w w
  | head {u v w} : Step R u v → Star R v w → Star R u w
theorem Star.one {R : Rl} {u v : Wd} (h : Step R u v) : Star R u v := .head h (.refl v)
theorem Star.trans {R : Rl} {u v w : Wd} (h : Star R u v) (k : Star R v w) : Star R u w := by
  induction h with
  | refl => exact k
  | head s _ ih => exact .head s (ih k)
def Irr (R : Rl) (w : Wd) : Prop := ∀ v, ¬ Step R w v
theorem Step.ctx {R : Rl} {u v : Wd} (h : Step R u v) (p s : Wd) : Step R (p ++ u ++ s) (p ++ v ++ s) := by
  obtain ⟨q, l, r, t, h1, h2, rfl, rfl⟩ := h
  exact ⟨p ++ q, l, r, t ++ s, h1, h2, by simp, by simp⟩
theorem Star.ctx {R : Rl} {u v : Wd} (h : Star R u v) (p s : Wd) : Star R (p ++ u ++ s) (p ++ v ++ s) := by
  induction h with
  | refl => exact .refl _
  | head a _ ih => exact .head (a.ctx p s) ih
theorem Star.irr {R : Rl} {u v : Wd} (h : Star R u v) (k : Irr R u) : v = u := by
  cases h with
  | refl => rfl
  | head a _ => exact absurd a (k _)
/-! ### a number that falls -/
def inv : Wd → Nat
  | [] => 0
  | a :: w => (w.filter (· < a)).length + inv w
def aux : Nat → Wd → Nat
  | 0, _ => 0
  | 1, w => inv w
  | _, w => (w.filter (· == 98)).length
def phi (c : Nat) (w : Wd) : Nat := 17 * w.length + aux c w
def ruleOk : Nat → Wd × Wd → Bool
  | 0, p => decide (p.2.length < p.1.length)
  | 1, p => (decide (p.2.length < p.1.length) && decide (p.2.length ≤ 1)) || (match p with | ([x, y], [y', x']) => decide (y < x ∧ y' = y ∧ x' = x) | _ => false)
  | _, p => (decide (p.2.length < p.1.length) && decide (p.2.length ≤ 1)) || decide (p = ([98, 97, 98], [97, 98, 97]))
def rulesOk (c : Nat) (R : Rl) : Bool := R.all (ruleOk c)
theorem filter_len_app (f : Nat → Bool) (a b : Wd) : ((a ++ b).filter f).length = (a.filter f).length + (b.filter f).length := by
  rw [List.filter_append, List.length_append]
/-- crossing inversions -/
def crs (a b : Wd) : Nat := (a.map fun x => (b.filter (· < x)).length).sum
theorem inv_app : ∀ a b : Wd, inv (a ++ b) = inv a + inv b + crs a b
  | [], b => by simp [inv, crs]
  | x :: a, b => by
    have := inv_app a b
    simp only [List.cons_append, inv, filter_len_app, this, crs, List.map_cons, List.sum_cons]
    omega
theorem crs_app_left (a a' b : Wd) : crs (a ++ a') b = crs a b + crs a' b := by
  unfold crs
  rw [List.map_append, List.sum_append]
theorem crs_app_right (b b' : Wd) : ∀ a, crs a (b ++ b') = crs a b + crs a b'
  | [] => rfl
  | x :: a => by
    have := crs_app_right b b' a
    simp only [crs, List.map_cons, List.sum_cons, filter_len_app] at this ⊢
    omega
theorem crs_nil (a : Wd) : crs a [] = 0 := by
  induction a with
  | nil => rfl
  | cons x a ih => simp only [crs, List.map_cons, List.sum_cons, List.filter_nil, List.length_nil] at ih ⊢; omega
theorem crs_one_left (x : Nat) (b : Wd) : crs [x] b = (b.filter (· < x)).length := by simp [crs]
theorem crs_one_right (y : Nat) : ∀ a, crs a [y] = (a.filter (y < ·)).length
  | [] => rfl
  | x :: a => by
    have := crs_one_right y a
    simp only [crs, List.map_cons, List.sum_cons] at this ⊢
    rw [this]
    by_cases h : y < x <;> simp [List.filter_cons, h] <;> omega
theorem inv_mid (p m s : Wd) : inv (p ++ m ++ s) = inv p + inv m + inv s + crs p m + crs p s + crs m s := by
  rw [inv_app, inv_app, crs_app_left]
  omega
theorem inv_del (p m s : Wd) : inv (p ++ [] ++ s) ≤ inv (p ++ m ++ s) := by
  rw [inv_mid, inv_mid, crs_nil]
  have : crs [] s = 0 := rfl
  have : inv [] = 0 := rfl
  omega
theorem inv_one (p s : Wd) (x : Nat) : inv (p ++ [x] ++ s) ≤ inv (p ++ [] ++ s) + (p.length + s.length) := by
  rw [inv_mid, inv_mid, crs_nil, crs_one_left, crs_one_right]
  have h1 := List.length_filter_le (fun a => decide (x < a)) p
  have h2 := List.length_filter_le (fun a => decide (a < x)) s
  have : crs [] s = 0 := rfl
  have : inv [] = 0 := rfl
  have : inv [x] = 0 := by simp [inv]
  omega
theorem inv_swap (p s : Wd) {x y : Nat} (h : y < x) : inv (p ++ [y, x] ++ s) < inv (p ++ [x, y] ++ s) := by
  rw [inv_mid, inv_mid]
  have e1 : crs p [y, x] = crs p [x, y] := by
    have a1 := crs_app_right [y] [x] p
    have a2 := crs_app_right [x] [y] p
    simp only [List.singleton_append] at a1 a2
    omega
  have e2 : crs [y, x] s = crs [x, y] s := by simp [crs]; omega
  have i1 : inv [y, x] = 0 := by simp [inv]; omega
  have i2 : inv [x, y] = 1 := by simp [inv, h]
  omega
theorem phi_step {c : Nat} {R : Rl} (hR : rulesOk c R = true) {u v : Wd} (hu : u.length ≤ 16) (h : Step R u v) : phi c v < phi c u ∧ v.length ≤ u.length := by
  obtain ⟨p, l, r, s, hm, hl, rfl, rfl⟩ := h
  have hk := List.all_eq_true.mp hR _ hm
  simp only [List.length_append] at hu
  match c with
  | 0 =>
    simp only [ruleOk, decide_eq_true_eq] at hk
    simp only [phi, aux, List.length_append]
    omega
  | 1 =>
    simp only [ruleOk, Bool.or_eq_true, Bool.and_eq_true, decide_eq_true_eq] at hk
    rcases hk with ⟨h1, h2⟩ | hk
    · have : inv (p ++ r ++ s) ≤ inv (p ++ l ++ s) + 15 := by
        have hd := inv_del p l s
        match r, h2 with
        | [], _ => omega
        | [x], _ =>
          have := inv_one p s x
          simp only [List.length_cons, List.length_nil] at h1
          omega
      simp only [phi, aux, List.length_append]
      omega
    · split at hk
      · rename_i x y y' x' e
        simp only [Prod.mk.injEq] at e
        obtain ⟨rfl, rfl⟩ := e
        rw [decide_eq_true_eq] at hk
        obtain ⟨h1, rfl, rfl⟩ := hk
        have := inv_swap p s h1
        simp only [phi, aux, List.length_append, List.length_cons, List.length_nil]
        omega
      · cases hk
  | c + 2 =>
    simp only [ruleOk, Bool.or_eq_true, Bool.and_eq_true, decide_eq_true_eq, Prod.mk.injEq] at hk
    simp only [phi, aux, List.length_append, filter_len_app]
    rcases hk with ⟨h1, h2⟩ | ⟨rfl, rfl⟩
    · have := List.length_filter_le (fun x => x == 98) r
      omega
    · simp
theorem inv_le : ∀ w : Wd, 2 * inv w ≤ w.length * (w.length - 1)
  | [] => by simp [inv]
  | a :: w => by
    have ih := inv_le w
    have h := List.length_filter_le (fun x => decide (x < a)) w
    simp only [inv, List.length_cons, Nat.add_sub_cancel]
    have e : (w.length + 1) * w.length = w.length * (w.length - 1) + 2 * w.length := by
      cases w.length with
      | zero => rfl
      | succ n => simp only [Nat.add_sub_cancel, Nat.add_mul, Nat.mul_add]; omega
    omega
theorem phi_le {c : Nat} {w : Wd} (h : w.length ≤ 16) : phi c w ≤ 392 := by
  unfold phi
  have : aux c w ≤ 120 := by
    match c with
    | 0 => exact Nat.zero_le _
    | 1 =>
      have h1 := inv_le w
      have h2 : w.length * (w.length - 1) ≤ 16 * 15 := Nat.mul_le_mul h (by omega)
      show inv w ≤ 120
      omega
    | c + 2 =>
      have := List.length_filter_le (fun x => x == 98) w
      show (w.filter (· == 98)).length ≤ 120
      omega
  omega
/-! ### the order of words -/
theorem lexS_app : ∀ (p a b : Wd), lexS (p ++ a) (p ++ b) = lexS a b
  | [], _, _ => rfl
  | x :: p, a, b => by simp [lexS, lexS_app p a b]
theorem lexS_right : ∀ {a b : Wd} (s : Wd), a.length = b.length → lexS a b = true → lexS (a ++ s) (b ++ s) = true
  | [], [], _, _, h => by simp [lexS] at h
  | [], _ :: _, _, h, _ => by simp at h
  | _ :: _, [], _, h, _ => by simp at h
  | x :: a, y :: b, s, h, k => by
    simp only [List.cons_append, lexS] at k ⊢
    split
    · rfl
    · rename_i h1
      rw [if_neg h1] at k
      split
      · rename_i h2
        rw [if_pos h2] at k
        exact lexS_right s (by simpa using h) k
      · rename_i h2
        rw [if_neg h2] at k
        cases k
theorem slt_ctx {a b : Wd} (h : slt a b) (p s : Wd) : slt (p ++ a ++ s) (p ++ b ++ s) := by
  rcases h with h | ⟨h, k⟩
  · left
    simp only [List.length_append]
    omega
  · right
    refine ⟨by simp only [List.length_append]; omega, ?_⟩
    rw [List.append_assoc, List.append_assoc, lexS_app]
    exact lexS_right s h k
theorem lexS_trans : ∀ {a b c : Wd}, lexS a b = true → lexS b c = true → lexS a c = true
  | [], [], _, h, _ => by cases h
  | [], _ :: _, [], _, h => by cases h
  | [], _ :: _, _ :: _, _, _ => rfl
  | _ :: _, [], _, h, _ => by cases h
  | _ :: _, _ :: _, [], _, h => by cases h
  | a :: as, b :: bs, c :: cs, h, k => by
    simp only [lexS] at h k ⊢
    by_cases h1 : a < b
    · by_cases h2 : b < c
      · rw [if_pos (by omega)]
      · rw [if_neg h2] at k
        by_cases h3 : b = c
        · rw [if_pos (by omega)]
        · rw [if_neg h3] at k; cases k
    · rw [if_neg h1] at h
      by_cases h2 : a = b
      · subst h2
        rw [if_pos rfl] at h
        by_cases h3 : a < c
        · rw [if_pos h3]
        · rw [if_neg h3] at k ⊢
          by_cases h4 : a = c
          · rw [if_pos h4] at k ⊢
            exact lexS_trans h k
          · rw [if_neg h4] at k; cases k
      · rw [if_neg h2] at h; cases h
theorem lexS_irr : ∀ a : Wd, lexS a a = false
  | [] => rfl
  | a :: as => by simp [lexS, lexS_irr as]
theorem slt_trans {a b c : Wd} (h : slt a b) (k : slt b c) : slt a c := by
  rcases h with h | ⟨h, h'⟩ <;> rcases k with k | ⟨k, k'⟩
  · exact .inl (by omega)
  · exact .inl (by omega)
  · exact .inl (by omega)
  · exact .inr ⟨by omega, lexS_trans h' k'⟩
theorem slt_irr {a : Wd} : ¬ slt a a := by
  rintro (h | ⟨_, h⟩)
  · omega
  · rw [lexS_irr] at h; cases h
def Grt (R : Rl) : Prop := ∀ p ∈ R, slt p.2 p.1
theorem Grt.ne {R : Rl} (h : Grt R) {l r : Wd} (hm : (l, r) ∈ R) : l ≠ [] := by
  rintro rfl
  rcases h _ hm with q | ⟨q, k⟩
  · simp at q
  · have : r = [] := by simpa using q
    subst this
    simp [lexS] at k
theorem step_slt {R : Rl} (h : Grt R) {u v : Wd} (k : Step R u v) : slt v u := by
  obtain ⟨p, l, r, s, hm, _, rfl, rfl⟩ := k
  exact slt_ctx (h _ hm) p s
theorem star_slt {R : Rl} (h : Grt R) {u v : Wd} (k : Star R u v) : v = u ∨ slt v u := by
  induction k with
  | refl => exact .inl rfl
  | head a _ ih =>
    rcases ih with rfl | ih
    · exact .inr (step_slt h a)
    · exact .inr (slt_trans ih (step_slt h a))
/-! ### overlaps -/
/-- no left side within another one -/
def Inter (R : Rl) : Prop := ∀ (i j : Nat) (a b : Wd × Wd), R[i]? = some a → R[j]? = some b → (∃ x y, b.1 = x ++ a.1 ++ y) → i = j
def Cp (R : Rl) (a b : Wd) : Prop := ∃ l1 r1 l2 r2 x y z, (l1, r1) ∈ R ∧ (l2, r2) ∈ R ∧ l1 = x ++ y ∧ l2 = y ++ z ∧ x ≠ [] ∧ y ≠ [] ∧ z ≠ [] ∧ a = r1 ++ z ∧ b = x ++ r2
theorem split_at {p l s p' l' s' : Wd} (h : p ++ l ++ s = p' ++ l' ++ s') (hp : p.length ≤ p'.length) :
    (∃ m, p' = p ++ l ++ m ∧ s = m ++ l' ++ s') ∨ (∃ x y, p' = p ++ x ∧ l = x ++ l' ++ y ∧ s' = y ++ s) ∨ (∃ x y z, p' = p ++ x ∧ l = x ++ y ∧ l' = y ++ z ∧ s = z ++ s' ∧ y ≠ [] ∧ z ≠ []) := by
  obtain ⟨x, rfl⟩ : ∃ x, p' = p ++ x := by
    refine ⟨p'.drop p.length, ?_⟩
    have e := congrArg (List.take p.length) h
    rw [List.append_assoc, List.append_assoc, List.take_left' rfl, List.take_append_of_le_length hp] at e
    conv => lhs; rw [← List.take_append_drop p.length p', ← e]
  have h2 : l ++ s = x ++ l' ++ s' := by
    rw [List.append_assoc, List.append_assoc, List.append_assoc] at h
    have := List.append_cancel_left h
    rw [this, List.append_assoc]
  rcases Nat.lt_or_ge x.length l.length with hx | hx
  · -- within l
    obtain ⟨y, rfl⟩ : ∃ y, l = x ++ y := by
      refine ⟨l.drop x.length, ?_⟩
      have e := congrArg (List.take x.length) h2
      rw [List.take_append_of_le_length (by omega), List.append_assoc, List.take_left' rfl] at e
      conv => lhs; rw [← List.take_append_drop x.length l, e]
    have h3 : y ++ s = l' ++ s' := by
      rw [List.append_assoc, List.append_assoc] at h2
      exact List.append_cancel_left h2
    have hy : y ≠ [] := fun e => by rw [e] at hx; simp at hx
    rcases Nat.lt_or_ge y.length l'.length with hl | hl
    · right; right
      obtain ⟨z, rfl⟩ : ∃ z, l' = y ++ z := by
        refine ⟨l'.drop y.length, ?_⟩
        have e := congrArg (List.take y.length) h3
        rw [List.take_left' rfl, List.take_append_of_le_length (by omega)] at e
        conv => lhs; rw [← List.take_append_drop y.length l', ← e]
      refine ⟨x, y, z, rfl, rfl, rfl, ?_, hy, fun e => by rw [e] at hl; simp at hl⟩
      rw [List.append_assoc] at h3
      exact List.append_cancel_left h3
    · right; left
      obtain ⟨z, rfl⟩ : ∃ z, y = l' ++ z := by
        refine ⟨y.drop l'.length, ?_⟩
        have e := congrArg (List.take l'.length) h3
        rw [List.take_left' rfl, List.take_append_of_le_length (by omega)] at e
        conv => lhs; rw [← List.take_append_drop l'.length y, e]
      refine ⟨x, z, rfl, by rw [List.append_assoc], ?_⟩
      rw [List.append_assoc] at h3
      exact (List.append_cancel_left h3).symm
  · left
    obtain ⟨m, rfl⟩ : ∃ m, x = l ++ m := by
      refine ⟨x.drop l.length, ?_⟩
      have e := congrArg (List.take l.length) h2
      rw [List.take_left' rfl, List.append_assoc, List.take_append_of_le_length (by omega)] at e
      conv => lhs; rw [← List.take_append_drop l.length x, ← e]
    refine ⟨m, by rw [List.append_assoc], ?_⟩
    rw [List.append_assoc, List.append_assoc] at h2
    rw [List.append_assoc]
    exact List.append_cancel_left h2
/-- two steps from one word -/
theorem two_steps {R : Rl} (hi : Inter R) (hg : Grt R) {w u v : Wd} (h1 : Step R w u) (h2 : Step R w v) : u = v ∨ (∃ z, Step R u z ∧ Step R v z) ∨ (∃ p a b s, Cp R a b ∧ w.length ≥ (p ++ a ++ s).length ∧ w.length ≥ (p ++ b ++ s).length ∧ ((u = p ++ a ++ s ∧ v = p ++ b ++ s) ∨ (u = p ++ b ++ s ∧ v = p ++ a ++ s))) := by
  obtain ⟨p, l, r, s, m1, n1, e1, rfl⟩ := h1
  obtain ⟨p', l', r', s', m2, n2, e2, rfl⟩ := h2
  have hlen : ∀ {l r}, (l, r) ∈ R → r.length ≤ l.length := fun {l r} hm => by
    rcases hg _ hm with q | ⟨q, _⟩
    · exact Nat.le_of_lt q
    · exact Nat.le_of_eq q
  -- by the place of the first
  have key : ∀ {p l r s p' l' r' s'}, (l, r) ∈ R → (l', r') ∈ R → l ≠ [] → l' ≠ [] → w = p ++ l ++ s → w = p' ++ l' ++ s' → p.length ≤ p'.length →
      (p ++ r ++ s = p' ++ r' ++ s' ∨ (∃ z, Step R (p ++ r ++ s) z ∧ Step R (p' ++ r' ++ s') z) ∨ (∃ q a b t, Cp R a b ∧ w.length ≥ (q ++ a ++ t).length ∧ w.length ≥ (q ++ b ++ t).length ∧ p ++ r ++ s = q ++ a ++ t ∧ p' ++ r' ++ s' = q ++ b ++ t)) := by
    intro p l r s p' l' r' s' m1 m2 n1 n2 e1 e2 hp
    have same : ∀ x y, l = x ++ l' ++ y → (l, r) = (l', r') ∧ x = [] ∧ y = [] := fun x y e => by
      obtain ⟨i, hi1⟩ := List.mem_iff_getElem?.mp m1
      obtain ⟨j, hj1⟩ := List.mem_iff_getElem?.mp m2
      have := hi j i (l', r') (l, r) hj1 hi1 ⟨x, y, e⟩
      subst this
      rw [hi1] at hj1
      cases hj1
      have := congrArg List.length e
      simp only [List.length_append] at this
      exact ⟨rfl, List.length_eq_zero_iff.mp (by omega), List.length_eq_zero_iff.mp (by omega)⟩
    rcases split_at (e1.symm.trans e2) hp with ⟨m, rfl, rfl⟩ | ⟨x, y, rfl, e, rfl⟩ | ⟨x, y, z, rfl, e3, e4, rfl, hy, hz⟩
    · right; left
      refine ⟨p ++ r ++ m ++ r' ++ s', ⟨p ++ r ++ m, l', r', s', m2, n2, by simp, by simp⟩, ⟨p, l, r, m ++ r' ++ s', m1, n1, by simp, by simp⟩⟩
    · left
      obtain ⟨q1, rfl, rfl⟩ := same x y e
      cases q1
      simp
    · by_cases hx : x = []
      · subst hx
        -- l is the front of l'
        left
        have hl : l' = [] ++ l ++ z := by rw [e4, e3]; simp
        obtain ⟨i, hi1⟩ := List.mem_iff_getElem?.mp m1
        obtain ⟨j, hj1⟩ := List.mem_iff_getElem?.mp m2
        have := hi i j (l, r) (l', r') hi1 hj1 ⟨[], z, hl⟩
        subst this
        rw [hi1] at hj1
        cases hj1
        have := congrArg List.length hl
        simp only [List.length_append, List.length_nil] at this
        exact absurd (List.length_eq_zero_iff.mp (by omega)) hz
      · right; right
        have h3 := hlen m1
        have h4 := hlen m2
        refine ⟨p, r ++ z, x ++ r', s', ⟨l, r, l', r', x, y, z, m1, m2, e3, e4, hx, hy, hz, rfl, rfl⟩, ?_, ?_, by simp, by simp⟩
        · rw [e1]
          simp only [List.length_append]
          omega
        · rw [e2]
          simp only [List.length_append]
          omega
  rcases Nat.le_total p.length p'.length with hp | hp
  · rcases key m1 m2 n1 n2 e1 e2 hp with h | h | ⟨q, a, b, t, h1, h2, h3, h4, h5⟩
    · exact .inl h
    · exact .inr (.inl h)
    · exact .inr (.inr ⟨q, a, b, t, h1, h2, h3, .inl ⟨h4, h5⟩⟩)
  · rcases key m2 m1 n2 n1 e2 e1 hp with h | ⟨z, h1, h2⟩ | ⟨q, a, b, t, h1, h2, h3, h4, h5⟩
    · exact .inl h.symm
    · exact .inr (.inl ⟨z, h2, h1⟩)
    · exact .inr (.inr ⟨q, a, b, t, h1, h2, h3, .inr ⟨h5, h4⟩⟩)
/-! ### one normal form -/
structure Nf (R : Rl) (F : Wd → Wd) : Prop where
  star : ∀ w, w.length ≤ 16 → Star R w (F w)
  irr : ∀ w, w.length ≤ 16 → Irr R (F w)
theorem star_len {c : Nat} {R : Rl} (hR : rulesOk c R = true) {u v : Wd} (h : Star R u v) (hu : u.length ≤ 16) : v.length ≤ u.length ∧ phi c v ≤ phi c u := by
  induction h with
  | refl => exact ⟨Nat.le_refl _, Nat.le_refl _⟩
  | head a _ ih =>
    obtain ⟨h1, h2⟩ := phi_step hR hu a
    have := ih (by omega)
    omega
theorem conf_step {c : Nat} {R : Rl} (hR : rulesOk c R = true) (hi : Inter R) (hg : Grt R) {F : Wd → Wd} (hF : Nf R F) (hc : ∀ a b, Cp R a b → a.length ≤ 16 → b.length ≤ 16 → F a = F b) : ∀ (n : Nat) (w v : Wd), phi c w ≤ n → w.length ≤ 16 → Step R w v → F v = F w := by
  intro n
  induction n with
  | zero =>
    intro w v hn hw h
    have := (phi_step hR hw h).1
    omega
  | succ n ih =>
    intro w v hn hw h
    have below : ∀ {x y : Wd}, Star R x y → x.length ≤ 16 → phi c x ≤ n → F y = F x := fun {x y} hs => by
      induction hs with
      | refl => intro _ _; rfl
      | head a _ ih2 =>
        intro hx hp
        obtain ⟨h1, h2⟩ := phi_step hR hx a
        rw [ih2 (by omega) (by omega)]
        exact ih _ _ hp hx a
    have hwF := hF.star w hw
    -- the first step towards F w
    have first : ∀ z, Star R w z → Irr R z → ∃ w1, Step R w w1 ∧ Star R w1 z := fun z hz hirr => by
      cases hz with
      | refl => exact absurd h (hirr v)
      | head a b => exact ⟨_, a, b⟩
    obtain ⟨w1, hs1, hs2⟩ := first _ hwF (hF.irr w hw)
    obtain ⟨p1, l1⟩ := phi_step hR hw hs1
    obtain ⟨p2, l2⟩ := phi_step hR hw h
    have e1 : F w1 = F w := by
      have h3 := below hs2 (by omega) (by omega)
      have h4 := (hF.star (F w) (by have := (star_len hR hwF hw).1; omega)).irr (hF.irr w hw)
      rw [← h3, h4]
    rw [← e1]
    rcases two_steps hi hg h hs1 with rfl | ⟨z, q1, q2⟩ | ⟨p, a, b, t, hcp, la, lb, q⟩
    · rfl
    · rw [← ih v z (by omega) (by omega) q1, ← ih w1 z (by omega) (by omega) q2]
    · have hab := hc a b hcp (by simp only [List.length_append] at la; omega) (by simp only [List.length_append] at lb; omega)
      have join : ∀ {x : Wd}, (p ++ x ++ t).length ≤ 16 → x.length ≤ 16 → phi c (p ++ x ++ t) ≤ n → F (p ++ x ++ t) = F (p ++ F x ++ t) := fun {x} h1 h2 h3 => (below ((hF.star x h2).ctx p t) h1 h3).symm
      rcases q with ⟨rfl, rfl⟩ | ⟨rfl, rfl⟩
      · rw [join (by omega) (by simp only [List.length_append] at la; omega) (by omega), hab, ← join (by omega) (by simp only [List.length_append] at lb; omega) (by omega)]
      · rw [join (by omega) (by simp only [List.length_append] at lb; omega) (by omega), ← hab, ← join (by omega) (by simp only [List.length_append] at la; omega) (by omega)]
/-- along steps the normal form stays -/
theorem conf_star {c : Nat} {R : Rl} (hR : rulesOk c R = true) (hi : Inter R) (hg : Grt R) {F : Wd → Wd} (hF : Nf R F) (hc : ∀ a b, Cp R a b → a.length ≤ 16 → b.length ≤ 16 → F a = F b) {w v : Wd} (h : Star R w v) : w.length ≤ 16 → F v = F w := by
  induction h with
  | refl => intro _; rfl
  | head a _ ih =>
    intro hw
    have := (phi_step hR hw a).2
    rw [ih (by omega)]
    exact conf_step hR hi hg hF hc _ _ _ (Nat.le_refl _) hw a
/-- another way of making normal comes to the same -/
theorem conf_same {c : Nat} {R : Rl} (hR : rulesOk c R = true) (hi : Inter R) (hg : Grt R) {F G : Wd → Wd} (hF : Nf R F) (hc : ∀ a b, Cp R a b → a.length ≤ 16 → b.length ≤ 16 → F a = F b) (hG : Nf R G) {w : Wd} (hw : w.length ≤ 16) : G w = F w := by
  have h1 := hG.star w hw
  have h2 := conf_star hR hi hg hF hc h1 hw
  have hl := (star_len hR h1 hw).1
  rw [← h2]
  exact ((hF.star (G w) (by omega)).irr (hG.irr w hw)).symm
end K68
end

section
set_option linter.all false
set_option maxRecDepth 100000
/-! K68N: the program's and the law's way of making words normal. -/
namespace K68
open Ev
/-- the rules whose left side stands at the word's front -/
def fits (w : Wd) (l : Wd) : Bool := decide (w.take l.length = l)
/-- the number of the first rule that fits at the front -/
def ruleAt (w : Wd) : Rl → Nat → Option Nat
  | [], _ => none
  | (l, _) :: R, n => if !l.isEmpty && fits w l then some n else ruleAt w R (n + 1)
/-- the first place, the first rule -/
def fpF (R : Rl) : Wd → Nat → Option (Nat × Nat)
  | [], _ => none
  | a :: w, k => match ruleAt (a :: w) R 0 with
    | some n => some (k, n)
    | none => fpF R w (k + 1)
def fp (R : Rl) (w : Wd) : Option (Nat × Nat) := fpF R w 0
def stepAt (R : Rl) (w : Wd) (p n : Nat) : Wd := match R[n]? with
  | some (l, r) => w.take p ++ r ++ w.drop (p + l.length)
  | none => w
theorem ruleAt_some {w : Wd} : ∀ {R : Rl} {n m : Nat}, ruleAt w R n = some m → ∃ k l r, m = n + k ∧ R[k]? = some (l, r) ∧ l ≠ [] ∧ w.take l.length = l
  | [], _, _, h => by cases h
  | (l, r) :: R, n, m, h => by
    rw [ruleAt] at h
    split at h
    · rename_i q
      cases h
      simp only [fits, Bool.and_eq_true, Bool.not_eq_true', decide_eq_true_eq] at q
      exact ⟨0, l, r, rfl, rfl, fun e => by rw [e] at q; simp at q, q.2⟩
    · obtain ⟨k, l', r', h1, h2, h3⟩ := ruleAt_some h
      exact ⟨k + 1, l', r', by omega, h2, h3⟩
theorem ruleAt_none {w : Wd} : ∀ {R : Rl} {n : Nat}, ruleAt w R n = none → ∀ l r, (l, r) ∈ R → l ≠ [] → w.take l.length ≠ l
  | [], _, _, l, r, hm, _ => by cases hm
  | (l0, r0) :: R, n, h, l, r, hm, hl => by
    rw [ruleAt] at h
    split at h
    · cases h
    · rename_i q
      rcases List.mem_cons.mp hm with e | hm
      · cases e
        intro z
        apply q
        simp only [fits, Bool.and_eq_true, Bool.not_eq_true', decide_eq_true_eq]
        exact ⟨by cases l0 with
          | nil => exact absurd rfl hl
          | cons _ _ => rfl, z⟩
      · exact ruleAt_none h l r hm hl
theorem fpF_some {R : Rl} : ∀ {w : Wd} {k p n : Nat}, fpF R w k = some (p, n) → ∃ i l r, p = k + i ∧ i < w.length ∧ R[n]? = some (l, r) ∧ l ≠ [] ∧ (w.drop i).take l.length = l ∧ ∀ j, j < i → ∀ l r, (l, r) ∈ R → l ≠ [] → (w.drop j).take l.length ≠ l
  | [], _, _, _, h => by cases h
  | a :: w, k, p, n, h => by
    rw [fpF] at h
    split at h
    · rename_i m q
      cases h
      obtain ⟨i, l, r, h1, h2, h3, h4⟩ := ruleAt_some q
      rw [Nat.zero_add] at h1
      subst h1
      exact ⟨0, l, r, rfl, by simp, h2, h3, h4, fun j hj => absurd hj (Nat.not_lt_zero _)⟩
    · rename_i q
      obtain ⟨i, l, r, h1, h2, h3, h4, h5, h6⟩ := fpF_some h
      refine ⟨i + 1, l, r, by omega, by simpa using h2, h3, h4, by simpa using h5, fun j hj l' r' hm hl => ?_⟩
      cases j with
      | zero => exact ruleAt_none q l' r' hm hl
      | succ j => simpa using h6 j (by omega) l' r' hm hl
theorem fpF_none {R : Rl} : ∀ {w : Wd} {k : Nat}, fpF R w k = none → ∀ j, j < w.length → ∀ l r, (l, r) ∈ R → l ≠ [] → (w.drop j).take l.length ≠ l
  | [], _, _, j, hj => by simp at hj
  | a :: w, k, h, j, hj => by
    rw [fpF] at h
    split at h
    · cases h
    · rename_i q
      intro l r hm hl
      cases j with
      | zero => exact ruleAt_none q l r hm hl
      | succ j => simpa using fpF_none h j (by simpa using hj) l r hm hl
theorem step_of {R : Rl} {w : Wd} {i : Nat} {l r : Wd} (hm : (l, r) ∈ R) (hl : l ≠ []) (h : (w.drop i).take l.length = l) : Step R w (w.take i ++ r ++ w.drop (i + l.length)) := by
  refine ⟨w.take i, l, r, w.drop (i + l.length), hm, hl, ?_, rfl⟩
  have e : w.drop i = l ++ w.drop (i + l.length) := by
    conv => lhs; rw [← List.take_append_drop l.length (w.drop i), h, List.drop_drop]
  rw [List.append_assoc, ← e, List.take_append_drop]
theorem of_step {R : Rl} {w v : Wd} (h : Step R w v) : ∃ i l r, i < w.length ∧ (l, r) ∈ R ∧ l ≠ [] ∧ (w.drop i).take l.length = l ∧ v = w.take i ++ r ++ w.drop (i + l.length) := by
  obtain ⟨p, l, r, s, hm, hl, rfl, rfl⟩ := h
  have hpos : 0 < l.length := List.length_pos_iff.mpr hl
  refine ⟨p.length, l, r, by simp only [List.length_append]; omega, hm, hl, ?_, ?_⟩
  · rw [List.append_assoc, List.drop_left' rfl, List.take_left' rfl]
  · have e1 : (p ++ l ++ s).take p.length = p := by rw [List.append_assoc, List.take_left' rfl]
    have e2 : (p ++ l ++ s).drop (p.length + l.length) = s := List.drop_left' (by simp)
    rw [e1, e2]
theorem fp_step {R : Rl} {w : Wd} {p n : Nat} (h : fp R w = some (p, n)) : Step R w (stepAt R w p n) ∧ p < w.length ∧ ∃ l r, R[n]? = some (l, r) ∧ l ≠ [] ∧ (w.drop p).take l.length = l := by
  obtain ⟨i, l, r, h1, h2, h3, h4, h5, _⟩ := fpF_some h
  rw [Nat.zero_add] at h1
  subst h1
  refine ⟨?_, h2, l, r, h3, h4, h5⟩
  unfold stepAt
  rw [h3]
  exact step_of (List.mem_of_getElem? h3) h4 h5
theorem fp_irr {R : Rl} {w : Wd} (h : fp R w = none) : Irr R w := fun v hv => by
  obtain ⟨i, l, r, h1, h2, h3, h4, _⟩ := of_step hv
  exact fpF_none h i h1 l r h2 h3 h4
theorem irr_fp {R : Rl} {w : Wd} (h : Irr R w) : fp R w = none := by
  cases e : fp R w with
  | none => rfl
  | some z => exact absurd (fp_step (p := z.1) (n := z.2) e).1 (h _)
/-- the program's way, with its steps -/
def nw (R : Rl) : Nat → Wd → Wd × List (Nat × Nat)
  | 0, w => (w, [])
  | k + 1, w => match fp R w with
    | none => (w, [])
    | some (p, n) => ((nw R k (stepAt R w p n)).1, (p, n) :: (nw R k (stepAt R w p n)).2)
def NF (R : Rl) (w : Wd) : Wd := (nw R 393 w).1
theorem nw_nf {c : Nat} {R : Rl} (hR : rulesOk c R = true) : ∀ (k : Nat) (w : Wd), w.length ≤ 16 → phi c w < k → Star R w (nw R k w).1 ∧ Irr R (nw R k w).1 ∧ (nw R k w).2.length ≤ phi c w
  | 0, w, _, h => absurd h (Nat.not_lt_zero _)
  | k + 1, w, hw, h => by
    rw [nw]
    split
    · rename_i e
      exact ⟨.refl w, fp_irr e, Nat.zero_le _⟩
    · rename_i p n e
      obtain ⟨hs, _⟩ := fp_step e
      obtain ⟨h1, h2⟩ := phi_step hR hw hs
      obtain ⟨i1, i2, i3⟩ := nw_nf hR k (stepAt R w p n) (by omega) (by omega)
      exact ⟨.head hs i1, i2, by simp only [List.length_cons]; omega⟩
theorem nf_N {c : Nat} {R : Rl} (hR : rulesOk c R = true) : Nf R (NF R) :=
  ⟨fun w hw => (nw_nf hR 393 w hw (by have := phi_le (c := c) hw; omega)).1, fun w hw => (nw_nf hR 393 w hw (by have := phi_le (c := c) hw; omega)).2.1⟩
theorem nw_more {c : Nat} {R : Rl} (hR : rulesOk c R = true) : ∀ (k j : Nat) (w : Wd), w.length ≤ 16 → phi c w < k → phi c w < j → nw R k w = nw R j w
  | 0, _, w, _, h, _ => absurd h (Nat.not_lt_zero _)
  | _ + 1, 0, w, _, _, h => absurd h (Nat.not_lt_zero _)
  | k + 1, j + 1, w, hw, h1, h2 => by
    rw [nw, nw]
    split
    · rfl
    · rename_i p n e
      obtain ⟨hs, _⟩ := fp_step e
      obtain ⟨q1, q2⟩ := phi_step hR hw hs
      rw [nw_more hR k j (stepAt R w p n) (by omega) (by omega) (by omega)]
/-- the law's steps -/
def lws (R : Rl) (w : Wd) : List Wd := (List.range w.length).flatMap fun p => (R.filter fun q => !q.1.isEmpty && fits (w.drop p) q.1).map fun q => w.take p ++ q.2 ++ w.drop (p + q.1.length)
theorem mem_lws {R : Rl} {w v : Wd} : v ∈ lws R w ↔ Step R w v := by
  unfold lws
  rw [List.mem_flatMap]
  constructor
  · rintro ⟨p, hp, hv⟩
    obtain ⟨q, hq, rfl⟩ := List.mem_map.mp hv
    obtain ⟨h1, h2⟩ := List.mem_filter.mp hq
    simp only [fits, Bool.and_eq_true, Bool.not_eq_true', decide_eq_true_eq] at h2
    exact step_of h1 (fun e => by rw [e] at h2; simp at h2) h2.2
  · intro h
    obtain ⟨i, l, r, h1, h2, h3, h4, rfl⟩ := of_step h
    refine ⟨i, List.mem_range.mpr h1, List.mem_map.mpr ⟨(l, r), List.mem_filter.mpr ⟨h2, ?_⟩, rfl⟩⟩
    simp only [fits, Bool.and_eq_true, Bool.not_eq_true', decide_eq_true_eq]
    exact ⟨by cases l with
      | nil => exact absurd rfl h3
      | cons _ _ => rfl, h4⟩
/-- the law's way -/
def lnw (R : Rl) : Nat → Wd → Wd
  | 0, w => w
  | k + 1, w => match (lws R w).getLast? with
    | none => w
    | some v => lnw R k v
def LF (R : Rl) (w : Wd) : Wd := lnw R 400 w
theorem lnw_nf {c : Nat} {R : Rl} (hR : rulesOk c R = true) : ∀ (k : Nat) (w : Wd), w.length ≤ 16 → phi c w < k → Star R w (lnw R k w) ∧ Irr R (lnw R k w)
  | 0, w, _, h => absurd h (Nat.not_lt_zero _)
  | k + 1, w, hw, h => by
    rw [lnw]
    split
    · rename_i e
      refine ⟨.refl w, fun v hv => ?_⟩
      have := mem_lws.mpr hv
      rw [List.getLast?_eq_none_iff.mp e] at this
      cases this
    · rename_i v e
      have hs := mem_lws.mp (List.mem_of_getLast? e)
      obtain ⟨h1, h2⟩ := phi_step hR hw hs
      obtain ⟨i1, i2⟩ := lnw_nf hR k v (by omega) (by omega)
      exact ⟨.head hs i1, i2⟩
theorem nf_L {c : Nat} {R : Rl} (hR : rulesOk c R = true) : Nf R (LF R) :=
  ⟨fun w hw => (lnw_nf hR 400 w hw (by have := phi_le (c := c) hw; omega)).1, fun w hw => (lnw_nf hR 400 w hw (by have := phi_le (c := c) hw; omega)).2⟩
end K68
end

section
set_option linter.all false
set_option maxRecDepth 100000
/-! K68O: overlaps as both list them; both ways of asking agree. -/
namespace K68
open Ev
theorem isPre_iff' : ∀ {a b : List Nat}, isPre a b = true ↔ b.take a.length = a
  | [], b => by simp [isPre]
  | x :: a, [] => by simp [isPre]
  | x :: a, y :: b => by
    rw [isPre, Bool.and_eq_true, decide_eq_true_eq, isPre_iff']
    simp only [List.length_cons, List.take_succ_cons, List.cons.injEq]
    exact and_congr_left' eq_comm
theorem isSub_iff' {a : List Nat} : ∀ {b : List Nat}, isSub a b = true ↔ ∃ x y, b = x ++ a ++ y
  | [] => by
    rw [isSub, isPre_iff']
    constructor
    · intro h
      have hl : a = [] := by simpa using h.symm
      exact ⟨[], [], by simp [hl]⟩
    · rintro ⟨x, y, h⟩
      have := congrArg List.length h
      simp only [List.length_append, List.length_nil] at this
      have hl : a = [] := List.length_eq_zero_iff.mp (by omega)
      simp [hl]
  | c :: b => by
    rw [isSub, Bool.or_eq_true, isPre_iff', isSub_iff' (b := b)]
    constructor
    · rintro (h | ⟨x, y, h⟩)
      · refine ⟨[], (c :: b).drop a.length, ?_⟩
        rw [List.nil_append]
        conv => lhs; rw [← List.take_append_drop a.length (c :: b), h]
      · exact ⟨c :: x, y, by rw [h]; simp⟩
    · rintro ⟨x, y, h⟩
      cases x with
      | nil => exact .inl (by rw [h, List.nil_append, List.take_left' rfl])
      | cons c' x =>
        simp only [List.cons_append, List.cons.injEq] at h
        exact .inr ⟨x, y, h.2⟩
/-! ### overlaps -/
def c1 (a b : Wd × Wd) (s : Nat) : Bool := decide (a.1.drop (a.1.length - s) = b.1.take s) && (decide (s < a.1.length) || decide (s < b.1.length))
def f1 (a b : Wd × Wd) (s : Nat) : Wd × Wd := (a.2 ++ b.1.drop s, a.1.take (a.1.length - s) ++ b.2)
def c2 (a b : Wd × Wd) (p : Nat) : Bool := decide ((a.1.drop p).take b.1.length = b.1) && decide (b.1.length < a.1.length)
def f2 (a b : Wd × Wd) (p : Nat) : Wd × Wd := (a.2, a.1.take p ++ b.2 ++ a.1.drop (p + b.1.length))
def o1 (a b : Wd × Wd) : Rl := (((List.range (min a.1.length b.1.length)).map (1 + ·)).filter (c1 a b)).map (f1 a b)
def o2 (a b : Wd × Wd) : Rl := ((List.range (a.1.length + 1 - b.1.length)).filter (c2 a b)).map (f2 a b)
def ov (a b : Wd × Wd) : Rl := o1 a b ++ o2 a b
def ovs (R : Rl) : Rl := R.flatMap fun a => R.flatMap fun b => ov a b
/-- the law's pairs -/
def lc (a b : Wd × Wd) : Rl := (((List.range (min a.1.length b.1.length - 1)).map (1 + ·)).filter fun s => decide (a.1.drop (a.1.length - s) = b.1.take s)).map (f1 a b)
def lcs (R : Rl) : Rl := R.flatMap fun a => R.flatMap fun b => lc a b
/-- both are steps from one word -/
def Anc (R : Rl) (p : Wd × Wd) : Prop := ∃ w, Step R w p.1 ∧ Step R w p.2 ∧ w.length ≤ 16
theorem f1_anc {R : Rl} {a b : Wd × Wd} (ha : a ∈ R) (hb : b ∈ R) (na : a.1 ≠ []) (nb : b.1 ≠ []) (la : a.1.length ≤ 8) (lb : b.1.length ≤ 8) {s : Nat} (hs : s ≤ a.1.length) (h : a.1.drop (a.1.length - s) = b.1.take s) : Anc R (f1 a b s) := by
  refine ⟨a.1 ++ b.1.drop s, ⟨[], a.1, a.2, b.1.drop s, ha, na, by simp, by simp [f1]⟩, ⟨a.1.take (a.1.length - s), b.1, b.2, [], hb, nb, ?_, by simp [f1]⟩, by rw [List.length_append, List.length_drop]; omega⟩
  conv => lhs; rw [← List.take_append_drop (a.1.length - s) a.1, h]
  rw [List.append_assoc, List.take_append_drop, List.append_nil]
theorem ovs_anc {R : Rl} (hg : Grt R) (hl : ∀ p ∈ R, p.1.length ≤ 8) : ∀ p ∈ ovs R, Anc R p := by
  intro p hp
  obtain ⟨a, ha, hp⟩ := List.mem_flatMap.mp hp
  obtain ⟨b, hb, hp⟩ := List.mem_flatMap.mp hp
  have na : a.1 ≠ [] := hg.ne (l := a.1) (r := a.2) ha
  have nb : b.1 ≠ [] := hg.ne (l := b.1) (r := b.2) hb
  rcases List.mem_append.mp hp with hp | hp
  · obtain ⟨s, hs, rfl⟩ := List.mem_map.mp hp
    obtain ⟨h1, h2⟩ := List.mem_filter.mp hs
    obtain ⟨i, hi, rfl⟩ := List.mem_map.mp h1
    rw [List.mem_range] at hi
    unfold c1 at h2
    rw [Bool.and_eq_true, decide_eq_true_eq] at h2
    exact f1_anc ha hb na nb (hl a ha) (hl b hb) (by omega) h2.1
  · obtain ⟨s, hs, rfl⟩ := List.mem_map.mp hp
    obtain ⟨h1, h2⟩ := List.mem_filter.mp hs
    unfold c2 at h2
    rw [Bool.and_eq_true, decide_eq_true_eq] at h2
    exact ⟨a.1, ⟨[], a.1, a.2, [], ha, na, by simp, by simp [f2]⟩, step_of hb nb h2.1, by have := hl a ha; omega⟩
theorem lcs_anc {R : Rl} (hg : Grt R) (hl : ∀ p ∈ R, p.1.length ≤ 8) : ∀ p ∈ lcs R, Anc R p := by
  intro p hp
  obtain ⟨a, ha, hp⟩ := List.mem_flatMap.mp hp
  obtain ⟨b, hb, hp⟩ := List.mem_flatMap.mp hp
  have na : a.1 ≠ [] := hg.ne (l := a.1) (r := a.2) ha
  have nb : b.1 ≠ [] := hg.ne (l := b.1) (r := b.2) hb
  obtain ⟨s, hs, rfl⟩ := List.mem_map.mp hp
  obtain ⟨h1, h2⟩ := List.mem_filter.mp hs
  obtain ⟨i, hi, rfl⟩ := List.mem_map.mp h1
  rw [List.mem_range] at hi
  exact f1_anc ha hb na nb (hl a ha) (hl b hb) (by omega) (of_decide_eq_true h2)
theorem cp_sizes {R : Rl} {u v : Wd} (h : Cp R u v) : ∃ a b s, a ∈ R ∧ b ∈ R ∧ 1 ≤ s ∧ s < a.1.length ∧ s < b.1.length ∧ a.1.drop (a.1.length - s) = b.1.take s ∧ (u, v) = f1 a b s := by
  obtain ⟨l1, r1, l2, r2, x, y, z, m1, m2, rfl, rfl, hx, hy, hz, rfl, rfl⟩ := h
  have px := List.length_pos_iff.mpr hx
  have py := List.length_pos_iff.mpr hy
  have pz := List.length_pos_iff.mpr hz
  have e : (x ++ y).length - y.length = x.length := by rw [List.length_append]; omega
  refine ⟨(x ++ y, r1), (y ++ z, r2), y.length, m1, m2, py, by simp only [List.length_append]; omega, by simp only [List.length_append]; omega, ?_, ?_⟩
  · simp only
    rw [e, List.drop_left' rfl, List.take_left' rfl]
  · unfold f1
    simp only
    rw [e, List.drop_left' rfl, List.take_left' rfl]
theorem cp_ovs {R : Rl} {u v : Wd} (h : Cp R u v) : (u, v) ∈ ovs R := by
  obtain ⟨a, b, s, ha, hb, h1, h2, h3, h4, e⟩ := cp_sizes h
  refine List.mem_flatMap.mpr ⟨a, ha, List.mem_flatMap.mpr ⟨b, hb, List.mem_append_left _ (List.mem_map.mpr ⟨s, List.mem_filter.mpr ⟨List.mem_map.mpr ⟨s - 1, List.mem_range.mpr (by omega), by omega⟩, ?_⟩, e.symm⟩)⟩⟩
  unfold c1
  rw [decide_eq_true h4, decide_eq_true h2]
  rfl
theorem cp_lcs {R : Rl} {u v : Wd} (h : Cp R u v) : (u, v) ∈ lcs R := by
  obtain ⟨a, b, s, ha, hb, h1, h2, h3, h4, e⟩ := cp_sizes h
  exact List.mem_flatMap.mpr ⟨a, ha, List.mem_flatMap.mpr ⟨b, hb, List.mem_map.mpr ⟨s, List.mem_filter.mpr ⟨List.mem_map.mpr ⟨s - 1, List.mem_range.mpr (by omega), by omega⟩, decide_eq_true h4⟩, e.symm⟩⟩⟩
/-! ### what is asked of each rule -/
def restOf (R : Rl) (i : Nat) : Rl := R.take i ++ R.drop (i + 1)
def Good (R : Rl) : Prop := ∀ (i : Nat) (a : Wd × Wd), R[i]? = some a → slt a.2 a.1 ∧ fp (restOf R i) a.1 = none ∧ fp R a.2 = none
theorem mem_rest {R : Rl} {i j : Nat} {a : Wd × Wd} (h : R[j]? = some a) (ne : i ≠ j) : a ∈ restOf R i := by
  have hj : j < R.length := by
    rcases Nat.lt_or_ge j R.length with q | q
    · exact q
    · rw [List.getElem?_eq_none q] at h; cases h
  unfold restOf
  rcases Nat.lt_or_gt_of_ne ne with q | q
  · refine List.mem_append_right _ (List.mem_of_getElem? (i := j - (i + 1)) ?_)
    rw [List.getElem?_drop]
    rw [show i + 1 + (j - (i + 1)) = j by omega]
    exact h
  · refine List.mem_append_left _ (List.mem_of_getElem? (i := j) ?_)
    rw [List.getElem?_take, if_pos q]
    exact h
theorem fp_none_iff {R : Rl} (hn : ∀ p ∈ R, p.1 ≠ []) {w : Wd} : fp R w = none ↔ ∀ p ∈ R, isSub p.1 w = false := by
  constructor
  · intro h p hp
    cases e : isSub p.1 w with
    | false => rfl
    | true =>
      obtain ⟨x, y, rfl⟩ := isSub_iff'.mp e
      exact absurd ⟨x, p.1, p.2, y, hp, hn p hp, rfl, rfl⟩ (fp_irr h _)
  · intro h
    refine irr_fp fun v hv => ?_
    obtain ⟨x, l, r, y, hm, hl, rfl, rfl⟩ := hv
    have := h _ hm
    rw [isSub_iff'.mpr ⟨x, y, rfl⟩] at this
    cases this
theorem Good.grt {R : Rl} (h : Good R) : Grt R := fun p hp => by
  obtain ⟨i, hi⟩ := List.mem_iff_getElem?.mp hp
  exact (h i p hi).1
theorem Good.inter {R : Rl} (h : Good R) : Inter R := fun i j a b hi hj ⟨x, y, e⟩ => by
  apply Classical.byContradiction
  intro ne
  have h1 := (h j b hj).2.1
  have hm := mem_rest hi (i := j) (fun z => ne z.symm)
  exact fp_irr h1 _ ⟨x, a.1, a.2, y, hm, h.grt.ne (l := a.1) (r := a.2) (List.mem_of_getElem? hi), e, rfl⟩
/-- as the law asks it -/
def GoodL (R : Rl) : Prop := Grt R ∧ ∀ (i j : Nat) (a b : Wd × Wd), R[i]? = some a → R[j]? = some b → (i ≠ j → isSub a.1 b.1 = false) ∧ isSub a.1 b.2 = false
theorem good_iff {R : Rl} : Good R ↔ GoodL R := by
  constructor
  · intro h
    refine ⟨h.grt, fun i j a b hi hj => ⟨fun ne => ?_, ?_⟩⟩
    · cases e : isSub a.1 b.1 with
      | false => rfl
      | true => exact absurd (h.inter i j a b hi hj (isSub_iff'.mp e)) ne
    · exact (fp_none_iff fun p hp => h.grt.ne (l := p.1) (r := p.2) hp).mp (h j b hj).2.2 a (List.mem_of_getElem? hi)
  · rintro ⟨hg, h⟩ i a hi
    refine ⟨hg a (List.mem_of_getElem? hi), ?_, ?_⟩
    · have sub : ∀ p ∈ restOf R i, ∃ j, j ≠ i ∧ R[j]? = some p := fun p hp => by
        unfold restOf at hp
        rcases List.mem_append.mp hp with hp | hp
        · obtain ⟨j, hj⟩ := List.mem_iff_getElem?.mp hp
          rw [List.getElem?_take] at hj
          split at hj
          · exact ⟨j, by omega, hj⟩
          · cases hj
        · obtain ⟨j, hj⟩ := List.mem_iff_getElem?.mp hp
          rw [List.getElem?_drop] at hj
          exact ⟨i + 1 + j, by omega, hj⟩
      refine (fp_none_iff fun p hp => ?_).mpr fun p hp => ?_
      · obtain ⟨j, _, hj⟩ := sub p hp
        exact hg.ne (l := p.1) (r := p.2) (List.mem_of_getElem? hj)
      · obtain ⟨j, ne, hj⟩ := sub p hp
        exact (h j i p a hj hi).1 ne
    · refine (fp_none_iff fun p hp => hg.ne (l := p.1) (r := p.2) hp).mpr fun p hp => ?_
      obtain ⟨j, hj⟩ := List.mem_iff_getElem?.mp hp
      exact (h j i p a hj hi).2
/-- both ask the same -/
theorem settled_same {c : Nat} {R : Rl} (hR : rulesOk c R = true) (hl : ∀ p ∈ R, p.1.length ≤ 8) (hg : Good R) : (∀ p ∈ ovs R, NF R p.1 = NF R p.2) ↔ ∀ p ∈ lcs R, LF R p.1 = LF R p.2 := by
  have go : ∀ {F G : Wd → Wd}, Nf R F → Nf R G → (∀ a b, Cp R a b → F a = F b) → ∀ p, Anc R p → G p.1 = G p.2 := fun {F G} hF hG hc p ⟨w, h1, h2, hw⟩ => by
    have q1 := (phi_step hR hw h1).2
    have q2 := (phi_step hR hw h2).2
    have cc : ∀ a b, Cp R a b → a.length ≤ 16 → b.length ≤ 16 → F a = F b := fun a b h _ _ => hc a b h
    rw [conf_same hR hg.inter hg.grt hF cc hG (by omega), conf_same hR hg.inter hg.grt hF cc hG (by omega), conf_star hR hg.inter hg.grt hF cc (Star.one h1) hw, conf_star hR hg.inter hg.grt hF cc (Star.one h2) hw]
  constructor
  · intro h p hp
    exact go (nf_N hR) (nf_L hR) (fun a b hab => h (a, b) (cp_ovs hab)) p (lcs_anc hg.grt hl p hp)
  · intro h p hp
    exact go (nf_L hR) (nf_N hR) (fun a b hab => h (a, b) (cp_lcs hab)) p (ovs_anc hg.grt hl p hp)
/-- confluent, then: along steps the normal word stays; the law's is the program's -/
theorem settled_conf {c : Nat} {R : Rl} (hR : rulesOk c R = true) (hg : Good R) (h : ∀ p ∈ ovs R, NF R p.1 = NF R p.2) : (∀ w v, Star R w v → w.length ≤ 16 → NF R v = NF R w) ∧ ∀ w, w.length ≤ 16 → LF R w = NF R w :=
  ⟨fun w v hs hw => conf_star hR hg.inter hg.grt (nf_N hR) (fun a b hab _ _ => h (a, b) (cp_ovs hab)) hs hw, fun w hw => conf_same hR hg.inter hg.grt (nf_N hR) (fun a b hab _ _ => h (a, b) (cp_ovs hab)) (nf_L hR) hw⟩
end K68
end

section
set_option linter.all false
set_option maxRecDepth 100000
namespace K68
open Ev
abbrev enP (p : Wd × Wd) : EV := .tup [.str p.1, .str p.2]
abbrev enR (R : Rl) : EV := .lst (R.map enP)
abbrev enN (n : Nat) : EV := .int (n : Int)
abbrev enF (z : Nat × Nat) : EV := .tup [enN z.1, enN z.2]
def encO : Option (Nat × Nat) → EV
  | some z => enF z
  | none => .non
structure ROk (R : Rl) : Prop where
  len : R.length ≤ 20
  ch : ∀ p ∈ R, ChOk p.1 ∧ ChOk p.2 ∧ p.1.length ≤ 50 ∧ p.2.length ≤ 50
section
variable {d W : Nat} {R : Rl} {w : Wd}
theorem zipIdx_get {α : Type} {l : List α} {a : α} {i : Nat} (h : (a, i) ∈ l.zipIdx) : l[i]? = some a := by
  have := List.mem_zipIdx_iff_getElem?.mp h
  simpa using this
theorem ruleAt_split {w : Wd} : ∀ (R : Rl) (n : Nat) (pre post : List ((Wd × Wd) × Nat)) (x : (Wd × Wd) × Nat), R.zipIdx n = pre ++ x :: post → (∀ y ∈ pre, (!y.1.1.isEmpty && fits w y.1.1) = false) → (!x.1.1.isEmpty && fits w x.1.1) = true → ruleAt w R n = some x.2
  | [], _, pre, post, x, h, _, _ => by cases pre <;> cases h
  | (l, r) :: R, n, [], post, x, h, _, h2 => by
    rw [List.zipIdx_cons] at h
    cases h
    rw [ruleAt, if_pos h2]
  | (l, r) :: R, n, p :: pre, post, x, h, h1, h2 => by
    rw [List.zipIdx_cons, List.cons_append, List.cons.injEq] at h
    obtain ⟨rfl, h⟩ := h
    have := h1 _ List.mem_cons_self
    rw [ruleAt, if_neg (by rw [this]; simp)]
    exact ruleAt_split R (n + 1) pre post x h (fun y hy => h1 y (List.mem_cons_of_mem _ hy)) h2
theorem ruleAt_all {w : Wd} : ∀ (R : Rl) (n : Nat), (∀ y ∈ R.zipIdx n, (!y.1.1.isEmpty && fits w y.1.1) = false) → ruleAt w R n = none
  | [], _, _ => rfl
  | (l, r) :: R, n, h => by
    rw [List.zipIdx_cons] at h
    have := h _ List.mem_cons_self
    rw [ruleAt, if_neg (by rw [this]; simp)]
    exact ruleAt_all R (n + 1) fun y hy => h y (List.mem_cons_of_mem _ hy)
theorem fpF_drop (R : Rl) : ∀ (w : Wd) (k i : Nat), i ≤ w.length → (∀ j, j < i → ruleAt (w.drop j) R 0 = none) → fpF R w k = fpF R (w.drop i) (k + i)
  | _, _, 0, _, _ => by simp
  | [], _, i + 1, h, _ => by simp at h
  | a :: w, k, i + 1, h, hj => by
    have h0 := hj 0 (by omega)
    rw [List.drop_zero] at h0
    rw [fpF, h0]
    simp only
    rw [fpF_drop R w (k + 1) i (by simpa using h) fun j hj' => by simpa using hj (j + 1) (by omega)]
    simp only [List.drop_succ_cons]
    congr 1
    omega
theorem p_strAt {a n : Nat} {l : Wd} (hw : ChOk w) (hl : ChOk l) {B : Bool → Prop} (h : B (decide ((w.drop a).take l.length = l))) : oP (cmE .eq (.str ((w.drop a).take l.length)) (.str l)) B :=
  p_eqS ((hw.drop a).take _) hl h
theorem first_ok (hR : ROk R) (hw : ChOk w) : run Pg gb W (d + 1) 5 [enR R, .str w] = some (encO (fp R w), []) := by
  have hsz : SZ = 16777216 := rfl
  have hwl := hw.2
  refine run_eq (F := ffirst_place) rfl rfl ?_
  show wpSs _ _ _ [_, _] _ _
  tm_at "ev"
  refine p_lenS hw ?_
  tm_at "ev"
  refine oP_of (itE_rng1 (by omega)) ?_
  refine wpF_map (enc := enN) (l := List.range w.length) (fun pre post s => (∀ j, j < pre.length → ruleAt (w.drop j) R 0 = none) ∧ ∃ u2 u3 u4 u5, s = [some (enR R), some (.str w), u2, u3, u4, u5]) ?_ ?_ ⟨fun j hj => absurd hj (Nat.not_lt_zero _), none, none, none, none, rfl⟩
  · rintro pre k post _ hpl ⟨hpre, u2, u3, u4, u5, rfl⟩
    have hk : k = pre.length ∧ k < w.length := by
      have h1 : (List.range w.length)[pre.length]? = some k := by rw [hpl]; simp
      have h2 : pre.length < w.length := by
        have := congrArg List.length hpl
        simp at this
        omega
      rw [List.getElem?_range h2] at h1
      cases h1
      exact ⟨rfl, h2⟩
    tm_at "ev"
    rw [enumL_map]
    refine wpF_map (enc := fun p : (Wd × Wd) × Nat => EV.tup [.int (0 + (p.2 : Int)), enP p.1]) (l := R.zipIdx) (fun pr po s => (∀ y ∈ pr, (!y.1.1.isEmpty && fits (w.drop k) y.1.1) = false) ∧ ∃ u3 u4 u5, s = [some (enR R), some (.str w), some (enN k), u3, u4, u5]) ?_ ?_ ⟨(fun y hy => by cases hy), u3, u4, u5, rfl⟩
    · rintro pr ⟨⟨l, r⟩, n⟩ po _ hpr ⟨hfail, u3, u4, u5, rfl⟩
      have hm := zipIdx_get (by rw [hpr]; simp : ((l, r), n) ∈ R.zipIdx)
      obtain ⟨hl, hr, _⟩ := hR.ch _ (List.mem_of_getElem? hm)
      simp only at hl hr
      tm_at "ev"
      refine p_trS hl (fun hne => ?_) fun he => ?_
      · tm_at "ev"
        refine p_lenS hl ?_
        tm_at "ev"
        have e1 : ((k : Int) + (l.length : Int)) = ((k + l.length : Nat) : Int) := by omega
        rw [e1]
        refine p_slS hw ?_
        rw [Nat.add_sub_cancel_left]
        tm_at "ev"
        refine p_eqS ((hw.drop k).take _) hl ?_
        refine p_dec (fun hf => ?_) fun hf => ?_
        · tm_at "ev"
          have hb : (!l.isEmpty && fits (w.drop k) l) = true := by
            simp only [fits, Bool.and_eq_true, Bool.not_eq_true', decide_eq_true_eq]
            exact ⟨by cases l with
              | nil => exact absurd rfl hne
              | cons _ _ => rfl, hf⟩
          have h1 := ruleAt_split (w := w.drop k) R 0 pr po ((l, r), n) hpr hfail hb
          have h2 : fp R w = some (k, n) := by
            unfold fp
            rw [fpF_drop R w 0 k (by omega) (by rw [hk.1]; exact hpre)]
            obtain ⟨a, w', e⟩ : ∃ a w', w.drop k = a :: w' := by
              cases e : w.drop k with
              | nil => rw [List.drop_eq_nil_iff] at e; omega
              | cons a w' => exact ⟨a, w', rfl⟩
            rw [e] at h1 ⊢
            rw [fpF, h1, Nat.zero_add]
          refine ⟨.inl ?_, rfl⟩
          rw [h2, Int.zero_add]
          rfl
        · tm_at "ev"
          refine ⟨fun y hy => ?_, _, _, _, rfl⟩
          rcases List.mem_append.mp hy with hy | hy
          · exact hfail y hy
          · rw [List.mem_singleton] at hy
            subst hy
            simp only [fits, Bool.and_eq_false_iff]
            exact .inr (decide_eq_false hf)
      · subst he
        tm_at "ev"
        refine p_trS hl (fun h => absurd rfl h) fun _ => ?_
        tm_at "ev"
        refine ⟨fun y hy => ?_, _, _, _, rfl⟩
        rcases List.mem_append.mp hy with hy | hy
        · exact hfail y hy
        · rw [List.mem_singleton] at hy
          subst hy
          rfl
    · rintro _ ⟨hfail, u3, u4, u5, rfl⟩
      tm_at "ev"
      refine ⟨fun j hj => ?_, _, _, _, _, rfl⟩
      rw [List.length_append, List.length_cons, List.length_nil] at hj
      by_cases hj2 : j < pre.length
      · exact hpre j hj2
      · have : j = k := by omega
        subst this
        exact ruleAt_all R 0 hfail
  · rintro _ ⟨hpre, u2, u3, u4, u5, rfl⟩
    tm_at "ev"
    have h2 : fp R w = none := by
      unfold fp
      rw [List.length_range] at hpre
      rw [fpF_drop R w 0 w.length (Nat.le_refl _) hpre, List.drop_length]
      rfl
    rw [h2]
    exact ⟨.inl rfl, rfl⟩
theorem step_ok (hR : ROk R) (hw : ChOk w) {p n : Nat} {l r : Wd} (hn : R[n]? = some (l, r)) (hwl : w.length ≤ 1000) : run Pg gb W (d + 1) 6 [enR R, .str w, enN p, enN n] = some (.str (stepAt R w p n), []) := by
  have hsz : SZ = 16777216 := rfl
  obtain ⟨hl, hr, h50, h51⟩ := hR.ch _ (List.mem_of_getElem? hn)
  simp only at hl hr h50 h51
  refine run_eq (F := fstep_word) rfl rfl ?_
  show wpSs _ _ _ [_, _] _ _
  tm_at "ev"
  refine p_ixL (z := enP (l, r)) (by rw [List.getElem?_map, hn]; rfl) ?_
  tm_at "ev"
  refine p_slSto hw ?_
  tm_at "ev"
  refine p_addS (by show (w.take p).length + r.length ≤ _; rw [List.length_take]; omega) ?_
  tm_at "ev"
  refine p_lenS hl ?_
  tm_at "ev"
  have e1 : ((p : Int) + (l.length : Int)) = ((p + l.length : Nat) : Int) := by omega
  rw [e1]
  refine p_slSfrom hw ?_
  tm_at "ev"
  refine p_addS (by show (w.take p ++ r).length + (w.drop (p + l.length)).length ≤ _; rw [List.length_append, List.length_take, List.length_drop]; omega) ?_
  tm_at "ev"
  refine ⟨.inl ?_, rfl⟩
  unfold stepAt
  rw [hn]
/-- short words -/
structure WOk (w : Wd) : Prop where
  len : w.length ≤ 16
  ch : ∀ c ∈ w, c < 1114112
theorem WOk.c {w : Wd} (h : WOk w) : ChOk w := ⟨h.ch, by have := h.len; omega⟩
theorem WOk.step {c : Nat} {R : Rl} (hR : rulesOk c R = true) (hk : ROk R) {u v : Wd} (h : WOk u) (s : Step R u v) : WOk v := by
  have h2 := (phi_step hR h.len s).2
  obtain ⟨p, l, r, t, hm, _, rfl, rfl⟩ := s
  refine ⟨by have := h.len; omega, fun x hx => ?_⟩
  rcases List.mem_append.mp hx with hx | hx
  · rcases List.mem_append.mp hx with hx | hx
    · exact h.ch x (by simp [hx])
    · exact (hk.ch _ hm).2.1.1 x hx
  · exact h.ch x (by simp [hx])
theorem WOk.star {c : Nat} {R : Rl} (hR : rulesOk c R = true) (hk : ROk R) {u v : Wd} (s : Star R u v) : WOk u → WOk v := by
  induction s with
  | refl => exact id
  | head a _ ih => exact fun h => ih (h.step hR hk a)
theorem normal_ok {c : Nat} (hR : rulesOk c R = true) (hk : ROk R) (hw : WOk w) (hW : 400 ≤ W) : run Pg gb W (d + 2) 7 [enR R, .str w] = some (.tup [.str (NF R w), .lst ((nw R 393 w).2.map enF)], []) := by
  have hsz : SZ = 16777216 := rfl
  refine run_eq (F := fnormal_word) rfl rfl ?_
  show wpSs _ _ _ [_, _, _, _] _ _
  tm_at "ev"
  refine ⟨_, _, first_ok (d := d) hk hw.c, ?_⟩
  tm_at "ev"
  refine wp_whileN (fun k s => ∃ w' st, s = [some (enR R), some (.str w'), some (.lst (st.map enF)), some (encO (fp R w'))] ∧ WOk w' ∧ phi c w' ≤ k ∧ st ++ (nw R 393 w').2 = (nw R 393 w).2 ∧ (nw R 393 w').1 = (nw R 393 w).1 ∧ st.length + phi c w' ≤ 392) ?_ W 392 _ ⟨w, [], rfl, hw, phi_le hw.len, rfl, rfl, by have := phi_le (c := c) hw.len; simp only [List.length_nil]; omega⟩ (by omega)
  · rintro k _ ⟨w', st, rfl, hw', hp, e1, e2, hl⟩
    cases e : fp R w' with
    | none =>
      rw [show encO none = EV.non from rfl]
      tm_at "ev"
      have e3 : nw R 393 w' = (w', []) := by
        show nw R (392 + 1) w' = _
        rw [nw, e]
      rw [e3] at e1 e2
      refine ⟨.inl ?_, rfl⟩
      unfold NF
      rw [← e1, ← e2, List.append_nil]
    | some z =>
      obtain ⟨p, n⟩ := z
      obtain ⟨hs, hpl, l, r, hn, hne, hfit⟩ := fp_step e
      obtain ⟨hp1, hp2⟩ := phi_step hR hw'.len hs
      have hw2 := hw'.step hR hk hs
      rw [show encO (some (p, n)) = enF (p, n) from rfl]
      tm_at "ev"
      refine ⟨by rw [List.length_map]; omega, ?_⟩
      tm_at "ev"
      refine ⟨_, _, step_ok (d := d) hk hw'.c hn (by have := hw'.len; omega), ?_⟩
      tm_at "ev"
      refine p_dec (fun h => ?_) fun _ => ?_
      · rw [List.length_append, List.length_map, List.length_cons, List.length_nil] at h
        omega
      · tm_at "ev"
        refine p_lenS hw2.c ?_
        tm_at "ev"
        refine p_dec (fun h => ?_) fun _ => ?_
        · have h2 := hw2.len
          have h : (200 : Int) < ((stepAt R w' p n).length : Int) := h
          omega
        · tm_at "ev"
          refine ⟨_, _, first_ok (d := d) hk hw2.c, ?_⟩
          tm_at "ev"
          have e3 : nw R 393 w' = ((nw R 393 (stepAt R w' p n)).1, (p, n) :: (nw R 393 (stepAt R w' p n)).2) := by
            have h1 := phi_le (c := c) hw'.len
            show nw R (392 + 1) w' = _
            rw [nw, e]
            simp only
            rw [nw_more hR 392 393 (stepAt R w' p n) hw2.len (by omega) (by omega)]
          rw [e3] at e1 e2
          refine ⟨phi c (stepAt R w' p n), by omega, stepAt R w' p n, st ++ [(p, n)], ?_, hw2, Nat.le_refl _, ?_, e2, ?_⟩
          · rw [List.map_append]
            rfl
          · rw [← e1, List.append_assoc]
            rfl
          · rw [List.length_append, List.length_cons, List.length_nil]
            omega
theorem greater_ok {a b : Wd} (ha : ChOk a) (hb : ChOk b) : ∃ t : Bool, run Pg gb W (d + 1) 8 [.str a, .str b] = some (.bl t, []) ∧ (t = true ↔ slt b a) := by
  have hsz : SZ = 16777216 := rfl
  have key : cmE .gt (.tup [.int a.length, .str a]) (.tup [.int b.length, .str b]) = some (ltE (.tup [.int b.length, .str b]) (.tup [.int a.length, .str a])) := by
    show (if cmpOk _ _ then some _ else none) = _
    have h1 : cmpOk (.tup [.int (a.length : Int), .str a]) (.tup [.int (b.length : Int), .str b]) = true := by
      have p1 := ha.plain
      have p2 := hb.plain
      simp only [Ev.plain] at p1 p2
      simp [cmpOk, okD, Ev.plain, plains, depth, depths, alikeE, alikeEs, p1, p2]
    rw [h1]
    rfl
  refine ⟨ltE (.tup [.int b.length, .str b]) (.tup [.int a.length, .str a]), ?_, ?_⟩
  · refine run_eq (F := fis_greater) rfl rfl ?_
    show wpSs _ _ _ [_] _ _
    tm_at "ev"
    refine p_lenS ha ?_
    tm_at "ev"
    refine p_lenS hb ?_
    tm_at "ev"
    refine oP_of key ?_
    tm_at "ev"
    exact ⟨.inl rfl, rfl⟩
  · show (ltEs [.int (b.length : Int), .str b] [.int (a.length : Int), .str a]) = true ↔ _
    have e : ltEs [.int (b.length : Int), .str b] [.int (a.length : Int), .str a] = if decide ((b.length : Int) = (a.length : Int)) then (if decide (b = a) then false else lexS b a) else decide ((b.length : Int) < (a.length : Int)) := rfl
    rw [e]
    unfold slt
    by_cases h : b.length = a.length
    · rw [if_pos (by rw [decide_eq_true_eq]; omega)]
      by_cases h2 : b = a
      · subst h2
        simp [lexS_irr]
      · rw [if_neg (by simpa using h2)]
        constructor
        · exact fun k => .inr ⟨h, k⟩
        · rintro (k | ⟨_, k⟩)
          · omega
          · exact k
    · rw [if_neg (by rw [decide_eq_true_eq]; omega), decide_eq_true_eq]
      constructor
      · exact fun k => .inl (by omega)
      · rintro (k | ⟨k, _⟩)
        · omega
        · exact absurd k h
theorem lsteps_ok (hk : ROk R) (hw : ChOk w) (hwl : w.length ≤ 50) : run Pg gb W (d + 1) 11 [enR R, .str w] = some (.lst ((lws R w).map .str), []) := by
  have hsz : SZ = 16777216 := rfl
  have hRl := hk.len
  refine run_eq (F := f_law_word_steps) rfl rfl ?_
  show wpSs _ _ _ [_, _, _, _] _ _
  tm_at "ev"
  refine p_lenS hw ?_
  tm_at "ev"
  refine oP_of (itE_rng1 (by omega)) ?_
  have hpl : ∀ (ps : List Nat), (ps.flatMap fun p => (R.filter fun q => !q.1.isEmpty && fits (w.drop p) q.1).map fun q => w.take p ++ q.2 ++ w.drop (p + q.1.length)).length ≤ ps.length * 1000 := fun ps => by
    induction ps with
    | nil => simp
    | cons p ps ih =>
      rw [List.flatMap_cons, List.length_append, List.length_map, List.length_cons, Nat.add_mul]
      have := List.length_filter_le (fun q : Wd × Wd => !q.1.isEmpty && fits (w.drop p) q.1) R
      omega
  refine wpF_map (enc := enN) (l := List.range w.length) (fun pre post s => ∃ u3 u4 u5, s = [some (enR R), some (.str w), some (.lst ((pre.flatMap fun p => (R.filter fun q => !q.1.isEmpty && fits (w.drop p) q.1).map fun q => w.take p ++ q.2 ++ w.drop (p + q.1.length)).map .str)), u3, u4, u5]) ?_ ?_ ⟨none, none, none, rfl⟩
  · rintro pre p post _ hpre ⟨u3, u4, u5, rfl⟩
    have hpr : pre.length ≤ 50 := by
      have := congrArg List.length hpre
      simp at this
      omega
    have hl2 := hpl pre
    tm_at "ev"
    refine wpC_map (enc := enP) (fun q => !q.1.isEmpty && fits (w.drop p) q.1) (fun q => .str (w.take p ++ q.2 ++ w.drop (p + q.1.length))) (fun s => ∃ u4 u5, s = [some (enR R), some (.str w), some (.lst ((pre.flatMap fun p => (R.filter fun q => !q.1.isEmpty && fits (w.drop p) q.1).map fun q => w.take p ++ q.2 ++ w.drop (p + q.1.length)).map .str)), some (enN p), u4, u5]) ?_ ⟨_, _, rfl⟩ ?_
    · rintro ⟨l, r⟩ hm _ ⟨u4, u5, rfl⟩
      obtain ⟨hl, hr, h50, h51⟩ := hk.ch _ hm
      simp only at hl hr h50 h51
      have e1 : ((p : Int) + (l.length : Int)) = ((p + l.length : Nat) : Int) := by omega
      tm_at "ev"
      refine p_trS hl (fun hne => ?_) fun he => ?_
      · have hb : (!l.isEmpty) = true := by
          cases l with
          | nil => exact absurd rfl hne
          | cons _ _ => rfl
        tm_at "ev"
        refine p_lenS hl ?_
        tm_at "ev"
        rw [e1]
        refine p_slS hw ?_
        rw [Nat.add_sub_cancel_left]
        tm_at "ev"
        refine p_eqS ((hw.drop p).take _) hl ?_
        refine p_dec (fun hf => ?_) fun hf => ?_
        · have hb2 : (!l.isEmpty && fits (w.drop p) l) = true := by rw [hb]; exact decide_eq_true hf
          tm_at "ev"
          refine ⟨hb2.symm, ?_⟩
          rw [if_pos hb2]
          tm_at "ev"
          refine p_slSto hw ?_
          tm_at "ev"
          refine p_addS (by show (w.take p).length + r.length ≤ _; rw [List.length_take]; omega) ?_
          tm_at "ev"
          refine p_lenS hl ?_
          tm_at "ev"
          rw [e1]
          refine p_slSfrom hw ?_
          tm_at "ev"
          refine p_addS (by show (w.take p ++ r).length + (w.drop (p + l.length)).length ≤ _; rw [List.length_append, List.length_take, List.length_drop]; omega) ?_
          exact ⟨rfl, _, _, rfl⟩
        · have hb2 : (!l.isEmpty && fits (w.drop p) l) = false := by rw [hb]; exact decide_eq_false hf
          tm_at "ev"
          refine ⟨hb2.symm, ?_⟩
          rw [if_neg (by rw [hb2]; simp)]
          exact ⟨_, _, rfl⟩
      · subst he
        tm_at "ev"
        refine p_trS hl (fun h => absurd rfl h) fun _ => ?_
        tm_at "ev"
        exact ⟨rfl, _, _, rfl⟩
    · rintro _ ⟨u4, u5, rfl⟩
      have hfl := List.length_filter_le (fun q : Wd × Wd => !q.1.isEmpty && fits (w.drop p) q.1) R
      refine ⟨by rw [List.length_map]; omega, ?_⟩
      tm_at "ev"
      refine p_ext (by rw [List.length_map, List.length_map]; omega) ?_
      tm_at "ev"
      rw [show (pre ++ [p]).flatMap (fun p => (R.filter fun q => !q.1.isEmpty && fits (w.drop p) q.1).map fun q => w.take p ++ q.2 ++ w.drop (p + q.1.length)) = (pre.flatMap fun p => (R.filter fun q => !q.1.isEmpty && fits (w.drop p) q.1).map fun q => w.take p ++ q.2 ++ w.drop (p + q.1.length)) ++ (R.filter fun q => !q.1.isEmpty && fits (w.drop p) q.1).map (fun q => w.take p ++ q.2 ++ w.drop (p + q.1.length)) from by simp, List.map_append, List.map_map]
      exact ⟨_, _, _, rfl⟩
  · rintro _ ⟨u3, u4, u5, rfl⟩
    tm_at "ev"
    exact ⟨.inl rfl, rfl⟩
end
end K68
end

section
set_option linter.all false
set_option maxRecDepth 100000
namespace K68
open Ev
section
variable {d W : Nat} {R : Rl} {w : Wd}
theorem lnormal_ok {c : Nat} (hR : rulesOk c R = true) (hk : ROk R) (hw : WOk w) : run Pg gb W (d + 2) 12 [enR R, .str w] = some (.str (LF R w), []) := by
  have hsz : SZ = 16777216 := rfl
  refine run_eq (F := f_law_normal_word) rfl rfl ?_
  show wpSs _ _ _ [_, _] _ _
  tm_at "ev"
  refine oP_of (itE_rng1 (n := 400) (by decide)) ?_
  refine wpF_map (enc := enN) (l := List.range 400) (fun pre post s => ∃ w' u2 u3, s = [some (enR R), some (.str w'), u2, u3] ∧ WOk w' ∧ lnw R (400 - pre.length) w' = LF R w ∧ phi c w' + pre.length ≤ 392) ?_ ?_ ⟨w, none, none, rfl, hw, rfl, by have := phi_le (c := c) hw.len; simp only [List.length_nil]; omega⟩
  · rintro pre k post _ hpl ⟨w', u2, u3, rfl, hw', e1, e2⟩
    have hlen := congrArg List.length hpl
    simp only [List.length_range, List.length_append, List.length_cons] at hlen
    obtain ⟨j, hj⟩ : ∃ j, 400 - pre.length = j + 1 := ⟨399 - pre.length, by omega⟩
    rw [hj, lnw] at e1
    tm_at "ev"
    refine ⟨_, _, lsteps_ok (d := d) hk hw'.c (by have := hw'.len; omega), ?_⟩
    tm_at "ev"
    refine oP_of (z := !((lws R w').map EV.str).isEmpty) rfl ?_
    cases e : lws R w' with
    | nil =>
      rw [e] at e1
      simp only [List.getLast?_nil] at e1
      tm_at "ev"
      refine p_bl (fun _ => ?_) fun h => by cases h
      tm_at "ev"
      rw [e1]
      exact ⟨.inl rfl, rfl⟩
    | cons v vs =>
      have hlast : (v :: vs).getLast? = some ((v :: vs).getLast (by simp)) := List.getLast?_eq_some_getLast (by simp)
      rw [e, hlast] at e1
      have hs : Step R w' ((v :: vs).getLast (by simp)) := mem_lws.mp (by rw [e]; exact List.getLast_mem _)
      obtain ⟨p1, p2⟩ := phi_step hR hw'.len hs
      refine p_bl (fun h => by cases h) fun _ => ?_
      tm_at "ev"
      refine p_ix (z := .str ((v :: vs).getLast (by simp))) ?_ ?_
      · show atE ((v :: vs).map EV.str) (-1) = _
        refine atE_neg1 ?_
        rw [List.getLast?_map, hlast]
        rfl
      tm_at "ev"
      refine ⟨_, _, _, rfl, hw'.step hR hk hs, ?_, ?_⟩
      · rw [List.length_append, List.length_cons, List.length_nil, show 400 - (pre.length + (0 + 1)) = j by omega]
        exact e1
      · rw [List.length_append, List.length_cons, List.length_nil]
        omega
  · rintro _ ⟨w', u2, u3, rfl, hw', e1, e2⟩
    rw [List.length_range] at e2
    omega
theorem itE_rng2 {a b : Nat} (ha : a < 2 ^ 62) (hb : b < 2 ^ 62) : itE .rng2 [.int (a : Int), .int (b : Int)] = some (((List.range (b - a)).map (a + ·)).map enN) := by
  have h1 : lim62 (a : Int) = true := by
    unfold lim62
    simp only [Bool.and_eq_true, decide_eq_true_eq]
    omega
  have h2 : lim62 (b : Int) = true := by
    unfold lim62
    simp only [Bool.and_eq_true, decide_eq_true_eq]
    omega
  show (if lim62 (a : Int) && lim62 (b : Int) then some (rngL (a : Int) 1 ((b : Int) - (a : Int)).toNat) else none) = _
  rw [h1, h2, if_pos (show (true && true) = true from rfl), rngL_eq, List.map_map]
  have : ((b : Int) - (a : Int)).toNat = b - a := by omega
  rw [this]
  rfl
theorem itE_rngI {i : Int} (h1 : -1000 ≤ i) (h2 : i ≤ 1000) : itE .rng1 [.int i] = some ((List.range i.toNat).map enN) := by
  have hl : lim62 i = true := by
    unfold lim62
    simp only [Bool.and_eq_true, decide_eq_true_eq]
    omega
  show (if lim62 i then some (rngL 0 1 i.toNat) else none) = _
  rw [hl, if_pos rfl, rngL0]
/-- how the list of pairs grows -/
abbrev envO (R acc : Rl) (u2 u3 u4 u5 u6 u7 : Option EV) : Env := [some (enR R), some (.lst (acc.map enP)), u2, u3, u4, u5, u6, u7]
theorem o1_ok {acc : Rl} {l r o e : Wd} (hl : ChOk l) (hr : ChOk r) (ho : ChOk o) (he : ChOk e) (h1 : l.length ≤ 50) (h2 : r.length ≤ 50) (h3 : o.length ≤ 50) (h4 : e.length ≤ 50) (hacc : acc.length ≤ 1000000) {u6 u7 : Option EV} {cs : List CS} {F : Fl → Env → Prop}
    (k : ∀ u6 u7, wpSs (run Pg gb W (d + 1)) gb W cs (envO R (acc ++ ov (l, r) (o, e)) (some (.str l)) (some (.str r)) (some (.str o)) (some (.str e)) u6 u7) F) :
    wpSs (run Pg gb W (d + 1)) gb W ((.for [.S, .O, .S, .S, .S, .S, .N, .N] (.nm 6) .rng2 [(.lit (.int 1)), (.op .add (.bi .min [(.bi .len [(.var 2)]), (.bi .len [(.var 4)])]) (.lit (.int 1)))]
        [
        .ife (.and (.cmp .eq (.sl (.var 2) [(.op .sub (.bi .len [(.var 2)]) (.var 6))] []) (.sl (.var 4) [] [(.var 6)])) (.or (.cmp .lt (.var 6) (.bi .len [(.var 2)])) (.cmp .lt (.var 6) (.bi .len [(.var 4)]))))
          [
          .app 1 (.tup [(.op .add (.var 3) (.sl (.var 4) [(.var 6)] [])), (.op .add (.sl (.var 2) [] [(.op .sub (.bi .len [(.var 2)]) (.var 6))]) (.var 5))])]
          []]) ::
      (.for [.S, .O, .S, .S, .S, .S, .N, .N] (.nm 7) .rng1 [(.op .add (.op .sub (.bi .len [(.var 2)]) (.bi .len [(.var 4)])) (.lit (.int 1)))]
        [
        .ife (.and (.cmp .eq (.sl (.var 2) [(.var 7)] [(.op .add (.var 7) (.bi .len [(.var 4)]))]) (.var 4)) (.cmp .lt (.bi .len [(.var 4)]) (.bi .len [(.var 2)])))
          [
          .app 1 (.tup [(.var 3), (.op .add (.op .add (.sl (.var 2) [] [(.var 7)]) (.var 5)) (.sl (.var 2) [(.op .add (.var 7) (.bi .len [(.var 4)]))] []))])]
          []]) :: cs) (envO R acc (some (.str l)) (some (.str r)) (some (.str o)) (some (.str e)) u6 u7) F := by
  have hsz : SZ = 16777216 := rfl
  tm_at "ev"
  refine p_lenS hl ?_
  tm_at "ev"
  refine p_lenS ho ?_
  tm_at "ev"
  have em : ((if (o.length : Int) < (l.length : Int) then (o.length : Int) else (l.length : Int)) + 1) = ((min l.length o.length + 1 : Nat) : Int) := by
    split <;> omega
  rw [em]
  refine oP_of (itE_rng2 (a := 1) (by decide) (by omega)) ?_
  rw [Nat.add_sub_cancel]
  have hpl : ∀ (ps : List Nat), ((ps.filter (c1 (l, r) (o, e))).map (f1 (l, r) (o, e))).length ≤ ps.length := fun ps => by
    rw [List.length_map]
    exact List.length_filter_le _ _
  refine wpF_map (enc := enN) (l := (List.range (min l.length o.length)).map (1 + ·)) (fun pre post s => ∃ u6, s = envO R (acc ++ (pre.filter (c1 (l, r) (o, e))).map (f1 (l, r) (o, e))) (some (.str l)) (some (.str r)) (some (.str o)) (some (.str e)) u6 u7) ?_ ?_ ⟨u6, by simp⟩
  · rintro pre z post _ hps ⟨u6, rfl⟩
    have hz : z ≤ l.length ∧ z ≤ o.length := by
      have : z ∈ (List.range (min l.length o.length)).map (1 + ·) := by rw [hps]; simp
      obtain ⟨i, hi, rfl⟩ := List.mem_map.mp this
      rw [List.mem_range] at hi
      omega
    have hpr : pre.length ≤ 50 := by
      have := congrArg List.length hps
      simp only [List.length_map, List.length_range, List.length_append, List.length_cons] at this
      omega
    have hp2 := hpl pre
    have ez : ((l.length : Int) - (z : Int)) = ((l.length - z : Nat) : Int) := by omega
    have app : ∀ b : Bool, c1 (l, r) (o, e) z = b → (pre ++ [z]).filter (c1 (l, r) (o, e)) = pre.filter (c1 (l, r) (o, e)) ++ (if b then [z] else []) := fun b hb => by
      rw [List.filter_append, List.filter_cons, hb]
      cases b <;> simp
    tm_at "ev"
    refine p_lenS hl ?_
    tm_at "ev"
    rw [ez]
    refine p_slSfrom hl ?_
    tm_at "ev"
    refine p_slSto ho ?_
    tm_at "ev"
    refine p_eqS (hl.drop _) (ho.take _) ?_
    refine p_dec (fun h5 => ?_) fun h5 => ?_
    · tm_at "ev"
      refine p_lenS hl ?_
      tm_at "ev"
      have yes : c1 (l, r) (o, e) z = true → wpSs (run Pg gb W (d + 1)) gb W [.app 1 (.tup [(.op .add (.var 3) (.sl (.var 4) [(.var 6)] [])), (.op .add (.sl (.var 2) [] [(.op .sub (.bi .len [(.var 2)]) (.var 6))]) (.var 5))])] (envO R (acc ++ (pre.filter (c1 (l, r) (o, e))).map (f1 (l, r) (o, e))) (some (.str l)) (some (.str r)) (some (.str o)) (some (.str e)) (some (enN z)) u7) fun fl s2 => fl = .nx ∧ ∃ u6, s2 = envO R (acc ++ ((pre ++ [z]).filter (c1 (l, r) (o, e))).map (f1 (l, r) (o, e))) (some (.str l)) (some (.str r)) (some (.str o)) (some (.str e)) u6 u7 := fun hb => by
        tm_at "ev"
        refine p_slSfrom ho ?_
        tm_at "ev"
        refine p_addS (by rw [List.length_drop]; omega) ?_
        tm_at "ev"
        refine p_lenS hl ?_
        tm_at "ev"
        rw [ez]
        refine p_slSto hl ?_
        tm_at "ev"
        refine p_addS (by rw [List.length_take]; omega) ?_
        tm_at "ev"
        refine ⟨by rw [List.length_map, List.length_append]; omega, ?_⟩
        tm_at "ev"
        have q : List.map enP (acc ++ (pre.filter (c1 (l, r) (o, e))).map (f1 (l, r) (o, e))) ++ [EV.tup [EV.str (r ++ List.drop z o), EV.str (List.take (List.length l - z) l ++ e)]] = List.map enP (acc ++ ((pre ++ [z]).filter (c1 (l, r) (o, e))).map (f1 (l, r) (o, e))) := by
          rw [app true hb]
          simp [f1]
        rw [q]
        exact ⟨rfl, some (enN z), rfl⟩
      refine p_dec (fun h6 => ?_) fun h6 => ?_
      · have hb : c1 (l, r) (o, e) z = true := by
          unfold c1
          rw [decide_eq_true h5, decide_eq_true (show z < l.length by omega)]
          rfl
        refine p_dec (fun _ => ?_) fun h => absurd h6 h
        refine wpSs_mono _ _ _ _ (fun fl s2 h => ?_) (yes hb)
        obtain ⟨rfl, h⟩ := h
        exact h
      · tm_at "ev"
        refine p_lenS ho ?_
        tm_at "ev"
        refine p_dec (fun h7 => ?_) fun h7 => ?_
        · have hb : c1 (l, r) (o, e) z = true := by
            unfold c1
            rw [decide_eq_true h5, decide_eq_true (show z < o.length by omega), Bool.or_true]
            rfl
          refine wpSs_mono _ _ _ _ (fun fl s2 h => ?_) (yes hb)
          obtain ⟨rfl, h⟩ := h
          exact h
        · have hb : c1 (l, r) (o, e) z = false := by
            unfold c1
            rw [decide_eq_false (show ¬ z < l.length by omega), decide_eq_false (show ¬ z < o.length by omega), Bool.or_false, Bool.and_false]
          tm_at "ev"
          rw [app false hb]
          simp only [Bool.false_eq_true, if_false, List.append_nil]
          exact ⟨_, rfl⟩
    · have hb : c1 (l, r) (o, e) z = false := by
        unfold c1
        rw [decide_eq_false h5]
        rfl
      refine p_dec (fun h => absurd h h5) fun _ => ?_
      tm_at "ev"
      rw [app false hb]
      simp only [Bool.false_eq_true, if_false, List.append_nil]
      exact ⟨_, rfl⟩
  · rintro _ ⟨u6, rfl⟩
    have hacc2 : (acc ++ o1 (l, r) (o, e)).length ≤ 1000050 := by
      have := hpl ((List.range (min l.length o.length)).map (1 + ·))
      unfold o1
      rw [List.length_append]
      simp only [List.length_map, List.length_range] at this ⊢
      omega
    tm_at "ev"
    refine p_lenS hl ?_
    tm_at "ev"
    refine p_lenS ho ?_
    tm_at "ev"
    refine oP_of (itE_rngI (by omega) (by omega)) ?_
    have en : ((l.length : Int) - (o.length : Int) + 1).toNat = l.length + 1 - o.length := by omega
    rw [en]
    refine wpF_map (enc := enN) (l := List.range (l.length + 1 - o.length)) (fun pre post s => ∃ u7, s = envO R (acc ++ o1 (l, r) (o, e) ++ (pre.filter (c2 (l, r) (o, e))).map (f2 (l, r) (o, e))) (some (.str l)) (some (.str r)) (some (.str o)) (some (.str e)) u6 u7) ?_ ?_ ⟨u7, by rw [List.filter_nil, List.map_nil, List.append_nil]; rfl⟩
    · rintro pre z post _ hps ⟨u7, rfl⟩
      have hpr : pre.length ≤ 51 := by
        have := congrArg List.length hps
        simp only [List.length_range, List.length_append, List.length_cons] at this
        omega
      have hp2 : ((pre.filter (c2 (l, r) (o, e))).map (f2 (l, r) (o, e))).length ≤ pre.length := by
        rw [List.length_map]
        exact List.length_filter_le _ _
      have app : ∀ b : Bool, c2 (l, r) (o, e) z = b → (pre ++ [z]).filter (c2 (l, r) (o, e)) = pre.filter (c2 (l, r) (o, e)) ++ (if b then [z] else []) := fun b hb => by
        rw [List.filter_append, List.filter_cons, hb]
        cases b <;> simp
      have ez : ((z : Int) + (o.length : Int)) = ((z + o.length : Nat) : Int) := by omega
      tm_at "ev"
      refine p_lenS ho ?_
      tm_at "ev"
      rw [ez]
      refine p_slS hl ?_
      rw [Nat.add_sub_cancel_left]
      tm_at "ev"
      refine p_eqS ((hl.drop _).take _) ho ?_
      refine p_dec (fun h5 => ?_) fun h5 => ?_
      · tm_at "ev"
        refine p_lenS ho ?_
        tm_at "ev"
        refine p_lenS hl ?_
        tm_at "ev"
        refine p_dec (fun h6 => ?_) fun h6 => ?_
        · have hb : c2 (l, r) (o, e) z = true := by
            unfold c2
            rw [decide_eq_true h5, decide_eq_true (show o.length < l.length by omega)]
            rfl
          tm_at "ev"
          refine p_slSto hl ?_
          tm_at "ev"
          refine p_addS (by rw [List.length_take]; omega) ?_
          tm_at "ev"
          refine p_lenS ho ?_
          tm_at "ev"
          rw [ez]
          refine p_slSfrom hl ?_
          tm_at "ev"
          refine p_addS (by rw [List.length_append, List.length_take, List.length_drop]; omega) ?_
          tm_at "ev"
          refine ⟨by rw [List.length_map, List.length_append]; omega, ?_⟩
          tm_at "ev"
          have q : List.map enP (acc ++ o1 (l, r) (o, e) ++ (pre.filter (c2 (l, r) (o, e))).map (f2 (l, r) (o, e))) ++ [EV.tup [EV.str r, EV.str (List.take z l ++ e ++ List.drop (z + List.length o) l)]] = List.map enP (acc ++ o1 (l, r) (o, e) ++ ((pre ++ [z]).filter (c2 (l, r) (o, e))).map (f2 (l, r) (o, e))) := by
            rw [app true hb]
            simp [f2]
          rw [q]
          exact ⟨some (enN z), rfl⟩
        · have hb : c2 (l, r) (o, e) z = false := by
            unfold c2
            rw [decide_eq_false (show ¬ o.length < l.length by omega), Bool.and_false]
          tm_at "ev"
          rw [app false hb]
          simp only [Bool.false_eq_true, if_false, List.append_nil]
          exact ⟨_, rfl⟩
      · have hb : c2 (l, r) (o, e) z = false := by
          unfold c2
          rw [decide_eq_false h5]
          rfl
        refine p_dec (fun h => absurd h h5) fun _ => ?_
        tm_at "ev"
        rw [app false hb]
        simp only [Bool.false_eq_true, if_false, List.append_nil]
        exact ⟨_, rfl⟩
    · rintro _ ⟨u7, rfl⟩
      have := k u6 u7
      rw [ov, ← List.append_assoc] at this
      exact this
end
end K68
end

section
set_option linter.all false
set_option maxRecDepth 100000
namespace K68
open Ev
section
variable {d W : Nat} {R : Rl} {w : Wd}
theorem ov_len (a b : Wd × Wd) : (ov a b).length ≤ a.1.length + a.1.length + 1 := by
  unfold ov o1 o2
  rw [List.length_append, List.length_map, List.length_map]
  have h1 := List.length_filter_le (c1 a b) ((List.range (min a.1.length b.1.length)).map (1 + ·))
  have h2 := List.length_filter_le (c2 a b) (List.range (a.1.length + 1 - b.1.length))
  rw [List.length_map, List.length_range] at h1
  rw [List.length_range] at h2
  omega
theorem flat_le {α β : Type} (f : α → List β) (m : Nat) (l : List α) (h : ∀ a ∈ l, (f a).length ≤ m) : (l.flatMap f).length ≤ l.length * m := by
  induction l with
  | nil => simp
  | cons a l ih =>
    have := ih fun b hb => h b (List.mem_cons_of_mem _ hb)
    have := h a List.mem_cons_self
    rw [List.flatMap_cons, List.length_append, List.length_cons, Nat.add_mul]
    omega
theorem overlaps_ok (hk : ROk R) : run Pg gb W (d + 2) 9 [enR R] = some (.lst ((ovs R).map enP), []) := by
  have hRl := hk.len
  refine run_eq (F := foverlaps_of) rfl rfl ?_
  show wpSs _ _ _ [_, _, _, _] _ _
  tm_at "ev"
  refine wpF_map (enc := enP) (l := R) (fun pre post s => ∃ u2 u3 u4 u5 u6 u7, s = envO R (pre.flatMap fun a => R.flatMap fun b => ov a b) u2 u3 u4 u5 u6 u7) ?_ ?_ ⟨none, none, none, none, none, none, rfl⟩
  · rintro pre ⟨l, r⟩ post _ hpre ⟨u2, u3, u4, u5, u6, u7, rfl⟩
    obtain ⟨hl, hr, h50, h51⟩ := hk.ch (l, r) (by rw [hpre]; simp)
    simp only at hl hr h50 h51
    have hpl : pre.length ≤ 20 := by
      have := congrArg List.length hpre
      rw [List.length_append] at this
      omega
    have ha1 : (pre.flatMap fun a => R.flatMap fun b => ov a b).length ≤ 20 * (20 * 101) := by
      refine Nat.le_trans (flat_le _ (20 * 101) pre fun a ha => ?_) (Nat.mul_le_mul_right _ hpl)
      refine Nat.le_trans (flat_le _ 101 R fun b hb => ?_) (Nat.mul_le_mul_right _ hRl)
      have := ov_len a b
      have := (hk.ch a (by rw [hpre]; simp [ha])).2.2.1
      omega
    tm_at "ev"
    refine wpF_map (enc := enP) (l := R) (fun pr po s => ∃ u4 u5 u6 u7, s = envO R ((pre.flatMap fun a => R.flatMap fun b => ov a b) ++ pr.flatMap fun b => ov (l, r) b) (some (.str l)) (some (.str r)) u4 u5 u6 u7) ?_ ?_ ⟨u4, u5, u6, u7, by simp⟩
    · rintro pr ⟨o, e⟩ po _ hpr ⟨u4, u5, u6, u7, rfl⟩
      obtain ⟨ho, he, h52, h53⟩ := hk.ch (o, e) (by rw [hpr]; simp)
      simp only at ho he h52 h53
      have hpl2 : pr.length ≤ 20 := by
        have := congrArg List.length hpr
        rw [List.length_append] at this
        omega
      have ha2 : (pr.flatMap fun b => ov (l, r) b).length ≤ 20 * 101 := by
        refine Nat.le_trans (flat_le _ 101 pr fun b hb => ?_) (Nat.mul_le_mul_right _ hpl2)
        have := ov_len (l, r) b
        simp only at this
        omega
      refine p_bind (t := envO R ((pre.flatMap fun a => R.flatMap fun b => ov a b) ++ pr.flatMap fun b => ov (l, r) b) (some (.str l)) (some (.str r)) (some (.str o)) (some (.str e)) u6 u7) rfl ?_
      refine o1_ok (d := d) hl hr ho he h50 h51 h52 h53 (by rw [List.length_append]; omega) fun u6 u7 => ?_
      tm_at "ev"
      rw [show (pr ++ [(o, e)]).flatMap (fun b => ov (l, r) b) = (pr.flatMap fun b => ov (l, r) b) ++ ov (l, r) (o, e) from by simp, ← List.append_assoc]
      exact ⟨_, _, _, _, rfl⟩
    · rintro _ ⟨u4, u5, u6, u7, rfl⟩
      tm_at "ev"
      rw [show (pre ++ [(l, r)]).flatMap (fun a => R.flatMap fun b => ov a b) = (pre.flatMap fun a => R.flatMap fun b => ov a b) ++ R.flatMap (fun b => ov (l, r) b) from by simp]
      exact ⟨_, _, _, _, _, _, rfl⟩
  · rintro _ ⟨u2, u3, u4, u5, u6, u7, rfl⟩
    tm_at "ev"
    exact ⟨.inl rfl, rfl⟩
theorem rest_ok (hk : ROk R) (i : Nat) : ROk (restOf R i) := by
  refine ⟨?_, fun p hp => hk.ch p ?_⟩
  · unfold restOf
    rw [List.length_append, List.length_take, List.length_drop]
    have := hk.len
    omega
  · unfold restOf at hp
    rcases List.mem_append.mp hp with h | h
    · exact List.mem_of_mem_take h
    · exact List.mem_of_mem_drop h
/-- where steps lead from an ancestor -/
theorem anc_ok {c : Nat} (hR : rulesOk c R = true) (hk : ROk R) {p : Wd × Wd} (h : Anc R p) (hw : ∀ w, Step R w p.1 → w.length ≤ 16 → Step R w p.2 → WOk w) : WOk p.1 ∧ WOk p.2 := by
  obtain ⟨w, h1, h2, h3⟩ := h
  have := hw w h1 h3 h2
  exact ⟨this.step hR hk h1, this.step hR hk h2⟩
def bad (R : Rl) (i : Nat) (a : Wd × Wd) : Prop := ¬ slt a.2 a.1 ∨ fp (restOf R i) a.1 ≠ none ∨ fp R a.2 ≠ none
theorem isc_fp {x : Option (Nat × Nat)} {B : Bool → Prop} (h : B (decide (x = none))) : oP (iscE (encO x) .non) B := by
  cases x with
  | none => exact h
  | some z => exact h
theorem ovs_w {c : Nat} (hR : rulesOk c R = true) (hk : ROk R) (hl : ∀ p ∈ R, p.1.length ≤ 8) (hg : Grt R) : ∀ p ∈ ovs R, WOk p.1 ∧ WOk p.2 := by
  intro p hp
  obtain ⟨w, h1, h2, h3⟩ := ovs_anc hg hl p hp
  have q1 := (phi_step hR h3 h1).2
  have q2 := (phi_step hR h3 h2).2
  obtain ⟨a, ha, hp⟩ := List.mem_flatMap.mp hp
  obtain ⟨b, hb, hp⟩ := List.mem_flatMap.mp hp
  obtain ⟨ca1, ca2, _⟩ := hk.ch a ha
  obtain ⟨cb1, cb2, _⟩ := hk.ch b hb
  have mem : (∀ c ∈ p.1, c < 1114112) ∧ ∀ c ∈ p.2, c < 1114112 := by
    rcases List.mem_append.mp hp with hp | hp
    · obtain ⟨s, _, rfl⟩ := List.mem_map.mp hp
      refine ⟨fun c hc => ?_, fun c hc => ?_⟩
      · rcases List.mem_append.mp hc with h | h
        · exact ca2.1 c h
        · exact (cb1.drop s).1 c h
      · rcases List.mem_append.mp hc with h | h
        · exact (ca1.take _).1 c h
        · exact cb2.1 c h
    · obtain ⟨s, _, rfl⟩ := List.mem_map.mp hp
      refine ⟨fun c hc => ca2.1 c hc, fun c hc => ?_⟩
      rcases List.mem_append.mp hc with h | h
      · rcases List.mem_append.mp h with h | h
        · exact (ca1.take _).1 c h
        · exact cb2.1 c h
      · exact (ca1.drop _).1 c h
  exact ⟨⟨by omega, mem.1⟩, ⟨by omega, mem.2⟩⟩
theorem settled_ok (hk : ROk R) (hl : ∀ p ∈ R, p.1.length ≤ 8) (hW : 400 ≤ W) (c : Nat) (hR : Good R → rulesOk c R = true) : ∃ t : Bool, run Pg gb W (d + 4) 10 [enR R] = some (.bl t, []) ∧ (t = true ↔ Good R ∧ ∀ p ∈ ovs R, NF R p.1 = NF R p.2) := by
  have hsz : SZ = 16777216 := rfl
  have hRl := hk.len
  have whole : wpSs (run Pg gb W (d + 3)) gb W fis_settled.body [some (enR R), none, none, none, none, none, none] fun fl s => ∃ t : Bool, fl = .ret (.bl t) ∧ (t = true ↔ Good R ∧ ∀ p ∈ ovs R, NF R p.1 = NF R p.2) := by
    show wpSs _ _ _ [_, _] _ _
    tm_at "ev"
    rw [enumL_map]
    refine wpF_map (enc := fun p : (Wd × Wd) × Nat => EV.tup [.int (0 + (p.2 : Int)), enP p.1]) (l := R.zipIdx) (fun pre post s => (∀ y ∈ pre, ¬ bad R y.2 y.1) ∧ ∃ u1 u2 u3 u4 u5 u6, s = [some (enR R), u1, u2, u3, u4, u5, u6]) ?_ ?_ ⟨(fun y hy => by cases hy), none, none, none, none, none, none, rfl⟩
    · rintro pre ⟨⟨l, r⟩, n⟩ post _ hpre ⟨hfail, u1, u2, u3, u4, u5, u6, rfl⟩
      have hm := zipIdx_get (by rw [hpre]; simp : ((l, r), n) ∈ R.zipIdx)
      obtain ⟨hcl, hcr, h50, h51⟩ := hk.ch _ (List.mem_of_getElem? hm)
      simp only at hcl hcr h50 h51
      have isbad : bad R n (l, r) → ∃ t : Bool, Fl.ret (EV.bl false) = Fl.ret (EV.bl t) ∧ (t = true ↔ Good R ∧ ∀ p ∈ ovs R, NF R p.1 = NF R p.2) := fun h => by
        refine ⟨false, rfl, ⟨(fun z => by cases z), fun ⟨hg, _⟩ => ?_⟩⟩
        obtain ⟨g1, g2, g3⟩ := hg n (l, r) hm
        rcases h with h | h | h
        · exact absurd g1 h
        · exact absurd g2 h
        · exact absurd g3 h
      have e0 : (0 + (n : Int)) = (n : Int) := by omega
      have e1 : ((n : Int) + 1) = ((n + 1 : Nat) : Int) := by omega
      tm_at "ev"
      rw [e0]
      refine p_slLto ?_
      tm_at "ev"
      rw [e1]
      refine p_slLfrom ?_
      tm_at "ev"
      refine p_addL (by rw [List.length_take, List.length_drop, List.length_map]; omega) ?_
      tm_at "ev"
      have er : EV.lst (List.take n (R.map enP) ++ List.drop (n + 1) (R.map enP)) = enR (restOf R n) := by
        unfold restOf
        rw [enR, List.map_append, List.map_take, List.map_drop]
      rw [er]
      obtain ⟨t, hrun, ht⟩ := greater_ok (d := d + 2) (W := W) hcl hcr
      refine ⟨_, _, hrun, ?_⟩
      tm_at "ev"
      refine p_bl (fun h => ?_) fun h => ?_
      · refine p_bl (fun _ => ?_) fun h' => by rw [h] at h'; cases h'
        tm_at "ev"
        refine isbad (.inl fun z => ?_)
        rw [ht.mpr z] at h
        cases h
      · have ht1 : slt r l := ht.mp (by cases t <;> simp_all)
        tm_at "ev"
        refine ⟨_, _, first_ok (d := d + 2) (rest_ok hk n) hcl, ?_⟩
        tm_at "ev"
        refine isc_fp ?_
        tm_at "ev"
        refine p_ndec (fun h2 => ?_) fun h2 => ?_
        · refine p_ndec (fun _ => ?_) fun h' => absurd h' h2
          tm_at "ev"
          exact isbad (.inr (.inl h2))
        · tm_at "ev"
          refine ⟨_, _, first_ok (d := d + 2) hk hcr, ?_⟩
          tm_at "ev"
          refine isc_fp ?_
          refine p_ndec (fun h3 => ?_) fun h3 => ?_
          · tm_at "ev"
            exact isbad (.inr (.inr h3))
          · tm_at "ev"
            refine ⟨fun y hy => ?_, _, _, _, _, _, _, rfl⟩
            rcases List.mem_append.mp hy with hy | hy
            · exact hfail y hy
            · rw [List.mem_singleton] at hy
              subst hy
              rintro (h | h | h)
              · exact h ht1
              · exact h h2
              · exact h h3
    · rintro _ ⟨hall, u1, u2, u3, u4, u5, u6, rfl⟩
      have hg : Good R := fun i a hi => by
        have := hall (a, i) (List.mem_zipIdx_iff_getElem?.mpr hi)
        unfold bad at this
        simp only [not_or, Classical.not_not, ne_eq] at this
        exact this
      have hR := hR hg
      have hov := ovs_w hR hk hl hg.grt
      tm_at "ev"
      refine ⟨_, _, overlaps_ok (d := d + 1) hk, ?_⟩
      tm_at "ev"
      refine wpC_map0 (enc := enP) (fun p => .bl (decide (NF R p.1 = NF R p.2))) (fun s => ∃ u5 u6, s = [some (enR R), u1, u2, u3, u4, u5, u6]) ?_ ⟨_, _, rfl⟩ ?_
      · rintro ⟨a, b⟩ hp _ ⟨u5, u6, rfl⟩
        obtain ⟨ha, hb⟩ := hov _ hp
        simp only at ha hb
        tm_at "ev"
        refine ⟨_, _, normal_ok (d := d + 1) hR hk ha hW, ?_⟩
        tm_at "ev"
        refine ⟨_, _, normal_ok (d := d + 1) hR hk hb hW, ?_⟩
        tm_at "ev"
        refine p_eqS (ha.star hR hk ((nf_N hR).star a ha.len)).c (hb.star hR hk ((nf_N hR).star b hb.len)).c ?_
        exact ⟨rfl, _, _, rfl⟩
      · rintro _ ⟨u5, u6, rfl⟩
        have hol : (ovs R).length ≤ 20 * (20 * 101) := by
          refine Nat.le_trans (flat_le _ (20 * 101) R fun a ha => ?_) (Nat.mul_le_mul_right _ hRl)
          refine Nat.le_trans (flat_le _ 101 R fun b hb => ?_) (Nat.mul_le_mul_right _ hRl)
          have := ov_len a b
          have := (hk.ch a ha).2.2.1
          omega
        refine ⟨by rw [List.length_map]; omega, ?_⟩
        tm_at "ev"
        refine oP_of (all1_map _ _) ?_
        tm_at "ev"
        refine ⟨_, rfl, ?_⟩
        rw [List.all_eq_true]
        simp only [decide_eq_true_eq]
        exact ⟨fun h => ⟨hg, h⟩, fun h => h.2⟩
  obtain ⟨fl, s, e, t, rfl, ht⟩ := wpSs_sound _ _ _ whole
  refine ⟨t, ?_, ht⟩
  rw [run]
  have hF : Pg[10]? = some fis_settled := rfl
  have e : exs (run Pg gb W (d + 3)) gb W fis_settled.body (startE fis_settled.n [enR R]) = some (.ret (.bl t), s) := e
  have hc : chkE fis_settled.md [enR R] = true := rfl
  simp only [hF, hc, if_true, e]
  rfl
theorem none_ok (hk : ROk R) (hl : ∀ p ∈ R, p.1.length ≤ 8) (hW : 400 ≤ W) (hb : ¬ Good R) : run Pg gb W (d + 5) 14 [enR R] = some (.bl true, []) := by
  obtain ⟨t, hr, ht⟩ := settled_ok (d := d) (W := W) hk hl hW 0 fun h => absurd h hb
  have : t = false := by
    cases t with
    | false => rfl
    | true => exact absurd (ht.mp rfl).1 hb
  subst this
  refine run_eq (F := f_law_is_none) rfl rfl ?_
  show wpSs _ _ _ [_] _ _
  tm_at "ev"
  refine ⟨_, _, hr, ?_⟩
  tm_at "ev"
  exact ⟨.inl rfl, rfl⟩
end
end K68
end

section
set_option linter.all false
set_option maxRecDepth 100000
namespace K68
open Ev
section
variable {d W : Nat} {R : Rl} {w : Wd}
theorem ltE_slt {a b : Wd} : ltE (.tup [.int (b.length : Int), .str b]) (.tup [.int (a.length : Int), .str a]) = true ↔ slt b a := by
  show (ltEs [.int (b.length : Int), .str b] [.int (a.length : Int), .str a]) = true ↔ _
  have e : ltEs [.int (b.length : Int), .str b] [.int (a.length : Int), .str a] = if decide ((b.length : Int) = (a.length : Int)) then (if decide (b = a) then false else lexS b a) else decide ((b.length : Int) < (a.length : Int)) := rfl
  rw [e]
  unfold slt
  by_cases h : b.length = a.length
  · rw [if_pos (by rw [decide_eq_true_eq]; omega)]
    by_cases h2 : b = a
    · subst h2
      simp [lexS_irr]
    · rw [if_neg (by simpa using h2)]
      constructor
      · exact fun k => .inr ⟨h, k⟩
      · rintro (k | ⟨_, k⟩)
        · omega
        · exact k
  · rw [if_neg (by rw [decide_eq_true_eq]; omega), decide_eq_true_eq]
    constructor
    · exact fun k => .inl (by omega)
    · rintro (k | ⟨k, _⟩)
      · omega
      · exact absurd k h
theorem cmpOk_w {a b : Wd} (ha : ChOk a) (hb : ChOk b) : cmpOk (.tup [.int (a.length : Int), .str a]) (.tup [.int (b.length : Int), .str b]) = true := by
  have p1 := ha.plain
  have p2 := hb.plain
  simp only [Ev.plain] at p1 p2
  simp [cmpOk, okD, Ev.plain, plains, depth, depths, alikeE, alikeEs, p1, p2]
theorem lc_len (a b : Wd × Wd) : (lc a b).length ≤ a.1.length := by
  unfold lc
  rw [List.length_map]
  have h1 := List.length_filter_le (fun s => decide (a.1.drop (a.1.length - s) = b.1.take s)) ((List.range (min a.1.length b.1.length - 1)).map (1 + ·))
  rw [List.length_map, List.length_range] at h1
  omega
theorem f1_w {c : Nat} (hR : rulesOk c R = true) (hk : ROk R) (hl : ∀ p ∈ R, p.1.length ≤ 8) (hg : Grt R) {a b : Wd × Wd} (ha : a ∈ R) (hb : b ∈ R) {s : Nat} (hs : s ≤ a.1.length) (h : a.1.drop (a.1.length - s) = b.1.take s) : WOk (f1 a b s).1 ∧ WOk (f1 a b s).2 := by
  obtain ⟨w, h1, h2, h3⟩ := f1_anc ha hb (hg.ne (l := a.1) (r := a.2) ha) (hg.ne (l := b.1) (r := b.2) hb) (hl a ha) (hl b hb) hs h
  have q1 := (phi_step hR h3 h1).2
  have q2 := (phi_step hR h3 h2).2
  obtain ⟨ca1, ca2, _⟩ := hk.ch a ha
  obtain ⟨cb1, cb2, _⟩ := hk.ch b hb
  refine ⟨⟨by omega, fun c hc => ?_⟩, ⟨by omega, fun c hc => ?_⟩⟩
  · rcases List.mem_append.mp hc with h | h
    · exact ca2.1 c h
    · exact (cb1.drop s).1 c h
  · rcases List.mem_append.mp hc with h | h
    · exact (ca1.take _).1 c h
    · exact cb2.1 c h
def okij (R : Rl) (i j : Nat) : Prop := ∀ a b : Wd × Wd, R[i]? = some a → R[j]? = some b → (i ≠ j → isSub a.1 b.1 = false) ∧ isSub a.1 b.2 = false
theorem lsettled_ok (hk : ROk R) (hl : ∀ p ∈ R, p.1.length ≤ 8) (c : Nat) (hR : GoodL R → rulesOk c R = true) : ∃ t : Bool, run Pg gb W (d + 3) 13 [enR R] = some (.bl t, []) ∧ (t = true ↔ GoodL R ∧ ∀ p ∈ lcs R, LF R p.1 = LF R p.2) := by
  have hsz : SZ = 16777216 := rfl
  have hRl := hk.len
  have hmapR : (R.map enP).length = R.length := List.length_map _
  have getR : ∀ {i : Nat} {a : Wd × Wd}, R[i]? = some a → (R.map enP)[i]? = some (enP a) := fun {i a} h => by rw [List.getElem?_map, h]; rfl
  have whole : wpSs (run Pg gb W (d + 2)) gb W f_law_settled.body [some (enR R), none, none, none, none, none, none, none, none] fun fl s => ∃ t : Bool, fl = .ret (.bl t) ∧ (t = true ↔ GoodL R ∧ ∀ p ∈ lcs R, LF R p.1 = LF R p.2) := by
    show wpSs _ _ _ [_, _, _, _] _ _
    tm_at "ev"
    refine wpC_map0 (enc := enP) (fun p => .bl (!ltE (.tup [.int (p.2.length : Int), .str p.2]) (.tup [.int (p.1.length : Int), .str p.1]))) (fun s => ∃ u3 u4, s = [some (enR R), none, none, u3, u4, none, none, none, none]) ?_ ⟨_, _, rfl⟩ ?_
    · rintro ⟨l, r⟩ hm _ ⟨u3, u4, rfl⟩
      obtain ⟨hcl, hcr, h50, h51⟩ := hk.ch _ hm
      simp only at hcl hcr h50 h51
      tm_at "ev"
      refine p_lenS hcl ?_
      tm_at "ev"
      refine p_lenS hcr ?_
      tm_at "ev"
      refine oP_of (z := !ltE (.tup [.int (r.length : Int), .str r]) (.tup [.int (l.length : Int), .str l])) ?_ ?_
      · show (if cmpOk _ _ then some _ else none) = _
        rw [cmpOk_w hcl hcr]
        rfl
      exact ⟨rfl, _, _, rfl⟩
    rintro _ ⟨u3, u4, rfl⟩
    refine ⟨by rw [List.length_map]; omega, ?_⟩
    tm_at "ev"
    refine oP_of (any1_map _ _) ?_
    tm_at "ev"
    refine p_bl (fun h => ?_) fun h => ?_
    · tm_at "ev"
      refine ⟨false, rfl, ⟨(fun z => by cases z), fun ⟨hg, _⟩ => ?_⟩⟩
      rw [List.any_eq_true] at h
      obtain ⟨p, hp, h⟩ := h
      rw [ltE_slt.mpr (hg.1 p hp)] at h
      cases h
    · have hgrt : Grt R := fun p hp => by
        rw [List.any_eq_false] at h
        have := h p hp
        rw [Bool.not_eq_true, Bool.not_eq_false'] at this
        exact ltE_slt.mp this
      tm_at "ev"
      rw [hmapR]
      refine oP_of (itE_rng1 (by omega)) ?_
      refine wpF_map (enc := enN) (l := List.range R.length) (fun pre post s => (∀ i ∈ pre, ∀ j, j < R.length → okij R i j) ∧ ∃ u1 u2, s = [some (enR R), u1, u2, none, none, none, none, none, none]) ?_ ?_ ⟨(fun i hi => by cases hi), none, none, rfl⟩
      · rintro pre i post _ hpre ⟨hok, u1, u2, rfl⟩
        have hi : i < R.length := List.mem_range.mp (by rw [hpre]; simp)
        have hRi : R[i]? = some R[i] := List.getElem?_eq_getElem hi
        tm_at "ev"
        rw [hmapR]
        refine oP_of (itE_rng1 (by omega)) ?_
        refine wpF_map (enc := enN) (l := List.range R.length) (fun pr po s => (∀ j ∈ pr, okij R i j) ∧ ∃ u2, s = [some (enR R), some (enN i), u2, none, none, none, none, none, none]) ?_ ?_ ⟨(fun j hj => by cases hj), u2, rfl⟩
        · rintro pr j po _ hpr ⟨hok2, u2, rfl⟩
          have hj : j < R.length := List.mem_range.mp (by rw [hpr]; simp)
          have hRj : R[j]? = some R[j] := List.getElem?_eq_getElem hj
          have isbad : ¬ okij R i j → ∃ t : Bool, Fl.ret (EV.bl false) = Fl.ret (EV.bl t) ∧ (t = true ↔ GoodL R ∧ ∀ p ∈ lcs R, LF R p.1 = LF R p.2) := fun hb =>
            ⟨false, rfl, ⟨(fun z => by cases z), fun ⟨hg, _⟩ => absurd (fun a b ha hb' => hg.2 i j a b ha hb') hb⟩⟩
          have done : (i ≠ j → isSub R[i].1 R[j].1 = false) → isSub R[i].1 R[j].2 = false → ∀ k ∈ pr ++ [j], okij R i k := fun h1 h2 k hk' => by
            rcases List.mem_append.mp hk' with hk' | hk'
            · exact hok2 k hk'
            · rw [List.mem_singleton] at hk'
              subst hk'
              intro a b ha hb
              rw [hRi] at ha
              rw [hRj] at hb
              cases ha
              cases hb
              exact ⟨h1, h2⟩
          tm_at "ev"
          refine p_ndec (fun hne => ?_) fun heq => ?_
          · have hne : i ≠ j := fun e => hne (by rw [e])
            tm_at "ev"
            refine p_ixL (getR hRi) ?_
            tm_at "ev"
            refine p_ixL (getR hRj) ?_
            tm_at "ev"
            refine p_inS ?_
            cases hb : isSub R[i].1 R[j].1 with
            | true =>
              tm_at "ev"
              exact isbad fun h => by
                have := (h _ _ hRi hRj).1 hne
                rw [hb] at this
                cases this
            | false =>
              tm_at "ev"
              refine p_ixL (getR hRi) ?_
              tm_at "ev"
              refine p_ixL (getR hRj) ?_
              tm_at "ev"
              refine p_inS ?_
              cases h2 : isSub R[i].1 R[j].2 with
              | true =>
                tm_at "ev"
                exact isbad fun h => by
                  have := (h _ _ hRi hRj).2
                  rw [h2] at this
                  cases this
              | false =>
                tm_at "ev"
                exact ⟨done (fun _ => hb) h2, _, rfl⟩
          · have heq : i = j := by omega
            refine p_ndec (fun h => absurd (by rw [heq]) h) fun _ => ?_
            tm_at "ev"
            refine p_ixL (getR hRi) ?_
            tm_at "ev"
            refine p_ixL (getR hRj) ?_
            tm_at "ev"
            refine p_inS ?_
            cases h2 : isSub R[i].1 R[j].2 with
            | true =>
              tm_at "ev"
              exact isbad fun h => by
                have := (h _ _ hRi hRj).2
                rw [h2] at this
                cases this
            | false =>
              tm_at "ev"
              exact ⟨done (fun h => absurd heq h) h2, _, rfl⟩
        · rintro _ ⟨hok2, u2, rfl⟩
          tm_at "ev"
          refine ⟨fun k hk' => ?_, _, _, rfl⟩
          rcases List.mem_append.mp hk' with hk' | hk'
          · exact hok k hk'
          · rw [List.mem_singleton] at hk'
            subst hk'
            exact fun j hj => hok2 j (List.mem_range.mpr hj)
      · rintro _ ⟨hok, u1, u2, rfl⟩
        have hgl : GoodL R := ⟨hgrt, fun i j a b ha hb => by
          have hi : i < R.length := by
            rcases Nat.lt_or_ge i R.length with q | q
            · exact q
            · rw [List.getElem?_eq_none q] at ha; cases ha
          have hj : j < R.length := by
            rcases Nat.lt_or_ge j R.length with q | q
            · exact q
            · rw [List.getElem?_eq_none q] at hb; cases hb
          exact hok i (List.mem_range.mpr hi) j hj a b ha hb⟩
        have hR := hR hgl
        tm_at "ev"
        refine wpF_map (enc := enP) (l := R) (fun pre post s => (∀ a ∈ pre, ∀ b ∈ R, ∀ p ∈ lc a b, LF R p.1 = LF R p.2) ∧ ∃ u3 u4 u5 u6 u7 u8, s = [some (enR R), u1, u2, u3, u4, u5, u6, u7, u8]) ?_ ?_ ⟨(fun a ha => by cases ha), none, none, none, none, none, none, rfl⟩
        · rintro pre ⟨l, r⟩ post _ hpre ⟨hok3, u3, u4, u5, u6, u7, u8, rfl⟩
          have hma : (l, r) ∈ R := by rw [hpre]; simp
          obtain ⟨hcl, hcr, h50, h51⟩ := hk.ch _ hma
          simp only at hcl hcr h50 h51
          tm_at "ev"
          refine wpF_map (enc := enP) (l := R) (fun pr po s => (∀ b ∈ pr, ∀ p ∈ lc (l, r) b, LF R p.1 = LF R p.2) ∧ ∃ u5 u6 u7 u8, s = [some (enR R), u1, u2, some (.str l), some (.str r), u5, u6, u7, u8]) ?_ ?_ ⟨(fun a ha => by cases ha), u5, u6, u7, u8, rfl⟩
          · rintro pr ⟨o, e⟩ po _ hpr ⟨hok4, u5, u6, u7, u8, rfl⟩
            have hmb : (o, e) ∈ R := by rw [hpr]; simp
            obtain ⟨hco, hce, h52, h53⟩ := hk.ch _ hmb
            simp only at hco hce h52 h53
            tm_at "ev"
            refine p_lenS hcl ?_
            tm_at "ev"
            refine p_lenS hco ?_
            tm_at "ev"
            have em : (if (o.length : Int) < (l.length : Int) then (o.length : Int) else (l.length : Int)) = ((min l.length o.length : Nat) : Int) := by
              split <;> omega
            rw [em]
            refine oP_of (itE_rng2 (a := 1) (by decide) (by omega)) ?_
            refine wpF_map (enc := enN) (l := (List.range (min l.length o.length - 1)).map (1 + ·)) (fun ps qs s => (∀ z ∈ ps, l.drop (l.length - z) = o.take z → LF R (f1 (l, r) (o, e) z).1 = LF R (f1 (l, r) (o, e) z).2) ∧ ∃ u7 u8, s = [some (enR R), u1, u2, some (.str l), some (.str r), some (.str o), some (.str e), u7, u8]) ?_ ?_ ⟨(fun a ha => by cases ha), u7, u8, rfl⟩
            · rintro ps z qs _ hps ⟨hok5, u7, u8, rfl⟩
              have hz : 1 ≤ z ∧ z ≤ l.length ∧ z ≤ o.length ∧ z ∈ (List.range (min l.length o.length - 1)).map (1 + ·) := by
                have : z ∈ (List.range (min l.length o.length - 1)).map (1 + ·) := by rw [hps]; simp
                refine ⟨?_, ?_, ?_, this⟩ <;>
                · obtain ⟨i, hi, rfl⟩ := List.mem_map.mp this
                  rw [List.mem_range] at hi
                  omega
              have ez : ((l.length : Int) - (z : Int)) = ((l.length - z : Nat) : Int) := by omega
              have more : (l.drop (l.length - z) = o.take z → LF R (f1 (l, r) (o, e) z).1 = LF R (f1 (l, r) (o, e) z).2) → ∀ y ∈ ps ++ [z], l.drop (l.length - y) = o.take y → LF R (f1 (l, r) (o, e) y).1 = LF R (f1 (l, r) (o, e) y).2 := fun h y hy => by
                rcases List.mem_append.mp hy with hy | hy
                · exact hok5 y hy
                · rw [List.mem_singleton] at hy
                  subst hy
                  exact h
              tm_at "ev"
              refine p_lenS hcl ?_
              tm_at "ev"
              rw [ez]
              refine p_slSfrom hcl ?_
              tm_at "ev"
              refine p_slSto hco ?_
              tm_at "ev"
              refine p_eqS (hcl.drop _) (hco.take _) ?_
              refine p_dec (fun h5 => ?_) fun h5 => ?_
              · obtain ⟨w1, w2⟩ := f1_w hR hk hl hgrt hma hmb hz.2.1 h5
                tm_at "ev"
                refine p_slSfrom hco ?_
                tm_at "ev"
                refine p_addS (by rw [List.length_drop]; omega) ?_
                tm_at "ev"
                refine ⟨_, _, lnormal_ok (d := d) hR hk w1, ?_⟩
                tm_at "ev"
                refine p_lenS hcl ?_
                tm_at "ev"
                rw [ez]
                refine p_slSto hcl ?_
                tm_at "ev"
                refine p_addS (by rw [List.length_take]; omega) ?_
                tm_at "ev"
                refine ⟨_, _, lnormal_ok (d := d) hR hk w2, ?_⟩
                tm_at "ev"
                refine p_neS (w1.star hR hk ((nf_L hR).star _ w1.len)).c (w2.star hR hk ((nf_L hR).star _ w2.len)).c ?_
                refine p_ndec (fun h6 => ?_) fun h6 => ?_
                · tm_at "ev"
                  refine ⟨false, rfl, ⟨(fun q => by cases q), fun ⟨_, hall⟩ => absurd (hall (f1 (l, r) (o, e) z) ?_) h6⟩⟩
                  exact List.mem_flatMap.mpr ⟨_, hma, List.mem_flatMap.mpr ⟨_, hmb, List.mem_map.mpr ⟨z, List.mem_filter.mpr ⟨hz.2.2.2, decide_eq_true h5⟩, rfl⟩⟩⟩
                · tm_at "ev"
                  exact ⟨more fun _ => h6, _, _, rfl⟩
              · tm_at "ev"
                exact ⟨more fun h => absurd h h5, _, _, rfl⟩
            · rintro _ ⟨hok5, u7, u8, rfl⟩
              tm_at "ev"
              refine ⟨fun b hb p hp => ?_, _, _, _, _, rfl⟩
              rcases List.mem_append.mp hb with hb | hb
              · exact hok4 b hb p hp
              · rw [List.mem_singleton] at hb
                subst hb
                obtain ⟨z, hz, rfl⟩ := List.mem_map.mp hp
                obtain ⟨h1, h2⟩ := List.mem_filter.mp hz
                exact hok5 z h1 (of_decide_eq_true h2)
          · rintro _ ⟨hok4, u5, u6, u7, u8, rfl⟩
            tm_at "ev"
            refine ⟨fun a ha => ?_, _, _, _, _, _, _, rfl⟩
            rcases List.mem_append.mp ha with ha | ha
            · exact hok3 a ha
            · rw [List.mem_singleton] at ha
              subst ha
              exact fun b hb => hok4 b hb
        · rintro _ ⟨hok3, u3, u4, u5, u6, u7, u8, rfl⟩
          tm_at "ev"
          refine ⟨true, rfl, ⟨fun _ => ⟨hgl, fun p hp => ?_⟩, fun _ => rfl⟩⟩
          obtain ⟨a, ha, hp⟩ := List.mem_flatMap.mp hp
          obtain ⟨b, hb, hp⟩ := List.mem_flatMap.mp hp
          exact hok3 a ha b hb p hp
  obtain ⟨fl, s, e, t, rfl, ht⟩ := wpSs_sound _ _ _ whole
  refine ⟨t, ?_, ht⟩
  rw [run]
  have hF : Pg[13]? = some f_law_settled := rfl
  have e : exs (run Pg gb W (d + 2)) gb W f_law_settled.body (startE f_law_settled.n [enR R]) = some (.ret (.bl t), s) := e
  have hc : chkE f_law_settled.md [enR R] = true := rfl
  simp only [hF, hc, if_true, e]
  rfl
end
end K68
end

section
set_option linter.all false
set_option maxRecDepth 100000
namespace K68
open Ev
theorem _root_.Ev.Stm.con' {e : EV} (h : Stm e) : e.isCon = true := by
  obtain ⟨_, _, _, _, rfl, _⟩ := h
  rfl
/-- the known rules -/
def KR : List (Wd × Rl) := [([97, 98], []), ([97], [([97, 97], [])]), ([97, 98], [([97, 97], []), ([98, 98], [])]), ([97, 98], [([97, 97], []), ([98, 97], [97, 98])]), ([97, 98], [([98, 97], [97, 98])]),
  ([97, 98], [([97, 97], [97]), ([98, 98], [98])]), ([97, 98], [([97, 97], []), ([98, 97, 98], [97, 98, 97]), ([98, 98], [])]), ([97, 98, 99], [([98, 97], [97, 98]), ([99, 97], [97, 99]), ([99, 98], [98, 99])]),
  ([97], [([97, 97, 97, 97], [])]), ([97, 98], [([97, 98], [])]), ([97], [([97, 97, 97, 97, 97], [97, 97])]),
  ([97, 98], [([97, 97, 98], [98])]), ([97, 98, 99], [([97, 98], [99])]), ([97, 98], [([97, 97], []), ([98, 98], []), ([98, 97], [97, 98])]), ([97, 98], [([97], [])]),
  ([97, 98, 99], [([97, 97], []), ([98, 98], []), ([99, 99], [])]), ([97, 98], [([97, 97, 97], [97]), ([98, 97], [97, 98]), ([98, 98], [])]), ([97, 98, 99, 100], [([100, 97], []), ([97, 100], [])]), ([97, 98, 99], [([99, 97, 98], [98])])]
abbrev enKR (p : Wd × Rl) : EV := .tup [.str p.1, enR p.2]
def sltB (a b : Wd) : Bool := decide (a.length < b.length) || (decide (a.length = b.length) && lexS a b)
theorem sltB_iff {a b : Wd} : sltB a b = true ↔ slt a b := by
  unfold sltB slt
  simp only [Bool.or_eq_true, Bool.and_eq_true, decide_eq_true_eq]
def goodB (R : Rl) : Bool := R.zipIdx.all fun p => sltB p.1.2 p.1.1 && (fp (restOf R p.2) p.1.1).isNone && (fp R p.1.2).isNone
theorem goodB_ok {R : Rl} (h : goodB R = true) : Good R := fun i a hi => by
  have := List.all_eq_true.mp h (a, i) (List.mem_zipIdx_iff_getElem?.mpr hi)
  simp only [Bool.and_eq_true, Option.isNone_iff_eq_none] at this
  exact ⟨sltB_iff.mp this.1.1, this.1.2, this.2⟩
def chOkB (w : Wd) : Bool := w.all fun c => decide (97 ≤ c) && decide (c ≤ 100)
def chk (p : Wd × Rl) : Bool := (rulesOk 0 p.2 || rulesOk 1 p.2 || rulesOk 2 p.2) && goodB p.2 && ((ovs p.2).all fun q => decide (NF p.2 q.1 = NF p.2 q.2)) && decide (p.2.length ≤ 4) && (p.2.all fun q => chOkB q.1 && chOkB q.2 && decide (q.1.length ≤ 5) && decide (q.2.length ≤ 5)) && chOkB p.1 && decide (p.1.head? = some 97) && decide (p.1.length ≤ 4)
theorem all_chk : KR.all chk = true := by decide +kernel
structure Facts (L : Wd) (R : Rl) (c : Nat) : Prop where
  rok : rulesOk c R = true
  good : Good R
  cp : ∀ q ∈ ovs R, NF R q.1 = NF R q.2
  len : R.length ≤ 4
  ch : ∀ q ∈ R, (∀ c ∈ q.1, 97 ≤ c ∧ c ≤ 100) ∧ (∀ c ∈ q.2, 97 ≤ c ∧ c ≤ 100) ∧ q.1.length ≤ 5 ∧ q.2.length ≤ 5
  lch : ∀ c ∈ L, 97 ≤ c ∧ c ≤ 100
  l0 : ∃ t, L = 97 :: t
  ll : L.length ≤ 4
theorem chOkB_ok {w : Wd} (h : chOkB w = true) : ∀ c ∈ w, 97 ≤ c ∧ c ≤ 100 := fun c hc => by
  have := List.all_eq_true.mp h c hc
  simpa using this
theorem facts {p : Wd × Rl} (hp : p ∈ KR) : ∃ c, Facts p.1 p.2 c := by
  have h := List.all_eq_true.mp all_chk p hp
  unfold chk at h
  simp only [Bool.and_eq_true, Bool.or_eq_true, decide_eq_true_eq, List.all_eq_true] at h
  obtain ⟨⟨⟨⟨⟨⟨⟨h1, h2⟩, h3⟩, h4⟩, h5⟩, h6⟩, h7⟩, h8⟩ := h
  have mk : ∀ c, rulesOk c p.2 = true → Facts p.1 p.2 c := fun c hc => ⟨hc, goodB_ok h2, h3, h4, fun q hq => by
    have := h5 q hq
    exact ⟨chOkB_ok this.1.1.1, chOkB_ok this.1.1.2, this.1.2, this.2⟩, chOkB_ok h6, by
    cases e : p.1 with
    | nil => rw [e] at h7; cases h7
    | cons a t => rw [e] at h7; cases h7; exact ⟨t, rfl⟩, h8⟩
  rcases h1 with (h1 | h1) | h1
  · exact ⟨0, mk 0 h1⟩
  · exact ⟨1, mk 1 h1⟩
  · exact ⟨2, mk 2 h1⟩
theorem Facts.rk {L : Wd} {R : Rl} {c : Nat} (h : Facts L R c) : ROk R :=
  ⟨by have := h.len; omega, fun p hp => by
    obtain ⟨h1, h2, h3, h4⟩ := h.ch p hp
    exact ⟨⟨fun x hx => by have := h1 x hx; omega, by omega⟩, ⟨fun x hx => by have := h2 x hx; omega, by omega⟩, by omega, by omega⟩⟩
theorem Facts.l8 {L : Wd} {R : Rl} {c : Nat} (h : Facts L R c) : ∀ p ∈ R, p.1.length ≤ 8 := fun p hp => by
  have := (h.ch p hp).2.2.1
  omega
section
variable {d W : Nat}
theorem known_ok {e : EV} (hs : Stm e) : ∃ p e', run Pg gb W (d + 3) 3 [e] = some (enKR p, [e']) ∧ p ∈ KR ∧ Stm e' := by
  obtain ⟨i, x, e', hr, hx, hs'⟩ := pick_ok (Pg := Pg) (gb := gb) (W := W) (d := d) (f := 1) (g := 2) rfl rfl hs (xs := KR.map enKR) (by decide) (by decide)
  rw [List.getElem?_map] at hx
  obtain ⟨p, hp, rfl⟩ := Option.map_eq_some_iff.mp hx
  refine ⟨p, e', ?_, List.mem_of_getElem? hp, hs'⟩
  obtain ⟨_, _, _, _, rfl, _⟩ := hs
  obtain ⟨_, _, _, _, rfl, _⟩ := hs'
  refine run_eq (F := f_law_known_rules) rfl rfl ?_
  show wpSs _ _ _ [_, _, _, _, _, _, _] _ _
  tm_at "ev"
  refine p_ext (by decide) ?_
  tm_at "ev"
  refine p_ext (by decide) ?_
  tm_at "ev"
  refine p_ext (by decide) ?_
  tm_at "ev"
  refine p_ext (by decide) ?_
  tm_at "ev"
  refine ⟨_, _, hr, ?_⟩
  exact ⟨.inl rfl, rfl⟩
theorem word_ok {e : EV} (hs : Stm e) {L : Wd} (hL : ∀ c ∈ L, 97 ≤ c ∧ c ≤ 100) (h0 : 0 < L.length) (h4 : L.length ≤ 4) (m : Nat) (hm : m ≤ 8) : ∃ (w : Wd) (e' : EV), run Pg gb W (d + 3) 4 [e, .str L, .int (m : Int)] = some (.str w, [e']) ∧ w.length ≤ m ∧ (∀ c ∈ w, 97 ≤ c ∧ c ≤ 100) ∧ Stm e' := by
  have hsz : SZ = 16777216 := rfl
  have hLc : ChOk L := ⟨fun c hc => by have := hL c hc; omega, by omega⟩
  have whole : wpSs (run Pg gb W (d + 2)) gb W f_law_word.body [some e, some (.str L), some (.int (m : Int)), none] fun fl s => ∃ (w : Wd) (e' : EV), fl = .ret (.str w) ∧ s[0]? = some (some e') ∧ w.length ≤ m ∧ (∀ c ∈ w, 97 ≤ c ∧ c ≤ 100) ∧ Stm e' := by
    show wpSs _ _ _ [_] _ _
    tm_at "ev"
    have e1 : ((m : Int) + 1) = ((m + 1 : Nat) : Int) := by omega
    rw [e1]
    obtain ⟨n, e', hr, hn, hs1⟩ := draw_ok (Pg := Pg) (gb := gb) (W := W) (d := d + 1) (f := 1) rfl hs (m := m + 1) (by omega) (by omega)
    refine ⟨_, _, hr, ?_⟩
    tm_at "ev"
    refine oP_of (itE_rng1 (by omega)) ?_
    refine wpC_inv0 (fun acc post s => ∃ (l : List Nat) (e : EV) (u : Option EV), acc = l.map (fun c => EV.str [c]) ∧ (∀ c ∈ l, 97 ≤ c ∧ c ≤ 100) ∧ l.length + post.length = n ∧ Stm e ∧ s = [some e, some (.str L), some (.int (m : Int)), u]) ?_ ?_ ⟨[], e', none, rfl, (fun x hx => by cases hx), by simp, hs1, rfl⟩
    · rintro acc x post _ ⟨l, e, u, rfl, hl, hlen, hs, rfl⟩
      tm_at "ev"
      refine oP_of (z := .lst (chars L)) (by
        show (if L.length ≤ SZ then some (EV.lst (chars L)) else none) = _
        rw [if_pos hLc.sz]) ?_
      tm_at "ev"
      have hcl : chars L = L.map fun c => EV.str [c] := by
        clear hL h0 h4 hLc
        induction L with
        | nil => rfl
        | cons c L ih => rw [chars, ih]; rfl
      rw [hcl]
      obtain ⟨i, y, e2, hr2, hy, hs2⟩ := pick_ok (Pg := Pg) (gb := gb) (W := W) (d := d) (f := 1) (g := 2) rfl rfl hs (xs := L.map fun c => EV.str [c]) (by rw [List.length_map]; exact h0) (by rw [List.length_map]; omega)
      rw [List.getElem?_map] at hy
      obtain ⟨c, hc, rfl⟩ := Option.map_eq_some_iff.mp hy
      refine ⟨_, _, hr2, ?_⟩
      refine ⟨l ++ [c], e2, some x, by simp, fun z hz => ?_, ?_, hs2, rfl⟩
      · rcases List.mem_append.mp hz with h | h
        · exact hl z h
        · rw [List.mem_singleton] at h
          subst h
          exact hL _ (List.mem_of_getElem? hc)
      · rw [List.length_append]
        simp only [List.length_cons, List.length_nil] at hlen ⊢
        omega
    · rintro acc _ ⟨l, e, u, rfl, hl, hlen, hs, rfl⟩
      simp only [List.length_nil, Nat.add_zero] at hlen
      refine ⟨by rw [List.length_map]; omega, ?_⟩
      tm_at "ev"
      have ha : ∀ l : List Nat, allStr (l.map fun c => EV.str [c]) = some (l.map fun c => [c]) := fun l => by
        induction l with
        | nil => rfl
        | cons c l ih => rw [List.map_cons, allStr, ih]; rfl
      have hj : ∀ l : List Nat, joinS [] (l.map fun c => [c]) = l := fun l => by
        induction l with
        | nil => rfl
        | cons c l ih =>
          cases l with
          | nil => rfl
          | cons c' l =>
            rw [List.map_cons, List.map_cons, joinS]
            rw [List.map_cons] at ih
            rw [ih]
            rfl
      refine oP_of (z := .str l) ?_ ?_
      · show (match allStr (l.map fun c => EV.str [c]) with | some l => if (l.map List.length).sum + l.length * 0 ≤ SZ then some (EV.str (joinS [] l)) else none | none => none) = _
        rw [ha]
        simp only
        have hsum : ((l.map fun c => [c]).map List.length).sum = l.length := by
          rw [List.map_map]
          have : ∀ l : List Nat, (l.map (List.length ∘ fun c => [c])).sum = l.length := fun l => by
            induction l with
            | nil => rfl
            | cons c l ih => rw [List.map_cons, List.sum_cons, ih, List.length_cons]; simp; omega
          exact this l
        rw [if_pos (by rw [hsum]; omega), hj]
      tm_at "ev"
      exact ⟨l, e, rfl, rfl, by omega, hl, hs⟩
  obtain ⟨fl, s, e1, w, e', rfl, h1, h2, h3, h4'⟩ := wpSs_sound _ _ _ whole
  refine ⟨w, e', ?_, h2, h3, h4'⟩
  rw [run]
  have hF : Pg[4]? = some f_law_word := rfl
  have e1 : exs (run Pg gb W (d + 2)) gb W f_law_word.body (startE f_law_word.n [e, .str L, .int (m : Int)]) = some (.ret (.str w), s) := e1
  have hc : chkE f_law_word.md [e, .str L, .int (m : Int)] = true := by
    show (((2 : Nat) == 0 || e.isCon) && chkE [0, 0] [.str L, .int (m : Int)]) = true
    rw [hs.con']
    rfl
  have ho : ioOf 0 f_law_word.md s = [e'] := by
    show (if (2 : Nat) = 2 then (match s[0]? with | some (some v) => v :: ioOf 1 [0, 0] s | _ => ioOf 1 [0, 0] s) else ioOf 1 [0, 0] s) = _
    rw [if_pos rfl, h1]
    rfl
  simp only [hF, hc, if_true, e1, ho]
end
end K68
end

section
set_option linter.all false
set_option maxRecDepth 100000
namespace K68
open Ev
abbrev EE (v0 v1 v2 v3 v4 v5 v6 v7 v8 v9 v10 v11 v12 v13 v14 v15 v16 v17 : Option EV) : Env := [v0, v1, v2, v3, v4, v5, v6, v7, v8, v9, v10, v11, v12, v13, v14, v15, v16, v17]
abbrev FinL : Fl → Env → Prop := fun fl s => (fl = .ret (.bl true) ∨ (fl = .nx ∧ EV.bl true = .non)) ∧ ioOf 0 flaw.md s = []
theorem p_neB {a b : Bool} {B : Bool → Prop} (h : B (!decide (a = b))) : oP (cmE .ne (.bl a) (.bl b)) B := by
  cases a <;> cases b <;> exact h
theorem cut_dropLast {α : Type} (xs : List α) : cut xs none (some (-1)) = xs.dropLast := by
  unfold cut sIx
  simp only [Nat.sub_zero, List.drop_zero]
  rw [if_pos (by decide), List.dropLast_eq_take]
  congr 1
  omega
theorem slt_asym {a b : Wd} (h : slt a b) (k : slt b a) : False := slt_irr (slt_trans h k)
theorem not_good_swap {R : Rl} (hg : Good R) {i : Nat} {l r : Wd} (h : (l, r) ∈ R) {A B : Rl} (hm : (r, l) ∈ A) : ¬ Good A := fun h2 =>
  slt_asym (hg.grt _ h) (h2.grt _ hm)
theorem not_good_twice {R : Rl} {i : Nat} {a : Wd × Wd} (h : R[i]? = some a) : ¬ Good (R ++ [a]) := fun h2 => by
  have hi : i < R.length := by
    rcases Nat.lt_or_ge i R.length with q | q
    · exact q
    · rw [List.getElem?_eq_none q] at h; cases h
  have h1 : (R ++ [a])[i]? = some a := by rw [List.getElem?_append_left hi]; exact h
  have h3 : (R ++ [a])[R.length]? = some a := by rw [List.getElem?_append_right (Nat.le_refl _), Nat.sub_self]; rfl
  have := h2.inter i R.length a a h1 h3 ⟨[], [], by simp⟩
  omega
section
variable {d W : Nat} {L : Wd} {R few : Rl} {c : Nat}
/-- rules with one more -/
theorem ROk.more (hk : ROk R) (hl : R.length ≤ 10) {a : Wd × Wd} (ha : ChOk a.1 ∧ ChOk a.2 ∧ a.1.length ≤ 50 ∧ a.2.length ≤ 50) : ROk (R ++ [a]) :=
  ⟨by rw [List.length_append, List.length_cons, List.length_nil]; omega, fun p hp => by
    rcases List.mem_append.mp hp with h | h
    · exact hk.ch p h
    · rw [List.mem_singleton] at h
      subst h
      exact ha⟩
theorem t6 (F : Facts L R c) (hW : 400 ≤ W) {e : EV} (hs : Stm e) {v0 v2 v3 v4 v5 v6 v7 v8 v9 v10 v11 v13 v14 v15 v16 v17 : Option EV} :
    wpSs (run Pg gb W (d + 5)) gb W (blaw.drop 19) (EE v0 (some e) v2 v3 v4 v5 v6 v7 v8 v9 v10 v11 (some (enR R)) v13 v14 v15 v16 v17) FinL := by
  have hsz : SZ = 16777216 := rfl
  have hk := F.rk
  have hlen := F.len
  have hmapR : (R.map enP).length = R.length := List.length_map _
  have getR : ∀ {i : Nat} {a : Wd × Wd}, R[i]? = some a → (R.map enP)[i]? = some (enP a) := fun {i a} h => by rw [List.getElem?_map, h]; rfl
  show wpSs _ _ _ [_, _, _, _] _ _
  tm_at "ev"
  refine oP_of (z := !(R.map enP).isEmpty) rfl ?_
  refine p_bl (fun h => ?_) fun h => ?_
  · tm_at "ev"
    exact ⟨.inl rfl, rfl⟩
  · have hpos : 0 < R.length := by
      cases R with
      | nil => cases h
      | cons _ _ => simp
    tm_at "ev"
    rw [hmapR]
    obtain ⟨i, e', hr, hi, hs'⟩ := draw_ok (Pg := Pg) (gb := gb) (W := W) (d := d + 4) (f := 1) rfl hs (m := R.length) hpos (by omega)
    refine ⟨_, _, hr, ?_⟩
    have hRi : R[i]? = some R[i] := List.getElem?_eq_getElem hi
    obtain ⟨⟨l, r⟩, ha⟩ : ∃ a, R[i]? = some a := ⟨_, hRi⟩
    have hm := List.mem_of_getElem? ha
    obtain ⟨hcl, hcr, h50, h51⟩ := hk.ch _ hm
    have hch := F.ch _ hm
    simp only at hcl hcr h50 h51 hch
    have e1 : ((i : Int) + 1) = ((i + 1 : Nat) : Int) := by omega
    tm_at "ev"
    refine p_ixL (getR ha) ?_
    tm_at "ev"
    refine p_slLto ?_
    tm_at "ev"
    refine p_addL (by rw [List.length_take, List.length_cons, List.length_nil]; omega) ?_
    tm_at "ev"
    rw [e1]
    refine p_slLfrom ?_
    tm_at "ev"
    refine p_addL (by rw [List.length_append, List.length_take, List.length_drop, List.length_cons, List.length_nil]; omega) ?_
    tm_at "ev"
    have er : EV.lst (List.take i (R.map enP) ++ [EV.tup [.str r, .str l]] ++ List.drop (i + 1) (R.map enP)) = enR (R.take i ++ [(r, l)] ++ R.drop (i + 1)) := by
      rw [enR, List.map_append, List.map_append, List.map_take, List.map_drop]
      rfl
    rw [er]
    have hmem : ∀ p ∈ R.take i ++ [(r, l)] ++ R.drop (i + 1), p ∈ R ∨ p = (r, l) := fun p hp => by
      rcases List.mem_append.mp hp with hp | hp
      · rcases List.mem_append.mp hp with hp | hp
        · exact .inl (List.mem_of_mem_take hp)
        · exact .inr (List.mem_singleton.mp hp)
      · exact .inl (List.mem_of_mem_drop hp)
    refine ⟨_, _, none_ok (d := d) (W := W) (R := R.take i ++ [(r, l)] ++ R.drop (i + 1)) ⟨by rw [List.length_append, List.length_append, List.length_take, List.length_drop, List.length_cons, List.length_nil]; omega, fun p hp => ?_⟩ (fun p hp => ?_) hW (not_good_swap (i := i) (B := []) F.good hm (by simp)), ?_⟩
    · rcases hmem p hp with h | rfl
      · exact hk.ch p h
      · exact ⟨hcr, hcl, h51, h50⟩
    · rcases hmem p hp with h | rfl
      · exact F.l8 p h
      · show r.length ≤ 8
        omega
    tm_at "ev"
    refine p_ixL (getR ha) ?_
    tm_at "ev"
    refine p_addL (by rw [List.length_cons, List.length_nil]; omega) ?_
    tm_at "ev"
    have er2 : EV.lst (R.map enP ++ [enP (l, r)]) = enR (R ++ [(l, r)]) := by
      rw [enR, List.map_append]
      rfl
    rw [er2]
    refine ⟨_, _, none_ok (d := d) (W := W) (R := R ++ [(l, r)]) (hk.more (by omega) ⟨hcl, hcr, h50, h51⟩) (fun p hp => ?_) hW (not_good_twice ha), ?_⟩
    · rcases List.mem_append.mp hp with h | h
      · exact F.l8 p h
      · rw [List.mem_singleton] at h
        subst h
        exact F.l8 _ hm
    exact ⟨.inl rfl, rfl⟩
theorem t5 (F : Facts L R c) (hW : 400 ≤ W) (hk : ROk few) (hl : ∀ p ∈ few, p.1.length ≤ 8) (hf : Good few → rulesOk c few = true) {e : EV} (hs : Stm e) {v0 v2 v3 v4 v5 v6 v7 v8 v9 v11 v13 v14 v15 v16 v17 : Option EV} :
    wpSs (run Pg gb W (d + 5)) gb W (blaw.drop 18) (EE v0 (some e) v2 v3 v4 v5 v6 v7 v8 v9 (some (enR few)) v11 (some (enR R)) v13 v14 v15 v16 v17) FinL := by
  show wpSs _ _ _ (_ :: blaw.drop 19) _ _
  obtain ⟨t, hr, ht⟩ := settled_ok (d := d + 1) (W := W) hk hl hW c hf
  obtain ⟨t', hr', ht'⟩ := lsettled_ok (d := d + 2) (W := W) hk hl c fun h => hf (good_iff.mpr h)
  have htt : t = t' := by
    rw [Bool.eq_iff_iff, ht, ht', ← good_iff]
    exact and_congr_right fun h => settled_same (hf h) hl h
  tm_at "ev"
  refine ⟨_, _, hr, ?_⟩
  tm_at "ev"
  refine ⟨_, _, hr', ?_⟩
  refine p_neB ?_
  refine p_ndec (fun h => absurd htt h) fun _ => ?_
  refine w_end ?_
  exact t6 F hW hs
theorem t4 (F : Facts L R c) (hW : 400 ≤ W) {e : EV} (hs : Stm e) {v0 v2 v3 v4 v5 v6 v7 v8 v9 v10 v13 v14 v15 v16 v17 : Option EV} :
    wpSs (run Pg gb W (d + 5)) gb W (blaw.drop 17) (EE v0 (some e) v2 v3 v4 v5 v6 v7 v8 v9 v10 (some (.str L)) (some (enR R)) v13 v14 v15 v16 v17) FinL := by
  have hsz : SZ = 16777216 := rfl
  have hk := F.rk
  have hlen := F.len
  have hmapR : (R.map enP).length = R.length := List.length_map _
  show wpSs _ _ _ (_ :: blaw.drop 18) _ _
  tm_at "ev"
  obtain ⟨i, e1, hr, hi, hs1⟩ := draw_ok (Pg := Pg) (gb := gb) (W := W) (d := d + 4) (f := 1) rfl hs (m := 2) (by decide) (by decide)
  refine ⟨_, _, hr, ?_⟩
  tm_at "ev"
  refine p_dec (fun _ => ?_) fun _ => ?_
  · tm_at "ev"
    refine oP_of (z := .lst ((R.map enP).dropLast)) ?_ ?_
    · show some (EV.lst (cut (R.map enP) none (some (-1)))) = _
      rw [cut_dropLast]
    have er : EV.lst ((R.map enP).dropLast) = enR R.dropLast := by rw [enR, List.map_dropLast]
    rw [er]
    have hm : ∀ p ∈ R.dropLast, p ∈ R := fun p hp => List.dropLast_subset R hp
    refine t5 F hW ⟨by rw [List.length_dropLast]; omega, fun p hp => hk.ch p (hm p hp)⟩ (fun p hp => F.l8 p (hm p hp)) (fun _ => ?_) hs1
    exact List.all_eq_true.mpr fun p hp => List.all_eq_true.mp F.rok p (hm p hp)
  · obtain ⟨t, rfl⟩ := F.l0
    have hll := F.ll
    tm_at "ev"
    obtain ⟨w3, e2, hr2, hl3, hc3, hs2⟩ := word_ok (d := d + 2) (W := W) hs1 F.lch (by simp) hll 3 (by decide)
    refine ⟨_, _, hr2, ?_⟩
    tm_at "ev"
    refine p_ix (z := .str [97]) ?_ ?_
    · have h0 : atE (97 :: t) (((0 : Nat) : Int)) = some 97 := by rw [atE_nat (by simp)]; rfl
      show (if (97 :: t).length ≤ SZ then (match atE (97 :: t) (((0 : Nat) : Int)) with | some c => some (EV.str [c]) | none => none) else none) = _
      rw [if_pos (by omega), h0]
    refine p_addS (by rw [List.length_cons, List.length_nil]; omega) ?_
    tm_at "ev"
    obtain ⟨w1, e3, hr3, hl1, hc1, hs3⟩ := word_ok (d := d + 2) (W := W) hs2 F.lch (by simp) hll 1 (by decide)
    refine ⟨_, _, hr3, ?_⟩
    tm_at "ev"
    refine p_addL (by rw [List.length_cons, List.length_nil]; omega) ?_
    have er2 : EV.lst (R.map enP ++ [EV.tup [.str (w3 ++ [97]), .str w1]]) = enR (R ++ [(w3 ++ [97], w1)]) := by
      rw [enR, List.map_append]
      rfl
    rw [er2]
    have hl4 : (w3 ++ [97]).length = w3.length + 1 := by simp
    refine t5 F hW (hk.more (by omega) ⟨⟨fun x hx => ?_, by show (w3 ++ [97]).length ≤ _; omega⟩, ⟨fun x hx => by have := hc1 x hx; omega, by show w1.length ≤ _; omega⟩, by show (w3 ++ [97]).length ≤ _; omega, by show w1.length ≤ 50; omega⟩) (fun p hp => ?_) (fun hg => ?_) hs3
    · rcases List.mem_append.mp hx with h | h
      · have := hc3 x h
        omega
      · rw [List.mem_singleton] at h
        omega
    · rcases List.mem_append.mp hp with h | h
      · exact F.l8 p h
      · rw [List.mem_singleton] at h
        subst h
        show (w3 ++ [97]).length ≤ 8
        omega
    · have hgr : slt w1 (w3 ++ [97]) := hg.grt (w3 ++ [97], w1) (by simp)
      have hlt : w1.length < (w3 ++ [97]).length := by
        rcases hgr with h | ⟨h1, h2⟩
        · exact h
        · rw [hl4] at h1
          have : w3 = [] := List.length_eq_zero_iff.mp (by omega)
          subst this
          obtain ⟨x, rfl⟩ : ∃ x, w1 = [x] := List.length_eq_one_iff.mp (by simpa using h1)
          have hx := hc1 x (by simp)
          simp [lexS] at h2
          omega
      refine List.all_eq_true.mpr fun p hp => ?_
      rcases List.mem_append.mp hp with h | h
      · exact List.all_eq_true.mp F.rok p h
      · rw [List.mem_singleton] at h
        subst h
        have h1 : decide (w1.length < (w3 ++ [97]).length) = true := decide_eq_true hlt
        have h2 : decide (w1.length ≤ 1) = true := decide_eq_true hl1
        match c with
        | 0 => exact h1
        | 1 => simp only [ruleOk, h1, h2, Bool.and_self, Bool.true_or]
        | _ + 2 => simp only [ruleOk, h1, h2, Bool.and_self, Bool.true_or]
end
end K68
end

section
set_option linter.all false
set_option maxRecDepth 100000
namespace K68
open Ev
def hP (R : Rl) (w : Wd) (j : Nat) : Bool := R.any fun q => decide ((w.drop j).take q.1.length = q.1)
theorem range_head {p : Nat → Bool} {n i : Nat} (hi : i < n) (h1 : p i = true) (h2 : ∀ j, j < i → p j = false) : ∃ t, (List.range n).filter p = i :: t := by
  obtain ⟨m, rfl⟩ : ∃ m, n = i + (1 + m) := ⟨n - i - 1, by omega⟩
  rw [List.range_add, List.filter_append, List.filter_eq_nil_iff.mpr (fun j hj => by rw [h2 j (List.mem_range.mp hj)]; simp), List.nil_append, List.range_add, List.map_append, List.filter_append]
  refine ⟨List.filter p (List.map (fun x => i + x) (List.map (fun x => 1 + x) (List.range m))), ?_⟩
  show List.filter p [i + 0] ++ List.filter p (List.map (fun x => i + x) (List.map (fun x => 1 + x) (List.range m))) = _
  rw [Nat.add_zero, List.filter_cons, if_pos h1]
  rfl
section
variable {d W : Nat} {L : Wd} {R : Rl} {c : Nat} {w : Wd}
theorem loop1 (hR : rulesOk c R = true) (hk : ROk R) (hg : Grt R) (hw : WOk w) {cf : Cf} {vz : EV} {v0 v1 v2 v3 v4 v5 v8 v9 v10 v11 v13 v14 v15 v16 v17 : Option EV} {F : Fl → Env → Prop}
    (k : ∀ v9 v13 v14 v15 v16 v17, wpSs cf gb W (blaw.drop 12) (EE v0 v1 v2 v3 v4 v5 (some (.tup [vz, .lst ((nw R 393 w).2.map enF)])) (some (.str (NF R w))) v8 v9 v10 v11 (some (enR R)) v13 v14 v15 v16 v17) F) :
    wpSs cf gb W (blaw.drop 11) (EE v0 v1 v2 v3 v4 v5 (some (.tup [vz, .lst ((nw R 393 w).2.map enF)])) (some (.str w)) v8 v9 v10 v11 (some (enR R)) v13 v14 v15 v16 v17) F := by
  have hsz : SZ = 16777216 := rfl
  have getR : ∀ {i : Nat} {a : Wd × Wd}, R[i]? = some a → (R.map enP)[i]? = some (enP a) := fun {i a} h => by rw [List.getElem?_map, h]; rfl
  have hk20 := hk.len
  show wpSs _ _ _ (_ :: blaw.drop 12) _ _
  tm_at "ev"
  refine wpF_map (enc := enF) (l := (nw R 393 w).2) (fun pre post s => ∃ w' j v9 v13 v14 v15 v16 v17, WOk w' ∧ (nw R j w').2 = post ∧ (nw R j w').1 = NF R w ∧ s = (EE v0 v1 v2 v3 v4 v5 (some (.tup [vz, .lst ((nw R 393 w).2.map enF)])) (some (.str w')) v8 v9 v10 v11 (some (enR R)) v13 v14 v15 v16 v17)) ?_ ?_ ⟨w, 393, _, _, _, _, _, _, hw, rfl, rfl, rfl⟩
  · rintro pre ⟨p, n⟩ post _ hpl ⟨w', j, v9, v13, v14, v15, v16, v17, hw', e1, e2, rfl⟩
    obtain ⟨j, rfl⟩ : ∃ j', j = j' + 1 := by
      cases j with
      | zero => rw [nw] at e1; cases e1
      | succ j => exact ⟨j, rfl⟩
    have hfp : fp R w' = some (p, n) ∧ (nw R j (stepAt R w' p n)).2 = post ∧ (nw R j (stepAt R w' p n)).1 = NF R w := by
      rw [nw] at e1 e2
      cases e : fp R w' with
      | none => rw [e] at e1; cases e1
      | some z =>
        obtain ⟨p', n'⟩ := z
        rw [e] at e1 e2
        simp only [List.cons.injEq, Prod.mk.injEq] at e1 e2
        obtain ⟨⟨rfl, rfl⟩, h⟩ := e1
        exact ⟨rfl, h, e2⟩
    obtain ⟨hf, f1, f2⟩ := hfp
    obtain ⟨hst, hpw, l, r, hn, hne, hfit⟩ := fp_step hf
    obtain ⟨i, l', r', hi, hiw, hn', _, _, hmin⟩ := fpF_some hf
    have hi : p = i := by omega
    subst hi
    have hwl := hw'.len
    have h1 : hP R w' p = true := List.any_eq_true.mpr ⟨(l, r), List.mem_of_getElem? hn, decide_eq_true hfit⟩
    have h2 : ∀ j, j < p → hP R w' j = false := fun j hj => by
      refine List.any_eq_false.mpr fun q hq => ?_
      rw [decide_eq_true_eq]
      exact hmin j hj q.1 q.2 hq (hg.ne (l := q.1) (r := q.2) hq)
    obtain ⟨t, ht⟩ := range_head hpw h1 h2
    obtain ⟨hcl, hcr, h50, h51⟩ := hk.ch _ (List.mem_of_getElem? hn)
    simp only at hcl hcr h50 h51
    tm_at "ev"
    refine p_lenS hw'.c ?_
    tm_at "ev"
    refine oP_of (itE_rng1 (by omega)) ?_
    refine wpC_map (enc := enN) (l := List.range w'.length) (hP R w') enN (fun s => ∃ v9 v16 v17, s = (EE v0 v1 v2 v3 v4 v5 (some (.tup [vz, .lst ((nw R 393 w).2.map enF)])) (some (.str w')) v8 v9 v10 v11 (some (enR R)) (some (enN p)) (some (enN n)) v15 v16 v17)) ?_ ⟨_, _, _, rfl⟩ ?_
    · rintro k hk' _ ⟨v9, v16, v17, rfl⟩
      tm_at "ev"
      refine wpC_map0 (enc := enP) (fun q => .bl (decide ((w'.drop k).take q.1.length = q.1))) (fun s => ∃ v16 v17, s = (EE v0 v1 v2 v3 v4 v5 (some (.tup [vz, .lst ((nw R 393 w).2.map enF)])) (some (.str w')) v8 (some (enN k)) v10 v11 (some (enR R)) (some (enN p)) (some (enN n)) v15 v16 v17)) ?_ ⟨_, _, rfl⟩ ?_
      · rintro ⟨a, b⟩ hm _ ⟨v16, v17, rfl⟩
        obtain ⟨hca, hcb, h60, h61⟩ := hk.ch _ hm
        simp only at hca hcb h60 h61
        have e1 : ((k : Int) + (a.length : Int)) = ((k + a.length : Nat) : Int) := by omega
        tm_at "ev"
        refine p_lenS hca ?_
        tm_at "ev"
        rw [e1]
        refine p_slS hw'.c ?_
        rw [Nat.add_sub_cancel_left]
        tm_at "ev"
        refine p_eqS ((hw'.c.drop k).take _) hca ?_
        exact ⟨rfl, _, _, rfl⟩
      · rintro _ ⟨v16, v17, rfl⟩
        refine ⟨by rw [List.length_map]; omega, ?_⟩
        tm_at "ev"
        refine oP_of (any1_map _ _) ?_
        show bP (truE (.bl (hP R w' k))) _ _
        refine p_bl (fun h => ?_) fun h => ?_
        · tm_at "ev"
          rw [h]
          refine ⟨rfl, ?_⟩
          rw [if_pos rfl]
          tm_at "ev"
          exact ⟨rfl, _, _, _, rfl⟩
        · rw [h]
          refine ⟨rfl, ?_⟩
          rw [if_neg (by simp)]
          exact ⟨_, _, _, rfl⟩
    · rintro _ ⟨v9, v16, v17, rfl⟩
      have hfl := List.length_filter_le (hP R w') (List.range w'.length)
      rw [List.length_range] at hfl
      refine ⟨by rw [List.length_map]; omega, ?_⟩
      rw [ht]
      show wpSs _ _ _ _ _ _
      have e1 : ((p : Int) + (l.length : Int)) = ((p + l.length : Nat) : Int) := by omega
      tm_at "ev"
      refine p_ixL (getR hn) ?_
      tm_at "ev"
      refine oP_of (z := true) rfl ?_
      tm_at "ev"
      refine p_ixL (n := 0) (z := enN p) rfl ?_
      tm_at "ev"
      refine p_ndec (fun h => ?_) fun _ => ?_
      · exact absurd rfl h
      tm_at "ev"
      refine p_lenS hcl ?_
      tm_at "ev"
      rw [e1]
      refine p_slS hw'.c ?_
      rw [Nat.add_sub_cancel_left, hfit]
      tm_at "ev"
      refine p_neS hcl hcl ?_
      refine p_ndec (fun h => ?_) fun _ => ?_
      · exact absurd rfl h
      tm_at "ev"
      refine p_slSto hw'.c ?_
      tm_at "ev"
      refine p_addS (by show (w'.take p).length + r.length ≤ _; rw [List.length_take]; omega) ?_
      tm_at "ev"
      refine p_lenS hcl ?_
      tm_at "ev"
      rw [e1]
      refine p_slSfrom hw'.c ?_
      tm_at "ev"
      refine p_addS (by show (w'.take p ++ r).length + (w'.drop (p + l.length)).length ≤ _; rw [List.length_append, List.length_take, List.length_drop]; omega) ?_
      tm_at "ev"
      have es : stepAt R w' p n = w'.take p ++ r ++ w'.drop (p + l.length) := by
        unfold stepAt
        rw [hn]
      exact ⟨stepAt R w' p n, j, _, _, _, _, _, _, hw'.step hR hk hst, f1, f2, by rw [es]; rfl⟩
  · rintro _ ⟨w', j, v9, v13, v14, v15, v16, v17, hw', e1, e2, rfl⟩
    have : w' = NF R w := by
      rw [← e2]
      cases j with
      | zero => rfl
      | succ j =>
        rw [nw] at e1 ⊢
        cases e : fp R w' with
        | none => rfl
        | some z => rw [e] at e1; cases e1
    subst this
    exact k _ _ _ _ _ _
/-- words reached both ways -/
def rev (R : Rl) : Rl := (R.filter fun q => !q.2.isEmpty).map fun q => (q.2, q.1)
theorem lws_len (R : Rl) (w : Wd) : (lws R w).length ≤ w.length * R.length := by
  have hpl : ∀ (ps : List Nat), (ps.flatMap fun p => (R.filter fun q => !q.1.isEmpty && fits (w.drop p) q.1).map fun q => w.take p ++ q.2 ++ w.drop (p + q.1.length)).length ≤ ps.length * R.length := fun ps => by
    induction ps with
    | nil => simp
    | cons p ps ih =>
      rw [List.flatMap_cons, List.length_append, List.length_map, List.length_cons, Nat.add_mul]
      have := List.length_filter_le (fun q : Wd × Wd => !q.1.isEmpty && fits (w.drop p) q.1) R
      omega
  have := hpl (List.range w.length)
  rw [List.length_range] at this
  exact this
theorem mem_rev {R : Rl} {p : Wd × Wd} (h : p ∈ rev R) : (p.2, p.1) ∈ R := by
  obtain ⟨q, hq, rfl⟩ := List.mem_map.mp h
  exact (List.mem_filter.mp hq).1
theorem rev_ok (hk : ROk R) : ROk (rev R) :=
  ⟨by
    unfold rev
    rw [List.length_map]
    have := List.length_filter_le (fun q : Wd × Wd => !q.2.isEmpty) R
    have := hk.len
    omega, fun p hp => by
    obtain ⟨h1, h2, h3, h4⟩ := hk.ch _ (mem_rev hp)
    exact ⟨h2, h1, h4, h3⟩⟩
theorem rev_step (hg : Grt R) {x v : Wd} (h : Step (rev R) x v) : Step R v x := by
  obtain ⟨p, l, r, s, hm, hl, rfl, rfl⟩ := h
  have hm := mem_rev hm
  exact ⟨p, r, l, s, hm, hg.ne hm, rfl, rfl⟩
theorem rev_ch (hk : ROk R) {x v : Wd} (hx : ∀ c ∈ x, c < 1114112) (h : Step R v x ∨ Step R x v) : ∀ c ∈ v, c < 1114112 := by
  intro y hy
  rcases h with ⟨p, l, r, s, hm, hl, rfl, rfl⟩ | ⟨p, l, r, s, hm, hl, rfl, rfl⟩
  · rcases List.mem_append.mp hy with hy | hy
    · rcases List.mem_append.mp hy with hy | hy
      · exact hx y (by simp [hy])
      · exact (hk.ch _ hm).1.1 y hy
    · exact hx y (by simp [hy])
  · rcases List.mem_append.mp hy with hy | hy
    · rcases List.mem_append.mp hy with hy | hy
      · exact hx y (by simp [hy])
      · exact (hk.ch _ hm).2.1.1 y hy
    · exact hx y (by simp [hy])
theorem depths_str : ∀ l : List Wd, depths (l.map .str) = 0
  | [] => rfl
  | x :: l => by rw [List.map_cons, depths, depths_str l]; rfl
theorem p_notinS {v : Wd} {ws : List Wd} (hv : ChOk v) (h : ∀ x ∈ ws, ChOk x) {B : Bool → Prop} (k : ∀ b, B b) : oP (cmE .notin (.str v) (.lst (ws.map .str))) B := by
  have hp : ∀ l : List Wd, (∀ x ∈ l, ChOk x) → plains (l.map .str) = true := fun l => by
    induction l with
    | nil => intro _; rfl
    | cons x l ih =>
      intro h
      rw [List.map_cons, plains, (h x (by simp)).plain, ih fun y hy => h y (by simp [hy])]
      rfl
  have ho : okD (.lst (ws.map .str)) = true := by
    unfold okD
    rw [Ev.plain, hp ws h, depth, depths_str]
    rfl
  have : cmE .notin (.str v) (.lst (ws.map .str)) = some (!anyE (.str v) (ws.map .str)) := by
    show (match (if okD (.str v) && okD (.lst (ws.map .str)) then some (anyE (.str v) (ws.map .str)) else none) with | some b => some (!b) | none => none) = _
    rw [hv.okD, ho]
    rfl
  exact oP_of this (k _)
end
end K68
end

section
set_option linter.all false
set_option maxRecDepth 100000
namespace K68
open Ev
section
variable {d W : Nat} {L : Wd} {R : Rl} {c : Nat} {one : Wd}
theorem WOk.nf {w : Wd} (h : WOk w) (hR : rulesOk c R = true) (hk : ROk R) : WOk (NF R w) := h.star hR hk ((nf_N hR).star w h.len)
theorem t3 (F : Facts L R c) (hW : 400 ≤ W) (ho : WOk one) {ws : List Wd} (hws : ∀ v ∈ ws, WOk v ∧ NF R v = NF R one) (hwl : ws.length ≤ 100000) {e vy : EV} (hs : Stm e) {v0 v2 v3 v5 v6 v7 v9 v10 v13 v14 v15 v16 v17 : Option EV} :
    wpSs (run Pg gb W (d + 5)) gb W (blaw.drop 16) (EE v0 (some e) v2 v3 (some (.tup [.str (NF R one), vy])) v5 v6 v7 (some (.lst (ws.map .str))) v9 v10 (some (.str L)) (some (enR R)) v13 v14 v15 v16 v17) FinL := by
  have hsz : SZ = 16777216 := rfl
  have hno := ho.nf F.rok F.rk
  show wpSs _ _ _ (_ :: blaw.drop 17) _ _
  tm_at "ev"
  refine wpC_map0 (enc := EV.str) (fun _ => .bl false) (fun s => ∃ v7, s = (EE v0 (some e) v2 v3 (some (.tup [.str (NF R one), vy])) v5 v6 v7 (some (.lst (ws.map .str))) v9 v10 (some (.str L)) (some (enR R)) v13 v14 v15 v16 v17)) ?_ ⟨_, rfl⟩ ?_
  · rintro v hv _ ⟨v7, rfl⟩
    obtain ⟨hvw, hve⟩ := hws v hv
    have hnlt : ¬ slt v (NF R one) := fun h => by
      have hst := (nf_N F.rok).star v hvw.len
      rw [hve] at hst
      rcases star_slt F.good.grt hst with e | h2
      · rw [e] at h
        exact slt_irr h
      · exact slt_asym h h2
    tm_at "ev"
    refine p_lenS hvw.c ?_
    tm_at "ev"
    refine p_lenS hno.c ?_
    tm_at "ev"
    refine oP_of (z := ltE (.tup [.int (v.length : Int), .str v]) (.tup [.int ((NF R one).length : Int), .str (NF R one)])) ?_ ?_
    · show (if cmpOk _ _ then some _ else none) = _
      rw [cmpOk_w hvw.c hno.c]
      rfl
    refine p_bl (fun h => absurd (ltE_slt.mp h) hnlt) fun _ => ?_
    tm_at "ev"
    refine ⟨_, _, normal_ok (d := d + 3) F.rok F.rk hvw hW, ?_⟩
    tm_at "ev"
    rw [hve]
    refine p_neS hno.c hno.c ?_
    rw [decide_eq_true rfl]
    exact ⟨rfl, _, rfl⟩
  · rintro _ ⟨v7, rfl⟩
    refine ⟨by rw [List.length_map]; omega, ?_⟩
    tm_at "ev"
    refine oP_of (any1_map (fun _ => false) _) ?_
    refine p_bl (fun h => ?_) fun _ => ?_
    · rw [List.any_eq_true] at h
      obtain ⟨_, _, h⟩ := h
      cases h
    refine w_end ?_
    exact t4 F hW hs
theorem t2 (F : Facts L R c) (hW : 400 ≤ W) (ho : WOk one) {e vy : EV} (hs : Stm e) {v0 v2 v3 v5 v6 v7 v10 v13 v14 v15 v16 v17 : Option EV} :
    wpSs (run Pg gb W (d + 5)) gb W (blaw.drop 15) (EE v0 (some e) v2 v3 (some (.tup [.str (NF R one), vy])) v5 v6 v7 (some (.lst ([one].map .str))) (some (enN 0)) v10 (some (.str L)) (some (enR R)) v13 v14 v15 v16 v17) FinL := by
  have hsz : SZ = 16777216 := rfl
  have hk := F.rk
  have hk4 := F.len
  have hconf := (settled_conf F.rok F.good F.cp).1
  show wpSs _ _ _ (_ :: blaw.drop 16) _ _
  refine w_whl ?_
  refine wp_whileN (fun k s => ∃ ws n v7 v16 v17, n + k = 40 ∧ (∀ v ∈ ws, WOk v ∧ NF R v = NF R one) ∧ ws.length ≤ 1000 ∧ s = (EE v0 (some e) v2 v3 (some (.tup [.str (NF R one), vy])) v5 v6 v7 (some (.lst (ws.map .str))) (some (enN n)) v10 (some (.str L)) (some (enR R)) v13 v14 v15 v16 v17)) ?_ W 40 _ ⟨[one], 0, _, _, _, rfl, ?_, by simp, rfl⟩ (by omega)
  · rintro k _ ⟨ws, n, v7, v16, v17, hnk, hws, hwl, rfl⟩
    have hmap : (ws.map EV.str).length = ws.length := List.length_map _
    have fin : ∀ v7 v9 v16 v17, wpSs (run Pg gb W (d + 5)) gb W (blaw.drop 16) (EE v0 (some e) v2 v3 (some (.tup [.str (NF R one), vy])) v5 v6 v7 (some (.lst (ws.map .str))) v9 v10 (some (.str L)) (some (enR R)) v13 v14 v15 v16 v17) FinL := fun v7 v9 v16 v17 => t3 F hW ho hws (by omega) hs
    tm_at "ev"
    rw [hmap]
    refine p_dec (fun h1 => ?_) fun h1 => ?_
    · tm_at "ev"
      rw [hmap]
      refine p_dec (fun h2 => ?_) fun h2 => ?_
      · have hnw : n < ws.length := by
          have : (n : Int) < (ws.length : Int) := h1
          omega
        have hx : ws[n]? = some ws[n] := List.getElem?_eq_getElem hnw
        obtain ⟨x, hx⟩ : ∃ x, ws[n]? = some x := ⟨_, hx⟩
        have hxe : (ws.map EV.str)[n]? = some (.str x) := by rw [List.getElem?_map, hx]; rfl
        obtain ⟨hxw, hxn⟩ := hws x (List.mem_of_getElem? hx)
        have hxl := hxw.len
        have e1 : ((n : Int) + 1) = ((n + 1 : Nat) : Int) := by omega
        tm_at "ev"
        refine p_ixL hxe ?_
        tm_at "ev"
        refine ⟨_, _, lsteps_ok (d := d + 4) hk hxw.c (by omega), ?_⟩
        tm_at "ev"
        refine wpC_map (enc := enP) (fun q => !q.2.isEmpty) (fun q => enP (q.2, q.1)) (fun s => ∃ v16 v17, s = (EE v0 (some e) v2 v3 (some (.tup [.str (NF R one), vy])) v5 v6 v7 (some (.lst (ws.map .str))) (some (enN n)) v10 (some (.str L)) (some (enR R)) v13 v14 v15 v16 v17)) ?_ ⟨_, _, rfl⟩ ?_
        · rintro ⟨a, b⟩ hm _ ⟨v16, v17, rfl⟩
          obtain ⟨hca, hcb, h60, h61⟩ := hk.ch _ hm
          simp only at hca hcb h60 h61
          tm_at "ev"
          refine p_trS hcb (fun hne => ?_) fun he => ?_
          · have hb : (!b.isEmpty) = true := by
              cases b with
              | nil => exact absurd rfl hne
              | cons _ _ => rfl
            tm_at "ev"
            show true = (!b.isEmpty) ∧ if (!b.isEmpty) = true then _ else _
            rw [hb]
            refine ⟨rfl, ?_⟩
            rw [if_pos rfl]
            tm_at "ev"
            exact ⟨rfl, _, _, rfl⟩
          · subst he
            tm_at "ev"
            exact ⟨rfl, _, _, rfl⟩
        · rintro _ ⟨v16, v17, rfl⟩
          have hrl : (rev R).length ≤ R.length := by
            unfold rev
            rw [List.length_map]
            exact List.length_filter_le _ _
          refine ⟨by rw [List.length_map]; have := List.length_filter_le (fun q : Wd × Wd => !q.2.isEmpty) R; omega, ?_⟩
          have er : EV.lst (((R.filter fun q => !q.2.isEmpty).map fun q => enP (q.2, q.1))) = enR (rev R) := by
            unfold rev
            rw [enR, List.map_map]
            rfl
          rw [er]
          tm_at "ev"
          refine p_ixL hxe ?_
          tm_at "ev"
          refine ⟨_, _, lsteps_ok (d := d + 4) (rev_ok hk) hxw.c (by omega), ?_⟩
          have hl1 := lws_len R x
          have hl2 := lws_len (rev R) x
          have hm1 : x.length * R.length ≤ 16 * 4 := Nat.mul_le_mul hxl hk4
          have hm2 : x.length * (rev R).length ≤ 16 * 4 := Nat.mul_le_mul hxl (by omega)
          refine p_addL (by rw [List.length_map, List.length_map]; omega) ?_
          tm_at "ev"
          rw [← List.map_append]
          have h40 : ws.length < 40 := by
            have : (ws.length : Int) < 40 := h2
            omega
          refine wpF_map (enc := EV.str) (l := lws R x ++ lws (rev R) x) (fun pre post s => ∃ ws v7 v16 v17, (∀ v ∈ ws, WOk v ∧ NF R v = NF R one) ∧ ws.length ≤ 40 + pre.length ∧ s = (EE v0 (some e) v2 v3 (some (.tup [.str (NF R one), vy])) v5 v6 v7 (some (.lst (ws.map .str))) (some (enN n)) v10 (some (.str L)) (some (enR R)) v13 v14 v15 v16 v17)) ?_ ?_ ⟨ws, _, _, _, hws, by omega, rfl⟩
          · rintro pre v post _ hpl ⟨ws, v7, v16, v17, hws, hwl, rfl⟩
            have hmap : (ws.map EV.str).length = ws.length := List.length_map _
            have hmem : v ∈ lws R x ++ lws (rev R) x := by rw [hpl]; simp
            have hst : Step R v x ∨ Step R x v := by
              rcases List.mem_append.mp hmem with h | h
              · exact .inr (mem_lws.mp h)
              · exact .inl (rev_step F.good.grt (mem_lws.mp h))
            have hcv := rev_ch hk hxw.ch hst
            have hpre : pre.length ≤ 128 := by
              have := congrArg List.length hpl
              rw [List.length_append, List.length_append] at this
              omega
            have hvl : v.length ≤ 100000 := by
              rcases hst with ⟨p, l, r, s, hm, hl, rfl, rfl⟩ | h
              · have h1 := (hk.ch _ hm).2.2.1
                simp only [List.length_append] at hxl ⊢
                simp only at h1
                omega
              · have := (phi_step F.rok hxl h).2
                omega
            have hvc : ChOk v := ⟨hcv, hvl⟩
            tm_at "ev"
            refine p_lenS hvc ?_
            tm_at "ev"
            refine p_ndec (fun hle => ?_) fun hgt => ?_
            · have hv10 : v.length ≤ 10 := by omega
              have hvw : WOk v := ⟨by omega, hcv⟩
              have hvn : NF R v = NF R one := by
                rw [← hxn]
                rcases hst with h | h
                · exact (hconf v x (.one h) (by omega)).symm
                · exact hconf x v (.one h) hxl
              tm_at "ev"
              refine p_notinS hvc (fun y hy => (hws y hy).1.c) fun b => ?_
              refine p_bl (fun _ => ?_) fun _ => ?_
              · tm_at "ev"
                refine ⟨by omega, ?_⟩
                tm_at "ev"
                have em : ws.map EV.str ++ [EV.str v] = (ws ++ [v]).map EV.str := by rw [List.map_append]; rfl
                rw [em]
                have q1 : ∀ y ∈ ws ++ [v], WOk y ∧ NF R y = NF R one := fun y hy => by
                  rcases List.mem_append.mp hy with h | h
                  · exact hws y h
                  · rw [List.mem_singleton] at h
                    subst h
                    exact ⟨hvw, hvn⟩
                have q2 : (ws ++ [v]).length ≤ 40 + (pre ++ [v]).length := by
                  rw [List.length_append, List.length_append, List.length_cons, List.length_nil]
                  omega
                exact ⟨ws ++ [v], _, _, _, q1, q2, rfl⟩
              · tm_at "ev"
                exact ⟨ws, _, _, _, hws, by rw [List.length_append]; omega, rfl⟩
            · refine p_ndec (fun h' => absurd hgt h') fun _ => ?_
              tm_at "ev"
              exact ⟨ws, _, _, _, hws, by rw [List.length_append]; omega, rfl⟩
          · rintro _ ⟨ws, v7, v16, v17, hws, hwl, rfl⟩
            rw [List.length_append] at hwl
            tm_at "ev"
            rw [e1]
            exact ⟨k - 1, by omega, ws, n + 1, _, _, _, by omega, hws, by omega, rfl⟩
      · tm_at "ev"
        exact fin _ _ _ _
    · refine p_dec (fun h' => absurd h' h1) fun _ => ?_
      exact fin _ _ _ _
  · intro v hv
    rw [List.mem_singleton] at hv
    subst hv
    exact ⟨ho, rfl⟩
end
end K68
end

section
set_option linter.all false
set_option maxRecDepth 100000
set_option maxHeartbeats 4000000
namespace K68
open Ev
theorem p_neSelf {x : EV} (h : okD x = true) (h2 : Ev.plain x = true) {B : Bool → Prop} (k : B false) : oP (cmE .ne x x) B := by
  have : cmE .ne x x = some false := by
    show (if okD x && okD x then some (!eqE x x) else none) = _
    rw [h, eqE_refl x h2]
    rfl
  exact oP_of this k
theorem word_p {w : Wd} (h : ChOk w) : okD (.tup [.str w, .lst []]) = true ∧ Ev.plain (.tup [.str w, .lst []]) = true := by
  have p1 := h.plain
  simp only [Ev.plain] at p1
  simp [okD, Ev.plain, plains, depth, depths, p1]
section
variable {d W : Nat}
theorem law_ok (hW : 400 ≤ W) (ns : List Int) : run Pg gb W (d + 6) 15 [.scr ns] = some (.bl true, []) := by
  have hsz : SZ = 16777216 := rfl
  refine run_eq (d := d + 5) (F := flaw) rfl rfl ?_
  show wpSs _ _ _ (_ :: _ :: _ :: _ :: _ :: _ :: _ :: _ :: _ :: _ :: _ :: blaw.drop 11) (EE (some (.scr ns)) none none none none none none none none none none none none none none none none none) FinL
  tm_at "ev"
  obtain ⟨e0, hr0, hs0⟩ := stream_ok (Pg := Pg) (gb := gb) (W := W) (d := d + 4) (f := 0) rfl ns
  refine ⟨_, _, hr0, ?_⟩
  refine ⟨hs0.con', ?_⟩
  tm_at "ev"
  obtain ⟨⟨L, R⟩, e1, hr1, hp, hs1⟩ := known_ok (d := d + 2) (W := W) hs0
  refine ⟨_, _, hr1, ?_⟩
  obtain ⟨c, F⟩ := facts hp
  have F : Facts L R c := F
  have hk := F.rk
  have hR := F.rok
  have h0 : 0 < L.length := by
    obtain ⟨t, e⟩ := F.l0
    rw [e]
    simp
  obtain ⟨hc1, hc2⟩ := settled_conf F.rok F.good F.cp
  tm_at "ev"
  obtain ⟨t, hr2, ht⟩ := settled_ok (d := d + 1) (W := W) hk F.l8 hW c fun _ => F.rok
  have : t = true := ht.mpr ⟨F.good, F.cp⟩
  subst this
  refine ⟨_, _, hr2, ?_⟩
  tm_at "ev"
  obtain ⟨one, e2, hr3, hl1, hch1, hs2⟩ := word_ok (d := d + 2) (W := W) hs1 F.lch h0 F.ll 8 (by decide)
  refine ⟨_, _, hr3, ?_⟩
  tm_at "ev"
  obtain ⟨two, e3, hr4, hl2, hch2, hs3⟩ := word_ok (d := d + 2) (W := W) hs2 F.lch h0 F.ll 8 (by decide)
  refine ⟨_, _, hr4, ?_⟩
  have w1 : WOk one := ⟨by omega, fun x hx => by have := hch1 x hx; omega⟩
  have w2 : WOk two := ⟨by omega, fun x hx => by have := hch2 x hx; omega⟩
  have hl12 : (one ++ two).length = one.length + two.length := List.length_append
  have w12 : WOk (one ++ two) := ⟨by omega, fun x hx => (List.mem_append.mp hx).elim (w1.ch x) (w2.ch x)⟩
  have s1 := (nf_N hR).star one w1.len
  have s2 := (nf_N hR).star two w2.len
  have s12 := (nf_N hR).star (one ++ two) w12.len
  have n1 := w1.nf hR hk
  have n2 := w2.nf hR hk
  have n12 := w12.nf hR hk
  have m1 := (star_len hR s1 w1.len).1
  have m2 := (star_len hR s2 w2.len).1
  have hln : (NF R one ++ NF R two).length = (NF R one).length + (NF R two).length := List.length_append
  have wn : WOk (NF R one ++ NF R two) := ⟨by omega, fun x hx => (List.mem_append.mp hx).elim (n1.ch x) (n2.ch x)⟩
  have hst : Star R (one ++ two) (NF R one ++ NF R two) := by
    have a := s1.ctx [] two
    have b := s2.ctx (NF R one) []
    simp only [List.nil_append, List.append_nil] at a b
    exact a.trans b
  have hnn := hc1 _ _ hst w12.len
  have hid : nw R 393 (NF R (one ++ two)) = (NF R (one ++ two), []) := by
    show nw R (392 + 1) _ = _
    rw [nw, irr_fp ((nf_N hR).irr (one ++ two) w12.len)]
  have hid2 : NF R (NF R (one ++ two)) = NF R (one ++ two) := by
    show (nw R 393 (NF R (one ++ two))).1 = _
    rw [hid]
  tm_at "ev"
  refine ⟨_, _, normal_ok (d := d + 3) hR hk w1 hW, ?_⟩
  tm_at "ev"
  refine ⟨_, _, normal_ok (d := d + 3) hR hk w2 hW, ?_⟩
  tm_at "ev"
  refine p_addS (by omega) ?_
  refine ⟨_, _, normal_ok (d := d + 3) hR hk w12 hW, ?_⟩
  tm_at "ev"
  refine ⟨_, _, lnormal_ok (d := d + 3) hR hk w1, ?_⟩
  rw [hc2 one w1.len]
  refine p_neS n1.c n1.c ?_
  rw [decide_eq_true rfl]
  tm_at "ev"
  refine p_addS (by show (NF R one).length + (NF R two).length ≤ _; omega) ?_
  tm_at "ev"
  refine ⟨_, _, normal_ok (d := d + 3) hR hk wn hW, ?_⟩
  tm_at "ev"
  rw [hnn]
  refine p_neS n12.c n12.c ?_
  rw [decide_eq_true rfl]
  tm_at "ev"
  refine p_addS (by omega) ?_
  tm_at "ev"
  refine ⟨_, _, lnormal_ok (d := d + 3) hR hk w12, ?_⟩
  rw [hc2 (one ++ two) w12.len]
  refine p_neS n12.c n12.c ?_
  rw [decide_eq_true rfl]
  tm_at "ev"
  refine ⟨_, _, normal_ok (d := d + 3) hR hk n12 hW, ?_⟩
  rw [hid, hid2]
  tm_at "ev"
  refine p_neSelf (word_p n12.c).1 (word_p n12.c).2 ?_
  tm_at "ev"
  refine p_addS (by omega) ?_
  refine loop1 hR hk F.good.grt w12 fun v9 v13 v14 v15 v16 v17 => ?_
  show wpSs _ _ _ (_ :: _ :: _ :: blaw.drop 15) _ _
  tm_at "ev"
  refine p_neS n12.c n12.c ?_
  rw [decide_eq_true rfl]
  tm_at "ev"
  exact t2 F hW w1 hs3
end
def W : Nat := 1000
theorem law_final (ns : List Int) (h : ns.length ≤ 63) : run Pg gb W 40 15 [.scr ns] = some (.bl true, []) :=
  law_ok (d := 34) (by decide) ns
end K68
end

set_option Elab.async false
set_option linter.all false
set_option maxRecDepth 100000
set_option maxHeartbeats 0
namespace K68
open Ev PySem PySem.Spec PyProof.Rows L2
abbrev R : PySem.W.OpenRow := PySem.W.OpenLaw.row PySem.Challenge.rw_termtide_k68_whole_words_put_together
def top (i : Nat) : Stmt := PySem.Challenge.pw_termtide_k68_whole_words_put_together.main.body.getD i (.Pass ⟨0, 0, 0, 0⟩)
def d_law_stream : DefT := ⟨"_law_stream", top 13, ["script", "mixed", "cell"], 1, f_law_stream, true⟩
def d_law_draw : DefT := ⟨"_law_draw", top 14, ["stream", "many", "value"], 2, f_law_draw, false⟩
def d_law_pick : DefT := ⟨"_law_pick", top 15, ["stream", "rows"], 2, f_law_pick, false⟩
def d_law_known_rules : DefT := ⟨"_law_known_rules", top 16, ["stream", "rows"], 1, f_law_known_rules, false⟩
def d_law_word : DefT := ⟨"_law_word", top 17, ["stream", "letters", "most", "k"], 3, f_law_word, false⟩
def dfirst_place : DefT := ⟨"first_place", top 7, ["rules", "word", "place", "number", "left", "_"], 2, ffirst_place, false⟩
def dstep_word : DefT := ⟨"step_word", top 8, ["rules", "word", "place", "number", "left", "right"], 4, fstep_word, false⟩
def dnormal_word : DefT := ⟨"normal_word", top 9, ["rules", "word", "steps", "found"], 2, fnormal_word, false⟩
def dis_greater : DefT := ⟨"is_greater", top 6, ["one", "two"], 2, fis_greater, false⟩
def doverlaps_of : DefT := ⟨"overlaps_of", top 10, ["rules", "found", "left", "right", "other", "end", "size", "place"], 1, foverlaps_of, false⟩
def dis_settled : DefT := ⟨"is_settled", top 11, ["rules", "number", "rest", "left", "right", "one", "two"], 1, fis_settled, false⟩
def d_law_word_steps : DefT := ⟨"_law_word_steps", top 18, ["rules", "word", "found", "place", "left", "right"], 2, f_law_word_steps, false⟩
def d_law_normal_word : DefT := ⟨"_law_normal_word", top 19, ["rules", "word", "again", "found"], 2, f_law_normal_word, false⟩
def d_law_settled : DefT := ⟨"_law_settled", top 20, ["rules", "i", "j", "left", "right", "other", "there", "many", "ends"], 1, f_law_settled, false⟩
def d_law_is_none : DefT := ⟨"_law_is_none", top 21, ["rules"], 1, f_law_is_none, false⟩
def dlaw : DefT := ⟨"law", top 22, ["script", "stream", "one", "two", "first", "second", "whole", "word", "found", "k", "few", "letters", "rules", "place", "number", "here", "left", "right"], 1, flaw, false⟩
def ds : List DefT := [d_law_stream, d_law_draw, d_law_pick, d_law_known_rules, d_law_word, dfirst_place, dstep_word, dnormal_word, dis_greater, doverlaps_of, dis_settled, d_law_word_steps, d_law_normal_word, d_law_settled, d_law_is_none, dlaw]
def gi : List (Str × Int) := [("MOST_STEPS", 2000), ("MOST_LENGTH", 200)]
def frees : List Str := ["int", "list", "len", "abs", "range", "enumerate", "min", "all", "any"]
theorem ok_law_stream : d_law_stream.okB (gnD gi) (fnameD ds) frees (sgD ds) = true := by decide +kernel
theorem bd_law_stream : d_law_stream.BindOk := fun _ _ _ _ _ _ us hl => match us, hl with | [_], _ => rfl
theorem ok_law_draw : d_law_draw.okB (gnD gi) (fnameD ds) frees (sgD ds) = true := by decide +kernel
theorem bd_law_draw : d_law_draw.BindOk := fun _ _ _ _ _ _ us hl => match us, hl with | [_, _], _ => rfl
theorem ok_law_pick : d_law_pick.okB (gnD gi) (fnameD ds) frees (sgD ds) = true := by decide +kernel
theorem bd_law_pick : d_law_pick.BindOk := fun _ _ _ _ _ _ us hl => match us, hl with | [_, _], _ => rfl
theorem ok_law_known_rules : d_law_known_rules.okB (gnD gi) (fnameD ds) frees (sgD ds) = true := by decide +kernel
theorem bd_law_known_rules : d_law_known_rules.BindOk := fun _ _ _ _ _ _ us hl => match us, hl with | [_], _ => rfl
theorem ok_law_word : d_law_word.okB (gnD gi) (fnameD ds) frees (sgD ds) = true := by decide +kernel
theorem bd_law_word : d_law_word.BindOk := fun _ _ _ _ _ _ us hl => match us, hl with | [_, _, _], _ => rfl
theorem okfirst_place : dfirst_place.okB (gnD gi) (fnameD ds) frees (sgD ds) = true := by decide +kernel
theorem bdfirst_place : dfirst_place.BindOk := fun _ _ _ _ _ _ us hl => match us, hl with | [_, _], _ => rfl
theorem okstep_word : dstep_word.okB (gnD gi) (fnameD ds) frees (sgD ds) = true := by decide +kernel
theorem bdstep_word : dstep_word.BindOk := fun _ _ _ _ _ _ us hl => match us, hl with | [_, _, _, _], _ => rfl
theorem oknormal_word : dnormal_word.okB (gnD gi) (fnameD ds) frees (sgD ds) = true := by decide +kernel
theorem bdnormal_word : dnormal_word.BindOk := fun _ _ _ _ _ _ us hl => match us, hl with | [_, _], _ => rfl
theorem okis_greater : dis_greater.okB (gnD gi) (fnameD ds) frees (sgD ds) = true := by decide +kernel
theorem bdis_greater : dis_greater.BindOk := fun _ _ _ _ _ _ us hl => match us, hl with | [_, _], _ => rfl
theorem okoverlaps_of : doverlaps_of.okB (gnD gi) (fnameD ds) frees (sgD ds) = true := by decide +kernel
theorem bdoverlaps_of : doverlaps_of.BindOk := fun _ _ _ _ _ _ us hl => match us, hl with | [_], _ => rfl
theorem okis_settled : dis_settled.okB (gnD gi) (fnameD ds) frees (sgD ds) = true := by decide +kernel
theorem bdis_settled : dis_settled.BindOk := fun _ _ _ _ _ _ us hl => match us, hl with | [_], _ => rfl
theorem ok_law_word_steps : d_law_word_steps.okB (gnD gi) (fnameD ds) frees (sgD ds) = true := by decide +kernel
theorem bd_law_word_steps : d_law_word_steps.BindOk := fun _ _ _ _ _ _ us hl => match us, hl with | [_, _], _ => rfl
theorem ok_law_normal_word : d_law_normal_word.okB (gnD gi) (fnameD ds) frees (sgD ds) = true := by decide +kernel
theorem bd_law_normal_word : d_law_normal_word.BindOk := fun _ _ _ _ _ _ us hl => match us, hl with | [_, _], _ => rfl
theorem ok_law_settled : d_law_settled.okB (gnD gi) (fnameD ds) frees (sgD ds) = true := by decide +kernel
theorem bd_law_settled : d_law_settled.BindOk := fun _ _ _ _ _ _ us hl => match us, hl with | [_], _ => rfl
theorem ok_law_is_none : d_law_is_none.okB (gnD gi) (fnameD ds) frees (sgD ds) = true := by decide +kernel
theorem bd_law_is_none : d_law_is_none.BindOk := fun _ _ _ _ _ _ us hl => match us, hl with | [_], _ => rfl
theorem oklaw : dlaw.okB (gnD gi) (fnameD ds) frees (sgD ds) = true := by decide +kernel
theorem bdlaw : dlaw.BindOk := fun _ _ _ _ _ _ us hl => match us, hl with | [_], _ => rfl
theorem good : AllGood ds gi frees := by
  refine ⟨List.all_eq_true.mpr fun d hd => ?_, fun i d hd => ?_⟩
  · simp only [ds, List.mem_cons, List.not_mem_nil, or_false] at hd
    rcases hd with rfl | rfl | rfl | rfl | rfl | rfl | rfl | rfl | rfl | rfl | rfl | rfl | rfl | rfl | rfl | rfl
    · exact ok_law_stream
    · exact ok_law_draw
    · exact ok_law_pick
    · exact ok_law_known_rules
    · exact ok_law_word
    · exact okfirst_place
    · exact okstep_word
    · exact oknormal_word
    · exact okis_greater
    · exact okoverlaps_of
    · exact okis_settled
    · exact ok_law_word_steps
    · exact ok_law_normal_word
    · exact ok_law_settled
    · exact ok_law_is_none
    · exact oklaw
  · have hd := List.mem_of_getElem? hd
    simp only [ds, List.mem_cons, List.not_mem_nil, or_false] at hd
    rcases hd with rfl | rfl | rfl | rfl | rfl | rfl | rfl | rfl | rfl | rfl | rfl | rfl | rfl | rfl | rfl | rfl
    · exact bd_law_stream
    · exact bd_law_draw
    · exact bd_law_pick
    · exact bd_law_known_rules
    · exact bd_law_word
    · exact bdfirst_place
    · exact bdstep_word
    · exact bdnormal_word
    · exact bdis_greater
    · exact bdoverlaps_of
    · exact bdis_settled
    · exact bd_law_word_steps
    · exact bd_law_normal_word
    · exact bd_law_settled
    · exact bd_law_is_none
    · exact bdlaw
def loose0 : List Str := ["TermtideError", "LimitError", "MOST_LENGTH", "MOST_STEPS", "is_greater", "first_place", "step_word", "normal_word", "overlaps_of", "is_settled", "_law_stream", "_law_draw", "_law_pick", "_law_known_rules", "_law_word", "_law_word_steps", "_law_normal_word", "_law_settled", "_law_is_none"]
abbrev loose : List Str := loose0
abbrev hk : PySem.W.Hook := He.hookD 4 (faD ds gi frees) (dfsD ds)
def ob (s : PySem.W.SharedT) : He.AlD := He.obsDG 4 (faD ds gi frees) (dfsD ds) (HandSHeadRun.getT s)
theorem ob_eq (s : PySem.W.SharedT) : ob s = hk.obs s.abs := He.obsDG_eq (HandSHeadRun.getT_eq s)
theorem runq (w : World) : HandSHeadRun.RunEq R (PySem.W.view R.prog [22]) hk ob 4000 loose w := by
  intro os
  kernel_rfl
theorem gb_eq : gbD gi = gb := by
  funext g
  show (gi[g]?).map _ = ((gi.map Prod.snd)[g]?).map _
  rw [List.getElem?_map, Option.map_map]
  rfl
theorem law_run (ns : List Int) (h : ns.length ≤ 63) : run (pgD ds) (gbD gi) W 40 15 [.scr ns] = some (.bl true, []) := by
  rw [gb_eq]
  exact law_final ns h
end K68
open PySem PySem.W PySem.Calls PyProof.Rows
theorem PySem.Challenge.cw_termtide_k68_whole_words_put_together_holds : PySem.Challenge.rw_termtide_k68_whole_words_put_together.Holds := by
  w_on; o_law
  refine HandSHeadRun.head_any (r := K68.R) (q := view K68.R.prog [22]) (H := K68.hk) (ob := K68.ob) (M := 4000) (loose := K68.loose) (d := HandSHeadRun.topDef K68.R.prog 22) (kwd := []) K68.ob_eq
    (by kernel_rfl) (fun s => by kernel_rfl) K68.runq (by kernel_rfl) (by kernel_rfl) (by kernel_rfl) (by rfl) (by first | assumption | decide +kernel) (by decide +kernel) ⟨rfl, rfl, rfl, rfl, rfl, by decide +kernel⟩ ?hw ?hc
  case hw => w_witness2
  case hc =>
    refine L2.walk_ofE (l := PySem.Challenge.rw_termtide_k68_whole_words_put_together) (n := 63) (k := 40) (x := "script") (CX := L2.CX0) rfl (by decide) (by kernel_rfl) ⟨rfl, by decide, by decide⟩ ?F (fun _ _ _ _ z => z)
    intro w mg fa h Y G hmg0
    obtain ⟨K, KX, c⟩ := Y
    have hmg : mg ("law" : PySem.Str) = some (.ref fa) := by
      have e : (HandSHeadRun.topDef K68.R.prog 22).name = ("law" : PySem.Str) := by kernel_rfl
      rw [← e]
      exact hmg0
    obtain ⟨fd, hb, hF⟩ := Ev.law_fn (P := PySem.Challenge.pw_termtide_k68_whole_words_put_together) (w := w) (W := K68.W) KX G c K68.good (li := 15) (dl := K68.dlaw) rfl hmg rfl 40
    exact ⟨K, fd, _, KX, hb, fun H a ns hl _ hS => Ev.law_sp (ds := K68.ds) (gi := K68.gi) (s := ⟨[0], false⟩) rfl rfl (K68.law_run ns hl) hS, hF⟩
