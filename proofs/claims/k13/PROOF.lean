import PyProof.Rows.All
import Wide.All
import OpenK.AllK
import Wide.FinOn
import PyProof.EqAt
import PyProof.EqKinds
import HandS.Codes
import PySem.Syntax
import HandS.Nested
import HandS.ForMost
import HandS.OwnEq
import KE.KDictKeyed
import KE.KeyNested
import HandS.NestedK
import HandS.EndTab
import KE.LtData
import KE.SortData
import KE.DataMinMax
import KE.DataFind
import KE.DataCmp
import KE.DataEq
import HandS.Flow
import HandS.TupLe
import HandS.TupAny
import HandS.TupMul
import HandS.Zip
import HandS.Conv
import PyProof.StrBlock2
import HandS.Comp
import HandS.IsInst
import HandS.Walk
import HandS.WrittenGet
import KE.GoesEnum
import HandS.MakeKwOnly
import HandS.Style
import PySem.Challenge.RW_pushyards_k13_walks_of_stronger_hands
set_option autoImplicit false
/-! Pv: data, a small language without positions, its evaluator (plain Lean). -/
namespace Pv
open PySem (Str)

/-- data -/
inductive D where
  | non | bl (b : Bool) | int (i : Int) | str (s : Str)
  | tup (l : List D) | lst (l : List D) | dic (ks vs : List D)
  | obj (c : Str) (ns : List Str) (vs : List D)
  | fn (f : Str) | clo (f : Str) (caps : List D) | bowl
  deriving Inhabited

/-- outcomes; draw n k: some number below n, whichever -/
inductive R (α : Type) where
  | ok (a : α)
  | exc (c : Str) (d : D)
  | draw (n : Nat) (k : Nat → R α)
  | bad

namespace R
def bind {α β : Type} : R α → (α → R β) → R β
  | ok a, f => f a
  | exc c d, _ => exc c d
  | draw n k, f => draw n fun i => bind (k i) f
  | bad, _ => bad
instance : Monad R where
  pure := ok
  bind := bind
end R

/-- operators on data -/
inductive Op where
  | add | sub | mul | fdiv | mod | pow
  | eq | ne | eqo | nee | lt | le | gt | ge | is | isnot | inn | notin
  deriving DecidableEq, Repr

/-- built-in functions, by how many arguments they have -/
inductive Bf where
  | len | tuple | list | sorted | int | min1 | min2 | max1 | max2 | abs | all | any | sum | dict | divmod | str | set | range | bool
  deriving DecidableEq, Repr
/-- built-in methods that change nothing -/
inductive Mf where
  | join | get1 | get2 | index | count | items | split | replace | startswith | values | keys
  deriving DecidableEq, Repr
/-- methods that change a local list or dict -/
inductive Mt where
  | append | extend | update | remove | clear
  deriving DecidableEq, Repr
/-- built-in types for isinstance -/
inductive Ty where
  | int | bool | str | tuple | list | dict | cls (c : Str)
  deriving DecidableEq, Repr

/-- targets -/
inductive Tg where
  | var (i : Nat)
  | nil | cons (t ts : Tg)
  deriving DecidableEq, Repr, Inhabited

/-- expressions; enil, econs: lists of them -/
inductive IE where
  | var (i : Nat)
  | non | bl (b : Bool) | int (i : Int) | str (s : Str)
  | glob (x : Str)
  | tup (es : IE) | lst (es : IE) | dic (ks vs : IE)
  | op (o : Op) (a b : IE)
  | chain (o o' : Op) (a b c : IE)
  | neg (a : IE) | nott (a : IE)
  | and (a b : IE) | or (a b : IE)
  | ite (t a b : IE)
  | call (f : Str) (es : IE)
  | callc (f : Str) (es : IE)   -- a closure among the arguments
  | callk (f : Str) (ks : List Str) (es : IE)
  | callv (i : Nat) (es : IE)
  | bf (b : Bf) (es : IE)
  | isi (a : IE) (t : List Ty)
  | mf (m : Mf) (a : IE) (es : IE)
  | sub (a i : IE)
  | gsub (x : Str) (i : IE)
  | slice (a lo hi : IE)
  | rev (a : IE)
  | attr (a : IE) (f : Str)
  | comp (elt : IE) (t : Tg) (it : IE) (c : IE) (own : List Nat)
  | dcomp (k v : IE) (t : Tg) (it : IE) (c : IE) (own : List Nat)
  | range1 (a : IE) | range2 (a b : IE) | range3 (a b c : IE)
  | enum (a : IE) | zip (a b : IE) | zips (a : IE) | itemsOf (a : IE)
  | clo (f : Str) (caps : List Nat)
  | itr (a : IE)
  | over (a : IE)
  | enil | econs (e es : IE)
  deriving Inhabited

/-- right sides that may change local names -/
inductive IX where
  | e (a : IE)
  | mv (i : Nat)
  | pop (i : Nat) (es : IE)
  | io (f : Str) (es : IE) (outs : List (Nat × Nat))   -- (place among the arguments, slot)
  | idx (a : IE) (x : IX)
  deriving Inhabited

/-- statements -/
inductive IS where
  | skip
  | seq (s r : IS)
  | asg (t : Tg) (x : IX)
  | par (ts : List Nat) (xs : List IX)
  | setItem (i : Nat) (k v : IE)
  | setItem2 (i : Nat) (k k2 v : IE)
  | setAttr (i : Nat) (f : Str) (v : IX)
  | expr (x : IX)
  | mt (m : Mt) (i : Nat) (x : IX)
  | appAt (i : Nat) (k v : IE)
  | ret (x : IX)
  | iff (t : IE) (a b : IS)
  | whil (t : IE) (b : IS)
  | forr (t : Tg) (x : IX) (b : IS)
  | raise (c : Str) (e : IE)
  | raise0 (c : Str)
  | brk | cont
  | defn (i : Nat) (f : Str) (caps : List Nat)
  | mkLists (i : Nat) (it : IE)
  | tryy (b : IS) (c : Str) (i : Option Nat) (h : IS)
  deriving Inhabited

/-- a def: parameters, slots, body, the parameters that it changes in place -/
structure Fd where
  params : List Str
  caps : Nat
  slots : Nat
  body : IS
  inout : List Nat
  dflt : List D := []
  deriving Inhabited

inductive Ent where
  | fd (d : Fd)
  | cls (init : Fd)          -- a class of one's own with its __init__
  | exc (fields : List Str)
  | draw | bowl
  deriving Inhabited

abbrev Env := List (Option D)

/-! ### data's own functions -/
mutual
def D.beq : D → D → Bool
  | .non, .non => true
  | .bl a, .bl b => a == b
  | .int a, .int b => a == b
  | .str a, .str b => a == b
  | .tup a, .tup b => D.beqL a b
  | .lst a, .lst b => D.beqL a b
  | .dic a b, .dic c d => D.beqL a c && D.beqL b d
  | .obj c ns vs, .obj c' ns' vs' => c == c' && ns == ns' && D.beqL vs vs'
  | .fn a, .fn b => a == b
  | .clo a l, .clo b m => a == b && D.beqL l m
  | .bowl, .bowl => true
  | _, _ => false
def D.beqL : List D → List D → Bool
  | [], [] => true
  | a :: l, b :: m => D.beq a b && D.beqL l m
  | _, _ => false
end
instance : BEq D := ⟨D.beq⟩

mutual
/-- no closure within -/
def D.noClo : D → Bool
  | .clo _ _ => false
  | .tup l => D.noCloL l
  | .lst l => D.noCloL l
  | .dic k v => D.noCloL k && D.noCloL v
  | .obj _ _ v => D.noCloL v
  | _ => true
def D.noCloL : List D → Bool
  | [] => true
  | a :: l => D.noClo a && D.noCloL l
end

mutual
/-- Python's == of plain data -/
def D.eqv : D → D → Bool
  | .non, .non => true
  | .bl a, .bl b => a == b
  | .bl a, .int b => (if a then 1 else 0) == b
  | .int a, .bl b => a == (if b then 1 else 0)
  | .int a, .int b => a == b
  | .str a, .str b => a == b
  | .tup a, .tup b => D.eqvL a b
  | .lst a, .lst b => D.eqvL a b
  | _, _ => false
def D.eqvL : List D → List D → Bool
  | [], [] => true
  | a :: l, b :: m => D.eqv a b && D.eqvL l m
  | _, _ => false
end

mutual
/-- plain data (of bounded depth) -/
def D.plain : Nat → D → Bool
  | _, .non => true
  | _, .bl _ => true
  | _, .int _ => true
  | _, .str _ => true
  | n + 1, .tup l => D.plainL n l
  | n + 1, .lst l => D.plainL n l
  | _, _ => false
def D.plainL : Nat → List D → Bool
  | _, [] => true
  | n, a :: l => D.plain n a && D.plainL n l
end

mutual
/-- what may be a key: ints, texts, None, tuples of such -/
def D.isKey : Nat → D → Bool
  | _, .non => true
  | _, .int _ => true
  | _, .str _ => true
  | n + 1, .tup l => D.isKeyL n l
  | _, _ => false
def D.isKeyL : Nat → List D → Bool
  | _, [] => true
  | n, a :: l => D.isKey n a && D.isKeyL n l
end

def strLt (a b : Str) : Bool := decide (a.cps.toList < b.cps.toList)

mutual
/-- a and b can be compared place by place -/
def D.alike : D → D → Bool
  | .non, .non => true
  | .bl _, .bl _ => true
  | .int _, .int _ => true
  | .str _, .str _ => true
  | .tup a, .tup b => D.alikeL a b
  | .lst a, .lst b => D.alikeL a b
  | _, _ => false
def D.alikeL : List D → List D → Bool
  | a :: l, b :: m => D.alike a b && D.alikeL l m
  | [], _ => true
  | _ :: _, [] => true
end
mutual
/-- a < b of alike data -/
def D.lt : D → D → Bool
  | .bl a, .bl b => !a && b
  | .int a, .int b => decide (a < b)
  | .str a, .str b => strLt a b
  | .tup a, .tup b => D.ltL a b
  | .lst a, .lst b => D.ltL a b
  | _, _ => false
def D.ltL : List D → List D → Bool
  | [], [] => false
  | [], _ :: _ => true
  | _ :: _, [] => false
  | a :: l, b :: m => if D.eqv a b then D.ltL l m else D.lt a b
end
def D.isNon : D → Bool
  | .non => true
  | _ => false

def D.truthy : D → R Bool
  | .non => .ok false
  | .bl b => .ok b
  | .int i => .ok (i != 0)
  | .str s => .ok (!s.cps.isEmpty)
  | .tup l => .ok !l.isEmpty
  | .lst l => .ok !l.isEmpty
  | _ => .bad

/-- at most so long -/
def big : Nat := 16777216

def atIx {α : Type} (xs : List α) (i : Int) : Option α :=
  if 0 ≤ i then xs[i.toNat]? else if -(xs.length : Int) ≤ i then xs[(i + xs.length).toNat]? else none

def placeOf (ks : List D) (k : D) : Option Nat := ks.findIdx? (D.eqv k ·)
def dlook (ks vs : List D) (k : D) : Option D :=
  match ks, vs with
  | k' :: ks, v :: vs => if D.eqv k k' then some v else dlook ks vs k
  | _, _ => none
def dput : List D → List D → D → D → List D × List D
  | k' :: ks, v' :: vs, k, v => if D.eqv k k' then (k' :: ks, v :: vs) else let r := dput ks vs k v; (k' :: r.1, v' :: r.2)
  | _, _, k, v => ([k], [v])
def ddel : List D → List D → D → List D × List D
  | k' :: ks, v' :: vs, k => if D.eqv k k' then (ks, vs) else let r := ddel ks vs k; (k' :: r.1, v' :: r.2)
  | _, _, _ => ([], [])
/-- keys of one sort: ints and texts, or tuples -/
def sortOf : D → Nat
  | .tup _ => 1
  | _ => 0
/-- the top of a key: a number, a text, a tuple -/
def topKey : D → Bool
  | .int _ => true
  | .str _ => true
  | .tup _ => true
  | _ => false
def keyFits (ks : List D) (k : D) : Bool := D.isKey 8 k && topKey k && ks.all fun k' => sortOf k' == sortOf k

/-- where a part of a slice lies -/
def ixC (n d : Nat) : Option Int → Nat
  | none => d
  | some v => if v < 0 then (v + n).toNat else min v.toNat n
def cut {α : Type} (xs : List α) (lo hi : Option Int) : List α := (xs.drop (ixC xs.length 0 lo)).take (ixC xs.length xs.length hi - ixC xs.length 0 lo)

def strOf (l : List Nat) : Str := ⟨l.toArray⟩
def chars (s : Str) : List D := s.cps.toList.map fun c => .str (strOf [c])

def inD (x y : D) : R Bool :=
  match y with
  | .str b => match x with
    | .str a => match a.cps.toList with
      | [c] => .ok (decide (c ∈ b.cps.toList))
      | _ => .bad
    | _ => .bad
  | .tup l => if D.plain 32 x && D.plainL 32 l then .ok (l.any fun z => D.eqv z x) else .bad
  | .lst l => if D.plain 32 x && D.plainL 32 l then .ok (l.any fun z => D.eqv z x) else .bad
  | .dic ks _ => if keyFits ks x then .ok (ks.any fun z => D.eqv x z) else .bad
  | _ => .bad

/-- x and y can be asked for their order -/
def ordOk (x y : D) : Bool := D.plain 32 x && D.plain 32 y && D.alike x y && !x.isNon

def mid (i : Int) : Bool := decide (-(2 ^ 62) ≤ i) && decide (i < 2 ^ 62)
def small (i : Int) : Bool := decide (-(2 ^ 64) < i) && decide (i < 2 ^ 64)

def mulD (x y : D) : R D := match x, y with
  | .int a, .int b => if small a || small b then .ok (.int (a * b)) else .bad
  | .str a, .int b => if decide (1 ≤ b) && decide (b ≤ 1000) && decide (a.length ≤ 1000) then .ok (.str (strOf (List.replicate b.toNat a.cps.toList).flatten)) else .bad
  | _, _ => .bad
def eqD (x y : D) : R D := if D.plain 32 x && D.plain 32 y then .ok (.bl (D.eqv x y)) else .bad
def neD (x y : D) : R D := if D.plain 32 x && D.plain 32 y then .ok (.bl (!D.eqv x y)) else .bad
def isD (neg : Bool) (x y : D) : R D := match x, y with
  | x, .non => .ok (.bl (x.isNon != neg))
  | .bl a, .bl b => .ok (.bl ((a == b) != neg))
  | _, _ => .bad
def binD (o : Op) (x y : D) : R D :=
  match o, x, y with
  | .add, .int a, .int b => .ok (.int (a + b))
  | .add, .str a, .str b => if a.length + b.length ≤ big then .ok (.str (a ++ b)) else .bad
  | .add, .lst a, .lst b => if a.length + b.length ≤ big then .ok (.lst (a ++ b)) else .bad
  | .add, .tup a, .tup b => if a.length + b.length ≤ big then .ok (.tup (a ++ b)) else .bad
  | .sub, .int a, .int b => .ok (.int (a - b))
  | .mul, x, y => mulD x y
  | .fdiv, .int a, .int b => if 0 < b && b < 1073741824 then .ok (.int (a / b)) else .bad
  | .mod, .int a, .int b => if 0 < b then .ok (.int (a % b)) else .bad
  | .pow, .int a, .int b => if 0 ≤ b && b ≤ 100 && small a then .ok (.int (a ^ b.toNat)) else .bad
  | .lt, x, y => if ordOk x y then .ok (.bl (D.lt x y)) else .bad
  | .gt, x, y => if ordOk x y then .ok (.bl (D.lt y x)) else .bad
  | .le, x, y => if ordOk x y then .ok (.bl (!D.lt y x)) else .bad
  | .ge, x, y => if ordOk x y then .ok (.bl (!D.lt x y)) else .bad
  | .is, x, y => isD false x y
  | .isnot, x, y => isD true x y
  | .eq, x, y => eqD x y
  | .ne, x, y => neD x y
  | .inn, x, y => (inD x y).bind fun b => .ok (.bl b)
  | .notin, x, y => (inD x y).bind fun b => .ok (.bl (!b))
  | _, _, _ => .bad

/-- items, one behind the other -/
def itemsD : D → R (List D)
  | .tup l => .ok l
  | .lst l => .ok l
  | .str s => .ok (chars s)
  | _ => .bad

/-- sorted, stable -/
def sortD (l : List D) : List D := l.mergeSort fun a b => !D.lt b a
/-- all can be compared with all -/
def comparable (l : List D) : Bool := l.all fun a => l.all fun b => D.alike a b
def isTup1 : D → Bool
  | .tup (_ :: _) => true
  | _ => false
def isTup : D → Bool
  | .tup _ => true
  | _ => false
def sortable (l : List D) : Bool := l.all isTup1 || l.all fun d => !isTup d && !d.isNon
def noNon (l : List D) : Bool := l.all fun d => !d.isNon

def subD (a i : D) : R D :=
  match a, i with
  | .tup l, .int i => match atIx l i with | some d => .ok d | none => .bad
  | .lst l, .int i => match atIx l i with | some d => .ok d | none => .bad
  | .str s, .int i => match atIx s.cps.toList i with | some c => .ok (.str (strOf [c])) | none => .bad
  | .dic ks vs, k => if keyFits ks k then match dlook ks vs k with | some d => .ok d | none => .bad else .bad
  | _, _ => .bad

def partS (d : D) : R (Option Int) := match d with
  | .int i => .ok (some i)
  | _ => .bad
def partO (lo : IE) (m : R D) : R (Option Int) := match lo with
  | .non => .ok none
  | _ => m.bind partS
def cutD (a : D) (l h : Option Int) : R D :=
  match a with
  | .tup xs => .ok (.tup (cut xs l h))
  | .lst xs => .ok (.lst (cut xs l h))
  | .str s => .ok (.str (strOf (cut s.cps.toList l h)))
  | _ => .bad

def intsOf : List D → Option (List Int)
  | [] => some []
  | .int i :: l => (intsOf l).map (i :: ·)
  | _ => none
def boolsOf : List D → Option (List Bool)
  | [] => some []
  | .bl i :: l => (boolsOf l).map (i :: ·)
  | _ => none
def strsOf : List D → Option (List (List Nat))
  | [] => some []
  | .str s :: l => (strsOf l).map (s.cps.toList :: ·)
  | _ => none
def pairsInto : List D → List D → List D → R D
  | [], ks, vs => .ok (.dic ks vs)
  | .tup [k, v] :: l, ks, vs => if keyFits ks k then pairsInto l (dput ks vs k v).1 (dput ks vs k v).2 else .bad
  | _, _, _ => .bad
def leastD (l : List D) : D → D := fun d => l.foldl (fun m x => if D.lt x m then x else m) d
def mostD (l : List D) : D → D := fun d => l.foldl (fun m x => if D.lt m x then x else m) d
def joinL (sep : List Nat) : List (List Nat) → List Nat
  | [] => []
  | [a] => a
  | a :: l => a ++ sep ++ joinL sep l
def pairUp : List D → List D → List D
  | k :: ks, v :: vs => .tup [k, v] :: pairUp ks vs
  | _, _ => []
def zipAll : List (List D) → Nat → List D
  | ls, n => (List.range n).map fun i => .tup (ls.map fun l => l.getD i .non)
def natText (n : Nat) : List Nat := (toString n).toList.map Char.toNat
def nub : List D → List D → List D
  | [], acc => acc
  | k :: l, acc => nub l (if acc.any (D.eqv k ·) then acc else acc ++ [k])
def seqD : D → R (List D)
  | .tup l => .ok l
  | .lst l => .ok l
  | .dic ks _ => .ok ks
  | _ => .bad
def oneD (f : D → R D) (ds : List D) : R D := match ds with
  | [d] => f d
  | _ => .bad
def lenF : D → R D
  | .tup l => .ok (.int l.length)
  | .lst l => .ok (.int l.length)
  | .str s => .ok (.int s.length)
  | _ => .bad
def tupleF : D → R D
  | .tup l => .ok (.tup l)
  | .lst l => .ok (.tup l)
  | _ => .bad
def listF : D → R D
  | .tup l => .ok (.lst l)
  | .lst l => .ok (.lst l)
  | _ => .bad
def intF : D → R D
  | .int i => .ok (.int i)
  | _ => .bad
def absF : D → R D
  | .int i => .ok (.int (if i < 0 then -i else i))
  | _ => .bad
def allF : D → R D
  | .lst l => match boolsOf l with | some bs => .ok (.bl (bs.all id)) | none => .bad
  | _ => .bad
def anyF : D → R D
  | .lst l => match boolsOf l with | some bs => .ok (.bl (bs.any id)) | none => .bad
  | _ => .bad
def sumF : D → R D
  | .lst l => match intsOf l with | some bs => .ok (.int bs.sum) | none => .bad
  | _ => .bad
def min2F : List D → R D
  | [.int a, .int b] => .ok (.int (if b < a then b else a))
  | _ => .bad
def max2F : List D → R D
  | [.int a, .int b] => .ok (.int (if b > a then b else a))
  | _ => .bad
def sortF : D → R D
  | .lst l => if comparable l && sortable l && D.plainL 32 l then .ok (.lst (sortD l)) else .bad
  | _ => .bad
def dictF : D → R D
  | .lst l => pairsInto l [] []
  | _ => .bad
def bfD (b : Bf) (xs : List D) : R D :=
  match b with
  | .len => oneD lenF xs
  | .tuple => oneD tupleF xs
  | .list => oneD listF xs
  | .int => oneD intF xs
  | .abs => oneD absF xs
  | .all => oneD allF xs
  | .any => oneD anyF xs
  | .sum => oneD sumF xs
  | .min2 => min2F xs
  | .max2 => max2F xs
  | .sorted => oneD sortF xs
  | .dict => oneD dictF xs
  | _ => .bad

def splitGo (sep : Nat) : List Nat → List Nat → List (List Nat)
  | [], acc => [acc.reverse]
  | c :: l, acc => if c == sep then acc.reverse :: splitGo sep l [] else splitGo sep l (c :: acc)
def replGo (a b : List Nat) : Nat → List Nat → List Nat
  | 0, l => l
  | _ + 1, [] => []
  | n + 1, c :: l => if a.isPrefixOf (c :: l) && !a.isEmpty then b ++ replGo a b n ((c :: l).drop a.length) else c :: replGo a b n l
def joinF (a x : D) : R D := match a, x with
  | .str s, .lst l => match strsOf l with
    | some ts => if (ts.map (·.length)).sum + ts.length * s.length ≤ big then .ok (.str (strOf (joinL s.cps.toList ts))) else .bad
    | none => .bad
  | _, _ => .bad
def mfD (m : Mf) (a : D) (xs : List D) : R D :=
  match m, a, xs with
  | .join, a, [x] => joinF a x
  | .get1, .dic ks vs, [k] => if keyFits ks k then .ok ((dlook ks vs k).getD .non) else .bad
  | .get2, .dic ks vs, [k, d] => if keyFits ks k then .ok ((dlook ks vs k).getD d) else .bad
  | .index, .tup l, [x] => if D.plainL 32 l && D.plain 32 x then match l.findIdx? (D.eqv · x) with | some i => .ok (.int i) | none => .bad else .bad
  | .index, .lst l, [x] => if D.plainL 32 l && D.plain 32 x then match l.findIdx? (D.eqv · x) with | some i => .ok (.int i) | none => .bad else .bad
  | .count, .tup l, [x] => if D.plainL 32 l && D.plain 32 x then .ok (.int (l.countP (D.eqv · x))) else .bad
  | .count, .lst l, [x] => if D.plainL 32 l && D.plain 32 x then .ok (.int (l.countP (D.eqv · x))) else .bad
  | .count, .str s, [.str t] => if t.length == 1 then .ok (.int (s.cps.toList.countP fun c => t.cps.toList == [c])) else .bad
  | .index, .str s, [.str t] => if t.length == 1 then match s.cps.toList.findIdx? fun c => t.cps.toList == [c] with | some i => .ok (.int i) | none => .bad else .bad
  | .items, .dic ks vs, [] => .ok (.lst (pairUp ks vs))
  | .keys, .dic ks _, [] => .ok (.lst ks)
  | .values, .dic _ vs, [] => .ok (.lst vs)
  | .split, .str s, [.str t] => if t.length == 1 then .ok (.lst ((splitGo (t.cps.toList.getD 0 0) s.cps.toList []).map fun l => .str (strOf l))) else .bad
  | .replace, .str s, [.str a, .str b] => .ok (.str (strOf (replGo a.cps.toList b.cps.toList (s.length + 1) s.cps.toList)))
  | .startswith, .str s, [.str a] => .ok (.bl (a.cps.toList.isPrefixOf s.cps.toList))
  | _, _, _ => .bad

def attrD (ok : Str → Str → Bool) (a : D) (f : Str) : R D :=
  match a with
  | .obj c ns vs => if ok c f then match (ns.zip vs).lookup f with
    | some d => .ok d
    | none => .bad else .bad
  | _ => .bad

def tyIs (d : D) : Ty → Bool
  | .int => match d with | .int _ => true | .bl _ => true | _ => false
  | .bool => match d with | .bl _ => true | _ => false
  | .str => match d with | .str _ => true | _ => false
  | .tuple => match d with | .tup _ => true | _ => false
  | .list => match d with | .lst _ => true | .bowl => true | _ => false
  | .dict => match d with | .dic _ _ => true | _ => false
  | .cls c => match d with | .obj c' _ _ => c == c' | _ => false
def isiOk (ok : Str → Str → Bool) : D → Bool
  | .obj c _ _ => ok c "__class__"
  | .fn _ => false
  | .clo _ _ => false
  | _ => true

/-! ### environments -/
def getV (ρ : Env) (i : Nat) : R D := match ρ[i]? with
  | some (some d) => .ok d
  | _ => .bad
def setV (ρ : Env) (i : Nat) (d : D) : Env := ρ.set i (some d)
def wipe (ρ : Env) : List Nat → Env
  | [] => ρ
  | i :: l => (wipe ρ l).set i none
mutual
def asgT : Tg → D → Env → R Env
  | .var i, d, ρ => .ok (setV ρ i d)
  | .nil, .tup [], ρ => .ok ρ
  | .cons t ts, .tup (d :: ds), ρ => (asgT t d ρ).bind fun ρ => asgTs ts ds ρ
  | _, _, _ => .bad
def asgTs : Tg → List D → Env → R Env
  | .nil, [], ρ => .ok ρ
  | .cons t ts, d :: ds, ρ => (asgT t d ρ).bind fun ρ => asgTs ts ds ρ
  | _, _, _ => .bad
end

/-- items that pass, one behind the other -/
def gather (f : D → R (Option D)) : List D → R (List D)
  | [] => .ok []
  | x :: l => (f x).bind fun r => (gather f l).bind fun rs => .ok (match r with | some d => d :: rs | none => rs)
def gatherD (f : D → R (Option (D × D))) : List D → List D → List D → R D
  | [], ks, vs => .ok (.dic ks vs)
  | x :: l, ks, vs => (f x).bind fun r => match r with
    | some (k, v) => if keyFits ks k then gatherD f l (dput ks vs k v).1 (dput ks vs k v).2 else .bad
    | none => gatherD f l ks vs

/-- the defs by name: arguments to the answer and the changed arguments -/
abbrev Phi := Str → List Str → List D → R (D × List D)
structure Glo where
  con : Str → Option D        -- constants of the module (and classes, defs as values)
  gdic : Str → Option (List D × List D)
  attrs : Str → Str → Bool    -- which names are plain attributes of a class's objects

def Glo.isFn (G : Glo) (g : Str) : Bool := match G.con g with
  | some (.fn h) => h == g
  | _ => false
def enumL : Nat → List D → List D
  | _, [] => []
  | n, x :: l => .tup [.int n, x] :: enumL (n + 1) l

variable (G : Glo) (Φ : Phi)

/-- what may stand to the right of an own == -/
def eqRight (c : Str) : D → Bool
  | .obj c' _ _ => c' == c
  | .fn _ => false
  | .clo _ _ => false
  | _ => true
def opE (o : Op) (x y : D) : R D :=
  match o with
  | .eqo => match x with
    | .obj c _ _ => if eqRight c y then (Φ (c ++ ".__eq__") [] [x, y]).bind fun r => .ok r.1 else .bad
    | _ => .bad
  | .nee => match x, y with
    | .dic ks _, .dic [] _ => .ok (.bl !ks.isEmpty)
    | _, _ => .bad
  | o => binD o x y

mutual
def evE (ρ : Env) : IE → R D
  | .var i => getV ρ i
  | .non => .ok .non
  | .bl b => .ok (.bl b)
  | .int i => .ok (.int i)
  | .str s => .ok (.str s)
  | .glob x => match G.con x with | some d => .ok d | none => .bad
  | .tup es => (evL ρ es).bind fun l => .ok (.tup l)
  | .lst es => (evL ρ es).bind fun l => .ok (.lst l)
  | .dic ks vs => (evL ρ ks).bind fun k => (evL ρ vs).bind fun v => pairsInto (pairUp k v) [] []
  | .op o a b => (evE ρ a).bind fun x => (evE ρ b).bind fun y => opE Φ o x y
  | .chain o o' a b c => (evE ρ a).bind fun x => (evE ρ b).bind fun y => (opE Φ o x y).bind fun z => match z with
    | .bl true => (evE ρ c).bind fun w => opE Φ o' y w
    | .bl false => .ok (.bl false)
    | _ => .bad
  | .neg a => (evE ρ a).bind fun x => match x with | .int i => .ok (.int (-i)) | _ => .bad
  | .nott a => (evE ρ a).bind fun x => x.truthy.bind fun b => .ok (.bl (!b))
  | .and a b => (evE ρ a).bind fun x => x.truthy.bind fun t => if t then evE ρ b else .ok x
  | .or a b => (evE ρ a).bind fun x => x.truthy.bind fun t => if t then .ok x else evE ρ b
  | .ite t a b => (evE ρ t).bind fun x => x.truthy.bind fun t => if t then evE ρ a else evE ρ b
  | .call f es => (evL ρ es).bind fun xs => (Φ f [] xs).bind fun r => .ok r.1
  | .callc f es => (evL ρ es).bind fun xs => (Φ f [] xs).bind fun r => if r.1.noClo then .ok r.1 else .bad
  | .callk f ks es => (evL ρ es).bind fun xs => (Φ f ks xs).bind fun r => .ok r.1
  | .callv i es => (getV ρ i).bind fun f => match f with
    | .fn g => if G.isFn g then (evL ρ es).bind fun xs => (Φ g [] xs).bind fun r => .ok r.1 else .bad
    | .clo g caps => (evL ρ es).bind fun xs => if D.noCloL xs && D.noCloL caps then (Φ g [] (xs ++ caps)).bind fun r => .ok r.1 else .bad
    | _ => .bad
  | .bf b es => (evL ρ es).bind fun xs => bfD b xs
  | .isi a ts => (evE ρ a).bind fun x => if isiOk G.attrs x then .ok (.bl (ts.any (tyIs x))) else .bad
  | .mf m a es => (evE ρ a).bind fun x => (evL ρ es).bind fun xs => mfD m x xs
  | .sub a i => (evE ρ a).bind fun x => (evE ρ i).bind fun y => subD x y
  | .gsub x i => (evE ρ i).bind fun y => match G.gdic x with
    | some (ks, vs) => match dlook ks vs y with | some d => .ok d | none => .bad
    | none => .bad
  | .slice a lo hi => (evE ρ a).bind fun x => (partO lo (evE ρ lo)).bind fun l => (partO hi (evE ρ hi)).bind fun h => cutD x l h
  | .rev a => (evE ρ a).bind fun x => match x with
    | .tup l => .ok (.tup l.reverse)
    | .lst l => .ok (.lst l.reverse)
    | .str s => .ok (.str (strOf s.cps.toList.reverse))
    | _ => .bad
  | .attr a f => (evE ρ a).bind fun x => attrD G.attrs x f
  | .comp elt t it c own => (evI ρ it).bind fun l => (gather (fun x => (asgT t x (wipe ρ own)).bind fun ρ => (evE ρ c).bind fun y => y.truthy.bind fun b =>
      if b then (evE ρ elt).bind fun z => .ok (some z) else .ok none) l).bind fun r => .ok (.lst r)
  | .dcomp k v t it c own => (evI ρ it).bind fun l => gatherD (fun x => (asgT t x (wipe ρ own)).bind fun ρ => (evE ρ c).bind fun y => y.truthy.bind fun b =>
      if b then (evE ρ k).bind fun z => (evE ρ v).bind fun w => .ok (some (z, w)) else .ok none) l [] []
  | .clo f caps => match caps.mapM (fun i => match ρ[i]? with | some (some d) => some d | _ => none) with
    | some ds => .ok (.clo f ds)
    | none => .bad
  | .itr a => (evI ρ a).bind fun l => .ok (.lst l)
  | _ => .bad
def evL (ρ : Env) : IE → R (List D)
  | .enil => .ok []
  | .econs e es => (evE ρ e).bind fun x => (evL ρ es).bind fun xs => .ok (x :: xs)
  | _ => .bad
/-- what a loop walks -/
def evI (ρ : Env) : IE → R (List D)
  | .range1 a => (evE ρ a).bind fun x => match x with | .int n => if mid n && decide (n ≤ big) then .ok ((List.range n.toNat).map fun (i : Nat) => D.int (i : Int)) else .bad | _ => .bad
  | .range2 a b => (evE ρ a).bind fun x => (evE ρ b).bind fun y => match x, y with
    | .int i, .int j => if mid i && mid j && decide (j - i ≤ big) then .ok ((List.range (j - i).toNat).map fun (k : Nat) => D.int (i + (k : Int))) else .bad
    | _, _ => .bad
  | .range3 a b c => (evE ρ a).bind fun x => (evE ρ b).bind fun y => (evE ρ c).bind fun z => match x, y, z with
    | .int i, .int j, .int c => if c == -1 && mid i && mid j && decide (i - j ≤ big) then .ok ((List.range (i - j).toNat).map fun (k : Nat) => D.int (i - (k : Int))) else .bad
    | _, _, _ => .bad
  | .enum a => (evE ρ a).bind fun x => (itemsD x).bind fun l => .ok (enumL 0 l)
  | .zip a b => (evE ρ a).bind fun x => (evE ρ b).bind fun y => (itemsD x).bind fun l => (itemsD y).bind fun m => .ok (pairUp l m)
  | .zips a => (evE ρ a).bind fun x => (itemsD x).bind fun ls => match ls.mapM (fun y => match itemsD y with | .ok l => some l | _ => none) with
    | some (m :: ms) => .ok (zipAll (m :: ms) (ms.foldl (fun n l => min n l.length) m.length))
    | some [] => .ok []
    | none => .bad
  | .itemsOf a => (evE ρ a).bind fun x => match x with | .dic ks vs => .ok (pairUp ks vs) | _ => .bad
  | .over e => (evE ρ e).bind itemsD
  | _ => .bad
end

/-- right sides -/
def evX (ρ : Env) : IX → R (D × Env)
  | .e a => (evE G Φ ρ a).bind fun d => .ok (d, ρ)
  | .mv i => (getV ρ i).bind fun d => .ok (d, ρ.set i none)
  | .pop i es => (evL G Φ ρ es).bind fun xs => (getV ρ i).bind fun d => match d, xs with
    | .lst l, [] => match l.getLast? with
      | some x => .ok (x, setV ρ i (.lst l.dropLast))
      | none => .bad
    | .lst l, [.int k] => match (if mid k then atIx l k else none) with
      | some x => .ok (x, setV ρ i (.lst (l.eraseIdx (if 0 ≤ k then k.toNat else (k + l.length).toNat))))
      | none => .bad
    | _, _ => .bad
  | .io f es outs => (evL G Φ ρ es).bind fun xs => (Φ f [] xs).bind fun r =>
      .ok (r.1, (outs.zip r.2).foldl (fun ρ o => setV ρ o.1.2 o.2) ρ)
  | .idx a x => (evE G Φ ρ a).bind fun y => (evX ρ x).bind fun r => (subD y r.1).bind fun d => .ok (d, r.2)

/-- how a statement ends -/
inductive Fl where
  | nx (ρ : Env) | rt (d : D) (ρ : Env) | bk (ρ : Env) | ct (ρ : Env)

def forL (t : Tg) (f : Env → R Fl) : List D → Env → R Fl
  | [], ρ => .ok (.nx ρ)
  | x :: l, ρ => (asgT t x ρ).bind fun ρ => (f ρ).bind fun r => match r with
    | .nx ρ => forL t f l ρ
    | .ct ρ => forL t f l ρ
    | .bk ρ => .ok (.nx ρ)
    | .rt d ρ => .ok (.rt d ρ)
def whileN (c : Env → R Bool) (f : Env → R Fl) : Nat → Env → R Fl
  | 0, _ => .bad
  | n + 1, ρ => (c ρ).bind fun b => if b then (f ρ).bind fun r => match r with
    | .nx ρ => whileN c f n ρ
    | .ct ρ => whileN c f n ρ
    | .bk ρ => .ok (.nx ρ)
    | .rt d ρ => .ok (.rt d ρ)
    else .ok (.nx ρ)

def evXs (ρ : Env) : List IX → R (List D × Env)
  | [] => .ok ([], ρ)
  | x :: l => (evX G Φ ρ x).bind fun r => (evXs r.2 l).bind fun s => .ok (r.1 :: s.1, s.2)

def putAttr (ok : Str → Str → Bool) (d : D) (f : Str) (v : D) : R D :=
  match d with
  | .obj c ns vs => if ok c f && !(ns.contains f) && decide (ns.length < 900) then .ok (.obj c (ns ++ [f]) (vs ++ [v])) else .bad
  | _ => .bad

def testE (ρ : Env) (t : IE) : R Bool := (evE G Φ ρ t).bind D.truthy

def setAt (d k v : D) : R D :=
  match d, k with
  | .lst l, .int i => match atIx l i with
    | some _ => .ok (.lst (l.set (if 0 ≤ i then i.toNat else (i + l.length).toNat) v))
    | none => .bad
  | .dic ks vs, k => if keyFits ks k && ks.length < big then let r := dput ks vs k v; .ok (.dic r.1 r.2) else .bad
  | _, _ => .bad

def mtD (m : Mt) (d x : D) : R D :=
  match m, d, x with
  | .append, .lst l, x => if l.length < big then .ok (.lst (l ++ [x])) else .bad
  | .extend, .lst l, .lst r => if l.length + r.length ≤ big then .ok (.lst (l ++ r)) else .bad
  | .update, .dic ks vs, .lst r => pairsInto r ks vs
  | .update, .dic ks vs, .dic ks' vs' => pairsInto (pairUp ks' vs') ks vs
  | .remove, .lst l, x => if D.plainL 32 l && D.plain 32 x then match l.findIdx? (D.eqv · x) with | some i => .ok (.lst (l.eraseIdx i)) | none => .bad else .bad
  | _, _, _ => .bad

/-- statements; N: how many turns a while may take -/
def exS (N : Nat) : IS → Env → R Fl
  | .skip, ρ => .ok (.nx ρ)
  | .seq s r, ρ => (exS N s ρ).bind fun f => match f with
    | .nx ρ => exS N r ρ
    | f => .ok f
  | .asg t x, ρ => (evX G Φ ρ x).bind fun r => (asgT t r.1 r.2).bind fun ρ => .ok (.nx ρ)
  | .par ts xs, ρ => (evXs G Φ ρ xs).bind fun r => .ok (.nx ((ts.zip r.1).foldl (fun ρ o => setV ρ o.1 o.2) r.2))
  | .setItem i k v, ρ => (evE G Φ ρ v).bind fun v => (getV ρ i).bind fun d => (evE G Φ ρ k).bind fun k => (setAt d k v).bind fun d => .ok (.nx (setV ρ i d))
  | .setItem2 i k k2 v, ρ => (evE G Φ ρ v).bind fun v => (getV ρ i).bind fun d => (evE G Φ ρ k).bind fun k => (subD d k).bind fun e => (evE G Φ ρ k2).bind fun k2 =>
      (setAt e k2 v).bind fun e => (setAt d k e).bind fun d => .ok (.nx (setV ρ i d))
  | .setAttr i f v, ρ => (evX G Φ ρ v).bind fun r => (getV r.2 i).bind fun d => (putAttr G.attrs d f r.1).bind fun d => .ok (.nx (setV r.2 i d))
  | .expr x, ρ => (evX G Φ ρ x).bind fun r => .ok (.nx r.2)
  | .mt m i x, ρ => (evX G Φ ρ x).bind fun r => (getV r.2 i).bind fun d => (mtD m d r.1).bind fun d => .ok (.nx (setV r.2 i d))
  | .appAt i k v, ρ => (getV ρ i).bind fun d => (evE G Φ ρ k).bind fun k => (evE G Φ ρ v).bind fun v => (subD d k).bind fun e => (mtD .append e v).bind fun e => (setAt d k e).bind fun d => .ok (.nx (setV ρ i d))
  | .ret x, ρ => (evX G Φ ρ x).bind fun r => .ok (.rt r.1 r.2)
  | .iff t a b, ρ => (testE G Φ ρ t).bind fun c => if c then exS N a ρ else exS N b ρ
  | .whil t b, ρ => whileN (fun ρ => testE G Φ ρ t) (exS N b) N ρ
  | .forr t x b, ρ => match x with
    | .e a => (evI G Φ ρ a).bind fun l => forL t (exS N b) l ρ
    | x => (evX G Φ ρ x).bind fun r => (itemsD r.1).bind fun l => forL t (exS N b) l r.2
  | .raise c e, ρ => (evE G Φ ρ e).bind fun d => .exc c d
  | .raise0 c, _ => .exc c .non
  | .brk, ρ => .ok (.bk ρ)
  | .cont, ρ => .ok (.ct ρ)
  | .defn i _ _, ρ => .ok (.nx (ρ.set i none))
  | .mkLists i it, ρ => (evI G Φ ρ it).bind fun l => (pairsInto (l.map fun k => .tup [k, .lst []]) [] []).bind fun d => .ok (.nx (setV ρ i d))
  | .tryy b c i h, ρ => catchR (exS N b ρ) (fun c' d => if c' == c || c == "PushError" then some (exS N h (match i with | some i => setV ρ i (.obj c' ["given"] [d]) | none => ρ)) else none)
where
  catchR (m : R Fl) (h : Str → D → Option (R Fl)) : R Fl :=
    match m with
    | .exc c d => match h c d with | some r => r | none => .exc c d
    | .ok f => .ok f
    | .draw n k => .draw n fun i => catchR (k i) h
    | .bad => .bad

/-- the changed arguments at the end -/
def outsOf (ρ : Env) : List Nat → R (List D)
  | [] => .ok []
  | i :: l => (getV ρ i).bind fun d => (outsOf ρ l).bind fun ds => .ok (d :: ds)
/-- the defs' answers to a depth of k calls -/
def callFd (N : Nat) (d : Fd) (xs : List D) : R (D × List D) :=
  let full := xs ++ d.dflt.drop (d.dflt.length - (d.params.length + d.caps - xs.length))
  if full.length = d.caps + d.params.length then
    (exS G Φ N d.body (full.map some ++ List.replicate (d.slots - full.length) none)).bind fun f => match f with
      | .nx ρ => (outsOf ρ d.inout).bind fun os => .ok (.non, os)
      | .rt r ρ => (outsOf ρ d.inout).bind fun os => .ok (r, os)
      | _ => .bad
  else .bad

/-- arguments by name, the positional ones first -/
def byName (params ks : List Str) (xs : List D) : Option (List D) :=
  let pos := xs.take (xs.length - ks.length)
  let kw := ks.zip (xs.drop (xs.length - ks.length))
  ((params.drop pos.length).mapM fun p => kw.lookup p).bind fun r => if r.length = kw.length then some (pos ++ r) else none

def run (Γ : Str → Option Ent) (G : Glo) (N : Nat) : Nat → Phi
  | 0 => fun _ _ _ => .bad
  | k + 1 => fun f ks xs => match Γ f with
    | some (.fd d) => if ks.isEmpty then callFd G (run Γ G N k) N d xs else
        match byName d.params ks xs with
        | some ys => callFd G (run Γ G N k) N d ys
        | none => .bad
    | some (.cls d) =>
        let go := fun ys => (callFd G (run Γ G N k) N d (.obj f [] [] :: ys)).bind fun r => match r.2 with
          | [o] => R.ok (o, [])
          | _ => .bad
        if ks.isEmpty then go xs else
        match byName (d.params.drop 1) ks xs with
        | some ys => go ys
        | none => .bad
    | some .draw => match xs with
      | [.bowl, .int n] => if 0 < n && n < 1073741824 then .draw n.toNat fun i => .ok (.int i, []) else .bad
      | _ => .bad
    | some .bowl => match xs with
      | [.lst l, .int i] => if (intsOf l).isSome && decide (0 ≤ i) then .ok (.bowl, []) else .bad
      | _ => .bad
    | _ => .bad
end Pv

set_option autoImplicit false
set_option linter.all false
/-! Pv: outcomes that satisfy. -/
namespace Pv
open PySem (Str)
/-! ### outcomes -/
def R.Sat {α : Type} : R α → (α → Prop) → Prop
  | .ok a, P => P a
  | .exc _ _, _ => False
  | .draw n k, P => 0 < n ∧ ∀ i, i < n → R.Sat (k i) P
  | .bad, _ => False
theorem R.Sat.mono {α : Type} {P Q : α → Prop} (h : ∀ a, P a → Q a) : ∀ {m : R α}, m.Sat P → m.Sat Q
  | .ok a, s => h a s
  | .draw n k, s => ⟨s.1, fun i hi => R.Sat.mono h (s.2 i hi)⟩
theorem R.Sat.bind {α β : Type} {f : α → R β} {P : β → Prop} : ∀ {m : R α}, (m.bind f).Sat P ↔ m.Sat fun a => (f a).Sat P
  | .ok a => Iff.rfl
  | .exc _ _ => Iff.rfl
  | .bad => Iff.rfl
  | .draw n k => ⟨fun s => ⟨s.1, fun i hi => R.Sat.bind.mp (s.2 i hi)⟩, fun s => ⟨s.1, fun i hi => R.Sat.bind.mpr (s.2 i hi)⟩⟩
theorem R.Sat.ok {α : Type} {P : α → Prop} {a : α} : (R.ok a).Sat P ↔ P a := Iff.rfl
theorem R.Sat.and {α : Type} {P Q : α → Prop} : ∀ {m : R α}, m.Sat P → m.Sat Q → m.Sat fun a => P a ∧ Q a
  | .ok a, s, t => ⟨s, t⟩
  | .draw n k, s, t => ⟨s.1, fun i hi => R.Sat.and (s.2 i hi) (t.2 i hi)⟩
theorem R.Sat.no {α : Type} : ∀ {m : R α}, m.Sat (fun _ => False) → False
  | .ok _, s => s
  | .draw _ k, s => R.Sat.no (m := k 0) (s.2 0 s.1)

/-- m answers, and whatever it answers satisfies P (kept closed, so that no elaboration runs the program) -/
@[irreducible] def R.Ev {α : Type} (m : R α) (P : α → Prop) : Prop := m.Sat P
theorem ev_sat {α : Type} {m : R α} {P : α → Prop} : m.Ev P ↔ m.Sat P := by unfold R.Ev; exact Iff.rfl
end Pv

set_option autoImplicit false
/-! Pv: the nested defs of a law's text (a law's own file stands here when its claim is pasted). -/
namespace Pv
open PySem
/-- a nested def: its statement, its names, what it captures, the table of code objects at its maker's code object -/
structure NSt where
  st : Stmt
  name : Str
  qual : Str
  fr : List Str
  tb : Addr
end Pv

set_option autoImplicit false
set_option maxRecDepth 100000
namespace Pv
open PySem
def top (i : Nat) : Stmt := PySem.Challenge.pw_pushyards_k13_walks_of_stronger_hands.main.body.getD i (.Pass ⟨0, 0, 0, 0⟩)
def inDef (s : Stmt) (k : Nat) : Stmt := (C8.fnBody s).getD k (.Pass ⟨0, 0, 0, 0⟩)
abbrev st_are_cells__locals__is_right : Stmt := inDef (top 43) 0
def n_are_cells__locals__is_right : NSt := ⟨st_are_cells__locals__is_right, "is_right", "are_cells.<locals>.is_right", ["yard"], 265⟩
def nstL : List (Str × NSt) := [("are_cells.<locals>.is_right", n_are_cells__locals__is_right)]
def nst : Str → Option NSt := fun x => nstL.lookup x
def tabL : List NdefX.NTab := [(265, fun _ _ => "are_cells.<locals>.is_right")]
theorem tab_m0 : ((265, fun _ _ => "are_cells.<locals>.is_right") : NdefX.NTab) ∈ tabL := (.head _)
theorem tab_nd : (tabL.map (·.1)).Nodup := by decide
end Pv

set_option autoImplicit false
set_option linter.all false
/-! Pv: what data is in the abstract heap; what a place owns. -/
namespace Pv
open PySem L2

/-! ### the world: what never changes, where bowls stand, the tables of code objects -/
structure Wd where
  fz : Hp
  bw : Addr → Prop
  tb : List NdefX.NTab
  tu : Addr → Prop
/-- dicts -/
def HO.isDict : HO → Bool
  | .dK _ => true
  | .ext _ => true
  | _ => false
structure Wd.le (W W' : Wd) : Prop where
  fz : ∀ a o, W.fz a = some o → W'.fz a = some o
  bw : ∀ a, W.bw a → W'.bw a
  tb : W'.tb = W.tb
  tu : ∀ a, W.tu a → W'.tu a
theorem Wd.le.refl (W : Wd) : W.le W := ⟨fun _ _ h => h, fun _ h => h, rfl, fun _ h => h⟩
theorem Wd.le.trans {W1 W2 W3 : Wd} (a : W1.le W2) (b : W2.le W3) : W1.le W3 := ⟨fun x o h => b.fz x o (a.fz x o h), fun x h => b.bw x (a.bw x h), b.tb.trans a.tb, fun x h => b.tu x (a.tu x h)⟩
theorem Wd.le.at {W W' : Wd} (h : W.le W') {a : Addr} {o : HO} (e : W.fz a = some o) (_ : HO.isDict o = false) : W'.fz a = some o := h.fz a o e
theorem Wd.le.rd {W W' : Wd} (h : W.le W') {a : Addr} {o : HO} (e : Rd W.fz a o) : Rd W'.fz a o := by
  rcases e with e | ⟨u, e⟩
  · exact .inl (h.fz _ _ e)
  · exact .inr ⟨u, h.fz _ _ e⟩
theorem Wd.le.sqt {W W' : Wd} (h : W.le W') {K : PySem.W.Frag} {a : Addr} {vs : List V} (e : SqT K W.fz a vs) : SqT K W'.fz a vs := by
  rcases e with e | e
  · exact .inl (h.rd e)
  · exact .inr e
/-- nothing of the world stands at a -/
structure Wd.no (W : Wd) (a : Addr) : Prop where
  fz : W.fz a = none
  bw : ¬ W.bw a
  tb : ∀ p ∈ W.tb, p.1 ≠ a
  tu : ¬ W.tu a
/-- a bowl: a list of three ints -/
def BowlAt (H : Hp) (a : Addr) : Prop := ∃ x y z : Int, H a = some (.lst [.int x, .int y, .int z])
/-- no code object, no table of such -/
def NC (o : HO) : Prop := (∀ a q, o ≠ LamX.CodeO a q) ∧ ∀ ps, o ≠ .tbl ps
structure Wd.In (W : Wd) (H : Hp) : Prop where
  fz : ∀ a o, W.fz a = some o → H a = some o
  bw : ∀ a, W.bw a → BowlAt H a ∧ W.fz a = none
  tb : NdefX.TabsN W.tb H
  cd : ∀ a b q, H a = some (LamX.CodeO b q) → W.fz a = some (LamX.CodeO b q)
  tn : ∀ p ∈ W.tb, W.fz p.1 = none ∧ ¬ W.bw p.1
  te : W.tb = tabL
  ht : ∀ a ps, H a = some (.tbl ps) → (∃ p ∈ W.tb, p.1 = a) ∨ W.tu a
  tu : ∀ a, W.tu a → H a ≠ none ∧ (∀ o, W.fz a = some o → ∃ b q, o = LamX.CodeO b q) ∧ ¬ W.bw a
def Wd.put (W : Wd) (a : Addr) (o : HO) : Wd := ⟨upd W.fz a o, W.bw, W.tb, W.tu⟩
/-- the tables stand still if nothing of the world is written -/
theorem Wd.In.tabs {W : Wd} {H H' : Hp} (wh : W.In H) (k : ∀ a o, H a = some o → ¬ W.no a → H' a = some o) : NdefX.TabsN W.tb H' := fun p hp => by
  obtain ⟨ps, h1, h2, h3⟩ := wh.tb p hp
  refine ⟨ps, k _ _ h1 fun n => n.tb p hp rfl, h2, fun pos cv hc => ?_⟩
  obtain ⟨c, e1, e2⟩ := h3 pos cv hc
  exact ⟨c, e1, k _ _ e2 fun n => by
    have := wh.cd _ _ _ e2
    rw [n.fz] at this; cases this⟩

/-- the fixed facts: program, world, written part, the module's names -/
structure Cn where
  P : Program
  w : World
  K : PySem.W.Frag
  mg : Str → Option Value

/-! ### dicts -/
def kD : Key → D
  | .inl i => .int i
  | .inr s => .str s
/-- a dict keyed by tuples: its keys with their addresses, its values -/
def DictN (P : Program) (w : World) (a : Addr) (ks : List (NestedKey × Addr)) (vs : List V) : Heap → Prop := fun h =>
  (a == sysModules) = false ∧ ks.length ≤ sizeLine ∧ ∃ xs : List (NestedKey × Addr × Value), xs.map (fun x => (x.1, x.2.1)) = ks ∧ Vals vs (xs.map (·.2.2)) ∧
    ∃ o es ep, h.get? a = some o ∧ o.ExactDict ∧ o.data = .dict es ep ∧ es.toList = xs.map (entryOfKey (nestedKind P w)) ∧ (xs.map (·.1)).Nodup ∧ ∀ x ∈ xs, x.1.depth ≤ 8
theorem nc_dict {P : Program} {w : World} {a : Addr} {ks : List (NestedKey × Addr)} {vs : List V} : NC (.ext (DictN P w a ks vs)) := by
  refine ⟨fun c q z => ?_, fun _ z => nomatch z⟩
  have e : DictN P w a ks vs = fun h => ∃ (oc : Obj) (us : Array Value) (t : Tok), h.get? c = some oc ∧ oc.data = .fields us ∧ us[1]? = some (.str q t) := HO.ext.inj z
  let o : Obj := { cls := .none, data := .fields #[.none, .str q 0] }
  let h : Heap := { objs := Array.replicate (a + c + 1) o }
  have ga : ∀ b, b < a + c + 1 → h.get? b = some o := fun b hb => by
    unfold Heap.get?
    simp [h, hb]
    rfl
  have : DictN P w a ks vs h := by
    rw [e]
    exact ⟨o, _, 0, ga c (Nat.lt_succ_of_le (Nat.le_add_left _ _)), rfl, rfl⟩
  obtain ⟨_, _, xs, _, _, ob, es, ep, h1, _, h2, _⟩ := this
  rw [ga a (Nat.lt_succ_of_le (Nat.le_add_right _ _))] at h1
  cases h1
  cases h2
mutual
def nkD : NestedKey → D
  | .none => .non
  | .num i => .int i
  | .text s => .str s
  | .tup ks => .tup (nkDs ks)
def nkDs : List NestedKey → List D
  | [] => []
  | k :: ks => nkD k :: nkDs ks
end

theorem rd_ext {H H' : Hp} {a : Addr} {o : HO} (h : ∀ a o, H a = some o → H' a = some o) (x : Rd H a o) : Rd H' a o := by
  rcases x with x | ⟨u, x⟩
  · exact .inl (h _ _ x)
  · exact .inr ⟨u, h _ _ x⟩
/-! ### data as values -/
/-- what a closure's cells hold: cells are pinned -/
structure CellsW (W : Wd) (cl : List (Str × Addr)) (fr : List Str) (ws : List V) : Prop where
  len : ws.length = fr.length
  all : ∀ y a, cl.lookup y = some a → ∃ o, W.fz a = some (.frz o (.own 0)) ∧ ∃ u, o.data = .cell u
  inj : ∀ x y a, cl.lookup x = some a → cl.lookup y = some a → x = y
  has : ∀ (i : Nat) (y : Str), fr[i]? = some y → ∃ a o u v, cl.lookup y = some a ∧ W.fz a = some (.frz o (.own 0)) ∧ o.data = .cell (some u) ∧ ws[i]? = some v ∧ RelV v u
theorem CellsW.mono {W W' : Wd} (l : W.le W') {cl : List (Str × Addr)} {fr : List Str} {ws : List V} (h : CellsW W cl fr ws) : CellsW W' cl fr ws :=
  ⟨h.len, fun y a e => let ⟨o, h1, h2⟩ := h.all y a e; ⟨o, l.fz _ _ h1, h2⟩, h.inj, fun i y e => let ⟨a, o, u, v, h1, h2, h3⟩ := h.has i y e; ⟨a, o, u, v, h1, l.fz _ _ h2, h3⟩⟩
section
variable (c : Cn)
mutual
def Rep (W : Wd) : D → V → Prop
  | .non, v => v = .non
  | .bl b, v => v = .bl b
  | .int i, v => v = .int i
  | .str s, v => v = .str s ∧ s.length ≤ sizeLine
  | .tup ds, v => ∃ a vs, v = .ref a ∧ SqT c.K W.fz a vs ∧ RepL W ds vs
  | .lst ds, v => ∃ a vs, v = .ref a ∧ Rd W.fz a (.lst vs) ∧ RepL W ds vs
  | .dic ks ds, v => ∃ a o, v = .ref a ∧ Rd W.fz a o ∧ ((∃ kvs : List (Key × V), o = .dK kvs ∧ ks = kvs.map (fun p => kD p.1) ∧ RepL W ds (kvs.map (·.2))) ∨
      (∃ (kas : List (NestedKey × Addr)) (vs : List V), o = .ext (DictN c.P c.w a kas vs) ∧ kas ≠ [] ∧ ks = nkDs (kas.map (·.1)) ∧ RepL W ks (kas.map fun p => V.ref p.2) ∧ RepL W ds vs))
  | .obj cl ns ds, v => ∃ a C dx vs, v = .ref a ∧ W.fz a = some (.ins C dx (ns.zip vs)) ∧ W.fz dx = some (.own a) ∧ c.mg cl = some (.ref C) ∧ ns.length = vs.length ∧ ns.Nodup ∧ RepL W ds vs
  | .fn f, v => ∃ a, v = .ref a ∧ c.mg f = some (.ref a)
  | .clo g ds, v => ∃ n fa cl cc ws, nst g = some n ∧ v = .ref fa ∧ W.fz fa = some (NdefX.FnO fa (NdefX.NF.of n.st n.name n.qual cl cc)) ∧ W.fz cc = some (LamX.CodeO cc n.qual) ∧ CellsW W cl n.fr ws ∧ RepL W ds ws
  | .bowl, v => ∃ a, v = .ref a ∧ W.bw a
def RepL (W : Wd) : List D → List V → Prop
  | [], vs => vs = []
  | d :: ds, vs => ∃ v r, vs = v :: r ∧ Rep W d v ∧ RepL W ds r
end

mutual
theorem Rep.mono {W W' : Wd} (h : W.le W') : ∀ {d : D} {v : V}, Rep c W d v → Rep c W' d v
  | .non, v, x => by simpa only [Rep] using x
  | .bl b, v, x => by simpa only [Rep] using x
  | .int i, v, x => by simpa only [Rep] using x
  | .str s, v, x => by simpa only [Rep] using x
  | .tup ds, v, x => by
    simp only [Rep] at x ⊢
    obtain ⟨a, vs, e, q, r⟩ := x
    exact ⟨a, vs, e, h.sqt q, RepL.mono h r⟩
  | .lst ds, v, x => by
    simp only [Rep] at x ⊢
    obtain ⟨a, vs, e, q, r⟩ := x
    exact ⟨a, vs, e, h.rd q, RepL.mono h r⟩
  | .dic ks ds, v, x => by
    simp only [Rep] at x ⊢
    obtain ⟨a, o, e, q, r⟩ := x
    refine ⟨a, o, e, h.rd q, ?_⟩
    rcases r with ⟨kvs, e1, e2, r⟩ | ⟨kas, vs, e1, e0, e2, r1, r2⟩
    · exact .inl ⟨kvs, e1, e2, RepL.mono h r⟩
    · exact .inr ⟨kas, vs, e1, e0, e2, RepL.mono h r1, RepL.mono h r2⟩
  | .obj cl ns ds, v, x => by
    simp only [Rep] at x ⊢
    obtain ⟨a, C, dx, vs, e, q1, q2, q3, q4, q5, r⟩ := x
    exact ⟨a, C, dx, vs, e, h.at q1 rfl, h.at q2 rfl, q3, q4, q5, RepL.mono h r⟩
  | .fn f, v, x => by simpa only [Rep] using x
  | .clo g ds, v, x => by
    simp only [Rep] at x ⊢
    obtain ⟨n, fa, cl, cc, ws, e, q1, q2, q3, q4, r⟩ := x
    exact ⟨n, fa, cl, cc, ws, e, q1, h.fz _ _ q2, h.fz _ _ q3, q4.mono h, RepL.mono h r⟩
  | .bowl, v, x => by
    simp only [Rep] at x ⊢
    obtain ⟨a, e, q⟩ := x
    exact ⟨a, e, h.2 a q⟩
theorem RepL.mono {W W' : Wd} (h : W.le W') : ∀ {ds : List D} {vs : List V}, RepL c W ds vs → RepL c W' ds vs
  | [], vs, x => by simpa only [RepL] using x
  | d :: ds, vs, x => by
    simp only [RepL] at x ⊢
    obtain ⟨v, r, e, q1, q2⟩ := x
    exact ⟨v, r, e, Rep.mono h q1, RepL.mono h q2⟩
end
variable {c}
theorem RepL.nil {W : Wd} : RepL c W [] [] := by simp only [RepL]
theorem RepL.cons {W : Wd} {d : D} {ds : List D} {v : V} {vs : List V} (h : Rep c W d v) (t : RepL c W ds vs) : RepL c W (d :: ds) (v :: vs) := by
  simp only [RepL]; exact ⟨v, vs, rfl, h, t⟩
theorem RepL.length {W : Wd} : ∀ {ds : List D} {vs : List V}, RepL c W ds vs → ds.length = vs.length
  | [], vs, x => by simp only [RepL] at x; subst x; rfl
  | d :: ds, vs, x => by
    simp only [RepL] at x
    obtain ⟨v, r, rfl, _, q⟩ := x
    simp [q.length]
theorem RepL.get {W : Wd} : ∀ {ds : List D} {vs : List V} {i : Nat} {d : D}, RepL c W ds vs → ds[i]? = some d → ∃ v, vs[i]? = some v ∧ Rep c W d v
  | [], _, _, _, _, h => by simp at h
  | d :: ds, vs, 0, d', x, h => by
    simp only [RepL] at x
    obtain ⟨v, r, rfl, q, _⟩ := x
    simp at h; subst h
    exact ⟨v, rfl, q⟩
  | d :: ds, vs, i + 1, d', x, h => by
    simp only [RepL] at x
    obtain ⟨v, r, rfl, _, q⟩ := x
    obtain ⟨u, h1, h2⟩ := RepL.get (i := i) q (by simpa using h)
    exact ⟨u, by simpa using h1, h2⟩
theorem RepL.getV {W : Wd} : ∀ {ds : List D} {vs : List V} {i : Nat} {v : V}, RepL c W ds vs → vs[i]? = some v → ∃ d, ds[i]? = some d ∧ Rep c W d v := by
  intro ds vs i v r h
  have hl := r.length
  have hi : i < ds.length := by rw [hl]; exact (List.getElem?_eq_some_iff.mp h).1
  obtain ⟨u, h1, h2⟩ := r.get (List.getElem?_eq_getElem hi)
  rw [h] at h1; cases h1
  exact ⟨_, List.getElem?_eq_getElem hi, h2⟩
theorem RepL.append {W : Wd} : ∀ {ds es : List D} {vs us : List V}, RepL c W ds vs → RepL c W es us → RepL c W (ds ++ es) (vs ++ us)
  | [], _, vs, _, x, y => by simp only [RepL] at x; subst x; exact y
  | d :: ds, es, vs, us, x, y => by
    simp only [RepL] at x
    obtain ⟨v, r, rfl, q, t⟩ := x
    exact RepL.cons q (t.append y)
theorem RepL.of_get {W : Wd} : ∀ {ds : List D} {vs : List V}, ds.length = vs.length → (∀ (i : Nat) (d : D) (v : V), ds[i]? = some d → vs[i]? = some v → Rep c W d v) → RepL c W ds vs
  | [], vs, h, _ => by have : vs = [] := List.eq_nil_of_length_eq_zero (by simpa using h.symm); subst this; exact .nil
  | d :: ds, [], h, _ => by simp at h
  | d :: ds, v :: vs, h, f => RepL.cons (f 0 d v rfl rfl) (RepL.of_get (by simpa using h) fun i d' v' h1 h2 => f (i + 1) d' v' (by simpa using h1) (by simpa using h2))
theorem RepL.take {W : Wd} {ds : List D} {vs : List V} (r : RepL c W ds vs) (n : Nat) : RepL c W (ds.take n) (vs.take n) :=
  .of_get (by simp [r.length]) fun i d v h1 h2 => by
    rw [List.getElem?_take] at h1 h2
    split at h1
    · rename_i hi
      rw [if_pos hi] at h2
      obtain ⟨u, e, q⟩ := r.get h1
      rw [h2] at e; cases e; exact q
    · cases h1
theorem RepL.drop {W : Wd} {ds : List D} {vs : List V} (r : RepL c W ds vs) (n : Nat) : RepL c W (ds.drop n) (vs.drop n) :=
  .of_get (by simp [r.length]) fun i d v h1 h2 => by
    rw [List.getElem?_drop] at h1 h2
    obtain ⟨u, e, q⟩ := r.get h1
    rw [h2] at e; cases e; exact q
theorem RepL.reverse {W : Wd} {ds : List D} {vs : List V} (r : RepL c W ds vs) : RepL c W ds.reverse vs.reverse := by
  induction ds generalizing vs with
  | nil => simp only [RepL] at r; subst r; exact .nil
  | cons d ds ih =>
    simp only [RepL] at r
    obtain ⟨v, t, rfl, q, r⟩ := r
    simp only [List.reverse_cons]
    exact (ih r).append (.cons q .nil)
theorem RepL.set {W : Wd} {ds : List D} {vs : List V} (r : RepL c W ds vs) (n : Nat) {d : D} {v : V} (q : Rep c W d v) : RepL c W (ds.set n d) (vs.set n v) :=
  .of_get (by simp [r.length]) fun i d' v' h1 h2 => by
    rw [List.getElem?_set] at h1 h2
    by_cases e : n = i
    · subst e
      rw [if_pos rfl] at h1 h2
      split at h1 <;> split at h2 <;> simp_all
    · rw [if_neg e] at h1 h2
      obtain ⟨u, e, q⟩ := r.get h1
      rw [h2] at e; cases e; exact q
theorem RepL.eraseIdx {W : Wd} {ds : List D} {vs : List V} (r : RepL c W ds vs) (n : Nat) : RepL c W (ds.eraseIdx n) (vs.eraseIdx n) := by
  rw [List.eraseIdx_eq_take_drop_succ, List.eraseIdx_eq_take_drop_succ]
  exact (r.take n).append (r.drop (n + 1))
theorem RepL.dropLast {W : Wd} {ds : List D} {vs : List V} (r : RepL c W ds vs) : RepL c W ds.dropLast vs.dropLast := by
  rw [List.dropLast_eq_take, List.dropLast_eq_take, r.length]
  exact r.take _

/-! ### what is read, what is owned -/
/-- the object at a, as changeable data -/
def ObAt (c : Cn) (W : Wd) (a : Addr) (o : HO) : D → Prop
  | .lst ds => ∃ vs, o = .lst vs ∧ RepL c W ds vs
  | .dic ks ds => (∃ kvs : List (Key × V), o = .dK kvs ∧ ks = kvs.map (fun p => kD p.1) ∧ RepL c W ds (kvs.map (·.2))) ∨
      (∃ (kas : List (NestedKey × Addr)) (vs : List V), o = .ext (DictN c.P c.w a kas vs) ∧ kas ≠ [] ∧ ks = nkDs (kas.map (·.1)) ∧ RepL c W ks (kas.map fun p => V.ref p.2) ∧ RepL c W ds vs)
  | _ => False
theorem ObAt.mono {W W' : Wd} {a : Addr} {o : HO} {d : D} (h : W.le W') (x : ObAt c W a o d) : ObAt c W' a o d := by
  cases d with
  | lst ds => obtain ⟨vs, e, r⟩ := x; exact ⟨vs, e, r.mono _ h⟩
  | dic ks ds =>
    rcases x with ⟨kvs, e1, e2, r⟩ | ⟨kas, vs, e1, e0, e2, r1, r2⟩
    · exact .inl ⟨kvs, e1, e2, r.mono _ h⟩
    · exact .inr ⟨kas, vs, e1, e0, e2, r1.mono _ h, r2.mono _ h⟩
  | _ => exact x.elim
theorem ObAt.nc {W : Wd} {a : Addr} {o : HO} {d : D} (x : ObAt c W a o d) : NC o := by
  cases d with
  | lst ds => obtain ⟨vs, rfl, _⟩ := x; exact ⟨(fun _ _ z => nomatch z), (fun _ z => nomatch z)⟩
  | dic ks ds =>
    rcases x with ⟨kvs, rfl, _⟩ | ⟨kas, vs, rfl, _⟩
    · exact ⟨(fun _ _ z => nomatch z), (fun _ z => nomatch z)⟩
    · exact nc_dict
  | _ => exact x.elim
def Own (c : Cn) (W : Wd) (H : Hp) : D → V → List Addr → Prop
  | .lst ds, v, S => ∃ a o, v = .ref a ∧ W.no a ∧ H a = some o ∧ ObAt c W a o (.lst ds) ∧ S = [a]
  | .dic ks ds, v, S => ∃ a o, v = .ref a ∧ W.no a ∧ H a = some o ∧ ObAt c W a o (.dic ks ds) ∧ S = [a]
  | .obj cl ns ds, v, S => ∃ a C dx vs, v = .ref a ∧ W.no a ∧ W.no dx ∧ H a = some (.ins C dx (ns.zip vs)) ∧ H dx = some (.own a) ∧ c.mg cl = some (.ref C) ∧ ns.length = vs.length ∧ ns.Nodup ∧ RepL c W ds vs ∧ S = [a, dx]
  | d, v, S => Rep c W d v ∧ S = []
def OwnB (c : Cn) (W : Wd) (H : Hp) : Bool → D → V → List Addr → Prop
  | true, d, v, S => Own c W H d v S
  | false, d, v, S => Rep c W d v ∧ S = []
/-- readable -/
def Rdv (c : Cn) (W : Wd) (H : Hp) : D → V → Prop
  | .lst ds, v => ∃ a vs, v = .ref a ∧ Rd H a (.lst vs) ∧ RepL c W ds vs
  | .dic ks ds, v => ∃ a o, v = .ref a ∧ Rd H a o ∧ ObAt c W a o (.dic ks ds)
  | .obj cl ns ds, v => ∃ a C dx vs, v = .ref a ∧ H a = some (.ins C dx (ns.zip vs)) ∧ H dx = some (.own a) ∧ c.mg cl = some (.ref C) ∧ ns.length = vs.length ∧ ns.Nodup ∧ RepL c W ds vs
  | d, v => Rep c W d v
theorem Rep.rd {W : Wd} {H : Hp} {d : D} {v : V} (wh : W.In H) (x : Rep c W d v) : Rdv c W H d v := by
  cases d with
  | lst ds =>
    simp only [Rep] at x
    obtain ⟨a, vs, e, q, r⟩ := x
    exact ⟨a, vs, e, rd_ext wh.fz q, r⟩
  | dic ks ds =>
    simp only [Rep] at x
    obtain ⟨a, o, e, q, r⟩ := x
    exact ⟨a, o, e, rd_ext wh.fz q, r⟩
  | obj cl ns ds =>
    simp only [Rep] at x
    obtain ⟨a, C, dx, vs, e, q1, q2, q3, q4, q5, r⟩ := x
    exact ⟨a, C, dx, vs, e, wh.fz _ _ q1, wh.fz _ _ q2, q3, q4, q5, r⟩
  | _ => exact x
theorem Own.rd {W : Wd} {H : Hp} {d : D} {v : V} {S : List Addr} (x : Own c W H d v S) : Rdv c W H d v := by
  cases d with
  | lst ds =>
    obtain ⟨a, o, e, _, q, ⟨vs, rfl, r⟩, _⟩ := x
    exact ⟨a, vs, e, Rd.of q, r⟩
  | dic ks ds =>
    obtain ⟨a, o, e, _, q, r, _⟩ := x
    exact ⟨a, o, e, .inl q, r⟩
  | obj cl ns ds =>
    obtain ⟨a, C, dx, vs, e, _, _, q1, q2, q3, q4, q5, r, _⟩ := x
    exact ⟨a, C, dx, vs, e, q1, q2, q3, q4, q5, r⟩
  | _ => exact x.1
theorem OwnB.rd {W : Wd} {H : Hp} {b : Bool} {d : D} {v : V} {S : List Addr} (wh : W.In H) (x : OwnB c W H b d v S) : Rdv c W H d v := by
  cases b with
  | true => exact Own.rd x
  | false => exact Rep.rd wh x.1
theorem Own.at {W : Wd} {H : Hp} {d : D} {v : V} {S : List Addr} (x : Own c W H d v S) : ∀ a ∈ S, W.no a ∧ ∃ o, H a = some o := by
  cases d with
  | lst ds =>
    obtain ⟨a, o, e, n, q, _, rfl⟩ := x
    intro b hb; simp at hb; subst hb; exact ⟨n, o, q⟩
  | dic ks ds =>
    obtain ⟨a, o, e, n, q, _, rfl⟩ := x
    intro b hb; simp at hb; subst hb; exact ⟨n, o, q⟩
  | obj cl ns ds =>
    obtain ⟨a, C, dx, vs, e, n1, n2, q1, q2, _, _, _, _, rfl⟩ := x
    intro b hb; simp at hb; rcases hb with rfl | rfl
    · exact ⟨n1, _, q1⟩
    · exact ⟨n2, _, q2⟩
  | _ => obtain ⟨_, rfl⟩ := x; intro b hb; simp at hb
theorem OwnB.at {W : Wd} {H : Hp} {b : Bool} {d : D} {v : V} {S : List Addr} (x : OwnB c W H b d v S) : ∀ a ∈ S, W.no a ∧ ∃ o, H a = some o := by
  cases b with
  | true => exact Own.at x
  | false => obtain ⟨_, rfl⟩ := x; intro b hb; simp at hb
/-- what is owned stays while its own objects do -/
theorem Own.keep {W W' : Wd} {H H' : Hp} {d : D} {v : V} {S : List Addr} (x : Own c W H d v S) (h : W.le W') (k : ∀ a ∈ S, ∀ o, H a = some o → H' a = some o) (n : ∀ a ∈ S, W'.no a) : Own c W' H' d v S := by
  cases d with
  | lst ds =>
    obtain ⟨a, o, e, _, q, r, rfl⟩ := x
    exact ⟨a, o, e, n a (by simp), k a (by simp) o q, r.mono h, rfl⟩
  | dic ks ds =>
    obtain ⟨a, o, e, _, q, r, rfl⟩ := x
    exact ⟨a, o, e, n a (by simp), k a (by simp) o q, r.mono h, rfl⟩
  | obj cl ns ds =>
    obtain ⟨a, C, dx, vs, e, _, _, q1, q2, q3, q4, q5, r, rfl⟩ := x
    exact ⟨a, C, dx, vs, e, n a (by simp), n dx (by simp), k a (by simp) _ q1, k dx (by simp) _ q2, q3, q4, q5, r.mono _ h, rfl⟩
  | _ => exact ⟨x.1.mono _ h, x.2⟩
theorem OwnB.keep {W W' : Wd} {H H' : Hp} {b : Bool} {d : D} {v : V} {S : List Addr} (x : OwnB c W H b d v S) (h : W.le W') (k : ∀ a ∈ S, ∀ o, H a = some o → H' a = some o) (n : ∀ a ∈ S, W'.no a) : OwnB c W' H' b d v S := by
  cases b with
  | true => exact Own.keep x h k n
  | false => exact ⟨x.1.mono _ h, x.2⟩
theorem Wd.put_le {W : Wd} {a : Addr} {o : HO} (h : W.fz a = none) : W.le (W.put a o) :=
  ⟨fun b u e => by show upd W.fz a o b = some u; rw [upd_ne (ne_of_none e h)]; exact e, fun _ h => h, rfl, fun _ h => h⟩
theorem Wd.In.put_in {W : Wd} {H : Hp} {a : Addr} {o : HO} (wh : W.In H) (n : W.no a) (e : H a = some o) : (W.put a o).In H where
  fz := fun b u q => by
    by_cases hb : b = a
    · subst hb
      have q : upd W.fz b o b = some u := q
      rw [upd_same] at q; cases q; exact e
    · have q : upd W.fz a o b = some u := q
      rw [upd_ne hb] at q; exact wh.fz b u q
  bw := fun b q => ⟨(wh.bw b q).1, by
    show upd W.fz a o b = none
    have hne : b ≠ a := fun z => by subst z; exact n.bw q
    rw [upd_ne hne]
    exact (wh.bw b q).2⟩
  tb := wh.tb
  cd := fun b x q z => by
    show upd W.fz a o b = some _
    have := wh.cd b x q z
    rw [upd_ne (ne_of_none this n.fz)]
    exact this
  tn := fun p hp => ⟨by show upd W.fz a o p.1 = none; rw [upd_ne (n.tb p hp)]; exact (wh.tn p hp).1, (wh.tn p hp).2⟩
  te := wh.te
  ht := wh.ht
  tu := fun b hb => ⟨(wh.tu b hb).1, fun u e => (wh.tu b hb).2.1 u (by
    have e : upd W.fz a o b = some u := e
    rw [upd_ne (fun z => n.tu (by rw [← z]; exact hb))] at e
    exact e), (wh.tu b hb).2.2⟩
theorem Wd.put_no {W : Wd} {a b : Addr} {o : HO} (n : W.no b) (h : b ≠ a) : (W.put a o).no b := ⟨by show upd W.fz a o b = none; rw [upd_ne h]; exact n.fz, n.bw, n.tb, n.tu⟩
/-- what is owned is frozen -/
theorem Own.freeze {W : Wd} {H : Hp} {d : D} {v : V} {S : List Addr} (wh : W.In H) (x : Own c W H d v S) : ∃ W' : Wd, W.le W' ∧ W'.In H ∧ Rep c W' d v ∧ ∀ a, W.no a → a ∉ S → W'.no a := by
  cases d with
  | lst ds =>
    obtain ⟨a, o, rfl, n, q, ⟨vs, rfl, r⟩, rfl⟩ := x
    have l := Wd.put_le (o := .lst vs) n.fz
    refine ⟨W.put a (.lst vs), l, wh.put_in n q, ?_, fun b nb hb => Wd.put_no nb (by simpa using hb)⟩
    simp only [Rep]
    exact ⟨a, vs, rfl, Rd.of upd_same, r.mono _ l⟩
  | dic ks ds =>
    obtain ⟨a, o, rfl, n, q, r, rfl⟩ := x
    have l := Wd.put_le (o := o) n.fz
    refine ⟨W.put a o, l, wh.put_in n q, ?_, fun b nb hb => Wd.put_no nb (by simpa using hb)⟩
    simp only [Rep]
    exact ⟨a, o, rfl, .inl upd_same, (ObAt.mono (d := .dic ks ds) l r)⟩
  | obj cl ns ds =>
    obtain ⟨a, C, dx, vs, rfl, n1, n2, q1, q2, q3, q4, q5, r, rfl⟩ := x
    have hne : dx ≠ a := ne_of q2 q1 (by intro z; cases z)
    have l1 := Wd.put_le (o := .own a) n2.fz
    have n1' := Wd.put_no (o := .own a) n1 hne.symm
    have l2 := Wd.put_le (o := .ins C dx (ns.zip vs)) n1'.fz
    refine ⟨(W.put dx (.own a)).put a (.ins C dx (ns.zip vs)), l1.trans l2, (wh.put_in n2 q2).put_in n1' q1, ?_, fun b nb hb => ?_⟩
    · simp only [Rep]
      exact ⟨a, C, dx, vs, rfl, upd_same, by show upd (upd W.fz dx _) a _ dx = _; rw [upd_ne hne, upd_same], q3, q4, q5, r.mono _ (l1.trans l2)⟩
    · simp at hb
      exact Wd.put_no (Wd.put_no nb hb.2) hb.1
  | _ => obtain ⟨r, rfl⟩ := x; exact ⟨W, .refl W, wh, r, fun _ n _ => n⟩
theorem OwnB.freeze {W : Wd} {H : Hp} {b : Bool} {d : D} {v : V} {S : List Addr} (wh : W.In H) (x : OwnB c W H b d v S) : ∃ W' : Wd, W.le W' ∧ W'.In H ∧ Rep c W' d v ∧ ∀ a, W.no a → a ∉ S → W'.no a := by
  cases b with
  | true => exact Own.freeze wh x
  | false => obtain ⟨r, rfl⟩ := x; exact ⟨W, .refl W, wh, r, fun _ n _ => n⟩
end

/-! ### environments -/
/-- slots that hold a known value (a function, an object under construction), with what stands frozen there -/
abbrev Io := List (Nat × V × List (Addr × HO))
def IoAt (σ : St) (W : Wd) (p : Nat × V × List (Addr × HO)) : Prop := σ[p.1]? = some (some p.2.1) ∧ ∀ q ∈ p.2.2, W.fz q.1 = some q.2
theorem IoAt.mono {σ : St} {W W' : Wd} {p : Nat × V × List (Addr × HO)} (h : IoAt σ W p) (l : W.le W') : IoAt σ W' p := ⟨h.1, fun q hq => l.fz _ _ (h.2 q hq)⟩
def addG (G H : Hp) (S : List Addr) : Hp := fun a => if a ∈ S then H a else G a
theorem addG_nil (G H : Hp) : addG G H [] = G := by funext a; simp [addG]
structure EnvOk (c : Cn) (G : Hp) (io : Io) (W : Wd) (H : Hp) (σ : St) (ρ : Env) (F : Nat → Bool) : Prop where
  wh : W.In H
  g : ∀ a o, G a = some o → H a = some o ∧ W.no a
  len : ρ.length = σ.length
  sl : ∃ fp : Nat → List Addr, (∀ i d, ρ[i]? = some (some d) → ∃ v, σ[i]? = some (some v) ∧ OwnB c W H (F i) d v (fp i)) ∧
    (∀ i j a, a ∈ fp i → a ∈ fp j → i = j) ∧ (∀ i a, a ∈ fp i → G a = none) ∧ ∀ i a, a ∈ fp i → ∃ d, ρ[i]? = some (some d)
  io : ∀ p ∈ io, IoAt σ W p

/-- new objects came, bowls may have changed, dicts of the world may have been locked -/
structure Grow (W : Wd) (H : Hp) (W' : Wd) (H' : Hp) : Prop where
  le : W.le W'
  wh : W'.In H'
  kp : ∀ a o, H a = some o → W.no a → H' a = some o ∧ W'.no a
section
variable {c : Cn} {G : Hp} {io : Io} {W W' : Wd} {H H' : Hp} {σ : St} {ρ : Env} {F : Nat → Bool}
theorem Grow.refl (h : W.In H) : Grow W H W H := ⟨.refl W, h, fun _ _ e n => ⟨e, n⟩⟩
theorem Grow.trans {W1 W2 W3 : Wd} {H1 H2 H3 : Hp} (a : Grow W1 H1 W2 H2) (b : Grow W2 H2 W3 H3) : Grow W1 H1 W3 H3 :=
  ⟨a.le.trans b.le, b.wh, fun x o e n => let ⟨e2, n2⟩ := a.kp x o e n; b.kp x o e2 n2⟩
theorem EnvOk.grow (E : EnvOk c G io W H σ ρ F) (g : Grow W H W' H') : EnvOk c G io W' H' σ ρ F where
  wh := g.wh
  g := fun a o e => by
    obtain ⟨h1, h2⟩ := E.g a o e
    exact g.kp a o h1 h2
  len := E.len
  sl := by
    obtain ⟨fp, h1, h2, h3, h4⟩ := E.sl
    refine ⟨fp, fun i d e => ?_, h2, h3, h4⟩
    obtain ⟨v, q1, q2⟩ := h1 i d e
    refine ⟨v, q1, q2.keep g.le (fun a ha o ho => (g.kp a o ho (q2.at a ha).1).1) fun a ha => ?_⟩
    obtain ⟨n, o, ho⟩ := q2.at a ha
    exact (g.kp a o ho n).2
  io := fun p hp => (E.io p hp).mono g.le
/-- a slot's value, read -/
theorem EnvOk.get (E : EnvOk c G io W H σ ρ F) {i : Nat} {d : D} (h : ρ[i]? = some (some d)) : ∃ v, σ[i]? = some (some v) ∧ Rdv c W H d v := by
  obtain ⟨fp, h1, _⟩ := E.sl
  obtain ⟨v, q1, q2⟩ := h1 i d h
  exact ⟨v, q1, q2.rd E.wh⟩
/-- an owned value beside the environment is frozen -/
theorem EnvOk.freeze {b : Bool} {d : D} {v : V} {S : List Addr} (E : EnvOk c (addG G H S) io W H σ ρ F) (hS : ∀ a ∈ S, G a = none) (x : OwnB c W H b d v S) : ∃ W' : Wd, W.le W' ∧ EnvOk c G io W' H σ ρ F ∧ Rep c W' d v := by
  obtain ⟨W', l, wh, r, n⟩ := x.freeze E.wh
  refine ⟨W', l, ⟨wh, fun a o e => ?_, E.len, ?_, fun p hp => (E.io p hp).mono l⟩, r⟩
  · have hne : a ∉ S := fun z => by rw [hS a z] at e; cases e
    have := E.g a o (by unfold addG; rw [if_neg hne]; exact e)
    exact ⟨this.1, n a this.2 hne⟩
  · obtain ⟨fp, h1, h2, h3, h4⟩ := E.sl
    have hns : ∀ i a, a ∈ fp i → a ∉ S := fun i a ha z => by
      have := h3 i a ha
      unfold addG at this
      rw [if_pos z] at this
      obtain ⟨_, o, ho⟩ := x.at a z
      rw [ho] at this; cases this
    refine ⟨fp, fun i d e => ?_, h2, fun i a ha => ?_, h4⟩
    · obtain ⟨u, q1, q2⟩ := h1 i d e
      exact ⟨u, q1, q2.keep l (fun a _ o h => h) fun a ha => n a (q2.at a ha).1 (hns i a ha)⟩
    · have := h3 i a ha
      unfold addG at this
      rw [if_neg (hns i a ha)] at this
      exact this
/-- a slot's value is frozen -/
theorem EnvOk.lower (E : EnvOk c G io W H σ ρ F) (i : Nat) : ∃ W' : Wd, W.le W' ∧ EnvOk c G io W' H σ ρ (fun j => if j = i then false else F j) ∧ ∀ d, ρ[i]? = some (some d) → ∃ v, σ[i]? = some (some v) ∧ Rep c W' d v := by
  obtain ⟨fp, h1, h2, h3, h4⟩ := E.sl
  cases hi : ρ[i]? with
  | none =>
    refine ⟨W, .refl W, ⟨E.wh, E.g, E.len, ⟨fp, fun j d e => ?_, h2, h3, h4⟩, E.io⟩, fun d z => by cases z⟩
    have hj : j ≠ i := fun z => by subst z; rw [hi] at e; cases e
    simp only [if_neg hj]
    exact h1 j d e
  | some o =>
    cases o with
    | none =>
      refine ⟨W, .refl W, ⟨E.wh, E.g, E.len, ⟨fp, fun j d e => ?_, h2, h3, h4⟩, E.io⟩, fun d z => by cases z⟩
      have hj : j ≠ i := fun z => by subst z; rw [hi] at e; cases e
      simp only [if_neg hj]
      exact h1 j d e
    | some d =>
      obtain ⟨v, q1, q2⟩ := h1 i d hi
      obtain ⟨W', l, wh, r, n⟩ := q2.freeze E.wh
      refine ⟨W', l, ⟨wh, fun a o e => ?_, E.len, ⟨fun j => if j = i then [] else fp j, fun j d' e => ?_, fun j k a hj hk => ?_, fun j a hj => ?_, fun j a hj => ?_⟩, fun p hp => (E.io p hp).mono l⟩, fun d' e => ?_⟩
      · have := E.g a o e
        exact ⟨this.1, n a this.2 fun z => by rw [h3 i a z] at e; cases e⟩
      · by_cases hj : j = i
        · subst hj
          rw [hi] at e; cases e
          refine ⟨v, q1, ?_⟩
          simp only [if_true]
          exact ⟨r, rfl⟩
        · obtain ⟨u, p1, p2⟩ := h1 j d' e
          simp only [if_neg hj]
          exact ⟨u, p1, p2.keep l (fun a _ o h => h) fun a ha => n a (p2.at a ha).1 fun z => hj (h2 j i a ha z)⟩
      · by_cases z1 : j = i
        · simp only [if_pos z1] at hj; cases hj
        · by_cases z2 : k = i
          · simp only [if_pos z2] at hk; cases hk
          · simp only [if_neg z1] at hj; simp only [if_neg z2] at hk
            exact h2 j k a hj hk
      · by_cases z1 : j = i
        · simp only [if_pos z1] at hj; cases hj
        · simp only [if_neg z1] at hj; exact h3 j a hj
      · by_cases z1 : j = i
        · simp only [if_pos z1] at hj; cases hj
        · simp only [if_neg z1] at hj; exact h4 j a hj
      · cases e; exact ⟨v, q1, r⟩
/-- a new object beside the environment is set into a slot -/
theorem EnvOk.store {b : Bool} {d : D} {v : V} {S : List Addr} {i : Nat} (E : EnvOk c (addG G H S) io W H σ ρ F) (hS : ∀ a ∈ S, G a = none) (x : OwnB c W H b d v S) (hi : i < ρ.length) (hio : ∀ p ∈ io, p.1 ≠ i) :
    EnvOk c G io W H (σ.set i (some v)) (setV ρ i d) (fun j => if j = i then b else F j) := by
  obtain ⟨fp, h1, h2, h3, h4⟩ := E.sl
  have hns : ∀ j a, a ∈ fp j → a ∉ S := fun j a ha z => by
    have := h3 j a ha
    unfold addG at this
    rw [if_pos z] at this
    obtain ⟨_, o, ho⟩ := x.at a z
    rw [ho] at this; cases this
  refine ⟨E.wh, fun a o e => ?_, by simp [setV, E.len], ⟨fun j => if j = i then S else fp j, fun j d' e => ?_, fun j k a hj hk => ?_, fun j a hj => ?_, fun j a hj => ?_⟩, fun p hp => ?_⟩
  · have hne : a ∉ S := fun z => by rw [hS a z] at e; cases e
    exact E.g a o (by unfold addG; rw [if_neg hne]; exact e)
  · unfold setV at e
    by_cases hj : j = i
    · subst hj
      rw [List.getElem?_set_self hi] at e
      cases e
      refine ⟨v, by rw [List.getElem?_set_self (by rw [← E.len]; exact hi)], ?_⟩
      simp only [if_true]
      exact x
    · rw [List.getElem?_set_ne (Ne.symm hj)] at e
      obtain ⟨u, p1, p2⟩ := h1 j d' e
      refine ⟨u, by rw [List.getElem?_set_ne (Ne.symm hj)]; exact p1, ?_⟩
      simp only [if_neg hj]
      exact p2
  · by_cases z1 : j = i <;> by_cases z2 : k = i
    · rw [z1, z2]
    · simp only [if_pos z1] at hj; simp only [if_neg z2] at hk; exact absurd hj (hns k a hk)
    · simp only [if_neg z1] at hj; simp only [if_pos z2] at hk; exact absurd hk (hns j a hj)
    · simp only [if_neg z1] at hj; simp only [if_neg z2] at hk; exact h2 j k a hj hk
  · by_cases z1 : j = i
    · simp only [if_pos z1] at hj; exact hS a hj
    · simp only [if_neg z1] at hj
      have := h3 j a hj
      unfold addG at this
      rw [if_neg (hns j a hj)] at this
      exact this
  · by_cases z1 : j = i
    · subst z1; exact ⟨d, by unfold setV; rw [List.getElem?_set_self hi]⟩
    · simp only [if_neg z1] at hj
      obtain ⟨d', e⟩ := h4 j a hj
      exact ⟨d', by unfold setV; rw [List.getElem?_set_ne (Ne.symm z1)]; exact e⟩
  · refine ⟨?_, (E.io p hp).2⟩
    rw [List.getElem?_set_ne (Ne.symm (hio p hp))]
    exact (E.io p hp).1
/-- flags may fall -/
theorem EnvOk.lowers (E : EnvOk c G io W H σ ρ F) {F' : Nat → Bool} (h : ∀ i, F' i = true → F i = true) : ∃ W' : Wd, W.le W' ∧ EnvOk c G io W' H σ ρ F' := by
  have step : ∀ n, ∃ W' : Wd, W.le W' ∧ EnvOk c G io W' H σ ρ (fun i => if i < n then F' i else F i) := by
    intro n
    induction n with
    | zero => exact ⟨W, .refl W, by simpa using E⟩
    | succ n ih =>
      obtain ⟨W1, l1, E1⟩ := ih
      cases hn : F' n with
      | true =>
        refine ⟨W1, l1, ?_⟩
        have : (fun i => if i < n + 1 then F' i else F i) = fun i => if i < n then F' i else F i := by
          funext i
          by_cases hi : i = n
          · subst hi; simp [hn, h i hn]
          · by_cases hlt : i < n
            · simp [hlt, Nat.lt_succ_of_lt hlt]
            · have : ¬ i < n + 1 := by omega
              simp [hlt, this]
        rw [this]; exact E1
      | false =>
        obtain ⟨W2, l2, E2, _⟩ := E1.lower n
        refine ⟨W2, l1.trans l2, ?_⟩
        have : (fun i => if i < n + 1 then F' i else F i) = fun j => if j = n then false else (if j < n then F' j else F j) := by
          funext i
          by_cases hi : i = n
          · subst hi; simp [hn]
          · by_cases hlt : i < n
            · simp [hi, hlt, Nat.lt_succ_of_lt hlt]
            · have : ¬ i < n + 1 := by omega
              simp [hi, hlt, this]
        rw [this]; exact E2
  obtain ⟨W', l, E'⟩ := step ρ.length
  refine ⟨W', l, E'.wh, E'.g, E'.len, ?_, E'.io⟩
  obtain ⟨fp, h1, h2, h3, h4⟩ := E'.sl
  refine ⟨fp, fun i d e => ?_, h2, h3, h4⟩
  obtain ⟨v, q1, q2⟩ := h1 i d e
  have hi : i < ρ.length := (List.getElem?_eq_some_iff.mp e).1
  simp only [if_pos hi] at q2
  exact ⟨v, q1, q2⟩
/-- a value of a slot or frozen -/
def Bor (c : Cn) (W : Wd) (σ : St) (ρ : Env) (d : D) (v : V) : Prop := Rep c W d v ∨ ∃ i : Nat, σ[i]? = some (some v) ∧ ρ[i]? = some (some d)
theorem Bor.mono {d : D} {v : V} (x : Bor c W σ ρ d v) (h : W.le W') : Bor c W' σ ρ d v := x.imp (fun r => r.mono _ h) id
theorem Bor.rd {d : D} {v : V} (x : Bor c W σ ρ d v) (E : EnvOk c G io W H σ ρ F) : Rdv c W H d v := by
  rcases x with x | ⟨i, h1, h2⟩
  · exact x.rd E.wh
  · obtain ⟨u, q1, q2⟩ := E.get h2
    rw [h1] at q1; cases q1
    exact q2
def BorL (c : Cn) (W : Wd) (σ : St) (ρ : Env) : List D → List V → Prop
  | [], vs => vs = []
  | d :: ds, vs => ∃ v r, vs = v :: r ∧ Bor c W σ ρ d v ∧ BorL c W σ ρ ds r
theorem BorL.mono : ∀ {ds : List D} {vs : List V}, BorL c W σ ρ ds vs → W.le W' → BorL c W' σ ρ ds vs
  | [], _, x, _ => x
  | d :: ds, _, ⟨v, r, e, h1, h2⟩, h => ⟨v, r, e, h1.mono h, h2.mono h⟩
end
end Pv

set_option autoImplicit false
set_option linter.all false
/-! Pv: plain data as the library's data. -/
namespace Pv
open PySem L2
mutual
def toPy : D → PyData
  | .bl b => .bool b
  | .int i => .int i
  | .str s => .str s
  | .tup l => .tuple (toPyL l)
  | .lst l => .list (toPyL l)
  | _ => .none
def toPyL : List D → List PyData
  | [] => []
  | a :: l => toPy a :: toPyL l
end
theorem toPyL_map : ∀ l : List D, toPyL l = l.map toPy
  | [] => by simp [toPyL]
  | a :: l => by simp [toPyL, toPyL_map l]
mutual
theorem plain_toPy : ∀ (n : Nat) (d : D), D.plain n d = true → (toPy d).plain = true ∧ (toPy d).depth ≤ n
  | n, .non, _ => by simp [toPy, PyData.plain, PyData.depth]
  | n, .bl b, _ => by simp [toPy, PyData.plain, PyData.depth]
  | n, .int i, _ => by simp [toPy, PyData.plain, PyData.depth]
  | n, .str s, _ => by simp [toPy, PyData.plain, PyData.depth]
  | n + 1, .tup l, h => by
    have q := plain_toPyL n l (by simpa [D.plain] using h)
    simp only [toPy, PyData.plain, PyData.depth]
    exact ⟨q.1, by omega⟩
  | n + 1, .lst l, h => by
    have q := plain_toPyL n l (by simpa [D.plain] using h)
    simp only [toPy, PyData.plain, PyData.depth]
    exact ⟨q.1, by omega⟩
  | 0, .tup l, h => by simp [D.plain] at h
  | 0, .lst l, h => by simp [D.plain] at h
  | n, .dic _ _, h => by simp [D.plain] at h
  | n, .obj _ _ _, h => by simp [D.plain] at h
  | n, .fn _, h => by simp [D.plain] at h
  | n, .clo _ _, h => by simp [D.plain] at h
  | n, .bowl, h => by simp [D.plain] at h
theorem plain_toPyL : ∀ (n : Nat) (l : List D), D.plainL n l = true → PyData.plainAll (toPyL l) = true ∧ PyData.depthAll (toPyL l) ≤ n
  | n, [], _ => by simp [toPyL, PyData.plainAll, PyData.depthAll]
  | n, a :: l, h => by
    simp only [D.plainL, Bool.and_eq_true] at h
    have q1 := plain_toPy n a h.1
    have q2 := plain_toPyL n l h.2
    simp only [toPyL, PyData.plainAll, PyData.depthAll, q1.1, q2.1]
    exact ⟨rfl, by omega⟩
end
mutual
theorem eqv_toPy : ∀ (n m : Nat) (a b : D), D.plain n a = true → D.plain m b = true → PyData.eqv (toPy a) (toPy b) = D.eqv a b
  | n, m, a, b, ha, hb => by
    cases a <;> cases b <;> first
      | (simp [D.plain] at ha; done)
      | (simp [D.plain] at hb; done)
      | (simp [toPy, PyData.eqv, D.eqv]; done)
      | (cases n with
         | zero => simp [D.plain] at ha
         | succ n => cases m with
           | zero => simp [D.plain] at hb
           | succ m => (simp only [toPy, PyData.eqv, D.eqv]; exact eqv_toPyL n m _ _ (by simpa [D.plain] using ha) (by simpa [D.plain] using hb)))
theorem eqv_toPyL : ∀ (n m : Nat) (a b : List D), D.plainL n a = true → D.plainL m b = true → PyData.eqvAll (toPyL a) (toPyL b) = D.eqvL a b
  | n, m, [], [], _, _ => by simp [toPyL, PyData.eqvAll, D.eqvL]
  | n, m, [], _ :: _, _, _ => by simp [toPyL, PyData.eqvAll, D.eqvL]
  | n, m, _ :: _, [], _, _ => by simp [toPyL, PyData.eqvAll, D.eqvL]
  | n, m, a :: l, b :: k, ha, hb => by
    simp only [D.plainL, Bool.and_eq_true] at ha hb
    simp only [toPyL, PyData.eqvAll, D.eqvL, eqv_toPy n m a b ha.1 hb.1, eqv_toPyL n m l k ha.2 hb.2]
end
mutual
theorem alike_toPy : ∀ (a b : D), D.alike a b = true → PySem.W.alike (toPy a) (toPy b) = true
  | a, b, h => by
    cases a <;> cases b <;> first
      | (simp [D.alike] at h; done)
      | (simp [toPy, PySem.W.alike]; done)
      | (simp only [toPy, PySem.W.alike]; exact alike_toPyL _ _ (by simpa [D.alike] using h))
theorem alike_toPyL : ∀ (a b : List D), D.alikeL a b = true → PySem.W.alikeAll (toPyL a) (toPyL b) = true
  | [], _, _ => by simp [toPyL, PySem.W.alikeAll]
  | _ :: _, [], _ => by simp [toPyL, PySem.W.alikeAll]
  | a :: l, b :: m, h => by
    simp only [D.alikeL, Bool.and_eq_true] at h
    simp only [toPyL, PySem.W.alikeAll, alike_toPy a b h.1, alike_toPyL l m h.2]
    rfl
end
mutual
theorem lt_toPy : ∀ (n m : Nat) (a b : D), D.plain n a = true → D.plain m b = true → D.alike a b = true → PySem.W.dataLt (toPy a) (toPy b) = D.lt a b
  | n, m, a, b, ha, hb, h => by
    cases a <;> cases b <;> first
      | (simp [D.alike] at h; done)
      | (cases n with
         | zero => simp [D.plain] at ha
         | succ n => cases m with
           | zero => simp [D.plain] at hb
           | succ m => (simp only [toPy, D.lt]
                        first | rw [PySem.W.dataLt_tuple] | rw [PySem.W.dataLt_list]
                        exact lt_toPyL n m _ _ (by simpa [D.plain] using ha) (by simpa [D.plain] using hb) (by simpa [D.alike] using h)))
      | (simp only [toPy, D.lt]; exact PySem.W.dataLt_int _ _)
      | (simp only [toPy, D.lt, strLt]; exact PySem.W.dataLt_str _ _)
      | (simp only [toPy, D.lt]; rw [PySem.W.dataLt_bool]; rename_i p q; cases p <;> cases q <;> rfl)
      | (simp only [toPy, D.lt]; rfl)
theorem lt_toPyL : ∀ (n m : Nat) (a b : List D), D.plainL n a = true → D.plainL m b = true → D.alikeL a b = true → PyProof.Rows.lexLt PyProof.Rows.itemOrd (PySem.W.keyToksAll (toPyL a)) (PySem.W.keyToksAll (toPyL b)) = D.ltL a b
  | n, m, [], [], _, _, _ => by simp only [toPyL, D.ltL]; rfl
  | n, m, [], b :: k, _, _, _ => by simp only [toPyL, D.ltL]; rfl
  | n, m, a :: l, [], _, _, _ => by simp only [toPyL, D.ltL]; rfl
  | n, m, a :: l, b :: k, ha, hb, h => by
    simp only [D.plainL, Bool.and_eq_true] at ha hb
    simp only [D.alikeL, Bool.and_eq_true] at h
    simp only [toPyL, D.ltL]
    rw [PySem.W.dataLt_cons (alike_toPy a b h.1), eqv_toPy n m a b ha.1 hb.1, lt_toPyL n m l k ha.2 hb.2 h.2, lt_toPy n m a b ha.1 hb.1 h.1]
end

mutual
theorem D.alike_comm : ∀ (a b : D), D.alike a b = D.alike b a
  | a, b => by
    cases a <;> cases b <;> first
      | (simp only [D.alike]; exact D.alikeL_comm _ _)
      | simp [D.alike]
theorem D.alikeL_comm : ∀ (a b : List D), D.alikeL a b = D.alikeL b a
  | [], [] => rfl
  | [], _ :: _ => by simp [D.alikeL]
  | _ :: _, [] => by simp [D.alikeL]
  | a :: l, b :: m => by simp only [D.alikeL]; rw [D.alike_comm a b, D.alikeL_comm l m]
end
/-! ### plain data is read -/
section
variable {c : Cn} {W : Wd} {H : Hp}
mutual
theorem Rep.dp : ∀ (n : Nat) (d : D) (v : V), Rep c W d v → D.plain n d = true → Dp c.K W.fz v (toPy d)
  | n, .non, v, x, _ => by simp only [Rep] at x; subst x; exact .non
  | n, .bl b, v, x, _ => by simp only [Rep] at x; subst x; exact .bl b
  | n, .int i, v, x, _ => by simp only [Rep] at x; subst x; exact .int i
  | n, .str s, v, x, _ => by simp only [Rep] at x; obtain ⟨rfl, _⟩ := x; exact .str s
  | n + 1, .tup l, v, x, h => by
    simp only [Rep] at x
    obtain ⟨a, vs, rfl, q, r⟩ := x
    simp only [toPy]
    exact .tup q (RepL.dp n l vs r (by simpa [D.plain] using h))
  | n + 1, .lst l, v, x, h => by
    simp only [Rep] at x
    obtain ⟨a, vs, rfl, q, r⟩ := x
    simp only [toPy]
    exact .lst (.inl q) (RepL.dp n l vs r (by simpa [D.plain] using h))
  | 0, .tup l, v, x, h => by simp [D.plain] at h
  | 0, .lst l, v, x, h => by simp [D.plain] at h
  | n, .dic _ _, v, x, h => by simp [D.plain] at h
  | n, .obj _ _ _, v, x, h => by simp [D.plain] at h
  | n, .fn _, v, x, h => by simp [D.plain] at h
  | n, .clo _ _, v, x, h => by simp [D.plain] at h
  | n, .bowl, v, x, h => by simp [D.plain] at h
theorem RepL.dp : ∀ (n : Nat) (l : List D) (vs : List V), RepL c W l vs → D.plainL n l = true → DpAll c.K W.fz vs (toPyL l)
  | n, [], vs, x, _ => by simp only [RepL] at x; subst x; simp only [toPyL]; exact .nil
  | n, d :: l, vs, x, h => by
    simp only [RepL] at x
    obtain ⟨v, r, rfl, q1, q2⟩ := x
    simp only [D.plainL, Bool.and_eq_true] at h
    simp only [toPyL]
    exact .cons (Rep.dp n d v q1 h.1) (RepL.dp n l r q2 h.2)
end
mutual
theorem Dp.ext {K : PySem.W.Frag} {H H' : Hp} (e : Ext H H') : ∀ (d : PyData) (v : V), Dp K H v d → Dp K H' v d
  | .none, v, h => by cases h; exact .non
  | .bool b, v, h => by cases h; exact .bl b
  | .int i, v, h => by cases h; exact .int i
  | .str s, v, h => by cases h; exact .str s
  | .list l, v, h => by cases h with | lst q r => exact .lst (q.ext e) (DpAll.ext e l _ r)
  | .tuple l, v, h => by cases h with | tup q r => exact .tup (q.ext e) (DpAll.ext e l _ r)
  | .dict _, v, h => by cases h
theorem DpAll.ext {K : PySem.W.Frag} {H H' : Hp} (e : Ext H H') : ∀ (l : List PyData) (vs : List V), DpAll K H vs l → DpAll K H' vs l
  | [], vs, h => by cases h; exact .nil
  | d :: l, vs, h => by cases h with | cons q r => exact .cons (Dp.ext e d _ q) (DpAll.ext e l _ r)
end
theorem Rdv.dp {n : Nat} {d : D} {v : V} (wh : W.In H) (x : Rdv c W H d v) (h : D.plain n d = true) : Dp c.K H v (toPy d) := by
  have e : Ext W.fz H := wh.fz
  cases d with
  | lst l =>
    obtain ⟨a, vs, rfl, q, r⟩ := x
    cases n with
    | zero => simp [D.plain] at h
    | succ n =>
      simp only [toPy]
      exact .lst (.inl q) (DpAll.ext e _ _ (RepL.dp n l vs r (by simpa [D.plain] using h)))
  | dic ks ds => simp [D.plain] at h
  | obj a b e => simp [D.plain] at h
  | _ => exact Dp.ext e _ _ (Rep.dp n _ v x h)
end
def cOf (X : Cx) : Cn := ⟨X.prog, X.w, X.K, X.mg⟩
section
variable {X : Cx} {pins : List (Addr × Obj)} {σ : St} {H : Hp} {s : Shared} {W : Wd}
theorem Rdv.reads (I : Inv X pins σ H s) {n : Nat} {d : D} {v : V} {u : Value} (wh : W.In H) (x : Rdv (cOf X) W H d v) (h : D.plain n d = true) (r : RelV v u) : ∃ as, Reads s.heap u (toPy d) as :=
  Dp.reads I _ v u (Rdv.dp (c := cOf X) wh x h) r
theorem RepL.reads (I : Inv X pins σ H s) {n : Nat} {l : List D} {vs : List V} {us : List Value} (wh : W.In H) (x : RepL (cOf X) W l vs) (h : D.plainL n l = true) (r : Vals vs us) : ∃ as, ReadsAll s.heap us (toPyL l) as :=
  Dp.readsAll I _ vs us (DpAll.ext (e := wh.fz) _ _ (RepL.dp (c := cOf X) n l vs x h)) r
end
end Pv

set_option autoImplicit false
set_option linter.all false
set_option maxRecDepth 100000
/-! Pv: operators on values. -/
namespace Pv
open PySem L2

/-! ### results -/
def Res (c : Cn) (b : Bool) (W : Wd) (H : Hp) (d : D) (Q : VK) : Prop := ∀ v H' W' S, Grow W H W' H' → OwnB c W' H' b d v S → (∀ a ∈ S, H a = none) → Q v H'
section
variable {c : Cn} {W : Wd} {H : Hp} {Q : VK}
theorem Wd.In.free {p : Addr} (wh : W.In H) (h : H p = none) : W.no p := by
  refine ⟨?_, fun z => ?_, fun q hq z => ?_, fun z => ?_⟩
  · cases e : W.fz p with
    | none => rfl
    | some o => rw [wh.fz p o e] at h; cases h
  · obtain ⟨⟨_, _, _, e⟩, _⟩ := wh.bw p z
    rw [e] at h; cases h
  · obtain ⟨ps, e, _⟩ := wh.tb q hq
    rw [z, h] at e; cases e
  · exact (wh.tu p z).1 h
theorem BowlAt.upd {p a : Addr} {o : HO} (h : H p = none) (x : BowlAt H a) : BowlAt (upd H p o) a := by
  obtain ⟨i, j, k, e⟩ := x
  exact ⟨i, j, k, by rw [upd_ne (ne_of_none e h)]; exact e⟩
theorem Wd.In.new {p : Addr} {o : HO} (wh : W.In H) (h : H p = none) (nc : NC o := by exact ⟨(fun _ _ z => nomatch z), (fun _ z => nomatch z)⟩) : W.In (upd H p o) where
  fz := fun a u e => by rw [upd_ne (ne_of_none (wh.fz a u e) h)]; exact wh.fz a u e
  bw := fun a e => ⟨(wh.bw a e).1.upd h, (wh.bw a e).2⟩
  tb := wh.tabs fun a u e _ => by rw [upd_ne (ne_of_none e h)]; exact e
  cd := fun a b q e => by
    by_cases z : a = p
    · subst z
      rw [upd_same] at e
      exact absurd (Option.some.inj e) (nc.1 b q)
    · rw [upd_ne z] at e
      exact wh.cd a b q e
  tn := wh.tn
  te := wh.te
  ht := fun a ps e => by
    by_cases z : a = p
    · subst z
      rw [upd_same] at e
      exact absurd (Option.some.inj e) (nc.2 ps)
    · rw [upd_ne z] at e
      exact wh.ht a ps e
  tu := fun a e => ⟨by rw [upd_ne (fun z => (wh.tu a e).1 (by rw [z]; exact h))]; exact (wh.tu a e).1, (wh.tu a e).2⟩
theorem Grow.new {p : Addr} {o : HO} (wh : W.In H) (h : H p = none) (nc : NC o := by exact ⟨(fun _ _ z => nomatch z), (fun _ z => nomatch z)⟩) : Grow W H W (upd H p o) :=
  ⟨.refl W, wh.new h nc, fun a u e n => ⟨by rw [upd_ne (ne_of_none e h)]; exact e, n⟩⟩
theorem Grow.put {p : Addr} {o : HO} (wh : W.In H) (h : H p = none) (nc : NC o := by exact ⟨(fun _ _ z => nomatch z), (fun _ z => nomatch z)⟩) : Grow W H (W.put p o) (upd H p o) :=
  ⟨Wd.put_le (wh.free h).fz, (wh.new h nc).put_in (wh.free h) upd_same, fun a u e n => ⟨by rw [upd_ne (ne_of_none e h)]; exact e, Wd.put_no n (ne_of_none e h)⟩⟩
theorem Res.int {i : Int} (q : Res c true W H (.int i) Q) (wh : W.In H) : Q (.int i) H := q _ _ _ [] (.refl wh) ⟨by simp only [Rep], rfl⟩ (by simp)
theorem Res.bl {b : Bool} (q : Res c true W H (.bl b) Q) (wh : W.In H) : Q (.bl b) H := q _ _ _ [] (.refl wh) ⟨by simp only [Rep], rfl⟩ (by simp)
theorem Res.non (q : Res c true W H .non Q) (wh : W.In H) : Q .non H := q _ _ _ [] (.refl wh) ⟨by simp only [Rep], rfl⟩ (by simp)
theorem Res.str {s : Str} (q : Res c true W H (.str s) Q) (wh : W.In H) (hs : s.length ≤ sizeLine) : Q (.str s) H := q _ _ _ [] (.refl wh) ⟨by simp only [Rep]; exact ⟨trivial, hs⟩, rfl⟩ (by simp)
theorem Res.lst {ds : List D} {vs : List V} (q : Res c true W H (.lst ds) Q) (wh : W.In H) (r : RepL c W ds vs) : ∀ p, H p = none → Q (.ref p) (upd H p (.lst vs)) := fun p hp =>
  q _ _ W [p] (.new wh hp) ⟨p, _, rfl, wh.free hp, upd_same, ⟨vs, rfl, r⟩, rfl⟩ (by simpa using hp)
theorem Res.tup {ds : List D} {vs : List V} (q : Res c true W H (.tup ds) Q) (wh : W.In H) (r : RepL c W ds vs) : ∀ p, H p = none → Q (.ref p) (upd H p (.tup vs)) := fun p hp =>
  q _ _ (W.put p (.tup vs)) [] (.put wh hp) ⟨by simp only [Rep]; exact ⟨p, vs, rfl, SqT.of upd_same, r.mono _ (Wd.put_le (wh.free hp).1)⟩, rfl⟩ (by simp)
theorem Res.rep {d : D} {v : V} (q : Res c false W H d Q) (wh : W.In H) (r : Rep c W d v) : Q v H := q v H W [] (.refl wh) ⟨r, rfl⟩ (by simp)
/-- tuples that are there already -/
theorem Res.tupOld {ds : List D} {v : V} (q : Res c true W H (.tup ds) Q) (wh : W.In H) (r : Rep c W (.tup ds) v) : Q v H := q v H W [] (.refl wh) ⟨r, rfl⟩ (by simp)
end

section
variable {X : Cx}
/-- two values by data -/
def rD (X : Cx) (m : D → D → R D) : R2 := fun x y H Q => ∃ W dx dy, W.In H ∧ Rdv (cOf X) W H dx x ∧ Rdv (cOf X) W H dy y ∧ (m dx dy).Sat fun d => Res (cOf X) true W H d Q
theorem rdv_int {c : Cn} {W : Wd} {H : Hp} {i : Int} {v : V} (h : Rdv c W H (.int i) v) : v = .int i := by simpa only [Rdv, Rep] using h
theorem rdv_bl {c : Cn} {W : Wd} {H : Hp} {i : Bool} {v : V} (h : Rdv c W H (.bl i) v) : v = .bl i := by simpa only [Rdv, Rep] using h
theorem rdv_non {c : Cn} {W : Wd} {H : Hp} {v : V} (h : Rdv c W H .non v) : v = .non := by simpa only [Rdv, Rep] using h
theorem rdv_str {c : Cn} {W : Wd} {H : Hp} {i : Str} {v : V} (h : Rdv c W H (.str i) v) : v = .str i ∧ i.length ≤ sizeLine := by simpa only [Rdv, Rep] using h
theorem rdv_tup {c : Cn} {W : Wd} {H : Hp} {l : List D} {v : V} (wh : W.In H) (h : Rdv c W H (.tup l) v) : ∃ a vs, v = .ref a ∧ SqT c.K H a vs ∧ RepL c W l vs := by
  have h : Rep c W (.tup l) v := h
  simp only [Rep] at h
  obtain ⟨a, vs, e, q, r⟩ := h
  exact ⟨a, vs, e, q.ext wh.fz, r⟩
theorem lstR {pins : List (Addr × Obj)} {σ : St} {H : Hp} {s : Shared} {a : Addr} {xs : List V} (I : Inv X pins σ H s) (h : Rd H a (.lst xs)) :
    xs.length ≤ sizeLine ∧ ∃ (its : List Value) (n : Nat), Vals xs its ∧ s.heap.get? a = some { cls := .type "list", data := .seq its.toArray n } := by
  obtain ⟨z, its, n, r, e⟩ := h.ok I.hok
  exact ⟨z, its, n, r, e⟩

theorem big_eq : big = sizeLine := by decide
theorem op_addD : OpR X (binaryOp .Add) (rD X (binD .add)) := by
  intro pins s σ H x y v u Q I rx ry h
  obtain ⟨W, dx, dy, wh, hx, hy, q⟩ := h
  cases dx <;> cases dy <;> first | exact (show False from q).elim | skip
  · cases rdv_int hx; cases rdv_int hy
    exact op_add pins s σ H _ _ v u Q I rx ry ⟨_, _, rfl, rfl, Res.int q wh⟩
  · obtain ⟨rfl, l1⟩ := rdv_str hx; obtain ⟨rfl, l2⟩ := rdv_str hy
    simp only [binD] at q
    split at q
    · rename_i hz
      rw [big_eq] at hz
      refine op_add_str pins s σ H _ _ v u Q I rx ry ⟨_, _, rfl, rfl, hz, Res.str q wh ?_⟩
      show (Array.size _) ≤ _
      have : ∀ a b : Str, (a ++ b).cps.size = a.length + b.length := fun a b => by
        show (a.cps ++ b.cps).size = _
        rw [Array.size_append]; rfl
      rw [this]; exact hz
    · exact (show False from q).elim
  · obtain ⟨a, vs, rfl, q1, r1⟩ := rdv_tup wh hx
    obtain ⟨b, ws, rfl, q2, r2⟩ := rdv_tup wh hy
    simp only [binD] at q
    split at q
    · rename_i hz
      rw [big_eq, r1.length, r2.length] at hz
      refine op_catA pins s σ H _ _ v u Q I rx ry ⟨a, b, vs, ws, rfl, rfl, q1, q2, hz, fun e => ?_, fun e1 e2 => ?_, fun _ _ => Res.tup q wh (r1.append r2)⟩
      · subst e
        have e := List.eq_nil_of_length_eq_zero (r1.length.trans rfl)
        subst e
        exact Res.tupOld q wh hy
      · subst e2
        have e := List.eq_nil_of_length_eq_zero (r2.length.trans rfl)
        subst e
        rw [List.append_nil] at q
        exact Res.tupOld q wh hx
    · exact (show False from q).elim
  · obtain ⟨a, vs, rfl, q1, r1⟩ := (show ∃ a vs, _ from hx)
    obtain ⟨b, ws, rfl, q2, r2⟩ := (show ∃ a vs, _ from hy)
    simp only [binD] at q
    split at q
    · rename_i hz
      rw [big_eq, r1.length, r2.length] at hz
      cases rx; cases ry
      obtain ⟨z1, its, n, ri, e1⟩ := lstR I q1
      obtain ⟨z2, its2, n2, ri2, e2⟩ := lstR I q2
      have l1 := ri.length
      have l2 := ri2.length
      refine PySem.P.add_list e1 e2 ?_ (by rw [List.size_toArray, List.size_toArray]; omega)
      have ea : its.toArray ++ its2.toArray = (its ++ its2).toArray := by simp
      rw [ea]
      exact ⟨.ref _, _, I.lnew (t' := s.toks) (ri.append ri2) (by rw [List.length_append]; omega), rfl, Res.lst q wh (r1.append r2) _ I.fresh⟩
    · exact (show False from q).elim

theorem op_subD : OpR X (binaryOp .Sub) (rD X (binD .sub)) := by
  intro pins s σ H x y v u Q I rx ry h
  obtain ⟨W, dx, dy, wh, hx, hy, q⟩ := h
  cases dx <;> cases dy <;> first | exact (show False from q).elim | skip
  cases rdv_int hx; cases rdv_int hy
  exact op_sub pins s σ H _ _ v u Q I rx ry ⟨_, _, rfl, rfl, Res.int q wh⟩
theorem sat_if {α : Type} {b : Bool} {m : R α} {P : α → Prop} (q : (if b = true then m else .bad).Sat P) : b = true ∧ m.Sat P := by
  cases b with
  | true => exact ⟨rfl, q⟩
  | false => exact q.elim
theorem sat_ifp {α : Type} {p : Prop} [Decidable p] {m : R α} {P : α → Prop} (q : (if p then m else .bad).Sat P) : p ∧ m.Sat P := by
  by_cases h : p
  · rw [if_pos h] at q; exact ⟨h, q⟩
  · rw [if_neg h] at q; exact q.elim
theorem op_modD : OpR X (binaryOp .Mod) (rD X (binD .mod)) := by
  intro pins s σ H x y v u Q I rx ry h
  obtain ⟨W, dx, dy, wh, hx, hy, q⟩ := h
  cases dx <;> cases dy <;> first | exact (show False from q).elim | skip
  cases rdv_int hx; cases rdv_int hy
  simp only [binD] at q
  obtain ⟨hp, q⟩ := sat_ifp q
  exact op_mod pins s σ H _ _ v u Q I rx ry ⟨_, _, rfl, rfl, hp, Res.int q wh⟩
theorem op_fdivD : OpR X (binaryOp .FloorDiv) (rD X (binD .fdiv)) := by
  intro pins s σ H x y v u Q I rx ry h
  obtain ⟨W, dx, dy, wh, hx, hy, q⟩ := h
  cases dx <;> cases dy <;> first | exact (show False from q).elim | skip
  cases rdv_int hx; cases rdv_int hy
  simp only [binD] at q
  obtain ⟨hp, q⟩ := sat_if q
  simp only [Bool.and_eq_true, decide_eq_true_eq] at hp
  exact op_fdiv pins s σ H _ _ v u Q I rx ry ⟨_, _, rfl, rfl, hp, Res.int q wh⟩
theorem small_ok {i : Int} (h : small i = true) : -(2 ^ 64) < i ∧ i < 2 ^ 64 := by
  unfold small at h
  simp only [Bool.and_eq_true, decide_eq_true_eq] at h
  exact h
theorem op_powD : OpR X (binaryOp .Pow) (rD X (binD .pow)) := by
  intro pins s σ H x y v u Q I rx ry h
  obtain ⟨W, dx, dy, wh, hx, hy, q⟩ := h
  cases dx <;> cases dy <;> first | exact (show False from q).elim | skip
  cases rdv_int hx; cases rdv_int hy
  simp only [binD] at q
  obtain ⟨hp, q⟩ := sat_if q
  simp only [Bool.and_eq_true, decide_eq_true_eq] at hp
  have := small_ok hp.2
  exact op_pow pins s σ H _ _ v u Q I rx ry ⟨_, _, rfl, rfl, ⟨hp.1.1, by omega, by omega⟩, Res.int q wh⟩
theorem op_mul_str : OpR X (binaryOp .Mult) (fun x y H Q => ∃ i n, x = .str i ∧ y = .int n ∧ MulOk i n ∧ Q (.str (Txt.mul i n)) H) := by
  intro pins s σ H x y v u Q I rx ry h
  obtain ⟨i, n, rfl, rfl, hz, q⟩ := h
  obtain ⟨t, rfl⟩ := rx
  obtain ⟨t', rfl⟩ := ry
  exact SB.mul hz (fun t' tk => ⟨.str (Txt.mul i n), H, I.tok _, ⟨_, rfl⟩, q⟩)
theorem foldl_repN (l : List Nat) : ∀ (k : Nat) (acc : List Nat), List.foldl (fun x1 x2 => x1 ++ x2) acc.toArray (List.replicate k l.toArray) = (acc ++ (List.replicate k l).flatten).toArray
  | 0, acc => by simp
  | k + 1, acc => by
    rw [List.replicate_succ, List.foldl_cons, List.append_toArray, foldl_repN l k (acc ++ l), List.replicate_succ, List.flatten_cons, List.append_assoc]
theorem txt_mul {a : Str} {n : Int} (h : 1 ≤ n) : Txt.mul a n = strOf (List.replicate n.toNat a.cps.toList).flatten := by
  have f0 : ∀ m : Nat, List.foldl (fun x1 x2 => x1 ++ x2) #[] (List.replicate m a.cps) = (List.replicate m a.cps.toList).flatten.toArray := fun m => by
    have := foldl_repN a.cps.toList m []
    rw [List.nil_append] at this
    exact this
  unfold Txt.mul strOf
  rw [if_neg (by omega)]
  by_cases h1 : (n == 1 || a.length == 0) = true
  · rw [if_pos h1]
    rcases Bool.or_eq_true_iff.mp h1 with h1 | h1
    · have h1 : n = 1 := by simpa using h1
      subst h1
      simp
    · have h1 : a.cps.size = 0 := by
        have : a.length = 0 := by simpa using h1
        exact this
      have h2 : a.cps = #[] := Array.eq_empty_of_size_eq_zero h1
      obtain ⟨c⟩ := a
      simp only at h2
      subst h2
      simp
  · rw [if_neg h1, f0]
theorem mul_fits {a : Str} {n : Int} (h1 : 1 ≤ n) (h2 : n ≤ 1000) (h3 : a.length ≤ 1000) : MulOk a n := by
  obtain ⟨m, rfl⟩ : ∃ m : Nat, n = m := ⟨n.toNat, by omega⟩
  have hm : a.length * m ≤ 1000 * 1000 := Nat.mul_le_mul h3 (by omega)
  have hz : ¬ sizeLine < a.length * m := by
    have : sizeLine ≥ 1000 * 1000 := by decide
    omega
  refine ⟨by rw [decide_eq_false (by omega), decide_eq_false (by omega)]; rfl, fun _ _ => ?_, fun _ _ => ?_⟩
  · have : (a.length : Int) ≤ (2 ^ 63 - 1) / (m : Int) := by
      refine Int.le_ediv_of_mul_le (by omega) ?_
      have h4 : (a.length : Int) * (m : Int) ≤ 1000 * 1000 := by
        rw [← Int.natCast_mul]; omega
      omega
    omega
  · rw [Int.toNat_natCast]
    show decide (_ > _) = false
    exact decide_eq_false hz
theorem op_mulD : OpR X (binaryOp .Mult) (rD X mulD) := by
  intro pins s σ H x y v u Q I rx ry h
  obtain ⟨W, dx, dy, wh, hx, hy, q⟩ := h
  cases dx <;> cases dy <;> first | exact (show False from q).elim | skip
  · cases rdv_int hx; cases rdv_int hy
    simp only [mulD] at q
    obtain ⟨hp, q⟩ := sat_if q
    refine op_mul pins s σ H _ _ v u Q I rx ry ⟨_, _, rfl, rfl, ?_, Res.int q wh⟩
    rcases Bool.or_eq_true_iff.mp hp with hp | hp
    · exact .inl (small_ok hp)
    · exact .inr (small_ok hp)
  · obtain ⟨rfl, l1⟩ := rdv_str hx
    cases rdv_int hy
    simp only [mulD] at q
    obtain ⟨hp, q⟩ := sat_if q
    simp only [Bool.and_eq_true, decide_eq_true_eq] at hp
    rw [← txt_mul hp.1.1] at q
    have hl : ∀ (l : List Nat) (m : Nat), (List.replicate m l).flatten.length = m * l.length := fun l m => by simp
    refine op_mul_str pins s σ H _ _ v u Q I rx ry ⟨_, _, rfl, rfl, mul_fits hp.1.1 hp.1.2 hp.2, Res.str q wh ?_⟩
    rw [txt_mul hp.1.1]
    show (List.replicate _ _).flatten.toArray.size ≤ _
    rw [List.size_toArray, hl]
    have : sizeLine ≥ 1000 * 1000 := by decide
    refine Nat.le_trans (Nat.mul_le_mul (show _ ≤ 1000 by omega) ?_) this
    rw [Array.length_toList]
    exact hp.2
theorem ordOk_of {x y : D} (h : ordOk x y = true) : D.plain 32 x = true ∧ D.plain 32 y = true ∧ D.alike x y = true ∧ x.isNon = false := by
  unfold ordOk at h
  simp only [Bool.and_eq_true, Bool.not_eq_true'] at h
  exact ⟨h.1.1.1, h.1.1.2, h.1.2, h.2⟩
theorem toPy_ne_none {x y : D} (h : D.alike x y = true) (n : x.isNon = false) : toPy x ≠ .none := by
  cases x <;> cases y <;> simp_all [toPy, D.alike, D.isNon]
section
variable (hu : X.A.units + 80 < cLine)
include hu
theorem op_ltD : OpR X (compareOp .Lt) (rD X (binD .lt)) := by
  intro pins s σ H x y v u Q I rx ry h
  obtain ⟨W, dx, dy, wh, hx, hy, q⟩ := h
  have q : (if ordOk dx dy then R.ok (D.bl (D.lt dx dy)) else .bad).Sat fun d => Res (cOf X) true W H d Q := by cases dx <;> cases dy <;> exact q
  obtain ⟨ho, q⟩ := sat_if q
  obtain ⟨p1, p2, al, nn⟩ := ordOk_of ho
  obtain ⟨as, r1⟩ := hx.reads I wh p1 rx
  obtain ⟨bs, r2⟩ := hy.reads I wh p2 ry
  have d1 := (plain_toPy 32 dx p1).2
  refine PySem.W.lt_data r1 r2 (alike_toPy _ _ al) (toPy_ne_none al nn) (by omega) ?_
  rw [lt_toPy 32 32 _ _ p1 p2 al]
  exact ⟨.bl _, H, I, rfl, Res.bl q wh⟩
theorem op_gtD : OpR X (compareOp .Gt) (rD X (binD .gt)) := by
  intro pins s σ H x y v u Q I rx ry h
  obtain ⟨W, dx, dy, wh, hx, hy, q⟩ := h
  have q : (if ordOk dx dy then R.ok (D.bl (D.lt dy dx)) else .bad).Sat fun d => Res (cOf X) true W H d Q := by cases dx <;> cases dy <;> exact q
  obtain ⟨ho, q⟩ := sat_if q
  obtain ⟨p1, p2, al, nn⟩ := ordOk_of ho
  obtain ⟨as, r1⟩ := hx.reads I wh p1 rx
  obtain ⟨bs, r2⟩ := hy.reads I wh p2 ry
  have d1 := (plain_toPy 32 dx p1).2
  refine PySem.W.gt_data r1 r2 (alike_toPy _ _ al) (toPy_ne_none al nn) (by omega) ?_
  rw [lt_toPy 32 32 _ _ p2 p1 (by rw [D.alike_comm]; exact al)]
  exact ⟨.bl _, H, I, rfl, Res.bl q wh⟩
theorem op_leD : OpR X (compareOp .LtE) (rD X (binD .le)) := by
  intro pins s σ H x y v u Q I rx ry h
  obtain ⟨W, dx, dy, wh, hx, hy, q⟩ := h
  have q : (if ordOk dx dy then R.ok (D.bl (!D.lt dy dx)) else .bad).Sat fun d => Res (cOf X) true W H d Q := by cases dx <;> cases dy <;> exact q
  obtain ⟨ho, q⟩ := sat_if q
  obtain ⟨p1, p2, al, nn⟩ := ordOk_of ho
  obtain ⟨as, r1⟩ := hx.reads I wh p1 rx
  obtain ⟨bs, r2⟩ := hy.reads I wh p2 ry
  have d1 := (plain_toPy 32 dx p1).2
  refine PySem.W.le_data r1 r2 (alike_toPy _ _ al) (toPy_ne_none al nn) (by omega) ?_
  rw [lt_toPy 32 32 _ _ p2 p1 (by rw [D.alike_comm]; exact al)]
  exact ⟨.bl _, H, I, rfl, Res.bl q wh⟩
theorem op_geD : OpR X (compareOp .GtE) (rD X (binD .ge)) := by
  intro pins s σ H x y v u Q I rx ry h
  obtain ⟨W, dx, dy, wh, hx, hy, q⟩ := h
  have q : (if ordOk dx dy then R.ok (D.bl (!D.lt dx dy)) else .bad).Sat fun d => Res (cOf X) true W H d Q := by cases dx <;> cases dy <;> exact q
  obtain ⟨ho, q⟩ := sat_if q
  obtain ⟨p1, p2, al, nn⟩ := ordOk_of ho
  obtain ⟨as, r1⟩ := hx.reads I wh p1 rx
  obtain ⟨bs, r2⟩ := hy.reads I wh p2 ry
  have d1 := (plain_toPy 32 dx p1).2
  refine PySem.W.ge_data r1 r2 (alike_toPy _ _ al) (toPy_ne_none al nn) (by omega) ?_
  rw [lt_toPy 32 32 _ _ p1 p2 al]
  exact ⟨.bl _, H, I, rfl, Res.bl q wh⟩
/-- == of plain data -/
theorem op_eqD' : OpR X (compareOp .Eq) (rD X eqD) := by
  intro pins s σ H x y v u Q I rx ry h
  obtain ⟨W, dx, dy, wh, hx, hy, q⟩ := h
  obtain ⟨ho, q⟩ := sat_if (b := D.plain 32 dx && D.plain 32 dy) q
  obtain ⟨p1, p2⟩ := (Bool.and_eq_true_iff.mp ho)
  obtain ⟨as, r1⟩ := hx.reads I wh p1 rx
  obtain ⟨bs, r2⟩ := hy.reads I wh p2 ry
  have d1 := plain_toPy 32 dx p1
  have d2 := plain_toPy 32 dy p2
  refine PySem.SeqAt.eq_plain r1 r2 d1.1 d2.1 (by omega) ?_
  rw [eqv_toPy 32 32 _ _ p1 p2]
  exact ⟨.bl _, H, I, rfl, Res.bl q wh⟩
theorem op_neD' : OpR X (compareOp .NotEq) (rD X neD) := by
  intro pins s σ H x y v u Q I rx ry h
  obtain ⟨W, dx, dy, wh, hx, hy, q⟩ := h
  obtain ⟨ho, q⟩ := sat_if (b := D.plain 32 dx && D.plain 32 dy) q
  obtain ⟨p1, p2⟩ := (Bool.and_eq_true_iff.mp ho)
  obtain ⟨as, r1⟩ := hx.reads I wh p1 rx
  obtain ⟨bs, r2⟩ := hy.reads I wh p2 ry
  have d1 := plain_toPy 32 dx p1
  have d2 := plain_toPy 32 dy p2
  refine PySem.SeqAt.ne_plain r1 r2 d1.1 d2.1 (by omega) ?_
  rw [eqv_toPy 32 32 _ _ p1 p2]
  exact ⟨.bl _, H, I, rfl, Res.bl q wh⟩
end
end
end Pv

set_option autoImplicit false
set_option linter.all false
set_option maxRecDepth 100000
/-! Pv: dicts on values. -/
namespace Pv
open PySem L2

/-! ### keys -/
mutual
def dNk : D → NestedKey
  | .int i => .num i
  | .str s => .text s
  | .tup l => .tup (dNks l)
  | _ => .none
def dNks : List D → List NestedKey
  | [] => []
  | a :: l => dNk a :: dNks l
end
mutual
theorem nkD_dNk : ∀ (n : Nat) (d : D), D.isKey n d = true → nkD (dNk d) = d ∧ (dNk d).depth ≤ n
  | n, .non, _ => by simp [dNk, nkD, NestedKey.depth]
  | n, .int i, _ => by simp [dNk, nkD, NestedKey.depth]
  | n, .str s, _ => by simp [dNk, nkD, NestedKey.depth]
  | n + 1, .tup l, h => by
    have q := nkD_dNks n l (by simpa [D.isKey] using h)
    simp only [dNk, nkD, NestedKey.depth, q.1]
    exact ⟨trivial, by omega⟩
  | 0, .tup l, h => by simp [D.isKey] at h
  | n, .bl _, h => by simp [D.isKey] at h
  | n, .lst _, h => by simp [D.isKey] at h
  | n, .dic _ _, h => by simp [D.isKey] at h
  | n, .obj _ _ _, h => by simp [D.isKey] at h
  | n, .fn _, h => by simp [D.isKey] at h
  | n, .clo _ _, h => by simp [D.isKey] at h
  | n, .bowl, h => by simp [D.isKey] at h
theorem nkD_dNks : ∀ (n : Nat) (l : List D), D.isKeyL n l = true → nkDs (dNks l) = l ∧ NestedKey.depthAll (dNks l) ≤ n
  | n, [], _ => by simp [dNks, nkDs, NestedKey.depthAll]
  | n, a :: l, h => by
    simp only [D.isKeyL, Bool.and_eq_true] at h
    have q1 := nkD_dNk n a h.1
    have q2 := nkD_dNks n l h.2
    simp only [dNks, nkDs, NestedKey.depthAll, q1.1, q2.1]
    exact ⟨trivial, by omega⟩
end
mutual
theorem eqv_nkD : ∀ a b : NestedKey, D.eqv (nkD a) (nkD b) = NestedKey.beq a b
  | a, b => by
    cases a <;> cases b <;> first
      | (simp only [nkD, D.eqv, NestedKey.beq]; exact eqv_nkDs _ _)
      | (simp [nkD, D.eqv, NestedKey.beq]; done)
      | (simp only [nkD, D.eqv, NestedKey.beq]; exact Bool.beq_eq_decide_eq _ _)
theorem eqv_nkDs : ∀ a b : List NestedKey, D.eqvL (nkDs a) (nkDs b) = NestedKey.beqAll a b
  | [], [] => by simp [nkDs, D.eqvL, NestedKey.beqAll]
  | [], _ :: _ => by simp [nkDs, D.eqvL, NestedKey.beqAll]
  | _ :: _, [] => by simp [nkDs, D.eqvL, NestedKey.beqAll]
  | a :: l, b :: m => by simp only [nkDs, D.eqvL, NestedKey.beqAll, eqv_nkD a b, eqv_nkDs l m]
end
theorem eqv_nk (a b : NestedKey) : D.eqv (nkD a) (nkD b) = decide (a = b) := by rw [eqv_nkD, NestedKey.decide_eq]
theorem eqv_kD (a b : Key) : D.eqv (kD a) (kD b) = decide (a = b) := by
  cases a <;> cases b <;> simp only [kD, D.eqv]
  · rw [key_ll]
  · rw [key_lr]
  · rw [key_rl]
  · rw [key_rr]; exact Bool.beq_eq_decide_eq _ _
theorem sortOf_nk {k : NestedKey} : sortOf (nkD k) = 1 ↔ ∃ l, k = .tup l := by
  cases k <;> simp [nkD, sortOf]
theorem nkDs_map : ∀ l : List NestedKey, nkDs l = l.map nkD
  | [] => by simp [nkDs]
  | a :: l => by simp [nkDs, nkDs_map l]

section
variable {X : Cx} {pins : List (Addr × Obj)} {σ : St} {H : Hp} {s : Shared} {W : Wd}
mutual
theorem rep_nested (I : Inv X pins σ H s) (wh : W.In H) : ∀ (k : NestedKey) (v : V) (u : Value), Rep (cOf X) W (nkD k) v → RelV v u → NestedIs s.heap k u
  | .none, v, u, x, r => by simp only [nkD, Rep] at x; subst x; cases r; exact .none
  | .num i, v, u, x, r => by simp only [nkD, Rep] at x; subst x; obtain ⟨t, rfl⟩ := r; exact .int i t
  | .text z, v, u, x, r => by simp only [nkD, Rep] at x; obtain ⟨rfl, _⟩ := x; obtain ⟨t, rfl⟩ := r; exact .text z t
  | .tup l, v, u, x, r => by
    simp only [nkD, Rep] at x
    obtain ⟨a, vs, rfl, q, rr⟩ := x
    cases r
    obtain ⟨its, ri, ⟨o, ho, hc, n, hd⟩, _⟩ := I.tuple (q.ext wh.fz)
    exact .tup ho hc hd (repL_nested I wh l vs its rr ri)
theorem repL_nested (I : Inv X pins σ H s) (wh : W.In H) : ∀ (l : List NestedKey) (vs : List V) (us : List Value), RepL (cOf X) W (nkDs l) vs → Vals vs us → NestedAll s.heap l us
  | [], vs, us, x, r => by simp only [nkDs, RepL] at x; subst x; cases r; exact .nil
  | k :: l, vs, us, x, r => by
    simp only [nkDs, RepL] at x
    obtain ⟨v, t, rfl, q1, q2⟩ := x
    cases r with
    | cons r1 r2 => exact .cons (rep_nested I wh k v _ q1 r1) (repL_nested I wh l t _ q2 r2)
end

/-! ### looking up -/
theorem dlook_nil {ds : List D} {k : D} : dlook [] ds k = none := by cases ds <;> rfl
theorem dlook_none_any : ∀ {ks ds : List D} {k : D}, ks.length = ds.length → (dlook ks ds k).isSome = ks.any fun z => D.eqv k z
  | [], ds, k, _ => by simp [dlook_nil]
  | k' :: ks, [], k, h => by simp at h
  | k' :: ks, d :: ds, k, h => by
    simp only [dlook, List.any_cons]
    cases D.eqv k k' with
    | true => simp
    | false => simp [dlook_none_any (ks := ks) (ds := ds) (k := k) (by simpa using h)]
/-- by nested keys -/
theorem look_zip {c : Cn} : ∀ {xs : List (NestedKey × Addr × Value)} {vs : List V} {ds : List D} (k : NestedKey), Vals vs (xs.map (·.2.2)) → RepL c W ds vs →
    (dlook (nkDs (xs.map (·.1))) ds (nkD k) = none ∧ atKey xs k = none) ∨ ∃ d a u v, dlook (nkDs (xs.map (·.1))) ds (nkD k) = some d ∧ atKey xs k = some (a, u) ∧ RelV v u ∧ Rep c W d v
  | [], vs, ds, k, _, _ => .inl ⟨by simp [nkDs, dlook_nil], rfl⟩
  | (k', a, u) :: xs, vs, ds, k, r, rr => by
    cases r with
    | cons r1 r2 =>
      rename_i v vs
      cases ds with
      | nil => simp only [RepL] at rr; cases rr
      | cons d ds =>
        simp only [RepL] at rr
        obtain ⟨v', t, e, q1, q2⟩ := rr
        cases e
        simp only [List.map_cons, nkDs, dlook, eqv_nk]
        by_cases h : k = k'
        · subst h
          exact .inr ⟨d, a, u, v, by simp, by simp [atKey], r1, q1⟩
        · have h' : ¬ k' = k := fun z => h z.symm
          rcases look_zip k r2 q2 with ⟨e1, e2⟩ | ⟨d', a', u', v'', e1, e2, r3, r4⟩
          · exact .inl ⟨by simp [h, e1], by simpa [atKey, h'] using e2⟩
          · exact .inr ⟨d', a', u', v'', by simp [h, e1], by simpa [atKey, h'] using e2, r3, r4⟩
/-- by numbers and texts -/
theorem look_kvs {c : Cn} : ∀ {kvs : List (Key × V)} {ds : List D} (k : Key), RepL c W ds (kvs.map (·.2)) →
    (dlook (kvs.map fun p => kD p.1) ds (kD k) = none ∧ valV kvs k = none) ∨ ∃ d v, dlook (kvs.map fun p => kD p.1) ds (kD k) = some d ∧ valV kvs k = some v ∧ Rep c W d v
  | [], ds, k, _ => .inl ⟨by simp [dlook_nil], rfl⟩
  | (k', v) :: kvs, ds, k, rr => by
    cases ds with
    | nil => simp only [List.map_cons, RepL] at rr; cases rr
    | cons d ds =>
      simp only [List.map_cons, RepL] at rr
      obtain ⟨v', t, e, q1, q2⟩ := rr
      cases e
      simp only [List.map_cons, dlook, eqv_kD]
      by_cases h : k = k'
      · subst h
        exact .inr ⟨d, v, by simp, by simp [valV], q1⟩
      · have h' : ¬ k' = k := fun z => h z.symm
        rcases look_kvs k q2 with ⟨e1, e2⟩ | ⟨d', v', e1, e2, r3⟩
        · exact .inl ⟨by simp [h, e1], by simpa [valV, h'] using e2⟩
        · exact .inr ⟨d', v', by simp [h, e1], by simpa [valV, h'] using e2, r3⟩

/-! ### a dict and a key that fits: three ways -/
theorem dn_of (I : Inv X pins σ H s) {a : Addr} {kas : List (NestedKey × Addr)} {vs : List V} (e : Rd H a (.ext (DictN X.prog X.w a kas vs))) : DictN X.prog X.w a kas vs s.heap := (e.ok I.hok).1
theorem dn_len (I : Inv X pins σ H s) {a : Addr} {kas : List (NestedKey × Addr)} {vs : List V} (e : Rd H a (.ext (DictN X.prog X.w a kas vs))) : vs.length = kas.length := by
  obtain ⟨_, _, xs, e1, rv, _⟩ := dn_of I e
  rw [← e1, rv.length]; simp
theorem dn_dict (I : Inv X pins σ H s) (wh : W.In H) {a : Addr} {kas : List (NestedKey × Addr)} {vs : List V} (e : Rd H a (.ext (DictN X.prog X.w a kas vs))) (r : RepL (cOf X) W (nkDs (kas.map (·.1))) (kas.map fun p => V.ref p.2)) :
    (a == sysModules) = false ∧ ∃ xs : List (NestedKey × Addr × Value), xs.map (fun x => (x.1, x.2.1)) = kas ∧ Vals vs (xs.map (·.2.2)) ∧ s.heap.DictOfH (nestedKind X.prog X.w) a xs ∧ xs.length ≤ sizeLine ∧ ∀ x ∈ xs, x.1.depth ≤ 8 := by
  obtain ⟨h1, h2, xs, e1, rv, o, es, ep, ho, hx, hd, he, hn, h8⟩ := dn_of I e
  refine ⟨h1, xs, e1, rv, ⟨o, es, ep, ho, hx, hd, he, fun x hm => ?_, hn⟩, by rw [← e1, List.length_map] at h2; exact h2, h8⟩
  obtain ⟨i, hi, hxi⟩ := List.getElem_of_mem hm
  have hk : (kas.map (·.1))[i]? = some x.1 := by rw [← e1]; simp [hi, hxi]
  have ha : (kas.map fun p => V.ref p.2)[i]? = some (V.ref x.2.1) := by rw [← e1]; simp [hi, hxi]
  have hk2 : (nkDs (kas.map (·.1)))[i]? = some (nkD x.1) := by rw [nkDs_map, List.getElem?_map, hk]; rfl
  obtain ⟨v, hv, q⟩ := r.get hk2
  rw [ha] at hv; cases hv
  exact ⟨rep_nested I wh x.1 _ _ q rfl, h8 x hm⟩
theorem dk_nest (I : Inv X pins σ H s) {a : Addr} (e : Rd H a (.dK [])) : (a == sysModules) = false ∧ s.heap.DictOfH (nestedKind X.prog X.w) a [] := by
  obtain ⟨_, hs, vs, r, o, es, ep, ho, hx, hd, _, hp, hn⟩ := (show ObjOk X.prog X.w H s.heap a (.dK []) from e.ok I.hok)
  cases r
  refine ⟨hs, o, es, ep, ho, hx, hd, ?_, fun x hx => by simp at hx, List.nodup_nil⟩
  cases h : es.toList with
  | nil => rfl
  | cons q t => rw [h] at hp; cases hp
inductive KeyWay (X : Cx) (W : Wd) (H : Hp) (a : Addr) (ks ds : List D) : D → V → Prop where
  | flat {kvs : List (Key × V)} (k : Key) : Rd H a (.dK kvs) → ks = kvs.map (fun p => kD p.1) → RepL (cOf X) W ds (kvs.map (·.2)) → KeyWay X W H a ks ds (kD k) (kV k)
  | nest {kas : List (NestedKey × Addr)} {vs : List V} (l : List NestedKey) (b : Addr) : Rd H a (.ext (DictN X.prog X.w a kas vs)) → kas ≠ [] → ks = nkDs (kas.map (·.1)) → RepL (cOf X) W ks (kas.map fun p => V.ref p.2) → RepL (cOf X) W ds vs →
      Rep (cOf X) W (nkD (.tup l)) (.ref b) → (NestedKey.tup l).depth ≤ 8 → KeyWay X W H a ks ds (nkD (.tup l)) (.ref b)
  | first (l : List NestedKey) (b : Addr) : Rd H a (.dK []) → ks = [] → ds = [] → Rep (cOf X) W (nkD (.tup l)) (.ref b) → (NestedKey.tup l).depth ≤ 8 → KeyWay X W H a ks ds (nkD (.tup l)) (.ref b)
theorem keyWay (wh : W.In H) {a : Addr} {o : HO} {ks ds : List D} {k : D} {y : V} (e : Rd H a o) (x : ObAt (cOf X) W a o (.dic ks ds)) (f : keyFits ks k = true) (ry : Rdv (cOf X) W H k y) : KeyWay X W H a ks ds k y := by
  unfold keyFits at f
  simp only [Bool.and_eq_true, List.all_eq_true, beq_iff_eq] at f
  obtain ⟨⟨f1, f2⟩, f3⟩ := f
  rcases x with ⟨kvs, rfl, e2, r⟩ | ⟨kas, vs, rfl, hne, e2, r1, r2⟩
  · cases k with
    | int i => cases rdv_int ry; exact .flat (.inl i) e e2 r
    | str z => obtain ⟨rfl, _⟩ := rdv_str ry; exact .flat (.inr z) e e2 r
    | tup l =>
      cases kvs with
      | cons p t =>
        have := f3 (kD p.1) (by rw [e2]; simp)
        cases hp : p.1 <;> rw [hp] at this <;> simp [kD, sortOf] at this
      | nil =>
        obtain ⟨g1, g2⟩ := nkD_dNk 8 _ f1
        have ry : Rep (cOf X) W (.tup l) y := ry
        have hy := ry
        simp only [Rep] at hy
        obtain ⟨b, vs, rfl, _⟩ := hy
        have hds : ds = [] := List.eq_nil_of_length_eq_zero (r.length.trans rfl)
        have g1' : nkD (.tup (dNks l)) = .tup l := g1
        rw [← g1']
        exact .first (dNks l) b e (by simpa using e2) hds (by rw [g1']; exact ry) g2
    | _ => simp [topKey] at f2
  · cases k with
    | tup l =>
      obtain ⟨g1, g2⟩ := nkD_dNk 8 _ f1
      have ry : Rep (cOf X) W (.tup l) y := ry
      have hy := ry
      simp only [Rep] at hy
      obtain ⟨b, ws, rfl, _⟩ := hy
      have g1' : nkD (.tup (dNks l)) = .tup l := g1
      rw [← g1']
      exact .nest (dNks l) b e hne e2 r1 r2 (by rw [g1']; exact ry) g2
    | int i =>
      exfalso
      cases kas with
      | nil => exact hne rfl
      | cons p t =>
        have h1 := f3 (nkD p.1) (by rw [e2]; simp [nkDs])
        have hr : Rep (cOf X) W (nkD p.1) (.ref p.2) := by
          rw [e2] at r1
          simp only [List.map_cons, nkDs, RepL] at r1
          obtain ⟨v, t', e', q, _⟩ := r1
          cases e'; exact q
        cases hp : p.1 <;> rw [hp] at h1 hr <;> simp [nkD, sortOf, Rep] at h1 hr
    | str i =>
      exfalso
      cases kas with
      | nil => exact hne rfl
      | cons p t =>
        have h1 := f3 (nkD p.1) (by rw [e2]; simp [nkDs])
        have hr : Rep (cOf X) W (nkD p.1) (.ref p.2) := by
          rw [e2] at r1
          simp only [List.map_cons, nkDs, RepL] at r1
          obtain ⟨v, t', e', q, _⟩ := r1
          cases e'; exact q
        cases hp : p.1 <;> rw [hp] at h1 hr <;> simp [nkD, sortOf, Rep] at h1 hr
    | _ => simp [topKey] at f2

/-! ### the operations -/
section
variable {A : Around} (hu : A.units + 80 < cLine) {E : Value → Shared → Prop} {a : Addr} {ks ds : List D} {k : D} {y : V} {u : Value}
include hu
theorem room8 : (nestedKind X.prog X.w).room A.in1 := by
  show A.units + 1 + 8 < cLine
  omega
/-- k in d -/
theorem dd_in {Q : Value → Shared → Prop} (I : Inv X pins σ H s) (wh : W.In H) (kw : KeyWay X W H a ks ds k y) (ry : RelV y u) (h : ∀ s', Inv X pins σ H s' → Q (.bool (dlook ks ds k).isSome) s') :
    wpAny (model X.prog X.w) A (compareOp .In u (.ref a)) Q E s := by
  cases kw with
  | flat k e1 e2 r =>
    refine d_in (by omega) I (.inl ⟨_, k, e1, rfl, rfl⟩) ry fun s' I' => ?_
    subst e2
    rcases look_kvs (c := cOf X) k r with ⟨q1, q2⟩ | ⟨d, v, q1, q2, _⟩ <;> (rw [q2]; have := h s' I'; rw [q1] at this; exact this)
  | nest l b e1 hne e2 r1 r2 rk h8 =>
    subst e2
    obtain ⟨hs, xs, rfl, rv, dd, hz, h8'⟩ := dn_dict I wh e1 r1
    cases (show u = Value.ref b from ry)
    refine wpAny_in_heap (room8 hu) ⟨rep_nested I wh _ _ _ rk rfl, h8⟩ hs dd ?_
    have h' := h _ (I.tok (s.toks + (nestedKind X.prog X.w).draws (.tup l)))
    rw [List.map_map] at h'
    rcases look_zip (c := cOf X) (.tup l) rv r2 with ⟨q1, q2⟩ | ⟨d, a', u', v, q1, q2, _⟩ <;> (rw [q2]; rw [show ((fun x : NestedKey × Addr => x.1) ∘ fun x : NestedKey × Addr × Value => (x.1, x.2.1)) = (·.1) from rfl, q1] at h'; exact h')
  | first l b e1 e2 e3 rk h8 =>
    subst e2 e3
    obtain ⟨hs, dd⟩ := dk_nest I e1
    cases (show u = Value.ref b from ry)
    refine wpAny_in_heap (room8 hu) ⟨rep_nested I wh _ _ _ rk rfl, h8⟩ hs dd ?_
    exact h _ (I.tok _)
theorem dd_notIn {Q : Value → Shared → Prop} (I : Inv X pins σ H s) (wh : W.In H) (kw : KeyWay X W H a ks ds k y) (ry : RelV y u) (h : ∀ s', Inv X pins σ H s' → Q (.bool (!(dlook ks ds k).isSome)) s') :
    wpAny (model X.prog X.w) A (compareOp .NotIn u (.ref a)) Q E s := by
  cases kw with
  | flat k e1 e2 r =>
    refine d_notIn (by omega) I (.inl ⟨_, k, e1, rfl, rfl⟩) ry fun s' I' => ?_
    subst e2
    rcases look_kvs (c := cOf X) k r with ⟨q1, q2⟩ | ⟨d, v, q1, q2, _⟩ <;> (rw [q2]; have := h s' I'; rw [q1] at this; exact this)
  | nest l b e1 hne e2 r1 r2 rk h8 =>
    subst e2
    obtain ⟨hs, xs, rfl, rv, dd, hz, h8'⟩ := dn_dict I wh e1 r1
    cases (show u = Value.ref b from ry)
    refine PyProof.Rows.wpAny_notIn_heap (room8 hu) ⟨rep_nested I wh _ _ _ rk rfl, h8⟩ hs dd ?_
    have h' := h _ (I.tok (s.toks + (nestedKind X.prog X.w).draws (.tup l)))
    rw [List.map_map] at h'
    rcases look_zip (c := cOf X) (.tup l) rv r2 with ⟨q1, q2⟩ | ⟨d, a', u', v, q1, q2, _⟩ <;> (rw [q2]; rw [show ((fun x : NestedKey × Addr => x.1) ∘ fun x : NestedKey × Addr × Value => (x.1, x.2.1)) = (·.1) from rfl, q1] at h'; exact h')
  | first l b e1 e2 e3 rk h8 =>
    subst e2 e3
    obtain ⟨hs, dd⟩ := dk_nest I e1
    cases (show u = Value.ref b from ry)
    refine PyProof.Rows.wpAny_notIn_heap (room8 hu) ⟨rep_nested I wh _ _ _ rk rfl, h8⟩ hs dd ?_
    exact h _ (I.tok _)
/-- d[k] -/
theorem dd_get {d : D} {Q : Value → Shared → Prop} (I : Inv X pins σ H s) (wh : W.In H) (kw : KeyWay X W H a ks ds k y) (ry : RelV y u) (hd : dlook ks ds k = some d) (h : ∀ v w' s', Inv X pins σ H s' → RelV v w' → Rep (cOf X) W d v → Q w' s') :
    wpAny (model X.prog X.w) A (getItem (.ref a) u) Q E s := by
  cases kw with
  | flat k e1 e2 r =>
    subst e2
    rcases look_kvs (c := cOf X) k r with ⟨q1, q2⟩ | ⟨d', v, q1, q2, q3⟩
    · rw [q1] at hd; cases hd
    · rw [q1] at hd; cases hd
      refine d_getItem (by omega) I (by rw [← q2]; exact .inl ⟨_, k, e1, rfl, rfl⟩) ry fun w' s' I' r' => h v w' s' I' r' q3
  | nest l b e1 hne e2 r1 r2 rk h8 =>
    subst e2
    obtain ⟨hs, xs, rfl, rv, dd, hz, h8'⟩ := dn_dict I wh e1 r1
    cases (show u = Value.ref b from ry)
    rw [List.map_map, show ((fun x : NestedKey × Addr => x.1) ∘ fun x : NestedKey × Addr × Value => (x.1, x.2.1)) = (·.1) from rfl] at hd
    rcases look_zip (c := cOf X) (.tup l) rv r2 with ⟨q1, q2⟩ | ⟨d', a', u', v, q1, q2, q3, q4⟩
    · rw [q1] at hd; cases hd
    · rw [q1] at hd; cases hd
      exact wpAny_getItem_heap (room8 hu) ⟨rep_nested I wh _ _ _ rk rfl, h8⟩ dd q2 (h v u' _ (I.tok _) q3 q4)
  | first l b e1 e2 e3 rk h8 => subst e2 e3; simp [dlook] at hd
end
end
end Pv

set_option autoImplicit false
set_option linter.all false
set_option maxRecDepth 100000
/-! Pv: expressions, the judgements and their plain steps. -/
namespace Pv
open PySem L2

section
variable {c : Cn} {G : Hp} {io : Io} {W W' : Wd} {H H' : Hp} {σ : St} {ρ : Env} {F : Nat → Bool}
/-- a new owned value beside the environment -/
theorem EnvOk.growNew (E : EnvOk c G io W H σ ρ F) (g : Grow W H W' H') {b : Bool} {d : D} {v : V} {S : List Addr} (x : OwnB c W' H' b d v S) (n : ∀ a ∈ S, H a = none) : EnvOk c (addG G H' S) io W' H' σ ρ F where
  wh := g.wh
  g := fun a o e => by
    unfold addG at e
    by_cases hS : a ∈ S
    · rw [if_pos hS] at e
      exact ⟨e, (x.at a hS).1⟩
    · rw [if_neg hS] at e
      obtain ⟨h1, h2⟩ := E.g a o e
      exact g.kp a o h1 h2
  len := E.len
  sl := by
    obtain ⟨fp, h1, h2, h3, h4⟩ := E.sl
    refine ⟨fp, fun i d e => ?_, h2, fun i a ha => ?_, h4⟩
    · obtain ⟨v, q1, q2⟩ := h1 i d e
      refine ⟨v, q1, q2.keep g.le (fun a ha o ho => (g.kp a o ho (q2.at a ha).1).1) fun a ha => ?_⟩
      obtain ⟨n, o, ho⟩ := q2.at a ha
      exact (g.kp a o ho n).2
    · obtain ⟨d, e⟩ := h4 i a ha
      obtain ⟨v, _, q2⟩ := h1 i d e
      obtain ⟨_, o, ho⟩ := q2.at a ha
      have hS : a ∉ S := fun z => by rw [n a z] at ho; cases ho
      unfold addG
      rw [if_neg hS]
      exact h3 i a ha
  io := fun p hp => (E.io p hp).mono g.le
theorem EnvOk.gNone (E : EnvOk c G io W H σ ρ F) {a : Addr} (h : H a = none) : G a = none := by
  cases e : G a with
  | none => rfl
  | some o => rw [(E.g a o e).1] at h; cases h
/-- how an evaluation ends -/
def Fin (c : Cn) (G : Hp) (io : Io) (σ : St) (ρ : Env) (F : Nat → Bool) (W0 : Wd) (b : Bool) (d : D) (Q : VK) : Prop :=
  ∀ v H' W' S, W0.le W' → EnvOk c (addG G H' S) io W' H' σ ρ F → OwnB c W' H' b d v S → (∀ a ∈ S, G a = none) → Q v H'
theorem Fin.res {b : Bool} {d : D} {Q : VK} {W0 : Wd} (h : Fin c G io σ ρ F W0 b d Q) (l : W0.le W) (E : EnvOk c G io W H σ ρ F) : Res c b W H d Q := fun v H' W' S g x n =>
  h v H' W' S (l.trans g.le) (E.growNew g x n) x fun a ha => E.gNone (n a ha)
theorem Fin.rep {d : D} {Q : VK} {W0 : Wd} {v : V} (h : Fin c G io σ ρ F W0 false d Q) (l : W0.le W) (E : EnvOk c G io W H σ ρ F) (r : Rep c W d v) : Q v H :=
  h v H W [] l (by rw [addG_nil]; exact E) ⟨r, rfl⟩ (by simp)
/-- data without an own place -/
def D.bare : D → Bool
  | .lst _ => false
  | .dic _ _ => false
  | .obj _ _ _ => false
  | _ => true
theorem own_bare {d : D} {v : V} (h : d.bare = true) : Own c W H d v [] ↔ Rep c W d v := by
  cases d <;> first | (exact absurd (show false = true from h) (by decide)) | (simp [Own])
theorem Fin.bare {d : D} {Q : VK} {W0 : Wd} {v : V} (h : Fin c G io σ ρ F W0 true d Q) (l : W0.le W) (E : EnvOk c G io W H σ ρ F) (hb : d.bare = true) (r : Rep c W d v) : Q v H :=
  h v H W [] l (by rw [addG_nil]; exact E) ((own_bare hb).mpr r) (by simp)
end

/-! ### judgements -/
def teD (X : Cx) (io : Io) (b : Bool) (m : Env → R D) (F F' : Nat → Bool) : TE := fun σ H Q =>
  ∃ G W ρ, EnvOk (cOf X) G io W H σ ρ F ∧ (m ρ).Sat fun d => Fin (cOf X) G io σ ρ F' W b d Q
def teB (X : Cx) (io : Io) (m : Env → R D) (F F' : Nat → Bool) : TE := fun σ H Q =>
  ∃ G W ρ, EnvOk (cOf X) G io W H σ ρ F ∧ (m ρ).Sat fun d => ∀ v H' W', W.le W' → EnvOk (cOf X) G io W' H' σ ρ F' → Bor (cOf X) W' σ ρ d v → Q v H'
def taD (X : Cx) (io : Io) (m : Env → R (List D)) (F F' : Nat → Bool) : TA := fun σ H Q =>
  ∃ G W ρ, EnvOk (cOf X) G io W H σ ρ F ∧ (m ρ).Sat fun ds => ∀ vs H' W', W.le W' → EnvOk (cOf X) G io W' H' σ ρ F' → RepL (cOf X) W' ds vs → Q vs H'
def taB (X : Cx) (io : Io) (m : Env → R (List D)) (F F' : Nat → Bool) : TA := fun σ H Q =>
  ∃ G W ρ, EnvOk (cOf X) G io W H σ ρ F ∧ (m ρ).Sat fun ds => ∀ vs H' W', W.le W' → EnvOk (cOf X) G io W' H' σ ρ F' → BorL (cOf X) W' σ ρ ds vs → Q vs H'
def ttD (X : Cx) (io : Io) (m : Env → R Bool) (F F' : Nat → Bool) : TT := fun σ H Q =>
  ∃ G W ρ, EnvOk (cOf X) G io W H σ ρ F ∧ (m ρ).Sat fun b => ∀ H' W', W.le W' → EnvOk (cOf X) G io W' H' σ ρ F' → Q b H'

section
variable {X : Cx} {io : Io} {m : Env → R D} {F F' : Nat → Bool} {e : Expr}
theorem _root_.L2.PE.imp {t t' : TE} (h : PE X e t) (i : ∀ σ H Q, t' σ H Q → t σ H Q) : PE X e t' := ⟨fun pins s σ H Q I q => h.run pins s σ H Q I (i σ H Q q)⟩
theorem _root_.L2.PT.imp {t t' : TT} (h : PT X e t) (i : ∀ σ H Q, t' σ H Q → t σ H Q) : PT X e t' := ⟨fun pins s σ H Q I q => h.run pins s σ H Q I (i σ H Q q)⟩
theorem _root_.L2.PA.imp {es : List Expr} {t t' : TA} (h : PA X es t) (i : ∀ σ H Q, t' σ H Q → t σ H Q) : PA X es t' := ⟨fun pos pins s σ H Q I q => h.run pos pins s σ H Q I (i σ H Q q)⟩
theorem _root_.L2.PE.froze (h : PE X e (teD X io true m F F')) : PE X e (teD X io false m F F') := h.imp fun σ H Q ⟨G, W, ρ, E, s⟩ =>
  ⟨G, W, ρ, E, s.mono fun d f v H' W' S l E' x n => by
    obtain ⟨W2, l2, E2, r⟩ := E'.freeze n x
    exact f.rep (l.trans l2) E2 r⟩
theorem _root_.L2.PE.any {b : Bool} (h : PE X e (teD X io b m F F')) : PE X e (teD X io false m F F') := by
  cases b with
  | true => exact h.froze
  | false => exact h
theorem _root_.L2.PE.bor (h : PE X e (teD X io false m F F')) : PE X e (teB X io m F F') := h.imp fun σ H Q ⟨G, W, ρ, E, s⟩ =>
  ⟨G, W, ρ, E, s.mono fun d f v H' W' S l E' x n => by
    obtain ⟨r, rfl⟩ := x
    rw [addG_nil] at E'
    exact f v H' W' l E' (.inl r)⟩
theorem _root_.L2.PE.flags {b : Bool} {F2 : Nat → Bool} (h : PE X e (teD X io b m F F')) (hf : ∀ i, F2 i = true → F' i = true) : PE X e (teD X io b m F F2) := h.imp fun σ H Q ⟨G, W, ρ, E, s⟩ =>
  ⟨G, W, ρ, E, s.mono fun d f v H' W' S l E' x n => by
    obtain ⟨W2, l2, E2⟩ := E'.lowers hf
    refine f v H' W2 S (l.trans l2) E2 (x.keep l2 (fun _ _ _ h => h) fun a ha => ?_) n
    obtain ⟨_, o, ho⟩ := x.at a ha
    exact (E2.g a o (by unfold addG; rw [if_pos ha]; exact ho)).2⟩
theorem _root_.L2.PT.flags {m : Env → R Bool} {F2 : Nat → Bool} (h : PT X e (ttD X io m F F')) (hf : ∀ i, F2 i = true → F' i = true) : PT X e (ttD X io m F F2) := h.imp fun σ H Q ⟨G, W, ρ, E, s⟩ =>
  ⟨G, W, ρ, E, s.mono fun d f H' W' l E' => by
    obtain ⟨W2, l2, E2⟩ := E'.lowers hf
    exact f H' W2 (l.trans l2) E2⟩

/-! ### names, constants -/
theorem getV_of {ρ : Env} {i : Nat} {P : D → Prop} (s : (getV ρ i).Sat P) : ∃ d, ρ[i]? = some (some d) ∧ P d := by
  unfold getV at s
  split at s
  · exact ⟨_, by assumption, s⟩
  · exact s.elim
theorem e_varB {i : Nat} {x : Str} {pos : Pos} (hN : X.N[i]? = some x) (hv : Vis X.env.scope x) (hd : (x == ("__debug__" : Str)) = false) (hcd : (x == ("__classdict__" : Str)) = false) : PE X (.Name x pos) (teB X io (fun ρ => getV ρ i) F F) :=
  (pe_var hN hv hd hcd).imp fun σ H Q ⟨G, W, ρ, E, s⟩ => by
    obtain ⟨d, hi, f⟩ := getV_of s
    obtain ⟨v, h1, _⟩ := E.get hi
    exact ⟨v, h1, f v H W (.refl W) E (.inr ⟨i, h1, hi⟩)⟩
theorem e_var {i : Nat} {x : Str} {pos : Pos} (hN : X.N[i]? = some x) (hv : Vis X.env.scope x) (hd : (x == ("__debug__" : Str)) = false) (hcd : (x == ("__classdict__" : Str)) = false) : PE X (.Name x pos) (teD X io false (fun ρ => getV ρ i) F (fun j => if j = i then false else F j)) :=
  (pe_var hN hv hd hcd).imp fun σ H Q ⟨G, W, ρ, E, s⟩ => by
    obtain ⟨d, hi, f⟩ := getV_of s
    obtain ⟨W', l, E', g⟩ := E.lower i
    obtain ⟨v, h1, r⟩ := g d hi
    exact ⟨v, h1, f.rep l E' r⟩
theorem e_con {d : D} {v : V} (h : PE X e (tC v)) (hb : d.bare = true) (r : ∀ W, Rep (cOf X) W d v) : PE X e (teD X io true (fun _ => .ok d) F F) :=
  h.imp fun σ H Q ⟨G, W, ρ, E, s⟩ => (show Fin (cOf X) G io σ ρ F W true d Q from s).bare (.refl W) E hb (r W)

/-! ### operators -/
theorem e_op2 {f : Value → Value → Sem Value} {g : D → D → R D} {a b : Expr} {ma mb : Env → R D} {F1 : Nat → Bool} {mk : Expr} (ho : ∀ {ta tb : TE}, PE X a ta → PE X b tb → PE X mk (tOp (rD X g) ta tb))
    (ha : PE X a (teB X io ma F F1)) (hb : PE X b (teB X io mb F1 F')) : PE X mk (teD X io true (fun ρ => (ma ρ).bind fun x => (mb ρ).bind fun y => g x y) F F') :=
  (ho ha hb).imp fun σ H Q ⟨G, W, ρ, E, s⟩ =>
    ⟨G, W, ρ, E, (R.Sat.bind.mp s).mono fun dx hx v1 H1 W1 l1 E1 b1 => ⟨G, W1, ρ, E1, (R.Sat.bind.mp hx).mono fun dy hy v2 H2 W2 l2 E2 b2 =>
      ⟨W2, dx, dy, E2.wh, (b1.mono l2).rd E2, b2.rd E2, hy.mono fun d h => h.res (l1.trans l2) E2⟩⟩⟩
theorem e_bin {o : Operator} {g : D → D → R D} {a b : Expr} {pos : Pos} {ma mb : Env → R D} {F1 : Nat → Bool} (ho : OpR X (binaryOp o) (rD X g)) (ha : PE X a (teB X io ma F F1)) (hb : PE X b (teB X io mb F1 F')) :
    PE X (.BinOp a o b pos) (teD X io true (fun ρ => (ma ρ).bind fun x => (mb ρ).bind fun y => g x y) F F') := e_op2 (f := binaryOp o) (fun ha hb => pe_op ho ha hb) ha hb
theorem e_cmp {o : CmpOp} {g : D → D → R D} {a b : Expr} {pos : Pos} {ma mb : Env → R D} {F1 : Nat → Bool} (ho : OpR X (compareOp o) (rD X g)) (ha : PE X a (teB X io ma F F1)) (hb : PE X b (teB X io mb F1 F')) (hm : behindInMarks o b = false) :
    PE X (.Compare a [o] [b] pos) (teD X io true (fun ρ => (ma ρ).bind fun x => (mb ρ).bind fun y => g x y) F F') := e_op2 (f := compareOp o) (fun ha hb => pe_cmpR ho ha hb hm) ha hb
/-- its truth -/
theorem t_cmp {o : CmpOp} {g : D → D → R D} {a b : Expr} {pos : Pos} {ma mb : Env → R D} {F1 : Nat → Bool} (ho : OpR X (compareOp o) (rD X g)) (hg : ∀ (x y : D) (P : D → Prop), (g x y).Sat P → (g x y).Sat fun d => (∃ k, d = .bl k) ∧ P d) (ha : PE X a (teB X io ma F F1)) (hb : PE X b (teB X io mb F1 F')) (hm : behindInMarks o b = false) :
    PT X (.Compare a [o] [b] pos) (ttD X io (fun ρ => ((ma ρ).bind fun x => (mb ρ).bind fun y => g x y).bind D.truthy) F F') :=
  (pt_cmpR ho ha hb hm).imp fun σ H Q ⟨G, W, ρ, E, s⟩ =>
    ⟨G, W, ρ, E, (R.Sat.bind.mp (R.Sat.bind.mp s)).mono fun dx hx v1 H1 W1 l1 E1 b1 => ⟨G, W1, ρ, E1, (R.Sat.bind.mp hx).mono fun dy hy v2 H2 W2 l2 E2 b2 =>
      ⟨W2, dx, dy, E2.wh, (b1.mono l2).rd E2, b2.rd E2, (hg _ _ _ hy).mono fun d ⟨⟨k, hk⟩, h⟩ => by
        subst hk
        intro v H' W' S g' x n
        obtain ⟨r, rfl⟩ := x
        simp only [Rep] at r
        have E3 := E2.grow g'
        exact ⟨k, r, (show ∀ H' W', W.le W' → EnvOk (cOf X) G io W' H' σ ρ F' → Q k H' from h) H' W' ((l1.trans l2).trans g'.le) E3⟩⟩⟩⟩
end
end Pv

set_option autoImplicit false
set_option linter.all false
set_option maxRecDepth 100000
/-! Pv: membership, identity, built-in functions on values. -/
namespace Pv
open PySem L2
section
variable {X : Cx}
theorem any_toPy {n m : Nat} {x : D} : ∀ {l : List D}, D.plainL n l = true → D.plain m x = true → ((toPyL l).any fun y => PyData.eqv y (toPy x)) = l.any fun y => D.eqv y x
  | [], _, _ => by simp [toPyL]
  | a :: l, h, hx => by
    simp only [D.plainL, Bool.and_eq_true] at h
    simp only [toPyL, List.any_cons, eqv_toPy n m a x h.1 hx, any_toPy (l := l) h.2 hx]
theorem plain_tup {n : Nat} {l : List D} : D.plain (n + 1) (.tup l) = D.plainL n l := by simp [D.plain]
theorem plain_lst {n : Nat} {l : List D} : D.plain (n + 1) (.lst l) = D.plainL n l := by simp [D.plain]
/-- the two memberships at once: neg tells not in -/
theorem op_inG (hu : X.A.units + 80 < cLine) (neg : Bool) : OpR X (compareOp (if neg then .NotIn else .In)) (rD X fun x y => (inD x y).bind fun b => .ok (.bl (b != neg))) := by
  intro pins s σ H x y v u Q I rx ry h
  obtain ⟨W, dx, dy, wh, hx, hy, q⟩ := h
  have q := R.Sat.bind.mp q
  have fin : ∀ b : Bool, Res (cOf X) true W H (.bl (b != neg)) Q → Q (.bl (b != neg)) H := fun b r => Res.bl r wh
  cases dy with
  | str z =>
    cases dx with
    | str a =>
      obtain ⟨rfl, _⟩ := rdv_str hy
      obtain ⟨rfl, _⟩ := rdv_str hx
      simp only [inD] at q
      cases ha : a.cps.toList with
      | nil => rw [ha] at q; exact q.elim
      | cons k t =>
        cases t with
        | cons _ _ => rw [ha] at q; exact q.elim
        | nil =>
          rw [ha] at q
          have ea : a = ⟨#[k]⟩ := by
            cases a with
            | mk cps =>
              have : cps = #[k] := by rw [← Array.toArray_toList (xs := cps)]; rw [show cps.toList = [k] from ha]
              rw [this]
          subst ea
          have r := fin _ q
          cases neg with
          | true => exact op_notIn_sign pins s σ H _ _ v u Q I rx ry ⟨k, z, rfl, rfl, by simpa using r⟩
          | false => exact op_in_sign pins s σ H _ _ v u Q I rx ry ⟨k, z, rfl, rfl, by simpa using r⟩
    | _ => exact q.elim
  | tup l =>
    have q : (if (D.plain 32 dx && D.plainL 32 l) = true then R.ok (l.any fun z => D.eqv z dx) else .bad).Sat _ := q
    obtain ⟨hp, q⟩ := sat_if q
    obtain ⟨p1, p2⟩ := Bool.and_eq_true_iff.mp hp
    obtain ⟨as, r1⟩ := hx.reads I wh p1 rx
    obtain ⟨bs, r2⟩ := Rdv.reads (n := 33) I wh hy (by rw [plain_tup]; exact p2) ry
    have d1 := plain_toPy 32 dx p1
    have d2 := plain_toPyL 32 l p2
    have r := fin _ q
    simp only [toPy] at r2
    cases neg with
    | true =>
      refine PySem.SeqAt.notIn_tuple_data r2 r1 d2.1 d1.1 (by omega) ?_
      rw [any_toPy p2 p1]
      exact ⟨.bl _, H, I, rfl, by simpa using r⟩
    | false =>
      refine PySem.SeqAt.in_tuple_data r2 r1 d2.1 d1.1 (by omega) ?_
      rw [any_toPy p2 p1]
      exact ⟨.bl _, H, I, rfl, by simpa using r⟩
  | lst l =>
    have q : (if (D.plain 32 dx && D.plainL 32 l) = true then R.ok (l.any fun z => D.eqv z dx) else .bad).Sat _ := q
    obtain ⟨hp, q⟩ := sat_if q
    obtain ⟨p1, p2⟩ := Bool.and_eq_true_iff.mp hp
    obtain ⟨as, r1⟩ := hx.reads I wh p1 rx
    obtain ⟨bs, r2⟩ := Rdv.reads (n := 33) I wh hy (by rw [plain_lst]; exact p2) ry
    have d1 := plain_toPy 32 dx p1
    have d2 := plain_toPyL 32 l p2
    have r := fin _ q
    simp only [toPy] at r2
    cases neg with
    | true =>
      refine PySem.SeqAt.notIn_list_data r2 r1 d2.1 d1.1 (by omega) ?_
      rw [any_toPy p2 p1]
      exact ⟨.bl _, H, I, rfl, by simpa using r⟩
    | false =>
      refine PySem.SeqAt.in_list_data r2 r1 d2.1 d1.1 (by omega) ?_
      rw [any_toPy p2 p1]
      exact ⟨.bl _, H, I, rfl, by simpa using r⟩
  | dic ks ds =>
    have q : (if keyFits ks dx = true then R.ok (ks.any fun z => D.eqv dx z) else .bad).Sat _ := q
    obtain ⟨hp, q⟩ := sat_if q
    obtain ⟨a, o, rfl, hr, ob⟩ := hy
    cases ry
    have kw := keyWay wh hr ob hp hx
    have hl : ks.length = ds.length := by
      rcases ob with ⟨kvs, _, e, r⟩ | ⟨kas, vs, _, _, e, r1, r2⟩
      · rw [e, r.length]; simp
      · subst_vars
        have z := r1.length
        have z2 := r2.length
        have z3 := dn_len I hr
        rw [z, z2, z3, List.length_map]
    have r := fin _ q
    cases neg with
    | true => exact dd_notIn hu I wh kw rx fun s' I' => ⟨.bl _, H, I', rfl, by rw [dlook_none_any hl]; simpa using r⟩
    | false => exact dd_in hu I wh kw rx fun s' I' => ⟨.bl _, H, I', rfl, by rw [dlook_none_any hl]; simpa using r⟩
  | _ => exact q.elim
theorem op_inD (hu : X.A.units + 80 < cLine) : OpR X (compareOp .In) (rD X (binD .inn)) := by
  intro pins s σ H x y v u Q I rx ry h
  obtain ⟨W, dx, dy, wh, hx, hy, q⟩ := h
  have q : ((inD dx dy).bind fun b => R.ok (D.bl b)).Sat fun d => Res (cOf X) true W H d Q := by cases dx <;> cases dy <;> exact q
  exact op_inG hu false pins s σ H x y v u Q I rx ry ⟨W, dx, dy, wh, hx, hy, by
    refine R.Sat.bind.mpr ((R.Sat.bind.mp q).mono fun b h => ?_)
    simpa using h⟩
theorem op_notInD (hu : X.A.units + 80 < cLine) : OpR X (compareOp .NotIn) (rD X (binD .notin)) := by
  intro pins s σ H x y v u Q I rx ry h
  obtain ⟨W, dx, dy, wh, hx, hy, q⟩ := h
  have q : ((inD dx dy).bind fun b => R.ok (D.bl (!b))).Sat fun d => Res (cOf X) true W H d Q := by cases dx <;> cases dy <;> exact q
  exact op_inG hu true pins s σ H x y v u Q I rx ry ⟨W, dx, dy, wh, hx, hy, by
    refine R.Sat.bind.mpr ((R.Sat.bind.mp q).mono fun b h => ?_)
    simpa using h⟩
/-! ### is -/
theorem rdv_isNon {c : Cn} {W : Wd} {H : Hp} {d : D} {v : V} (h : Rdv c W H d v) : decide (v = V.non) = d.isNon := by
  cases d <;> simp only [Rdv, Rep, D.isNon] at h ⊢
  case non => subst h; rfl
  case bl => subst h; rfl
  case int => subst h; rfl
  case str => rw [h.1]; rfl
  case tup => obtain ⟨_, _, rfl, _⟩ := h; rfl
  case lst => obtain ⟨_, _, rfl, _⟩ := h; rfl
  case dic => obtain ⟨_, _, rfl, _⟩ := h; rfl
  case obj => obtain ⟨_, _, _, _, rfl, _⟩ := h; rfl
  case fn => obtain ⟨_, rfl, _⟩ := h; rfl
  case bowl => obtain ⟨_, rfl, _⟩ := h; rfl
  case clo => obtain ⟨_, _, _, _, _, _, rfl, _⟩ := h; rfl
theorem op_isD : OpR X (compareOp .Is) (rD X (isD false)) := by
  intro pins s σ H x y v u Q I rx ry h
  obtain ⟨W, dx, dy, wh, hx, hy, q⟩ := h
  cases dy with
  | non =>
    cases rdv_non hy
    have q : Res (cOf X) true W H (.bl (dx.isNon != false)) Q := by cases dx <;> exact q
    have r := Res.bl q wh
    exact op_isN pins s σ H x _ v u Q I rx ry ⟨rfl, by rw [rdv_isNon hx]; simpa using r⟩
  | bl b =>
    cases dx with
    | bl a =>
      cases rdv_bl hx; cases rdv_bl hy
      have r := Res.bl (show Res (cOf X) true W H (.bl ((a == b) != false)) Q from q) wh
      exact op_is_bl pins s σ H _ _ v u Q I rx ry ⟨a, b, rfl, rfl, by rw [← Bool.beq_eq_decide_eq]; simpa using r⟩
    | _ => exact q.elim
  | _ => cases dx <;> exact q.elim
theorem op_isnotD : OpR X (compareOp .IsNot) (rD X (isD true)) := by
  intro pins s σ H x y v u Q I rx ry h
  obtain ⟨W, dx, dy, wh, hx, hy, q⟩ := h
  cases dy with
  | non =>
    cases rdv_non hy
    have q : Res (cOf X) true W H (.bl (dx.isNon != true)) Q := by cases dx <;> exact q
    have r := Res.bl q wh
    exact op_notN pins s σ H x _ v u Q I rx ry ⟨rfl, by rw [rdv_isNon hx]; simpa using r⟩
  | bl b =>
    cases dx with
    | bl a =>
      cases rdv_bl hx; cases rdv_bl hy
      have r := Res.bl (show Res (cOf X) true W H (.bl ((a == b) != true)) Q from q) wh
      exact op_isnot_bl pins s σ H _ _ v u Q I rx ry ⟨a, b, rfl, rfl, by rw [← Bool.beq_eq_decide_eq]; simpa using r⟩
    | _ => exact q.elim
  | _ => cases dx <;> exact q.elim

/-! ### truth -/
theorem tru_okD : TruR X (fun v H Q => ∃ W d, W.In H ∧ Rdv (cOf X) W H d v ∧ d.truthy.Sat fun b => Q b H) := by
  intro pins s σ H x v Q I rx h
  obtain ⟨W, d, wh, hx, q⟩ := h
  have go : ∀ k, TruV X.K x H k → Q k H → wpAny (model X.prog X.w) X.A (truthy v) (TP X pins σ Q) X.xe s := fun k h1 h2 => tru_ok pins s σ H x v Q I rx ⟨k, h1, h2⟩
  cases d with
  | non => cases rdv_non hx; exact go false rfl q
  | bl b => cases rdv_bl hx; exact go b rfl q
  | int i => cases rdv_int hx; exact go (i != 0) rfl q
  | str z =>
    obtain ⟨rfl, hz⟩ := rdv_str hx
    refine go _ ⟨hz, rfl⟩ ?_
    have e : (((z.length : Nat) : Int) != 0) = !z.cps.isEmpty := by
      show ((((z.cps.size : Nat)) : Int) != 0) = !z.cps.isEmpty
      have : z.cps.isEmpty = decide (z.cps.size = 0) := rfl
      rw [this]
      cases z.cps.size with
      | zero => rfl
      | succ n => simp <;> omega
    rw [e]; exact q
  | tup l =>
    obtain ⟨a, vs, rfl, h1, r⟩ := rdv_tup wh hx
    refine go _ (.inr (.inl ⟨vs, h1, rfl⟩)) ?_
    have : vs.isEmpty = l.isEmpty := by have := r.length; cases vs <;> cases l <;> simp_all
    rw [this]; exact q
  | lst l =>
    obtain ⟨a, vs, rfl, h1, r⟩ := (show ∃ a vs, _ from hx)
    refine go _ (.inl ⟨vs, .inl h1, rfl⟩) ?_
    have : vs.isEmpty = l.isEmpty := by have := r.length; cases vs <;> cases l <;> simp_all
    rw [this]; exact q
  | _ => exact q.elim
end
end Pv

set_option autoImplicit false
set_option linter.all false
set_option maxRecDepth 100000
/-! Pv: truth, and, or, not, displays, arguments, subscripts, fields. -/
namespace Pv
open PySem L2
section
variable {X : Cx} {io : Io} {F F' F1 : Nat → Bool} {e a b : Expr} {pos : Pos} {m ma mb : Env → R D}
theorem truthy_ok {d : D} {P : Bool → Prop} (s : d.truthy.Sat P) : ∃ k, d.truthy = .ok k ∧ P k := by
  cases d <;> first | exact s.elim | exact ⟨_, rfl, s⟩
theorem truV {W : Wd} {H : Hp} {d : D} {v : V} {k : Bool} (wh : W.In H) (hx : Rdv (cOf X) W H d v) (h : d.truthy = .ok k) : TruV X.K v H k := by
  cases d with
  | non => cases rdv_non hx; cases h; rfl
  | bl b => cases rdv_bl hx; cases h; rfl
  | int i => cases rdv_int hx; cases h; rfl
  | str z =>
    obtain ⟨rfl, hz⟩ := rdv_str hx
    cases h
    refine ⟨hz, ?_⟩
    show (!z.cps.isEmpty) = ((((z.cps.size : Nat)) : Int) != 0)
    have : z.cps.isEmpty = decide (z.cps.size = 0) := rfl
    rw [this]
    cases z.cps.size with
    | zero => rfl
    | succ n => simp <;> omega
  | tup l =>
    obtain ⟨a, vs, rfl, h1, r⟩ := rdv_tup wh hx
    cases h
    refine .inr (.inl ⟨vs, h1, ?_⟩)
    have := r.length
    cases vs <;> cases l <;> simp_all
  | lst l =>
    obtain ⟨a, vs, rfl, h1, r⟩ := (show ∃ a vs, _ from hx)
    cases h
    refine .inl ⟨vs, .inl h1, ?_⟩
    have := r.length
    cases vs <;> cases l <;> simp_all
  | _ => cases h
/-- the truth of a value -/
theorem t_val (he : ∀ whole, isTrue a X.env whole = (do let v ← whole; standAt a.pos; holding [v] (truthy v))) (ha : PE X a (teB X io m F F')) : PT X a (ttD X io (fun ρ => (m ρ).bind D.truthy) F F') :=
  (pt_truth ha he).imp fun σ H Q ⟨G, W, ρ, E, s⟩ => ⟨G, W, ρ, E, (R.Sat.bind.mp s).mono fun d hd v H1 W1 l1 E1 b1 => by
    obtain ⟨k, hk, q⟩ := truthy_ok hd
    exact ⟨k, truV E1.wh (b1.rd E1) hk, q H1 W1 l1 E1⟩⟩
theorem t_not {mt : Env → R Bool} (ha : PT X a (ttD X io mt F F')) : PT X (.UnaryOp .Not a pos) (ttD X io (fun ρ => (mt ρ).bind fun k => .ok (!k)) F F') :=
  (pt_not ha).imp fun σ H Q ⟨G, W, ρ, E, s⟩ => ⟨G, W, ρ, E, (R.Sat.bind.mp s).mono fun k hk H1 W1 l1 E1 => hk H1 W1 l1 E1⟩
theorem e_not (ha : PE X a (teB X io m F F')) : PE X (.UnaryOp .Not a pos) (teD X io true (fun ρ => (m ρ).bind fun x => x.truthy.bind fun k => .ok (.bl (!k))) F F') :=
  (pe_notT ha).imp fun σ H Q ⟨G, W, ρ, E, s⟩ => ⟨G, W, ρ, E, (R.Sat.bind.mp s).mono fun d hd v H1 W1 l1 E1 b1 => by
    obtain ⟨k, hk, q⟩ := truthy_ok (R.Sat.bind.mp hd)
    exact ⟨k, truV E1.wh (b1.rd E1) hk, (show Fin (cOf X) _ io σ ρ F' W true (.bl (!k)) Q from q).bare l1 E1 rfl (by simp only [Rep])⟩⟩
theorem e_neg (ha : PE X a (teB X io m F F')) : PE X (.UnaryOp .USub a pos) (teD X io true (fun ρ => (m ρ).bind fun x => match x with | .int i => .ok (.int (-i)) | _ => .bad) F F') :=
  (pe_un un_neg ha).imp fun σ H Q ⟨G, W, ρ, E, s⟩ => ⟨G, W, ρ, E, (R.Sat.bind.mp s).mono fun d hd v H1 W1 l1 E1 b1 => by
    cases d with
    | int i =>
      cases rdv_int (b1.rd E1)
      exact ⟨i, rfl, (show Fin (cOf X) _ io σ ρ F' W true (.int (-i)) Q from hd).bare l1 E1 rfl (by simp only [Rep])⟩
    | _ => exact hd.elim⟩
/-! ### and, or -/
variable {rest : List Expr}
def meet (F F' : Nat → Bool) : Nat → Bool := fun i => F i && F' i
theorem e_and (ha : PE X a (teD X io false ma F F1)) (hb : PE X (.BoolOp .And (b :: rest) pos) (teD X io false mb F1 F')) (hf : ∀ i, F' i = true → F1 i = true) :
    PE X (.BoolOp .And (a :: b :: rest) pos) (teD X io false (fun ρ => (ma ρ).bind fun x => x.truthy.bind fun t => if t then mb ρ else .ok x) F F') :=
  (pe_andT ha hb).imp fun σ H Q ⟨G, W, ρ, E, s⟩ => ⟨G, W, ρ, E, (R.Sat.bind.mp s).mono fun d hd v H1 W1 S l1 E1 x n => by
    obtain ⟨k, hk, q⟩ := truthy_ok (R.Sat.bind.mp hd)
    obtain ⟨r, rfl⟩ := x
    rw [addG_nil] at E1
    refine ⟨k, truV E1.wh (r.rd E1.wh) hk, ?_⟩
    cases k with
    | true => rw [if_pos rfl]; exact ⟨G, W1, ρ, E1, (show (mb ρ).Sat _ from q).mono fun d' f v' H' W' S' l' => f v' H' W' S' (l1.trans l')⟩
    | false =>
      rw [if_neg Bool.false_ne_true]
      obtain ⟨W2, l2, E2⟩ := E1.lowers hf
      exact (show Fin (cOf X) G io σ ρ F' W false d Q from q).rep (l1.trans l2) E2 (r.mono _ l2)⟩
theorem e_or (ha : PE X a (teD X io false ma F F1)) (hb : PE X (.BoolOp .Or (b :: rest) pos) (teD X io false mb F1 F')) (hf : ∀ i, F' i = true → F1 i = true) :
    PE X (.BoolOp .Or (a :: b :: rest) pos) (teD X io false (fun ρ => (ma ρ).bind fun x => x.truthy.bind fun t => if t then .ok x else mb ρ) F F') :=
  (pe_orT ha hb).imp fun σ H Q ⟨G, W, ρ, E, s⟩ => ⟨G, W, ρ, E, (R.Sat.bind.mp s).mono fun d hd v H1 W1 S l1 E1 x n => by
    obtain ⟨k, hk, q⟩ := truthy_ok (R.Sat.bind.mp hd)
    obtain ⟨r, rfl⟩ := x
    rw [addG_nil] at E1
    refine ⟨k, truV E1.wh (r.rd E1.wh) hk, ?_⟩
    cases k with
    | false => rw [if_neg Bool.false_ne_true]; exact ⟨G, W1, ρ, E1, (show (mb ρ).Sat _ from q).mono fun d' f v' H' W' S' l' => f v' H' W' S' (l1.trans l')⟩
    | true =>
      rw [if_pos rfl]
      obtain ⟨W2, l2, E2⟩ := E1.lowers hf
      exact (show Fin (cOf X) G io σ ρ F' W false d Q from q).rep (l1.trans l2) E2 (r.mono _ l2)⟩
theorem e_one {op : BoolOp} (h : PE X a (teD X io false m F F')) : PE X (.BoolOp op [a] pos) (teD X io false m F F') := pe_one h
variable {ta tb : Env → R Bool}
theorem t_and (ha : PT X a (ttD X io ta F F1)) (hb : PW X (.BoolOp .And (b :: rest) pos) (ttD X io tb F1 F')) (hf : ∀ i, F' i = true → F1 i = true) :
    PW X (.BoolOp .And (a :: b :: rest) pos) (ttD X io (fun ρ => (ta ρ).bind fun t => if t then tb ρ else .ok false) F F') :=
  ⟨fun whole pins s σ H Q I q => (pw_and ha hb).run whole pins s σ H Q I (by
    obtain ⟨G, W, ρ, E, s⟩ := q
    refine ⟨G, W, ρ, E, (R.Sat.bind.mp s).mono fun k hk H1 W1 l1 E1 => ?_⟩
    cases k with
    | true => rw [if_pos rfl]; exact ⟨G, W1, ρ, E1, (show (tb ρ).Sat _ from hk).mono fun d' f H' W' l' => f H' W' (l1.trans l')⟩
    | false =>
      rw [if_neg Bool.false_ne_true]
      obtain ⟨W2, l2, E2⟩ := E1.lowers hf
      exact (show ∀ H' W', _ from hk) H1 W2 (l1.trans l2) E2)⟩
theorem t_or (ha : PT X a (ttD X io ta F F1)) (hb : PW X (.BoolOp .Or (b :: rest) pos) (ttD X io tb F1 F')) (hf : ∀ i, F' i = true → F1 i = true) :
    PW X (.BoolOp .Or (a :: b :: rest) pos) (ttD X io (fun ρ => (ta ρ).bind fun t => if t then .ok true else tb ρ) F F') :=
  ⟨fun whole pins s σ H Q I q => (pw_or ha hb).run whole pins s σ H Q I (by
    obtain ⟨G, W, ρ, E, s⟩ := q
    refine ⟨G, W, ρ, E, (R.Sat.bind.mp s).mono fun k hk H1 W1 l1 E1 => ?_⟩
    cases k with
    | false => rw [if_neg Bool.false_ne_true]; exact ⟨G, W1, ρ, E1, (show (tb ρ).Sat _ from hk).mono fun d' f H' W' l' => f H' W' (l1.trans l')⟩
    | true =>
      rw [if_pos rfl]
      obtain ⟨W2, l2, E2⟩ := E1.lowers hf
      exact (show ∀ H' W', _ from hk) H1 W2 (l1.trans l2) E2)⟩
theorem t_one {op : BoolOp} (h : PT X a (ttD X io ta F F')) : PW X (.BoolOp op [a] pos) (ttD X io ta F F') := by
  cases op with
  | And => exact pw_and1 h
  | Or => exact pw_or1 h
/-! ### a if t else b -/
theorem e_ite {c : Expr} {mt : Env → R Bool} {fr : Bool} (hc : PT X c (ttD X io mt F F1)) (ha : PE X a (teD X io fr ma F1 F')) (hb : PE X b (teD X io fr mb F1 F')) :
    PE X (.IfExp c a b pos) (teD X io fr (fun ρ => (mt ρ).bind fun t => if t then ma ρ else mb ρ) F F') :=
  (pe_ifExp hc ha hb).imp fun σ H Q ⟨G, W, ρ, E, s⟩ => ⟨G, W, ρ, E, (R.Sat.bind.mp s).mono fun k hk H1 W1 l1 E1 => by
    cases k with
    | true => rw [if_pos rfl]; exact ⟨G, W1, ρ, E1, (show (ma ρ).Sat _ from hk).mono fun d' f v' H' W' S' l' => f v' H' W' S' (l1.trans l')⟩
    | false => rw [if_neg Bool.false_ne_true]; exact ⟨G, W1, ρ, E1, (show (mb ρ).Sat _ from hk).mono fun d' f v' H' W' S' l' => f v' H' W' S' (l1.trans l')⟩⟩
/-! ### argument lists -/
variable {es : List Expr} {ml : Env → R (List D)}
theorem a_nil : PA X [] (taD X io (fun _ => .ok []) F F) := pa_nil.imp fun σ H Q ⟨G, W, ρ, E, s⟩ => (show ∀ vs H' W', W.le W' → _ from s) [] H W (.refl W) E .nil
theorem a_nilB : PA X [] (taB X io (fun _ => .ok []) F F) := pa_nil.imp fun σ H Q ⟨G, W, ρ, E, s⟩ => (show ∀ vs H' W', W.le W' → _ from s) [] H W (.refl W) E rfl
theorem a_cons (ha : PE X e (teD X io false m F F1)) (hr : PA X es (taD X io ml F1 F')) (hs : starEach (e :: es) X.env = (false, eval e X.env) :: starEach es X.env) :
    PA X (e :: es) (taD X io (fun ρ => (m ρ).bind fun x => (ml ρ).bind fun xs => .ok (x :: xs)) F F') :=
  (pa_cons ha hr hs).imp fun σ H Q ⟨G, W, ρ, E, s⟩ => ⟨G, W, ρ, E, (R.Sat.bind.mp s).mono fun d hd v H1 W1 S l1 E1 x n => by
    obtain ⟨r, rfl⟩ := x
    rw [addG_nil] at E1
    exact ⟨G, W1, ρ, E1, (R.Sat.bind.mp hd).mono fun ds f vs H' W' l' E' r' => (show ∀ vs H' W', W.le W' → EnvOk (cOf X) G io W' H' σ ρ F' → RepL (cOf X) W' (d :: ds) vs → Q vs H' from f) _ H' W' (l1.trans l') E' (.cons (r.mono _ l') r')⟩⟩
theorem a_consB (ha : PE X e (teB X io m F F1)) (hr : PA X es (taB X io ml F1 F')) (hs : starEach (e :: es) X.env = (false, eval e X.env) :: starEach es X.env) :
    PA X (e :: es) (taB X io (fun ρ => (m ρ).bind fun x => (ml ρ).bind fun xs => .ok (x :: xs)) F F') :=
  (pa_cons ha hr hs).imp fun σ H Q ⟨G, W, ρ, E, s⟩ => ⟨G, W, ρ, E, (R.Sat.bind.mp s).mono fun d hd v H1 W1 l1 E1 x =>
    ⟨G, W1, ρ, E1, (R.Sat.bind.mp hd).mono fun ds f vs H' W' l' E' r' => (show ∀ vs H' W', W.le W' → EnvOk (cOf X) G io W' H' σ ρ F' → BorL (cOf X) W' σ ρ (d :: ds) vs → Q vs H' from f) _ H' W' (l1.trans l') E' ⟨v, vs, rfl, x.mono l', r'⟩⟩⟩
/-! ### displays -/
theorem e_tup {k : Nat} (h : PA X es (taD X io ml F F')) (hz : ∀ ρ (P : List D → Prop), (ml ρ).Sat P → (ml ρ).Sat fun ds => ds.length ≤ sizeLine ∧ P ds) :
    PE X (.Tuple es k pos) (teD X io true (fun ρ => (ml ρ).bind fun l => .ok (.tup l)) F F') :=
  (pe_tup h).imp fun σ H Q ⟨G, W, ρ, E, s⟩ => ⟨G, W, ρ, E, (hz ρ _ (R.Sat.bind.mp s)).mono fun ds ⟨z, f⟩ vs H1 W1 l1 E1 r =>
    ⟨by rw [← r.length]; exact z, ((show Fin (cOf X) G io σ ρ F' W true (.tup ds) Q from f).res l1 E1).tup E1.wh r⟩⟩
theorem e_lst (h : PA X es (taD X io ml F F')) (hz : ∀ ρ (P : List D → Prop), (ml ρ).Sat P → (ml ρ).Sat fun ds => ds.length ≤ sizeLine ∧ P ds) :
    PE X (.List es pos) (teD X io true (fun ρ => (ml ρ).bind fun l => .ok (.lst l)) F F') :=
  (pe_lst h).imp fun σ H Q ⟨G, W, ρ, E, s⟩ => ⟨G, W, ρ, E, (hz ρ _ (R.Sat.bind.mp s)).mono fun ds ⟨z, f⟩ vs H1 W1 l1 E1 r =>
    ⟨by rw [← r.length]; exact z, ((show Fin (cOf X) G io σ ρ F' W true (.lst ds) Q from f).res l1 E1).lst E1.wh r⟩⟩
/-! ### subscripts -/
def rDb (X : Cx) (m : D → D → R D) : R2 := fun x y H Q => ∃ W dx dy, W.In H ∧ Rdv (cOf X) W H dx x ∧ Rdv (cOf X) W H dy y ∧ (m dx dy).Sat fun d => Res (cOf X) false W H d Q
theorem atIx_at {W : Wd} {ds : List D} {vs : List V} {i : Int} {d : D} {c : Cn} (r : RepL c W ds vs) (h : atIx ds i = some d) : ∃ v, atI vs i = some v ∧ Rep c W d v := by
  have hl := r.length
  unfold atIx at h
  unfold atI ixN
  split at h
  · rename_i h0
    obtain ⟨v, h1, h2⟩ := r.get h
    have hi := (List.getElem?_eq_some_iff.mp h).1
    refine ⟨v, ?_, h2⟩
    have : i < vs.length := by omega
    simp only [h0, this, if_true]
    exact h1
  · rename_i h0
    split at h
    · rename_i h2
      obtain ⟨v, h1, h3⟩ := r.get h
      refine ⟨v, ?_, h3⟩
      simp only [h0, if_false]
      rw [hl] at h2 h1
      simp only [h2, if_true]
      exact h1
    · cases h

theorem atIx_nat {l : List Nat} {i : Int} {d : Nat} (h : atIx l i = some d) : atI l i = some d := by
  unfold atIx at h
  unfold atI ixN
  split at h
  · rename_i h0
    have hi := (List.getElem?_eq_some_iff.mp h).1
    have : i < l.length := by omega
    simp only [h0, this, if_true]
    exact h
  · rename_i h0
    split at h
    · rename_i h2
      simp only [h0, if_false, h2, if_true]
      exact h
    · cases h
theorem dict_type {pins : List (Addr × Obj)} {σ : St} {H : Hp} {s : Shared} {W : Wd} {c : Cn} (I : Inv X pins σ H s) {o : HO} {p : Addr} {ks ds : List D} (hr : Rd H p o) (x : ObAt c W p o (.dic ks ds)) : s.TypeIs (.ref p) "dict" := by
  rcases x with ⟨kvs, rfl, _, _⟩ | ⟨kas, vs, rfl, _, _, _, _⟩
  · obtain ⟨_, _, vs, _, dd⟩ := dk_rd I.hok hr
    exact dd.typeIs
  · obtain ⟨_, _, xs, _, _, ob, es, ep, ho, hx, _⟩ := (hr.ok I.hok).1
    exact ⟨ob, ho, hx.1⟩
theorem ix_D (hu : X.A.units + 80 < cLine) : IxR X (rDb X subD) := by
  intro value slice pins s σ H x y v u Q I rx ry h hs
  obtain ⟨W, dx, dy, wh, hx, hy, q⟩ := h
  cases dx with
  | tup l =>
    cases dy with
    | int i =>
      obtain ⟨p, vs, rfl, h1, r⟩ := rdv_tup wh hx
      cases rdv_int hy
      simp only [subD] at q
      split at q
      · rename_i d hd
        obtain ⟨w, hw, rr⟩ := atIx_at r hd
        exact ix_tup value slice pins s σ H _ _ v u Q I rx ry ⟨p, vs, i, w, rfl, rfl, h1, hw, Res.rep q wh rr⟩ hs
      · exact q.elim
    | _ => exact q.elim
  | lst l =>
    cases dy with
    | int i =>
      obtain ⟨p, vs, rfl, h1, r⟩ := (show ∃ a vs, _ from hx)
      cases rdv_int hy
      simp only [subD] at q
      split at q
      · rename_i d hd
        obtain ⟨w, hw, rr⟩ := atIx_at r hd
        exact ix_list value slice pins s σ H _ _ v u Q I rx ry ⟨p, vs, i, w, rfl, rfl, .inl h1, hw, Res.rep q wh rr⟩ hs
      · exact q.elim
    | _ => exact q.elim
  | str z =>
    cases dy with
    | int i =>
      obtain ⟨rfl, hz⟩ := rdv_str hx
      cases rdv_int hy
      simp only [subD] at q
      split at q
      · rename_i k hk
        refine ix_str value slice pins s σ H _ _ v u Q I rx ry ⟨z, i, k, rfl, rfl, hz, atIx_nat hk, ?_⟩ hs
        exact Res.rep q wh (by simp only [Rep]; exact ⟨rfl, by show 1 ≤ sizeLine; decide⟩)
      · exact q.elim
    | _ => exact q.elim
  | dic ks ds =>
    have q : (if keyFits ks dy = true then (match dlook ks ds dy with | some d => R.ok d | none => .bad) else .bad).Sat fun d => Res (cOf X) false W H d Q := by cases dy <;> exact q
    obtain ⟨hp, q⟩ := sat_if q
    obtain ⟨p, o, rfl, hr, ob⟩ := (show ∃ a o, _ from hx)
    cases rx
    split at q
    · rename_i d hd
      have kw := keyWay wh hr ob hp hy
      refine PyProof.Rows.tail_any (dict_type I hr ob) PySem.F.slot_dict_getitem.lookup (dd_get hu I wh kw ry hd fun v' w' s' I' r' rr => ⟨v', H, I', r', Res.rep q wh rr⟩) hs
    · exact q.elim
  | _ => cases dy <;> exact q.elim
theorem e_sub {F1 : Nat → Bool} {i : Expr} {mi : Env → R D} (hu : X.A.units + 80 < cLine) (ha : PE X a (teB X io ma F F1)) (hb : PE X i (teB X io mi F1 F')) (hs : PlainIx i) :
    PE X (.Subscript a i pos) (teD X io false (fun ρ => (ma ρ).bind fun x => (mi ρ).bind fun y => subD x y) F F') :=
  (pe_ix (ix_D hu) ha hb hs).imp fun σ H Q ⟨G, W, ρ, E, s⟩ =>
    ⟨G, W, ρ, E, (R.Sat.bind.mp s).mono fun dx hx v1 H1 W1 l1 E1 b1 => ⟨G, W1, ρ, E1, (R.Sat.bind.mp hx).mono fun dy hy v2 H2 W2 l2 E2 b2 =>
      ⟨W2, dx, dy, E2.wh, (b1.mono l2).rd E2, b2.rd E2, hy.mono fun d h => h.res (l1.trans l2) E2⟩⟩⟩
/-! ### slices -/
theorem ixC_eq (n d : Nat) (o : Option Int) : ixC n d o = HT.sIx n d o := by
  cases o with
  | none => rfl
  | some v =>
    have h := HT.clip_eq v n d
    show (if v < 0 then (v + (n : Int)).toNat else min v.toNat n) = HT.sIx n d (some v)
    by_cases hv : v < 0
    · simp only [hv, if_true] at h ⊢
      omega
    · simp only [hv, if_false] at h ⊢
      omega
theorem cut_eq {α : Type} (xs : List α) (lo hi : Option Int) : cut xs lo hi = (xs.drop (HT.sIx xs.length 0 lo)).take (HT.sIx xs.length xs.length hi - HT.sIx xs.length 0 lo) := by
  unfold cut
  simp only [ixC_eq]
theorem RepL.cut {W : Wd} {ds : List D} {vs : List V} {c : Cn} (r : RepL c W ds vs) (lo hi : Option Int) : RepL c W (Pv.cut ds lo hi) (cutV vs lo hi) := by
  rw [cut_eq]
  unfold cutV
  rw [← r.length]
  exact (r.drop _).take _
def rSlD (X : Cx) : V → Option Int → Option Int → Hp → VK → Prop := fun x lo hi H Q => ∃ W dx, W.In H ∧ Rdv (cOf X) W H dx x ∧ (cutD dx lo hi).Sat fun d => Res (cOf X) true W H d Q
theorem cut_len {α : Type} (xs : List α) (lo hi : Option Int) : (cut xs lo hi).length ≤ xs.length := by
  rw [cut_eq, List.length_take, List.length_drop]; omega
theorem sl_D : SlR X (rSlD X) := by
  intro pins s σ H x v vl vu lo hi sl Q I rx hs pl pu h
  obtain ⟨W, dx, wh, hx, q⟩ := h
  cases dx with
  | tup l =>
    obtain ⟨p, vs, rfl, h1, r⟩ := rdv_tup wh hx
    refine sl_tupA pins s σ H _ v vl vu lo hi sl Q I rx hs pl pu ⟨p, vs, rfl, h1, fun ⟨z1, z2⟩ => ?_, fun _ => Res.tup q wh (r.cut lo hi)⟩
    have e : cut l lo hi = l := by
      rw [cut_eq, r.length, z1, z2, Nat.sub_zero, List.drop_zero, ← r.length, List.take_length]
    have q : Res (cOf X) true W H (.tup (cut l lo hi)) Q := q
    rw [e] at q
    exact Res.tupOld q wh hx
  | lst l =>
    obtain ⟨p, vs, rfl, h1, r⟩ := (show ∃ a vs, _ from hx)
    exact sl_list pins s σ H _ v vl vu lo hi sl Q I rx hs pl pu ⟨p, vs, rfl, .inl h1, Res.lst q wh (r.cut lo hi)⟩
  | str z =>
    obtain ⟨rfl, hz⟩ := rdv_str hx
    refine sl_str pins s σ H _ v vl vu lo hi sl Q I rx hs pl pu ⟨z, rfl, hz, ?_⟩
    have e : cutS z lo hi = strOf (cut z.cps.toList lo hi) := by
      rw [cut_eq]
      have hl : z.cps.toList.length = z.length := Array.length_toList
      unfold cutS strOf
      rw [hl]
    rw [e]
    refine Res.str q wh ?_
    show (List.toArray _).size ≤ _
    rw [List.size_toArray]
    exact Nat.le_trans (cut_len _ _ _) hz
  | _ => exact q.elim
def toD (X : Cx) (io : Io) (m : Env → R (Option Int)) (F F' : Nat → Bool) : TO := fun σ H Q =>
  ∃ G W ρ, EnvOk (cOf X) G io W H σ ρ F ∧ (m ρ).Sat fun o => ∀ H' W', W.le W' → EnvOk (cOf X) G io W' H' σ ρ F' → Q o H'
theorem _root_.L2.PO.imp {o : Option Expr} {t t' : TO} (h : PO X o t) (i : ∀ σ H Q, t' σ H Q → t σ H Q) : PO X o t' := ⟨fun pins s σ H Q I q => h.run pins s σ H Q I (i σ H Q q)⟩
theorem o_none : PO X none (toD X io (fun _ => .ok none) F F) := po_none.imp fun σ H Q ⟨G, W, ρ, E, s⟩ => (show ∀ H' W', W.le W' → EnvOk (cOf X) G io W' H' σ ρ F → Q none H' from s) H W (.refl W) E
theorem o_some (h : PE X e (teB X io m F F')) : PO X (some e) (toD X io (fun ρ => (m ρ).bind fun d => match d with | .int i => .ok (some i) | _ => .bad) F F') :=
  (po_some h).imp fun σ H Q ⟨G, W, ρ, E, s⟩ => ⟨G, W, ρ, E, (R.Sat.bind.mp s).mono fun d hd v H1 W1 l1 E1 b1 => by
    cases d with
    | int i => cases rdv_int (b1.rd E1); exact ⟨i, rfl, (show ∀ H' W', W.le W' → EnvOk (cOf X) G io W' H' σ ρ F' → Q (some i) H' from hd) H1 W1 l1 E1⟩
    | _ => exact hd.elim⟩
theorem e_slice {F1 F2 : Nat → Bool} {lo hi : Option Expr} {ml mh : Env → R (Option Int)} {p2 : Pos} (ha : PE X a (teB X io ma F F1)) (hl : PO X lo (toD X io ml F1 F2)) (hh : PO X hi (toD X io mh F2 F')) :
    PE X (.Subscript a (.Slice lo hi none p2) pos) (teD X io true (fun ρ => (ma ρ).bind fun x => (ml ρ).bind fun l => (mh ρ).bind fun h => cutD x l h) F F') :=
  (pe_slice sl_D ha hl hh).imp fun σ H Q ⟨G, W, ρ, E, s⟩ =>
    ⟨G, W, ρ, E, (R.Sat.bind.mp s).mono fun dx hx v1 H1 W1 l1 E1 b1 => ⟨G, W1, ρ, E1, (R.Sat.bind.mp hx).mono fun l hl H2 W2 l2 E2 => ⟨G, W2, ρ, E2, (R.Sat.bind.mp hl).mono fun h hh H3 W3 l3 E3 =>
      ⟨W3, dx, E3.wh, (b1.mono (l2.trans l3)).rd E3, hh.mono fun d f => f.res ((l1.trans l2).trans l3) E3⟩⟩⟩⟩
/-! ### fields -/
theorem zip_look {W : Wd} {c : Cn} {f : Str} : ∀ {ns : List Str} {ds : List D} {vs : List V} {d : D}, RepL c W ds vs → (ns.zip ds).lookup f = some d → ∃ v, (ns.zip vs).lookup f = some v ∧ Rep c W d v
  | [], _, _, _, _, h => by simp at h
  | n :: ns, [], _, _, _, h => by simp at h
  | n :: ns, d0 :: ds, vs, d, r, h => by
    simp only [RepL] at r
    obtain ⟨v, t, rfl, q1, q2⟩ := r
    simp only [List.zip_cons_cons, List.lookup_cons] at h ⊢
    cases hf : f == n with
    | true => rw [hf] at h; cases h; exact ⟨v, rfl, q1⟩
    | false => rw [hf] at h; exact zip_look q2 h
theorem e_attr {f : Str} {ok : Str → Str → Bool} (hcl : ∀ cl C, X.mg cl = some (.ref C) → ok cl f = true → Cls X.K C ∧ NoAttr X.K C f) (he : PE X e (teB X io m F F')) (hb : attributeBase e f X.env (eval e X.env) = eval e X.env) :
    PE X (.Attribute e f pos) (teD X io false (fun ρ => (m ρ).bind fun x => attrD ok x f) F F') :=
  (pe_fld he hb).imp fun σ H Q ⟨G, W, ρ, E, s⟩ => ⟨G, W, ρ, E, (R.Sat.bind.mp s).mono fun d hd v H1 W1 l1 E1 b1 => by
    cases d with
    | obj cl ns ds =>
      obtain ⟨p, C, dx, vs, rfl, h1, h2, h3, h4, h5, r⟩ := (show ∃ a C dx vs, _ from b1.rd E1)
      simp only [attrD] at hd
      obtain ⟨hok, hd⟩ := sat_if hd
      split at hd
      · rename_i d hl
        obtain ⟨w, hw, rr⟩ := zip_look r hl
        obtain ⟨c1, c2⟩ := hcl cl C h3 hok
        exact ⟨p, C, dx, _, w, rfl, h1, c1, c2, hw, (show Fin (cOf X) G io σ ρ F' W false d Q from hd).rep l1 E1 rr⟩
      · exact hd.elim
    | _ => exact hd.elim⟩
end
end Pv

set_option autoImplicit false
set_option linter.all false
set_option maxRecDepth 100000
/-! Pv: built-in functions on values. -/
namespace Pv
open PySem L2
def RdvL (c : Cn) (W : Wd) (H : Hp) : List D → List V → Prop
  | [], vs => vs = []
  | d :: ds, vs => ∃ v r, vs = v :: r ∧ Rdv c W H d v ∧ RdvL c W H ds r
theorem BorL.rd {c : Cn} {G : Hp} {io : Io} {W : Wd} {H : Hp} {σ : St} {ρ : Env} {F : Nat → Bool} (E : EnvOk c G io W H σ ρ F) : ∀ {ds : List D} {vs : List V}, BorL c W σ ρ ds vs → RdvL c W H ds vs
  | [], _, x => x
  | d :: ds, _, ⟨v, r, e, h1, h2⟩ => ⟨v, r, e, h1.rd E, BorL.rd E h2⟩
section
variable {X : Cx}
def rC (X : Cx) (b : Bool) (m : List D → R D) : List V → Hp → VK → Prop := fun vs H Q => ∃ W ds, W.In H ∧ RdvL (cOf X) W H ds vs ∧ (m ds).Sat fun d => Res (cOf X) b W H d Q
/-- one argument -/
theorem call_one {f : Value} {b : Bool} {m : List D → R D} (h1 : ∀ ds P, (m ds).Sat P → ∃ d, ds = [d])
    (h : ∀ (pins : List (Addr × Obj)) (s : Shared) (σ : St) (H : Hp) (Q : VK) (W : Wd) (d : D) (v : V) (u : Value), Inv X pins σ H s → W.In H → Rdv (cOf X) W H d v → RelV v u → (m [d]).Sat (fun d => Res (cOf X) b W H d Q) →
      wpAny (model X.prog X.w) X.A (call f [u]) (EP X pins σ Q) X.xe s) : CallR X f (rC X b m) := by
  intro pins s σ H vs us Q I r q
  obtain ⟨W, ds, wh, hd, q⟩ := q
  obtain ⟨d, rfl⟩ := h1 ds _ q
  obtain ⟨v, t, rfl, hv, ht⟩ := hd
  have ht : t = [] := ht
  subst ht
  obtain ⟨u, rfl, ru⟩ := vals1 r
  exact h pins s σ H Q W d v u I wh hv ru q
theorem oneD_ok {f : D → R D} : ∀ ds P, (oneD f ds).Sat P → ∃ d, ds = [d]
  | [], _, h => h.elim
  | [d], _, _ => ⟨d, rfl⟩
  | _ :: _ :: _, _, h => h.elim
/-- by a rule of one value -/
theorem call_val {f : Value} {r : List V → Hp → VK → Prop} {b : Bool} {g : D → R D} (hr : CallR X f r) (h : ∀ (H : Hp) (Q : VK) (W : Wd) (d : D) (v : V), W.In H → Rdv (cOf X) W H d v → (g d).Sat (fun d => Res (cOf X) b W H d Q) → r [v] H Q) : CallR X f (rC X b (oneD g)) :=
  call_one oneD_ok fun pins s σ H Q W d v u I wh hv ru q => hr pins s σ H [v] [u] Q I (.cons ru .nil) (h H Q W d v wh hv q)

theorem f_len : CallR X (.builtin "len") (rC X true (oneD lenF)) :=
  call_val (call_len_seq.or call_len_str) fun H Q W d v wh hv q => by
    cases d with
    | tup l =>
      obtain ⟨p, vs, rfl, h1, r⟩ := rdv_tup wh hv
      refine .inl ⟨p, vs, rfl, .inr h1, ?_⟩
      rw [← r.length]; exact Res.int q wh
    | lst l =>
      obtain ⟨p, vs, rfl, h1, r⟩ := (show ∃ a vs, _ from hv)
      refine .inl ⟨p, vs, rfl, .inl (.inl h1), ?_⟩
      rw [← r.length]; exact Res.int q wh
    | str z =>
      obtain ⟨rfl, hz⟩ := rdv_str hv
      exact .inr ⟨z, rfl, hz, Res.int q wh⟩
    | _ => exact q.elim
theorem f_tuple : CallR X (.type "tuple") (rC X true (oneD tupleF)) :=
  call_val call_tuple_of fun H Q W d v wh hv q => by
    cases d with
    | tup l =>
      have hv' := hv
      obtain ⟨p, vs, rfl, h1, r⟩ := rdv_tup wh hv
      exact ⟨p, vs, rfl, .inr ⟨h1, Res.tupOld q wh hv'⟩⟩
    | lst l =>
      obtain ⟨p, vs, rfl, h1, r⟩ := (show ∃ a vs, _ from hv)
      exact ⟨p, vs, rfl, .inl ⟨.inl h1, Res.tup q wh r⟩⟩
    | _ => exact q.elim
theorem f_list : CallR X (.type "list") (rC X true (oneD listF)) :=
  call_val call_list_of fun H Q W d v wh hv q => by
    cases d with
    | tup l =>
      obtain ⟨p, vs, rfl, h1, r⟩ := rdv_tup wh hv
      exact ⟨p, vs, rfl, .inr h1, Res.lst q wh r⟩
    | lst l =>
      obtain ⟨p, vs, rfl, h1, r⟩ := (show ∃ a vs, _ from hv)
      exact ⟨p, vs, rfl, .inl (.inl h1), Res.lst q wh r⟩
    | _ => exact q.elim
theorem f_int : CallR X (.type "int") (rC X true (oneD intF)) :=
  call_val call_int1 fun H Q W d v wh hv q => by
    cases d with
    | int i => cases rdv_int hv; exact .inl ⟨i, rfl, Res.int q wh⟩
    | _ => exact q.elim
theorem f_abs : CallR X (.builtin "abs") (rC X true (oneD absF)) :=
  call_val call_abs fun H Q W d v wh hv q => by
    cases d with
    | int i => cases rdv_int hv; exact ⟨i, rfl, Res.int q wh⟩
    | _ => exact q.elim
theorem rep_bools {c : Cn} {W : Wd} : ∀ {l : List D} {vs : List V} {bs : List Bool}, RepL c W l vs → boolsOf l = some bs → vs = bs.map V.bl
  | [], vs, bs, r, h => by simp only [RepL] at r; subst r; cases h; rfl
  | d :: l, vs, bs, r, h => by
    simp only [RepL] at r
    obtain ⟨v, t, rfl, q1, q2⟩ := r
    cases d <;> simp only [boolsOf] at h <;> try cases h
    cases hb : boolsOf l with
    | none => rw [hb] at h; cases h
    | some bs' =>
      rw [hb] at h
      cases h
      simp only [Rep] at q1
      rw [q1, rep_bools q2 hb]; rfl
theorem rep_ints {c : Cn} {W : Wd} : ∀ {l : List D} {vs : List V} {bs : List Int}, RepL c W l vs → intsOf l = some bs → vs = bs.map V.int
  | [], vs, bs, r, h => by simp only [RepL] at r; subst r; cases h; rfl
  | d :: l, vs, bs, r, h => by
    simp only [RepL] at r
    obtain ⟨v, t, rfl, q1, q2⟩ := r
    cases d <;> simp only [intsOf] at h <;> try cases h
    cases hb : intsOf l with
    | none => rw [hb] at h; cases h
    | some bs' =>
      rw [hb] at h
      cases h
      simp only [Rep] at q1
      rw [q1, rep_ints q2 hb]; rfl
theorem rep_strs {c : Cn} {W : Wd} : ∀ {l : List D} {vs : List V} {bs : List (List Nat)}, RepL c W l vs → strsOf l = some bs → ∃ ys : List Str, vs = ys.map V.str ∧ bs = ys.map (·.cps.toList) ∧ ∀ y ∈ ys, y.length ≤ sizeLine
  | [], vs, bs, r, h => by simp only [RepL] at r; subst r; cases h; exact ⟨[], rfl, rfl, by simp⟩
  | d :: l, vs, bs, r, h => by
    simp only [RepL] at r
    obtain ⟨v, t, rfl, q1, q2⟩ := r
    cases d <;> simp only [strsOf] at h <;> try cases h
    rename_i z
    cases hb : strsOf l with
    | none => rw [hb] at h; cases h
    | some bs' =>
      rw [hb] at h
      cases h
      simp only [Rep] at q1
      obtain ⟨ys, e1, e2, e3⟩ := rep_strs q2 hb
      exact ⟨z :: ys, by rw [q1.1, e1]; rfl, by rw [e2]; rfl, fun y hy => (List.mem_cons.mp hy).elim (fun e => e ▸ q1.2) (e3 y)⟩
theorem f_all (hc : X.calm = true) : CallR X (.builtin "all") (rC X true (oneD allF)) :=
  call_val (cr_all hc) fun H Q W d v wh hv q => by
    cases d with
    | lst l =>
      obtain ⟨p, vs, rfl, h1, r⟩ := (show ∃ a vs, _ from hv)
      simp only [allF] at q
      split at q
      · rename_i bs hb
        have e := rep_bools r hb
        subst e
        exact ⟨p, bs, rfl, .inl h1, Res.bl q wh⟩
      · exact q.elim
    | _ => exact q.elim
theorem f_any (hc : X.calm = true) : CallR X (.builtin "any") (rC X true (oneD anyF)) :=
  call_val (cr_any hc) fun H Q W d v wh hv q => by
    cases d with
    | lst l =>
      obtain ⟨p, vs, rfl, h1, r⟩ := (show ∃ a vs, _ from hv)
      simp only [anyF] at q
      split at q
      · rename_i bs hb
        have e := rep_bools r hb
        subst e
        exact ⟨p, bs, rfl, .inl h1, Res.bl q wh⟩
      · exact q.elim
    | _ => exact q.elim
theorem f_sum (hc : X.calm = true) : CallR X (.builtin "sum") (rC X true (oneD sumF)) :=
  call_val (cr_sum hc) fun H Q W d v wh hv q => by
    cases d with
    | lst l =>
      obtain ⟨p, vs, rfl, h1, r⟩ := (show ∃ a vs, _ from hv)
      simp only [sumF] at q
      split at q
      · rename_i bs hb
        have e := rep_ints r hb
        subst e
        exact ⟨p, bs, rfl, .inl h1, Res.int q wh⟩
      · exact q.elim
    | _ => exact q.elim
theorem f_min2 (hc : X.calm = true) : CallR X (.builtin "min") (rC X true min2F) := by
  intro pins s σ H vs us Q I r q
  obtain ⟨W, ds, wh, hd, q⟩ := q
  unfold min2F at q
  split at q
  · rename_i a b
    obtain ⟨v, t, rfl, h1, v2, t2, rfl, h2, h3⟩ := hd
    have h3 : t2 = [] := h3
    subst h3
    cases rdv_int h1; cases rdv_int h2
    exact call_min2 hc pins s σ H _ us Q I r ⟨a, b, rfl, Res.int q wh⟩
  · exact q.elim
theorem f_max2 (hc : X.calm = true) : CallR X (.builtin "max") (rC X true max2F) := by
  intro pins s σ H vs us Q I r q
  obtain ⟨W, ds, wh, hd, q⟩ := q
  unfold max2F at q
  split at q
  · rename_i a b
    obtain ⟨v, t, rfl, h1, v2, t2, rfl, h2, h3⟩ := hd
    have h3 : t2 = [] := h3
    subst h3
    cases rdv_int h1; cases rdv_int h2
    exact call_max2 hc pins s σ H _ us Q I r ⟨a, b, rfl, Res.int q wh⟩
  · exact q.elim
/-! ### sorted -/
theorem plainL_mem {n : Nat} : ∀ {l : List D} {d : D}, D.plainL n l = true → d ∈ l → D.plain n d = true
  | [], _, _, h => by cases h
  | a :: l, d, h, hm => by
    simp only [D.plainL, Bool.and_eq_true] at h
    rcases List.mem_cons.mp hm with e | hm
    · rw [e]; exact h.1
    · exact plainL_mem h.2 hm
theorem each_of {R : Value → D → Prop} {c : Cn} {W : Wd} : ∀ {ds : List D} {vs : List V} {us : List Value}, RepL c W ds vs → Vals vs us → (∀ d v u, d ∈ ds → Rep c W d v → RelV v u → R u d) → PySem.W.EachIs R us ds
  | [], vs, us, r, rv, _ => by simp only [RepL] at r; subst r; cases rv; exact .nil
  | d :: ds, vs, us, r, rv, h => by
    simp only [RepL] at r
    obtain ⟨v, t, rfl, q1, q2⟩ := r
    cases rv with
    | cons r1 r2 => exact .cons (h d v _ (by simp) q1 r1) (each_of q2 r2 fun d' v' u' hm => h d' v' u' (List.mem_cons_of_mem _ hm))
theorem of_each {c : Cn} {W : Wd} : ∀ {ds : List D} {us : List Value}, PySem.W.EachIs (fun u d => ∃ v, RelV v u ∧ Rep c W d v) us ds → ∃ vs, RepL c W ds vs ∧ Vals vs us
  | [], _, .nil => ⟨[], .nil, .nil⟩
  | d :: ds, _, .cons ⟨v, h1, h2⟩ t => let ⟨vs, r1, r2⟩ := of_each t; ⟨v :: vs, .cons h2 r1, .cons h1 r2⟩
theorem mergeSort_congr' {α : Type} {f g : α → α → Bool} {l : List α} (h : ∀ a ∈ l, ∀ b ∈ l, f a b = g a b) : l.mergeSort f = l.mergeSort g := by
  have := List.map_mergeSort (r := f) (s := g) (f := id) (l := l) (by simpa using h)
  simpa using this
theorem comparable_of {l : List D} (h : comparable l = true) : ∀ a ∈ l, ∀ b ∈ l, D.alike a b = true := by
  unfold comparable at h
  simpa only [List.all_eq_true] using h
theorem sort_py {l : List D} (hp : D.plainL 32 l = true) (hc : comparable l = true) : l.mergeSort (PySem.W.dataLe false toPy) = sortD l := by
  refine mergeSort_congr' fun a ha b hb => ?_
  rw [PySem.W.dataLe_eq]
  show (!PySem.W.dataLt (toPy b) (toPy a)) = _
  rw [lt_toPy 32 32 _ _ (plainL_mem hp hb) (plainL_mem hp ha) (comparable_of hc b hb a ha)]
theorem sortable_py {l : List D} (hp : D.plainL 32 l = true) (h : sortable l = true) : PySem.W.Sortable (l.map toPy) := by
  unfold sortable at h
  rcases Bool.or_eq_true_iff.mp h with h | h
  · refine .inl fun d hd => ?_
    obtain ⟨a, ha, rfl⟩ := List.mem_map.mp hd
    have := List.all_eq_true.mp h a ha
    cases a with
    | tup t => cases t with
      | nil => simp [isTup1] at this
      | cons x r => exact ⟨toPy x, toPyL r, by simp [toPy, toPyL]⟩
    | _ => simp [isTup1] at this
  · refine .inr fun d hd => ?_
    obtain ⟨a, ha, rfl⟩ := List.mem_map.mp hd
    have h1 := List.all_eq_true.mp h a ha
    simp only [Bool.and_eq_true, Bool.not_eq_true'] at h1
    have h2 := plainL_mem hp ha
    cases a with
    | non => simp [D.isNon] at h1
    | tup t => simp [isTup] at h1
    | bl b => exact ⟨by simp [toPy], by simp [toPy]⟩
    | int b => exact ⟨by simp [toPy], by simp [toPy]⟩
    | str b => exact ⟨by simp [toPy], by simp [toPy]⟩
    | lst b => exact ⟨by simp [toPy], by simp [toPy]⟩
    | _ => simp [D.plain] at h2
theorem f_sorted (hu : X.A.units + 80 < cLine) : CallR X (.builtin "sorted") (rC X true (oneD sortF)) :=
  call_one oneD_ok fun pins s σ H Q W d v u I wh hv ru q => by
    cases d with
    | lst l =>
      obtain ⟨p, vs, rfl, h1, r⟩ := (show ∃ a vs, _ from hv)
      cases ru
      have q : (if (comparable l && sortable l && D.plainL 32 l) = true then R.ok (D.lst (sortD l)) else .bad).Sat _ := q
      obtain ⟨hp, q⟩ := sat_if q
      simp only [Bool.and_eq_true] at hp
      obtain ⟨⟨hc, hs⟩, hp⟩ := hp
      obtain ⟨hz, its, n, rv, ho⟩ := lstR I h1
      have hl := r.length
      have e1 : PySem.W.EachIs (fun u d => ∃ v, RelV v u ∧ Rep (cOf X) W d v) its l := each_of r rv fun d v u _ h1 h2 => ⟨v, h2, h1⟩
      have e2 : PySem.W.EachIs (fun u d => ∃ as, Reads s.heap u (toPy d) as) its l := each_of r rv fun d v u hm h1 h2 => Rdv.reads (n := 32) I wh (h1.rd wh) (plainL_mem hp hm) h2
      refine PySem.W.sorted_data (l := p) (vs := its) (bs := l) (enc := toPy) ⟨_, ho, rfl, _, rfl⟩ e1 e2 (fun a ha b hb => ?_) (sortable_py hp hs) (by rw [hl]; exact hz) (fun b hb => ?_) fun out hlen e3 => ?_
      · obtain ⟨a', ha', rfl⟩ := List.mem_map.mp ha
        obtain ⟨b', hb', rfl⟩ := List.mem_map.mp hb
        exact alike_toPy _ _ (comparable_of hc a' ha' b' hb')
      · have := (plain_toPy 32 b (plainL_mem hp hb)).2
        omega
      · rw [sort_py hp hc] at e3
        obtain ⟨ws, r1, r2⟩ := of_each e3
        obtain ⟨ep, he'⟩ := PyProof.Rows.sortedAll_at s.heap its out.toArray
        have hlen2 : ws.length ≤ sizeLine := by rw [← r1.length]; unfold sortD; rw [List.length_mergeSort]; omega
        exact ⟨.ref _, upd H (s.heap.objs.size + 1) (.lst ws), I.laid (t' := s.toks) (fun _ _ => PyProof.Rows.sortedAll_old) (Nat.le_succ _) ⟨hlen2, out, ep, r2, he'⟩, rfl, Res.lst q wh r1 _ (I.hok.fresh (Nat.le_succ _))⟩
    | _ => exact q.elim
end
end Pv

set_option autoImplicit false
set_option linter.all false
set_option maxRecDepth 100000
/-! Pv: dicts changed and made. -/
namespace Pv
open PySem L2
theorem dput_nil {k v : D} : dput [] [] k v = ([k], [v]) := rfl
theorem dput_cons {k' v' k v : D} {ks vs : List D} : dput (k' :: ks) (v' :: vs) k v = if D.eqv k k' then (k' :: ks, v :: vs) else (k' :: (dput ks vs k v).1, v' :: (dput ks vs k v).2) := by
  rw [dput]
/-- by numbers and texts -/
theorem putK_nil (k : Key) (v : V) : putK [] k v = [(k, v)] := rfl
theorem map_put_id {k : Key} {v : V} : ∀ {kvs : List (Key × V)}, (∀ p ∈ kvs, p.1 ≠ k) → (kvs.map fun kv => if kv.1 = k then (kv.1, v) else kv) = kvs
  | [], _ => rfl
  | p :: kvs, h => by
    rw [List.map_cons, if_neg (h p (by simp)), map_put_id fun q hq => h q (List.mem_cons_of_mem _ hq)]
theorem putK_cons {p : Key × V} {kvs : List (Key × V)} {k : Key} {v : V} (hn : ((p :: kvs).map (·.1)).Nodup) : putK (p :: kvs) k v = if p.1 = k then (p.1, v) :: kvs else p :: putK kvs k v := by
  rw [List.map_cons, List.nodup_cons] at hn
  by_cases h : p.1 = k
  · rw [if_pos h]
    unfold putK
    rw [if_pos (by simp [h])]
    rw [List.map_cons, if_pos h, map_put_id fun q hq z => hn.1 (List.mem_map.mpr ⟨q, hq, z.trans h.symm⟩)]
  · rw [if_neg h]
    unfold putK
    by_cases ha : (kvs.any fun kv => decide (kv.1 = k)) = true
    · rw [if_pos (by simpa [h] using ha), if_pos ha, List.map_cons, if_neg h]
    · rw [if_neg (by simpa [h] using ha), if_neg ha]; rfl
theorem dput_kvs {c : Cn} {W : Wd} {k : Key} {d : D} {v : V} (hv : Rep c W d v) : ∀ {kvs : List (Key × V)} {ds : List D}, (kvs.map (·.1)).Nodup → RepL c W ds (kvs.map (·.2)) →
    (dput (kvs.map fun p => kD p.1) ds (kD k) d).1 = (putK kvs k v).map (fun p => kD p.1) ∧ RepL c W (dput (kvs.map fun p => kD p.1) ds (kD k) d).2 ((putK kvs k v).map (·.2))
  | [], ds, _, r => by
    have := r.length
    have : ds = [] := List.eq_nil_of_length_eq_zero (by simpa using this)
    subst this
    exact ⟨rfl, .cons hv .nil⟩
  | p :: kvs, [], _, r => by simp only [List.map_cons, RepL] at r; cases r
  | p :: kvs, d0 :: ds, hn, r => by
    simp only [List.map_cons, RepL] at r
    obtain ⟨v', t, e, q1, q2⟩ := r
    cases e
    rw [putK_cons hn]
    simp only [List.map_cons, dput_cons, eqv_kD]
    by_cases h : p.1 = k
    · rw [if_pos h, if_pos (decide_eq_true h.symm)]
      exact ⟨rfl, .cons hv q2⟩
    · rw [if_neg h, if_neg (by simpa using fun z : k = p.1 => h z.symm)]
      rw [List.map_cons, List.nodup_cons] at hn
      obtain ⟨e1, e2⟩ := dput_kvs hv hn.2 q2
      exact ⟨by rw [List.map_cons, e1], .cons q1 e2⟩
/-- by nested keys -/
theorem putAt_id {K : Type} [DecidableEq K] {k : K} {u : Value} : ∀ {xs : List (K × Addr × Value)}, (∀ p ∈ xs, p.1 ≠ k) → xs.map (putAt k u) = xs
  | [], _ => rfl
  | p :: xs, h => by
    rw [List.map_cons, putAt_id fun q hq => h q (List.mem_cons_of_mem _ hq)]
    unfold putAt
    rw [if_neg (h p (by simp))]
theorem storedH_cons {K : Type} [DecidableEq K] {p : K × Addr × Value} {xs : List (K × Addr × Value)} {k : K} {a : Addr} {u : Value} (hn : ((p :: xs).map (·.1)).Nodup) :
    storedH (p :: xs) k a u = if p.1 = k then (p.1, p.2.1, u) :: xs else p :: storedH xs k a u := by
  rw [List.map_cons, List.nodup_cons] at hn
  by_cases h : p.1 = k
  · rw [if_pos h]
    rw [storedH_old (p := (p.2.1, p.2.2)) (by simp [atKey, h])]
    rw [List.map_cons, putAt_id fun q hq z => hn.1 (List.mem_map.mpr ⟨q, hq, z.trans h.symm⟩)]
    unfold putAt
    rw [if_pos h]
  · rw [if_neg h]
    have e : atKey (p :: xs) k = atKey xs k := by simp [atKey, h]
    unfold storedH
    rw [e]
    by_cases ha : (atKey xs k).isSome = true
    · rw [if_pos ha, if_pos ha, List.map_cons]
      congr 1
      unfold putAt
      rw [if_neg h]
    · rw [if_neg ha, if_neg ha]; rfl
theorem dput_zip {c : Cn} {W : Wd} {k : NestedKey} {d : D} {v : V} {b : Addr} {u : Value} (hv : Rep c W d v) (ru : RelV v u) (hk : Rep c W (nkD k) (.ref b)) : ∀ {xs : List (NestedKey × Addr × Value)} {vs : List V} {ds : List D}, (xs.map (·.1)).Nodup → Vals vs (xs.map (·.2.2)) → RepL c W ds vs →
    RepL c W (nkDs (xs.map (·.1))) (xs.map fun x => V.ref x.2.1) → ∃ vs', Vals vs' ((storedH xs k b u).map (·.2.2)) ∧ RepL c W (dput (nkDs (xs.map (·.1))) ds (nkD k) d).2 vs' ∧
      (dput (nkDs (xs.map (·.1))) ds (nkD k) d).1 = nkDs ((storedH xs k b u).map (·.1)) ∧ RepL c W (nkDs ((storedH xs k b u).map (·.1))) ((storedH xs k b u).map fun x => V.ref x.2.1)
  | [], vs, ds, _, r, rr, _ => by
    cases r
    have := rr.length
    have : ds = [] := List.eq_nil_of_length_eq_zero (by simpa using this)
    subst this
    exact ⟨[v], .cons ru .nil, .cons hv .nil, rfl, .cons hk .nil⟩
  | (k', a, w) :: xs, vs, [], _, r, rr, _ => by
    simp only [RepL] at rr; subst rr; cases r
  | (k', a, w) :: xs, vs, d0 :: ds, hn, r, rr, rk => by
    simp only [RepL] at rr
    obtain ⟨v', t, rfl, q1, q2⟩ := rr
    cases r with
    | cons r1 r2 =>
      rw [storedH_cons hn]
      simp only [List.map_cons, nkDs, RepL] at rk
      obtain ⟨v2, t2, e2, k1, k2⟩ := rk
      cases e2
      simp only [List.map_cons, nkDs, dput_cons, eqv_nk]
      by_cases h : k' = k
      · rw [if_pos h, if_pos (decide_eq_true h.symm)]
        exact ⟨v :: t, .cons ru r2, .cons hv q2, rfl, .cons k1 k2⟩
      · rw [if_neg h, if_neg (by simpa using fun z : k = k' => h z.symm)]
        rw [List.map_cons, List.nodup_cons] at hn
        obtain ⟨vs', e1, e2, e3, e4⟩ := dput_zip hv ru hk hn.2 r2 q2 k2
        exact ⟨v' :: vs', .cons r1 e1, .cons q1 e2, by rw [List.map_cons, nkDs, e3], .cons k1 e4⟩
theorem storedH_ne {K : Type} [DecidableEq K] {xs : List (K × Addr × Value)} {k : K} {a : Addr} {u : Value} : storedH xs k a u ≠ [] := by
  unfold storedH
  split
  · rename_i h
    cases xs with
    | nil => cases h
    | cons p xs => simp
  · simp
theorem storedH_length {K : Type} [DecidableEq K] {xs : List (K × Addr × Value)} {k : K} {a : Addr} {u : Value} : (storedH xs k a u).length ≤ xs.length + 1 := by
  unfold storedH
  split <;> simp
section
variable {X : Cx} {pins : List (Addr × Obj)} {σ : St} {H : Hp} {s : Shared} {W : Wd}
theorem dn_new {P : Program} {w : World} {a : Addr} {H' : Hp} {h' : Heap} {xs : List (NestedKey × Addr × Value)} {vs : List V} (hs : (a == sysModules) = false) (hz : xs.length ≤ sizeLine) (rv : Vals vs (xs.map (·.2.2))) (dd : h'.DictOfH (nestedKind P w) a xs) (h8 : ∀ x ∈ xs, x.1.depth ≤ 8) :
    ObjOk P w H' h' a (.ext (DictN P w a (xs.map fun x => (x.1, x.2.1)) vs)) := by
  obtain ⟨o, es, ep, ho, hx, hd, he, _, hn⟩ := dd
  refine ⟨⟨hs, by rw [List.length_map]; exact hz, xs, rfl, rv, o, es, ep, ho, hx, hd, he, hn, h8⟩, ⟨o, ho⟩, fun h1 h2 q k => ?_⟩
  obtain ⟨q1, q2, xs', q3, q4, o', es', ep', q5, q6⟩ := q
  exact ⟨q1, q2, xs', q3, q4, o', es', ep', k _ q5, q6⟩
theorem storedH_mem {K : Type} [DecidableEq K] {xs : List (K × Addr × Value)} {k : K} {a : Addr} {u : Value} {p : K × Addr × Value} (h : p ∈ storedH xs k a u) : (∃ q ∈ xs, p.1 = q.1) ∨ p.1 = k := by
  unfold storedH at h
  split at h
  · obtain ⟨q, hq, e⟩ := List.mem_map.1 h
    refine .inl ⟨q, hq, ?_⟩
    rw [← e]
    unfold putAt
    split <;> rfl
  · rcases List.mem_append.1 h with z | z
    · exact .inl ⟨p, z, rfl⟩
    · rw [List.mem_singleton] at z
      exact .inr (by rw [z])
/-- d[k] = v -/
theorem dd_set {A : Around} (hu : A.units + 80 < cLine) {E : Value → Shared → Prop} {a : Addr} {o : HO} {ks ds : List D} {k d : D} {y v : V} {u r : Value} {Q : Unit → Shared → Prop} (I : Inv X pins σ H s) (wh : W.In H) (e : H a = some o) (x : ObAt (cOf X) W a o (.dic ks ds)) (f : keyFits ks k = true) (hk : Rep (cOf X) W k y) (ry : RelV y u)
    (hv : Rep (cOf X) W d v) (rv : RelV v r) (hz : ks.length < big) (h : ∀ s' o', Inv X pins σ (upd H a o') s' → ObAt (cOf X) W a o' (.dic (dput ks ds k d).1 (dput ks ds k d).2) → Q () s') :
    wpAny (model X.prog X.w) A (setItem (.ref a) u r) Q E s := by
  rw [big_eq] at hz
  have mu : Mut (H a) := by
    rw [e]
    rcases x with ⟨kvs, rfl, _⟩ | ⟨kas, vs, rfl, _⟩ <;> exact True.intro
  have kw := keyWay wh (.inl e) x f (hk.rd wh)
  have e0 := e
  have un : ∀ {o1 : HO}, Rd H a o1 → HO.isDict o1 = true → o = o1 := fun {o1} rd hd => by
    rcases rd with z | ⟨_, z⟩
    · rw [e] at z; cases z; rfl
    · rw [e] at z; cases z
      rcases x with ⟨kvs, z, _⟩ | ⟨kas, vs, z, _⟩ <;> cases z
  cases kw with
  | flat k e1 e2 r1 =>
    rename_i kvs
    have eo := un e1 rfl
    subst eo
    obtain ⟨_, _, vs', kv, dd⟩ := dk_of I.hok e
    have hn : (kvs.map (·.1)).Nodup := by
      obtain ⟨_, _, _, _, _, _, _, _, hn⟩ := dd
      rw [kv.keys]; exact hn
    subst e2
    have hz' : kvs.length < sizeLine := by simpa using hz
    obtain ⟨f1, f2⟩ := dput_kvs hv hn r1
    exact d_setItem (by omega) I (DPut.k e hz') ry rv fun s' I' => h s' _ I' (.inl ⟨_, rfl, f1, f2⟩)
  | nest l b e1 hne e2 r1 r2 rk h8 =>
    have eo := un e1 rfl
    subst eo
    subst e2
    obtain ⟨hs, xs, rfl, rvs, dd, hzx, h8'⟩ := dn_dict I wh (.inl e) r1
    cases (show u = Value.ref b from ry)
    have hm : List.map (fun x : NestedKey × Addr => x.1) (List.map (fun x : NestedKey × Addr × Value => (x.1, x.2.1)) xs) = xs.map (·.1) := by rw [List.map_map]; rfl
    have hn : (xs.map (·.1)).Nodup := by obtain ⟨_, _, _, _, _, _, _, _, hn⟩ := dd; exact hn
    rw [hm] at r1 h
    rw [List.map_map] at r1
    obtain ⟨vs', g1, g2, g3, g4⟩ := dput_zip (k := .tup l) (b := b) hv rv rk hn rvs r2 r1
    have hzl : xs.length < sizeLine := by
      rw [hm, nkDs_map, List.length_map, List.length_map] at hz; exact hz
    refine wpAny_setItem_heap (hsz := hzx) (room8 hu) ⟨rep_nested I wh _ _ _ rk rfl, h8⟩ dd fun h' dd' sb => ?_
    have he : ∃ q, h'.get? a = some q := let ⟨q, _, _, hq, _⟩ := dd'; ⟨q, hq⟩
    have hl := storedH_length (xs := xs) (k := .tup l) (a := b) (u := r)
    refine h _ (.ext (DictN X.prog X.w a ((storedH xs (.tup l) b r).map fun x => (x.1, x.2.1)) vs')) (d_write I mu sb he (dn_new hs (by omega) g1 dd' fun p hp => ?_)) (.inr ⟨_, vs', rfl, by simpa using storedH_ne, ?_, ?_, g2⟩)
    · rcases storedH_mem hp with ⟨q, hq, z⟩ | z
      · rw [z]; exact h8' _ hq
      · rw [z]; exact h8
    · rw [List.map_map]; exact g3
    · rw [List.map_map, g3]; exact g4
  | first l b e1 e2 e3 rk h8 =>
    have eo := un e1 rfl
    subst eo
    subst e2 e3
    obtain ⟨hs, dd⟩ := dk_nest I (.inl e)
    cases (show u = Value.ref b from ry)
    refine wpAny_setItem_heap (hsz := by simp) (room8 hu) ⟨rep_nested I wh _ _ _ rk rfl, h8⟩ dd fun h' dd' sb => ?_
    have he : ∃ q, h'.get? a = some q := let ⟨q, _, _, hq, _⟩ := dd'; ⟨q, hq⟩
    have hst : storedH ([] : List (NestedKey × Addr × Value)) (.tup l) b r = [(.tup l, b, r)] := rfl
    rw [hst] at dd'
    refine h _ (.ext (DictN X.prog X.w a [(.tup l, b)] [v])) (d_write I mu sb he (dn_new (xs := [(.tup l, b, r)]) hs (by show 1 ≤ sizeLine; decide) (.cons rv .nil) dd' fun p hp => ?_)) (.inr ⟨_, [v], rfl, by simp, rfl, .cons rk .nil, .cons hv .nil⟩)
    have : p = (.tup l, b, r) := by simpa using hp
    rw [this]; exact h8
end
end Pv

set_option autoImplicit false
set_option linter.all false
set_option maxRecDepth 100000
/-! Pv: isinstance. -/
namespace Pv
open PySem L2

/-- the classes of the module: `ok cl "__class__"` tells which may be looked at -/
structure ClsOk (c : Cn) (ok : Str → Str → Bool) : Prop where
  ins : ∀ cl, ok cl "__class__" = true → ∃ C, c.mg cl = some (.ref C) ∧ C8.InsC c.K C ∧ (∀ T ∈ ["int", "bool", "str", "tuple", "list", "dict"], PySem.W.kitOne c.K (.ref C) (.type T) = some false) ∧
    (∀ T ∈ ["NoneType", "int", "bool", "str", "tuple", "list", "dict"], PySem.W.kitOne c.K (.type T) (.ref C) = some false)
  two : ∀ c1 c2 C1 C2, ok c1 "__class__" = true → ok c2 "__class__" = true → c.mg c1 = some (.ref C1) → c.mg c2 = some (.ref C2) → PySem.W.kitOne c.K (.ref C1) (.ref C2) = some (c1 == c2)
  attr : ∀ cl f C, ok cl f = true → f ≠ "__class__" → c.mg cl = some (.ref C) → Cls c.K C ∧ NoAttr c.K C f

/-- the type's name -/
def tyNm : D → String
  | .non => "NoneType"
  | .bl _ => "bool"
  | .int _ => "int"
  | .str _ => "str"
  | .tup _ => "tuple"
  | .lst _ => "list"
  | .dic _ _ => "dict"
  | .bowl => "list"
  | _ => ""
def isObj : D → Option Str
  | .obj c _ _ => some c
  | _ => none
def Ty.nm : Ty → String
  | .int => "int"
  | .bool => "bool"
  | .str => "str"
  | .tuple => "tuple"
  | .list => "list"
  | .dict => "dict"
  | .cls _ => ""
section
variable {X : Cx}
/-- the kit's look at a value's type -/
theorem kit_D {pins : List (Addr × Obj)} {σ : St} {H : Hp} {s : Shared} {W : Wd} {d : D} {v : V} {u : Value} {ok : Str → Str → Bool} (hcl : ClsOk (cOf X) ok) (I : Inv X pins σ H s) (wh : W.In H) (x : Rdv (cOf X) W H d v) (r : RelV v u) (h : isiOk ok d = true) :
    ∃ t P, PySem.W.KitX X.K u t P ∧ P s.heap ∧ u ≠ .builtin "__main__.__loader__#opaque" ∧ ((isObj d = none ∧ t = .type (tyNm d) ∧ tyNm d ∈ ["NoneType", "int", "bool", "str", "tuple", "list", "dict"]) ∨ ∃ c C, isObj d = some c ∧ ok c "__class__" = true ∧ X.mg c = some (.ref C) ∧ t = .ref C) := by
  have go : ∀ {t : Value}, TyX X.K H v t → ((isObj d = none ∧ t = .type (tyNm d) ∧ tyNm d ∈ ["NoneType", "int", "bool", "str", "tuple", "list", "dict"]) ∨ ∃ c C, isObj d = some c ∧ ok c "__class__" = true ∧ X.mg c = some (.ref C) ∧ t = .ref C) →
    ∃ t P, PySem.W.KitX X.K u t P ∧ P s.heap ∧ u ≠ .builtin "__main__.__loader__#opaque" ∧ ((isObj d = none ∧ t = .type (tyNm d) ∧ tyNm d ∈ ["NoneType", "int", "bool", "str", "tuple", "list", "dict"]) ∨ ∃ c C, isObj d = some c ∧ ok c "__class__" = true ∧ X.mg c = some (.ref C) ∧ t = .ref C) :=
    fun {t} ty q => let ⟨P, Z, p, hx⟩ := kit_of I r ty; ⟨t, P, Z, p, hx, q⟩
  cases d with
  | non => cases (show v = V.non by simpa only [Rdv, Rep] using x); exact go (.base .non) (.inl ⟨rfl, rfl, by simp [tyNm]⟩)
  | bl b => cases (show v = V.bl b by simpa only [Rdv, Rep] using x); exact go (.base (.bl b)) (.inl ⟨rfl, rfl, by simp [tyNm]⟩)
  | int b => cases (show v = V.int b by simpa only [Rdv, Rep] using x); exact go (.base (.int b)) (.inl ⟨rfl, rfl, by simp [tyNm]⟩)
  | str b => cases (show v = V.str b ∧ b.length ≤ sizeLine by simpa only [Rdv, Rep] using x).1; exact go (.base (.str b)) (.inl ⟨rfl, rfl, by simp [tyNm]⟩)
  | tup l =>
    obtain ⟨a, vs, rfl, h1, h2⟩ := rdv_tup wh x
    rcases h1 with (z | ⟨o, z⟩) | ⟨o, _, _, z, zc, _⟩
    all_goals first
      | exact go (.base (.tup z)) (.inl ⟨rfl, rfl, by simp [tyNm]⟩)
      | exact go (.fTuple z) (.inl ⟨rfl, rfl, by simp [tyNm]⟩)
      | exact go (.kTuple z zc) (.inl ⟨rfl, rfl, by simp [tyNm]⟩)
  | lst l =>
    obtain ⟨a, vs, rfl, h1, h2⟩ := x
    rcases h1 with z | ⟨o, z⟩
    · exact go (.base (.lst z)) (.inl ⟨rfl, rfl, by simp [tyNm]⟩)
    · exact go (.base (.frz z)) (.inl ⟨rfl, rfl, by simp [tyNm]⟩)
  | dic ks ds =>
    obtain ⟨a, o, rfl, h1, h2⟩ := x
    cases (show u = Value.ref a from r)
    exact ⟨.type "dict", PySem.W.KitAt a "dict", PySem.W.kitx_dict, dict_type I h1 h2, (fun z => nomatch z), Or.inl ⟨rfl, rfl, by simp [tyNm]⟩⟩
  | obj c ns ds =>
    obtain ⟨a, C, dx, vs, rfl, h1, h2, h3, _⟩ := x
    obtain ⟨C', e, ic, _⟩ := hcl.ins c h
    have e' : C' = C := by
      have e2 : X.mg c = some (.ref C') := e
      have h3' : X.mg c = some (.ref C) := h3
      rw [e2] at h3'; cases h3'; rfl
    subst e'
    exact go (.base (.ins h1 ic.cl ic.ha ic.hn ic.htk ic.hm)) (.inr ⟨c, C', rfl, h, h3, rfl⟩)
  | bowl =>
    obtain ⟨a, rfl, h1⟩ := (show ∃ a, v = .ref a ∧ W.bw a by simpa only [Rdv, Rep] using x)
    obtain ⟨_, _, _, z⟩ := (wh.bw a h1).1
    exact go (.base (.lst z)) (.inl ⟨rfl, rfl, by simp [tyNm]⟩)
  | fn f => cases h
  | clo f l => cases h
theorem kitB_eq : ∀ T ∈ ["NoneType", "int", "bool", "str", "tuple", "list", "dict"], ∀ t ∈ [Ty.int, .bool, .str, .tuple, .list, .dict], kitB T t.nm = some (T == t.nm || (T == "bool" && t.nm == "int")) := by decide +kernel
theorem tyIs_eq {d : D} {t : Ty} (h : isObj d = none) (ht : t ∈ [Ty.int, .bool, .str, .tuple, .list, .dict]) (hd : tyNm d ∈ ["NoneType", "int", "bool", "str", "tuple", "list", "dict"]) : tyIs d t = (tyNm d == t.nm || (tyNm d == "bool" && t.nm == "int")) := by
  simp only [List.mem_cons, List.not_mem_nil, or_false] at ht
  rcases ht with rfl | rfl | rfl | rfl | rfl | rfl <;> cases d <;> first | rfl | (exact absurd hd (by decide)) | (cases h)
theorem tyIs_obj {c : Str} {ns : List Str} {vs : List D} {t : Ty} (ht : t ∈ [Ty.int, .bool, .str, .tuple, .list, .dict]) : tyIs (.obj c ns vs) t = false := by
  simp only [List.mem_cons, List.not_mem_nil, or_false] at ht
  rcases ht with rfl | rfl | rfl | rfl | rfl | rfl <;> rfl
/-- the class that stands for a type -/
def TyAt (c : Cn) (ok : Str → Str → Bool) (t : Ty) (w : V) : Prop := match t with
  | .cls n => ok n "__class__" = true ∧ ∃ C, c.mg n = some (.ref C) ∧ w = .ref C
  | t => w = .ty t.nm
theorem kit_one {ok : Str → Str → Bool} {d : D} {t : Value} {ty : Ty} {w : V} (hcl : ClsOk (cOf X) ok) (hw : TyAt (cOf X) ok ty w)
    (q : (isObj d = none ∧ t = .type (tyNm d) ∧ tyNm d ∈ ["NoneType", "int", "bool", "str", "tuple", "list", "dict"]) ∨ ∃ c C, isObj d = some c ∧ ok c "__class__" = true ∧ X.mg c = some (.ref C) ∧ t = .ref C) :
    ∃ wv, ClsV w wv ∧ PySem.W.kitOne X.K t wv = some (tyIs d ty) := by
  have own : ∀ n, ty = .cls n → ∃ wv, ClsV w wv ∧ PySem.W.kitOne X.K t wv = some (tyIs d ty) := by
    intro n e
    subst e
    obtain ⟨h1, C, h2, rfl⟩ := hw
    refine ⟨_, .own C, ?_⟩
    obtain ⟨C', e, ic, k1, k2⟩ := hcl.ins n h1
    rw [h2] at e; cases e
    rcases q with ⟨a1, rfl, a3⟩ | ⟨c, C', a1, a2, a3, rfl⟩
    · refine Eq.trans (k2 _ a3) ?_
      cases d <;> first | rfl | cases a1
    · refine Eq.trans (hcl.two c n C' C a2 h1 a3 h2) ?_
      cases d <;> first | (cases a1; show some (c == n) = some (n == c); exact congrArg some BEq.comm) | cases a1
  have blt : ty ∈ [Ty.int, .bool, .str, .tuple, .list, .dict] → ∃ wv, ClsV w wv ∧ PySem.W.kitOne X.K t wv = some (tyIs d ty) := by
    intro ht
    have hw' : w = .ty ty.nm := by
      cases ty <;> first | exact hw | (exact absurd ht (by simp))
    subst hw'
    refine ⟨_, .ty _, ?_⟩
    rcases q with ⟨a1, rfl, a3⟩ | ⟨c, C', a1, a2, a3, rfl⟩
    · rw [tyIs_eq a1 ht a3]
      exact kit_ty (kitB_eq _ a3 _ ht)
    · obtain ⟨C2, e, ic, k1, k2⟩ := hcl.ins c a2
      have e : X.mg c = some (.ref C2) := e
      rw [a3] at e; cases e
      refine Eq.trans (k1 _ ?_) ?_
      rotate_left
      · cases d <;> first | (cases a1; rw [tyIs_obj ht]) | cases a1
      · simp only [List.mem_cons, List.not_mem_nil, or_false] at ht
        rcases ht with rfl | rfl | rfl | rfl | rfl | rfl <;> simp [Ty.nm]
  cases ty with
  | cls n => exact own n rfl
  | int => exact blt (by simp)
  | bool => exact blt (by simp)
  | str => exact blt (by simp)
  | tuple => exact blt (by simp)
  | list => exact blt (by simp)
  | dict => exact blt (by simp)
/-- isinstance(x, T) -/
theorem call_isiD {ok : Str → Str → Bool} (hcl : ClsOk (cOf X) ok) {ty : Ty} {w : V} (hw : TyAt (cOf X) ok ty w) : CallR X (.builtin "isinstance") (fun xs H Q => ∃ W d v, xs = [v, w] ∧ W.In H ∧ Rdv (cOf X) W H d v ∧ isiOk ok d = true ∧ Q (.bl (tyIs d ty)) H) := by
  intro pins s σ H xs us Q I r h
  obtain ⟨W, d, v, rfl, wh, hv, hi, q⟩ := h
  obtain ⟨u1, u2, rfl, r1, r2⟩ := vals2 r
  obtain ⟨t, P, Z, p, hx, q1⟩ := kit_D hcl I wh hv r1 hi
  obtain ⟨wv, k, e⟩ := kit_one hcl hw q1
  have e2 := k.eq r2
  subst e2
  exact PySem.W.kia_one Z I.kIn p e hx fun tk => ⟨.bl _, H, I.tok tk, rfl, q⟩
/-- isinstance(x, (T, U)) -/
theorem call_isiDT {ok : Str → Str → Bool} (hcl : ClsOk (cOf X) ok) {ts : List Ty} {ws : List V} (hw : Paired (TyAt (cOf X) ok) ts ws) : CallR X (.builtin "isinstance") (fun xs H Q => ∃ W d v tp, xs = [v, .ref tp] ∧ H tp = some (.tup ws) ∧ W.In H ∧ Rdv (cOf X) W H d v ∧ isiOk ok d = true ∧ Q (.bl (ts.any (tyIs d))) H) := by
  intro pins s σ H xs us Q I r h
  obtain ⟨W, d, v, tp, rfl, hT, wh, hv, hi, q⟩ := h
  obtain ⟨u1, u2, rfl, r1, r2⟩ := vals2 r
  cases (show u2 = Value.ref tp from r2)
  obtain ⟨t, P, Z, p, hx, q1⟩ := kit_D hcl I wh hv r1 hi
  have go : ∃ cs, Paired ClsV ws cs ∧ PySem.W.kitAny X.K t cs = some (ts.any (tyIs d)) := by
    clear q hT r2
    induction hw with
    | nil => exact ⟨[], .nil, kitAny_nil⟩
    | @cons ty w tl wl h1 h2 ih =>
      obtain ⟨cs, k1, k2⟩ := ih
      obtain ⟨wv, k, e⟩ := kit_one hcl h1 q1
      refine ⟨wv :: cs, .cons k k1, kitAny_cons e (fun z => ?_) fun z => ?_⟩
      · rw [k2, List.any_cons, z]; rfl
      · rw [List.any_cons, z]; rfl
  obtain ⟨cs, k1, k2⟩ := go
  obtain ⟨_, its, rv, o, h1, h2, n, h3⟩ := (show ObjOk X.prog X.w H s.heap tp (.tup ws) from I.hok tp _ hT)
  have e3 := ClsV.all k1 rv
  subst e3
  obtain ⟨oc, od, dt, sl⟩ := o
  simp only at h2 h3
  subst h2 h3
  exact PySem.W.kia_tup Z I.kIn p h1 k2 hx fun tk => ⟨.bl _, H, I.tok tk, rfl, q⟩
end
end Pv

set_option autoImplicit false
set_option linter.all false
set_option maxRecDepth 100000
/-! Pv: the rules by the checked form. -/
namespace Pv
open PySem L2

/-- flags by a list -/
def fl (l : List Bool) : Nat → Bool := fun i => l.getD i false
theorem fl_set {l : List Bool} {i : Nat} : (fun j => if j = i then false else fl l j) = fl (l.set i false) := by
  funext j
  unfold fl
  rw [List.getD_eq_getElem?_getD, List.getD_eq_getElem?_getD, List.getElem?_set]
  by_cases h : j = i
  · subst h
    by_cases h2 : j < l.length
    · simp [h2]
    · simp [h2]
  · rw [if_neg h, if_neg (fun e => h e.symm)]
theorem fl_put {l : List Bool} {i : Nat} {b : Bool} (h : i < l.length) : (fun j => if j = i then b else fl l j) = fl (l.set i b) := by
  funext j
  unfold fl
  rw [List.getD_eq_getElem?_getD, List.getD_eq_getElem?_getD, List.getElem?_set]
  by_cases h2 : j = i
  · subst h2; simp [h]
  · rw [if_neg h2, if_neg (fun e => h2 e.symm)]
/-- lower flags -/
def subL : List Bool → List Bool → Bool
  | [], _ => true
  | false :: l, [] => subL l []
  | true :: _, [] => false
  | a :: l, b :: m => (!a || b) && subL l m
theorem fl_sub : ∀ {l m : List Bool}, subL l m = true → ∀ i, fl l i = true → fl m i = true
  | [], m, _, i, h => by simp [fl] at h
  | false :: l, [], h, 0, hi => by simp [fl] at hi
  | false :: l, [], h, i + 1, hi => by
    have := fl_sub (l := l) (m := []) h i (by simpa [fl] using hi)
    simp [fl] at this
  | a :: l, b :: m, h, i, hi => by
    have h : ((!a || b) && subL l m) = true := by
      cases a <;> exact h
    rw [Bool.and_eq_true] at h
    cases i with
    | zero =>
      have ha : a = true := by simpa [fl] using hi
      subst ha
      have : b = true := by simpa using h.1
      simp [fl, this]
    | succ i =>
      have := fl_sub (l := l) (m := m) h.2 i (by simpa [fl] using hi)
      simpa [fl] using this

/-- a context of this program, with this scope and these slots -/
structure Sx (c : Cn) (B : Heap) (N : List Str) (sc : Scope) (fb : Str → Bool) (j : Nat) (X : Cx) : Prop where
  pr : X.prog = c.P
  ww : X.w = c.w
  kk : X.K = c.K
  mg : X.mg = c.mg
  bs : X.base = B
  nN : X.N = N
  sc : X.env.scope = sc
  room : Room j X.A
  calm : X.calm = true
  nd : N.Nodup
  fn : ∀ x, fb x = true → X.fn x = true
  xe : X.xe = fun _ _ => False
theorem Sx.co {c : Cn} {B : Heap} {N : List Str} {sc : Scope} {fb : Str → Bool} {j : Nat} {X : Cx} (S : Sx c B N sc fb j X) : cOf X = c := by
  obtain ⟨P, w, K, mg⟩ := c
  obtain ⟨h1, h2, h3, h4, _, _⟩ := S
  subst h1 h2 h3 h4
  rfl
theorem Sx.hu {c : Cn} {B : Heap} {N : List Str} {sc : Scope} {fb : Str → Bool} {j : Nat} {X : Cx} (S : Sx c B N sc fb j X) : X.A.units + 80 < cLine := by have := S.room.un; omega
theorem Sx.hp {c : Cn} {B : Heap} {N : List Str} {sc : Scope} {fb : Str → Bool} {j : Nat} {X : Cx} (S : Sx c B N sc fb j X) : PySem.PassesOwn (model X.prog X.w) X.A X.env X.xe := by
  rw [S.xe]; exact PySem.PassesOwn.never

def visC (sc : Scope) (x : Str) : Bool := match sc.names.lookup x with
  | some .local => true
  | some .cell => true
  | some .free => true
  | _ => false
def locC (sc : Scope) (x : Str) : Bool := match sc.names.lookup x with
  | some .local => true
  | some .cell => true
  | _ => false
def glC (sc : Scope) (x : Str) : Bool := match sc.names.lookup x with
  | some .globalImplicit => true
  | _ => false
section
variable {c : Cn} {B : Heap} {N : List Str} {sc : Scope} {fb : Str → Bool} {j : Nat} {X : Cx}
theorem Sx.vis (S : Sx c B N sc fb j X) {x : Str} (h : visC sc x = true) : Vis X.env.scope x := by
  rw [S.sc]
  unfold visC at h
  unfold Vis
  split at h <;> simp_all
theorem Sx.loc (S : Sx c B N sc fb j X) {x : Str} (h : locC sc x = true) : L2.Loc X.env.scope x := by
  rw [S.sc]
  unfold locC at h
  unfold L2.Loc
  split at h <;> simp_all
theorem Sx.gl (S : Sx c B N sc fb j X) {x : Str} (h : glC sc x = true) : Gl X x := by
  unfold Gl Env.kindOf
  rw [S.sc]
  unfold glC at h
  split at h <;> simp_all
end

/-! ### expressions by the checked form -/
section
variable {c : Cn} {B : Heap} {N : List Str} {sc : Scope} {fb : Str → Bool} {j : Nat} {X : Cx} {io : Io} {G : Glo} {Φ : Phi} {F F1 F2 F' : List Bool} {e : Expr} {ie : IE} {b : Bool}
/-- an expression reads as this form -/
abbrev EE (X : Cx) (io : Io) (G : Glo) (Φ : Phi) (b : Bool) (e : Expr) (ie : IE) (F F' : List Bool) : Prop := PE X e (teD X io b (fun ρ => evE G Φ ρ ie) (fl F) (fl F'))
abbrev EB (X : Cx) (io : Io) (G : Glo) (Φ : Phi) (e : Expr) (ie : IE) (F F' : List Bool) : Prop := PE X e (teB X io (fun ρ => evE G Φ ρ ie) (fl F) (fl F'))
abbrev ET (X : Cx) (io : Io) (G : Glo) (Φ : Phi) (e : Expr) (ie : IE) (F F' : List Bool) : Prop := PT X e (ttD X io (fun ρ => testE G Φ ρ ie) (fl F) (fl F'))
abbrev EA (X : Cx) (io : Io) (G : Glo) (Φ : Phi) (es : List Expr) (ie : IE) (F F' : List Bool) : Prop := PA X es (taD X io (fun ρ => evL G Φ ρ ie) (fl F) (fl F'))
abbrev EAB (X : Cx) (io : Io) (G : Glo) (Φ : Phi) (es : List Expr) (ie : IE) (F F' : List Bool) : Prop := PA X es (taB X io (fun ρ => evL G Φ ρ ie) (fl F) (fl F'))
theorem teD_ext {m m' : Env → R D} {F F' : Nat → Bool} (h : ∀ ρ, m ρ = m' ρ) : teD X io b m F F' = teD X io b m' F F' := by rw [funext h]
theorem r_eb (h : EE X io G Φ b e ie F F') : EB X io G Φ e ie F F' := h.any.bor
theorem r_fz (h : EE X io G Φ b e ie F F') : EE X io G Φ false e ie F F' := h.any
theorem r_low (h : EE X io G Φ b e ie F F') (hf : subL F2 F' = true) : EE X io G Φ b e ie F F2 := h.flags (fl_sub hf)
theorem r_lowT (h : ET X io G Φ e ie F F') (hf : subL F2 F' = true) : ET X io G Φ e ie F F2 := h.flags (fl_sub hf)
theorem r_varB {i : Nat} {x : Str} {pos : Pos} (S : Sx c B N sc fb j X) (hN : N[i]? = some x) (hv : visC sc x = true) (hd : ((x == ("__debug__" : Str)) || (x == ("__classdict__" : Str))) = false) : EB X io G Φ (.Name x pos) (.var i) F F := by
  rw [Bool.or_eq_false_iff] at hd
  exact e_varB (by rw [S.nN]; exact hN) (S.vis hv) hd.1 hd.2
theorem r_var {i : Nat} {x : Str} {pos : Pos} (S : Sx c B N sc fb j X) (hN : N[i]? = some x) (hv : visC sc x = true) (hd : ((x == ("__debug__" : Str)) || (x == ("__classdict__" : Str))) = false) : EE X io G Φ false (.Name x pos) (.var i) F (F.set i false) := by
  rw [Bool.or_eq_false_iff] at hd
  unfold EE
  rw [← fl_set]
  exact e_var (by rw [S.nN]; exact hN) (S.vis hv) hd.1 hd.2
theorem r_non {jj pos} : EE X io G Φ true (.Constant .none jj pos) .non F F := e_con (d := .non) (v := .non) pe_non rfl fun _ => by simp only [Rep]
theorem r_bl {k jj pos} : EE X io G Φ true (.Constant (.bool k) jj pos) (.bl k) F F := e_con (d := .bl k) (v := .bl k) pe_bl rfl fun _ => by simp only [Rep]
theorem r_int {k jj pos} : EE X io G Φ true (.Constant (.int k) jj pos) (.int k) F F := e_con (d := .int k) (v := .int k) pe_int rfl fun _ => by simp only [Rep]
theorem r_str {k jj pos} (hz : k.length ≤ sizeLine) : EE X io G Φ true (.Constant (.str k) jj pos) (.str k) F F := e_con (d := .str k) (v := .str k) pe_str rfl fun _ => by simp only [Rep]; exact ⟨trivial, hz⟩
/-- constants of the module -/
def GlOk (c : Cn) (G : Glo) : Prop := ∀ x d, G.con x = some d → d ≠ .bowl ∧ ∃ u v, c.mg x = some u ∧ RelV v u ∧ ∀ W, Rep c W d v
theorem r_glob {x : Str} {pos : Pos} (S : Sx c B N sc fb j X) (g : GlOk c G) (hg : glC sc x = true) (hd : (x == ("__debug__" : Str)) = false) (hs : (G.con x).isSome = true) : EE X io G Φ false (.Name x pos) (.glob x) F F := by
  obtain ⟨d, e⟩ := Option.isSome_iff_exists.mp hs
  obtain ⟨_, u, v, hm, r, h⟩ := g x d e
  refine (pe_glob (S.gl hg) (by rw [S.mg]; exact hm) r hd).imp fun σ H Q ⟨G', W, ρ, E, s⟩ => ?_
  have s : (evE G Φ ρ (.glob x)).Sat _ := s
  unfold evE at s
  rw [e] at s
  exact Fin.rep s (.refl W) E (by rw [S.co]; exact h W)

/-! operators -/
/-- the sign's own sense -/
theorem r_op2 {o : Op} {f : Value → Value → Sem Value} {a d : Expr} {ia id : IE} {mk : Expr} (ho : ∀ {ta tb : TE}, PE X a ta → PE X d tb → PE X mk (tOp (rD X (opE Φ o)) ta tb)) (ha : EB X io G Φ a ia F F1) (hb : EB X io G Φ d id F1 F') :
    EE X io G Φ true mk (.op o ia id) F F' := e_op2 (f := f) (g := opE Φ o) ho ha hb
theorem r_bin {o : Op} {po : Operator} {a d : Expr} {pos : Pos} {ia id : IE} (ho : OpR X (binaryOp po) (rD X (opE Φ o))) (ha : EB X io G Φ a ia F F1) (hb : EB X io G Φ d id F1 F') :
    EE X io G Φ true (.BinOp a po d pos) (.op o ia id) F F' := e_bin ho ha hb
theorem r_cmp {o : Op} {po : CmpOp} {a d : Expr} {pos : Pos} {ia id : IE} (ho : OpR X (compareOp po) (rD X (opE Φ o))) (ha : EB X io G Φ a ia F F1) (hb : EB X io G Φ d id F1 F') (hm : behindInMarks po d = false := by rfl) :
    EE X io G Φ true (.Compare a [po] [d] pos) (.op o ia id) F F' := e_cmp ho ha hb hm
def isCmp : Op → Bool
  | .eq | .ne | .lt | .le | .gt | .ge | .is | .isnot | .inn | .notin => true
  | _ => false
theorem cmp_bl {o : Op} (h : isCmp o = true) (x y : D) (P : D → Prop) (s : (opE Φ o x y).Sat P) : (opE Φ o x y).Sat fun d => (∃ k, d = .bl k) ∧ P d := by
  have hh : ∀ {m : R Bool} {f : Bool → Bool}, ((m.bind fun b => R.ok (D.bl (f b))).Sat P) → ((m.bind fun b => R.ok (D.bl (f b))).Sat fun d => (∃ k, d = .bl k) ∧ P d) := fun {m f} s => R.Sat.bind.mpr ((R.Sat.bind.mp s).mono fun b q => ⟨⟨_, rfl⟩, q⟩)
  have hi : ∀ {t : Bool} {k : Bool}, ((if t then R.ok (D.bl k) else .bad).Sat P) → ((if t then R.ok (D.bl k) else .bad).Sat fun d => (∃ k, d = .bl k) ∧ P d) := fun {t k} s => by
    cases t
    · exact s
    · exact ⟨⟨_, rfl⟩, s⟩
  cases o with
  | eq => have s : (eqD x y).Sat P := by cases x <;> cases y <;> exact s
          have r : (eqD x y).Sat fun d => (∃ k, d = .bl k) ∧ P d := hi s
          cases x <;> cases y <;> exact r
  | ne => have s : (neD x y).Sat P := by cases x <;> cases y <;> exact s
          have r : (neD x y).Sat fun d => (∃ k, d = .bl k) ∧ P d := hi s
          cases x <;> cases y <;> exact r
  | lt => have s : (if ordOk x y then R.ok (D.bl (D.lt x y)) else .bad).Sat P := by cases x <;> cases y <;> exact s
          have r := hi s
          cases x <;> cases y <;> exact r
  | gt => have s : (if ordOk x y then R.ok (D.bl (D.lt y x)) else .bad).Sat P := by cases x <;> cases y <;> exact s
          have r := hi s
          cases x <;> cases y <;> exact r
  | le => have s : (if ordOk x y then R.ok (D.bl (!D.lt y x)) else .bad).Sat P := by cases x <;> cases y <;> exact s
          have r := hi s
          cases x <;> cases y <;> exact r
  | ge => have s : (if ordOk x y then R.ok (D.bl (!D.lt x y)) else .bad).Sat P := by cases x <;> cases y <;> exact s
          have r := hi s
          cases x <;> cases y <;> exact r
  | is => cases x <;> cases y <;> first | exact s.elim | exact ⟨⟨_, rfl⟩, s⟩
  | isnot => cases x <;> cases y <;> first | exact s.elim | exact ⟨⟨_, rfl⟩, s⟩
  | inn => have s : ((inD x y).bind fun b => R.ok (D.bl b)).Sat P := by cases x <;> cases y <;> exact s
           have r := hh (f := fun b => b) s
           cases x <;> cases y <;> exact r
  | notin => have s : ((inD x y).bind fun b => R.ok (D.bl (!b))).Sat P := by cases x <;> cases y <;> exact s
             have r := hh (f := fun b => !b) s
             cases x <;> cases y <;> exact r
  | _ => cases h
theorem t_of_cmp {o : Op} {po : CmpOp} {a d : Expr} {pos : Pos} {ia id : IE} (ho : OpR X (compareOp po) (rD X (opE Φ o))) (hc : isCmp o = true) (ha : EB X io G Φ a ia F F1) (hb : EB X io G Φ d id F1 F') (hm : behindInMarks po d = false := by rfl) :
    ET X io G Φ (.Compare a [po] [d] pos) (.op o ia id) F F' := t_cmp ho (cmp_bl hc) ha hb hm
theorem o_eq (S : Sx c B N sc fb j X) : OpR X (compareOp .Eq) (rD X (opE Φ .eq)) := fun pins s σ H x y v u Q I rx ry ⟨W, dx, dy, wh, hx, hy, q⟩ => op_eqD' S.hu pins s σ H x y v u Q I rx ry ⟨W, dx, dy, wh, hx, hy, by cases dx <;> cases dy <;> exact q⟩
theorem o_ne (S : Sx c B N sc fb j X) : OpR X (compareOp .NotEq) (rD X (opE Φ .ne)) := fun pins s σ H x y v u Q I rx ry ⟨W, dx, dy, wh, hx, hy, q⟩ => op_neD' S.hu pins s σ H x y v u Q I rx ry ⟨W, dx, dy, wh, hx, hy, by cases dx <;> cases dy <;> exact q⟩
theorem o_lt (S : Sx c B N sc fb j X) : OpR X (compareOp .Lt) (rD X (opE Φ .lt)) := op_ltD S.hu
theorem o_gt (S : Sx c B N sc fb j X) : OpR X (compareOp .Gt) (rD X (opE Φ .gt)) := op_gtD S.hu
theorem o_le (S : Sx c B N sc fb j X) : OpR X (compareOp .LtE) (rD X (opE Φ .le)) := op_leD S.hu
theorem o_ge (S : Sx c B N sc fb j X) : OpR X (compareOp .GtE) (rD X (opE Φ .ge)) := op_geD S.hu
theorem o_in (S : Sx c B N sc fb j X) : OpR X (compareOp .In) (rD X (opE Φ .inn)) := op_inD S.hu
theorem o_notin (S : Sx c B N sc fb j X) : OpR X (compareOp .NotIn) (rD X (opE Φ .notin)) := op_notInD S.hu
theorem o_is (S : Sx c B N sc fb j X) : OpR X (compareOp .Is) (rD X (opE Φ .is)) := fun pins s σ H x y v u Q I rx ry ⟨W, dx, dy, wh, hx, hy, q⟩ => op_isD pins s σ H x y v u Q I rx ry ⟨W, dx, dy, wh, hx, hy, by cases dx <;> cases dy <;> exact q⟩
theorem o_isnot (S : Sx c B N sc fb j X) : OpR X (compareOp .IsNot) (rD X (opE Φ .isnot)) := fun pins s σ H x y v u Q I rx ry ⟨W, dx, dy, wh, hx, hy, q⟩ => op_isnotD pins s σ H x y v u Q I rx ry ⟨W, dx, dy, wh, hx, hy, by cases dx <;> cases dy <;> exact q⟩
theorem o_add (S : Sx c B N sc fb j X) : OpR X (binaryOp .Add) (rD X (opE Φ .add)) := op_addD
theorem o_sub (S : Sx c B N sc fb j X) : OpR X (binaryOp .Sub) (rD X (opE Φ .sub)) := op_subD
theorem o_mod (S : Sx c B N sc fb j X) : OpR X (binaryOp .Mod) (rD X (opE Φ .mod)) := op_modD
theorem o_fdiv (S : Sx c B N sc fb j X) : OpR X (binaryOp .FloorDiv) (rD X (opE Φ .fdiv)) := op_fdivD
theorem o_pow (S : Sx c B N sc fb j X) : OpR X (binaryOp .Pow) (rD X (opE Φ .pow)) := op_powD
theorem o_mul (S : Sx c B N sc fb j X) : OpR X (binaryOp .Mult) (rD X (opE Φ .mul)) := fun pins s σ H x y v u Q I rx ry ⟨W, dx, dy, wh, hx, hy, q⟩ => op_mulD pins s σ H x y v u Q I rx ry ⟨W, dx, dy, wh, hx, hy, by cases dx <;> cases dy <;> exact q⟩
end
end Pv

set_option autoImplicit false
set_option linter.all false
set_option maxRecDepth 100000
/-! Pv: the rules by the checked form, on. -/
namespace Pv
open PySem L2
theorem bind_assoc {α β γ : Type} (f : α → R β) (g : β → R γ) : ∀ m : R α, (m.bind f).bind g = m.bind fun x => (f x).bind g
  | .ok a => rfl
  | .exc c d => rfl
  | .bad => rfl
  | .draw n k => congrArg (R.draw n) (funext fun i => bind_assoc f g (k i))
theorem truthy_cases (d : D) : (∃ k, d.truthy = .ok k) ∨ d.truthy = .bad := by
  cases d <;> first | exact .inr rfl | exact .inl ⟨_, rfl⟩
section
variable {c : Cn} {B : Heap} {N : List Str} {sc : Scope} {fb : Str → Bool} {j : Nat} {X : Cx} {io : Io} {G : Glo} {Φ : Phi} {F F1 F2 F' : List Bool} {e a d : Expr} {ie ia id : IE} {b : Bool} {pos : Pos} {rest : List Expr}
theorem testE_not (ρ : Env) : testE G Φ ρ (.nott ia) = (testE G Φ ρ ia).bind fun k => .ok (!k) := by
  unfold testE
  rw [show evE G Φ ρ (.nott ia) = (evE G Φ ρ ia).bind fun x => x.truthy.bind fun b => .ok (.bl (!b)) from rfl, bind_assoc, bind_assoc]
  congr 1; funext x
  rw [bind_assoc]; rfl
theorem testE_and (ρ : Env) : testE G Φ ρ (.and ia id) = (testE G Φ ρ ia).bind fun t => if t then testE G Φ ρ id else .ok false := by
  unfold testE
  rw [show evE G Φ ρ (.and ia id) = (evE G Φ ρ ia).bind fun x => x.truthy.bind fun t => if t then evE G Φ ρ id else .ok x from rfl, bind_assoc, bind_assoc]
  congr 1; funext x
  rcases truthy_cases x with ⟨k, h⟩ | h <;> rw [h] <;> first | rfl | skip
  cases k
  · exact h
  · rfl
theorem testE_or (ρ : Env) : testE G Φ ρ (.or ia id) = (testE G Φ ρ ia).bind fun t => if t then .ok true else testE G Φ ρ id := by
  unfold testE
  rw [show evE G Φ ρ (.or ia id) = (evE G Φ ρ ia).bind fun x => x.truthy.bind fun t => if t then .ok x else evE G Φ ρ id from rfl, bind_assoc, bind_assoc]
  congr 1; funext x
  rcases truthy_cases x with ⟨k, h⟩ | h <;> rw [h] <;> first | rfl | skip
  cases k
  · rfl
  · exact h
theorem evE_ite (ρ : Env) (i1 i2 i3 : IE) : evE G Φ ρ (.ite i1 i2 i3) = (testE G Φ ρ i1).bind fun t => if t then evE G Φ ρ i2 else evE G Φ ρ i3 := by
  unfold testE
  rw [show evE G Φ ρ (.ite i1 i2 i3) = (evE G Φ ρ i1).bind fun x => x.truthy.bind fun t => if t then evE G Φ ρ i2 else evE G Φ ρ i3 from rfl, bind_assoc]

/-! truth -/
abbrev EW (X : Cx) (io : Io) (G : Glo) (Φ : Phi) (e : Expr) (ie : IE) (F F' : List Bool) : Prop := PW X e (ttD X io (fun ρ => testE G Φ ρ ie) (fl F) (fl F'))
theorem r_tval (ha : EB X io G Φ a ia F F') (he : ∀ whole, isTrue a X.env whole = (do let v ← whole; standAt a.pos; holding [v] (truthy v)) := by intro _; rfl) : ET X io G Φ a ia F F' := t_val he ha
theorem r_tnot (ha : ET X io G Φ a ia F F') : ET X io G Φ (.UnaryOp .Not a pos) (.nott ia) F F' := by
  unfold ET
  rw [funext testE_not]
  exact t_not ha
theorem r_tand (ha : ET X io G Φ a ia F F1) (hb : EW X io G Φ (.BoolOp .And (d :: rest) pos) id F1 F') (hf : subL F' F1 = true := by rfl) : EW X io G Φ (.BoolOp .And (a :: d :: rest) pos) (.and ia id) F F' := by
  unfold EW
  rw [funext testE_and]
  exact t_and ha hb (fl_sub hf)
theorem r_tor (ha : ET X io G Φ a ia F F1) (hb : EW X io G Φ (.BoolOp .Or (d :: rest) pos) id F1 F') (hf : subL F' F1 = true := by rfl) : EW X io G Φ (.BoolOp .Or (a :: d :: rest) pos) (.or ia id) F F' := by
  unfold EW
  rw [funext testE_or]
  exact t_or ha hb (fl_sub hf)
theorem r_tone {op : BoolOp} (h : ET X io G Φ a ia F F') : EW X io G Φ (.BoolOp op [a] pos) ia F F' := t_one h
theorem r_tw (h : EW X io G Φ e ie F F') : ET X io G Φ e ie F F' := h.pt
/-! values -/
theorem r_not (ha : EB X io G Φ a ia F F') : EE X io G Φ true (.UnaryOp .Not a pos) (.nott ia) F F' := e_not ha
theorem r_neg (ha : EB X io G Φ a ia F F') : EE X io G Φ true (.UnaryOp .USub a pos) (.neg ia) F F' := e_neg ha
theorem r_and (ha : EE X io G Φ false a ia F F1) (hb : EE X io G Φ false (.BoolOp .And (d :: rest) pos) id F1 F') (hf : subL F' F1 = true := by rfl) : EE X io G Φ false (.BoolOp .And (a :: d :: rest) pos) (.and ia id) F F' := e_and ha hb (fl_sub hf)
theorem r_or (ha : EE X io G Φ false a ia F F1) (hb : EE X io G Φ false (.BoolOp .Or (d :: rest) pos) id F1 F') (hf : subL F' F1 = true := by rfl) : EE X io G Φ false (.BoolOp .Or (a :: d :: rest) pos) (.or ia id) F F' := e_or ha hb (fl_sub hf)
theorem r_one {op : BoolOp} (h : EE X io G Φ false a ia F F') : EE X io G Φ false (.BoolOp op [a] pos) ia F F' := e_one h
theorem r_ite {t : Expr} {it : IE} (hc : ET X io G Φ t it F F1) (ha : EE X io G Φ b a ia F1 F') (hb : EE X io G Φ b d id F1 F') : EE X io G Φ b (.IfExp t a d pos) (.ite it ia id) F F' := by
  unfold EE
  rw [funext fun ρ => evE_ite ρ it ia id]
  exact e_ite hc ha hb
/-! argument lists -/
variable {es : List Expr} {il : IE}
theorem r_anil : EA X io G Φ [] .enil F F := a_nil
theorem r_anilB : EAB X io G Φ [] .enil F F := a_nilB
theorem r_acons (ha : EE X io G Φ b e ie F F1) (hr : EA X io G Φ es il F1 F') (hs : starEach (e :: es) X.env = (false, eval e X.env) :: starEach es X.env := by rfl) : EA X io G Φ (e :: es) (.econs ie il) F F' := a_cons ha.any hr hs
theorem r_aconsB (ha : EB X io G Φ e ie F F1) (hr : EAB X io G Φ es il F1 F') (hs : starEach (e :: es) X.env = (false, eval e X.env) :: starEach es X.env := by rfl) : EAB X io G Φ (e :: es) (.econs ie il) F F' := a_consB ha hr hs
def lenIE : IE → Nat
  | .econs _ l => lenIE l + 1
  | _ => 0
theorem evL_len : ∀ (il : IE) (ρ : Env) (P : List D → Prop), (evL G Φ ρ il).Sat P → (evL G Φ ρ il).Sat fun ds => ds.length = lenIE il ∧ P ds := by
  intro il
  induction il with
  | enil => intro ρ P s; exact ⟨rfl, s⟩
  | econs e l _ ih =>
    intro ρ P s
    refine R.Sat.bind.mpr ((R.Sat.bind.mp s).mono fun x h => R.Sat.bind.mpr ((ih ρ _ (R.Sat.bind.mp h)).mono fun xs ⟨h1, h2⟩ => ⟨?_, h2⟩))
    rw [List.length_cons, h1, lenIE]
  | _ => intro ρ P s; exact s.elim
theorem r_tup {k : Nat} (h : EA X io G Φ es il F F') (hz : decide (lenIE il ≤ sizeLine) = true := by decide) : EE X io G Φ true (.Tuple es k pos) (.tup il) F F' :=
  e_tup h fun ρ P s => (evL_len il ρ P s).mono fun ds ⟨h1, h2⟩ => ⟨by rw [h1]; exact of_decide_eq_true hz, h2⟩
theorem r_lst (h : EA X io G Φ es il F F') (hz : decide (lenIE il ≤ sizeLine) = true := by decide) : EE X io G Φ true (.List es pos) (.lst il) F F' :=
  e_lst h fun ρ P s => (evL_len il ρ P s).mono fun ds ⟨h1, h2⟩ => ⟨by rw [h1]; exact of_decide_eq_true hz, h2⟩
/-! subscripts, slices, fields -/
theorem r_sub (S : Sx c B N sc fb j X) (ha : EB X io G Φ a ia F F1) (hb : EB X io G Φ d id F1 F') (hs : PlainIx d := by intro _ _; rfl) : EE X io G Φ false (.Subscript a d pos) (.sub ia id) F F' := e_sub S.hu ha hb hs
abbrev EO (X : Cx) (io : Io) (G : Glo) (Φ : Phi) (o : Option Expr) (lo : IE) (F F' : List Bool) : Prop := PO X o (toD X io (fun ρ => partO lo (evE G Φ ρ lo)) (fl F) (fl F'))
theorem r_onone : EO X io G Φ none .non F F := o_none
def notNon : IE → Bool
  | .non => false
  | _ => true
theorem r_osome (h : EB X io G Φ e ie F F') (hn : notNon ie = true := by rfl) : EO X io G Φ (some e) ie F F' := by
  have e1 : (fun ρ => partO ie (evE G Φ ρ ie)) = fun ρ => (evE G Φ ρ ie).bind fun d => match d with | .int i => .ok (some i) | _ => .bad := by
    funext ρ
    have e2 : partO ie (evE G Φ ρ ie) = (evE G Φ ρ ie).bind partS := by
      cases ie <;> first | rfl | cases hn
    rw [e2]
    rfl
  unfold EO
  rw [e1]
  exact o_some h
theorem r_slice {lo hi : Option Expr} {il ih : IE} {p2 : Pos} (ha : EB X io G Φ a ia F F1) (hl : EO X io G Φ lo il F1 F2) (hh : EO X io G Φ hi ih F2 F') : EE X io G Φ true (.Subscript a (.Slice lo hi none p2) pos) (.slice ia il ih) F F' := e_slice ha hl hh
theorem r_attr {f : Str} (S : Sx c B N sc fb j X) (hc : ClsOk c G.attrs) (he : EB X io G Φ e ie F F') (hf : (f == ("__class__" : Str)) = false := by decide) (hb : attributeBase e f X.env (eval e X.env) = eval e X.env := by rfl) : EE X io G Φ false (.Attribute e f pos) (.attr ie f) F F' :=
  e_attr (fun cl C hm ok => by rw [S.kk]; exact hc.attr cl f C ok (fun z => by rw [z] at hf; exact absurd hf (by decide)) (by rw [← S.mg]; exact hm)) he hb
/-! built-in functions -/
theorem r_fn {id : String} {x : Str} {p : Pos} {bf : Bf} (S : Sx c B N sc fb j X) (hc : CallR X (.builtin id) (rC X true (bfD bf))) (ha : EAB X io G Φ (e :: es) il F F') (hg : glC sc x = true) (hm : c.mg x = none) (hv : bootBuiltins x = some (.builtin id)) (hn : (x == ("__name__" : Str) || x == ("__debug__" : Str)) = false)
    (he : starEach (e :: es) X.env = (false, eval e X.env) :: starEach es X.env := by rfl) (hpl : (backTo pos (starEach es X.env)).any (·.1) = false := by rfl) : EE X io G Φ true (.Call (.Name x p) (e :: es) [] pos) (.bf bf il) F F' := by
  rw [Bool.or_eq_false_iff] at hn
  exact (pe_callB hc (S.gl hg) (by rw [S.mg]; exact hm) hv ha (fun z => by rw [z] at hn; exact absurd hn.1 (by decide)) hn.2 he hpl).imp fun σ H Q ⟨G', W, ρ, E, s⟩ => ⟨G', W, ρ, E, (R.Sat.bind.mp s).mono fun ds hd vs H1 W1 l1 E1 b1 => ⟨W1, ds, E1.wh, b1.rd E1, hd.mono fun d f => f.res l1 E1⟩⟩
theorem r_fnT {id : String} {x : Str} {p : Pos} {bf : Bf} (S : Sx c B N sc fb j X) (hc : CallR X (.type id) (rC X true (bfD bf))) (ha : EAB X io G Φ (e :: es) il F F') (hg : glC sc x = true) (hm : c.mg x = none) (hv : bootBuiltins x = some (.type id)) (hn : (x == ("__name__" : Str) || x == ("__debug__" : Str)) = false)
    (he : starEach (e :: es) X.env = (false, eval e X.env) :: starEach es X.env := by rfl) (hpl : (backTo pos (starEach es X.env)).any (·.1) = false := by rfl) : EE X io G Φ true (.Call (.Name x p) (e :: es) [] pos) (.bf bf il) F F' := by
  rw [Bool.or_eq_false_iff] at hn
  exact (pe_callTy hc (S.gl hg) (by rw [S.mg]; exact hm) hv ha (fun z => by rw [z] at hn; exact absurd hn.1 (by decide)) hn.2 he hpl).imp fun σ H Q ⟨G', W, ρ, E, s⟩ => ⟨G', W, ρ, E, (R.Sat.bind.mp s).mono fun ds hd vs H1 W1 l1 E1 b1 => ⟨W1, ds, E1.wh, b1.rd E1, hd.mono fun d f => f.res l1 E1⟩⟩
/-! isinstance -/
/-- a class's name, as a value -/
theorem pe_tyB {T : Ty} {x : Str} {p : Pos} (S : Sx c B N sc fb j X) (hT : T ∈ [Ty.int, .bool, .str, .tuple, .list, .dict]) (hx : x = Str.ofString T.nm) (hg : glC sc x = true) (hm : c.mg x = none) : PE X (.Name x p) (tC (.ty T.nm)) := by
  have hv : bootBuiltins x = some (.type T.nm) := by
    subst hx
    simp only [List.mem_cons, List.not_mem_nil, or_false] at hT
    rcases hT with rfl | rfl | rfl | rfl | rfl | rfl <;> rfl
  have h2 : x ≠ "__name__" ∧ (x == ("__debug__" : Str)) = false := by
    subst hx
    simp only [List.mem_cons, List.not_mem_nil, or_false] at hT
    rcases hT with rfl | rfl | rfl | rfl | rfl | rfl <;> exact ⟨by decide, by decide⟩
  exact pe_bltn (S.gl hg) (by rw [S.mg]; exact hm) hv rfl h2.1 h2.2
theorem r_isi {T : Ty} {w : V} {p : Pos} {ty : Expr} (S : Sx c B N sc fb j X) (hc : ClsOk c G.attrs) (hw : TyAt c G.attrs T w) (ht : PE X ty (tC w)) (ha : EB X io G Φ a ia F F') (hg : glC sc "isinstance" = true) (hm : c.mg "isinstance" = none)
    (he : starEach [a, ty] X.env = (false, eval a X.env) :: starEach [ty] X.env := by rfl) (he2 : starEach [ty] X.env = (false, eval ty X.env) :: starEach [] X.env := by rfl) (hpl : (backTo pos (starEach [ty] X.env)).any (·.1) = false := by rfl) :
    EE X io G Φ true (.Call (.Name "isinstance" p) [a, ty] [] pos) (.isi ia [T]) F F' := by
  have hcl : CallR X (.builtin "isinstance") _ := call_isiD (ok := G.attrs) (by rw [S.co]; exact hc) (ty := T) (w := w) (by rw [S.co]; exact hw)
  refine (pe_callB hcl (S.gl hg) (by rw [S.mg]; exact hm) rfl (pa_cons ha (pa_cons ht pa_nil he2) he) (by decide) (by decide) he hpl).imp fun σ H Q ⟨G', W, ρ, E, s⟩ => ⟨G', W, ρ, E, (R.Sat.bind.mp s).mono fun d hd v H1 W1 l1 E1 b1 => ?_⟩
  obtain ⟨h1, h2⟩ := sat_if hd
  refine ⟨W1, d, v, rfl, E1.wh, b1.rd E1, h1, ?_⟩
  have h2 : Fin (cOf X) G' io σ ρ (fl F') W true (.bl ([T].any (tyIs d))) Q := h2
  rw [show [T].any (tyIs d) = tyIs d T by simp] at h2
  exact h2.bare l1 E1 rfl (by simp only [Rep])
end
end Pv

set_option autoImplicit false
set_option linter.all false
set_option maxRecDepth 100000
/-! Pv: cells pinned for a call, set free for a closure's body. -/
namespace Pv
open PySem L2
/-! ### heaps -/
def pinH (H : Hp) (h : Heap) (T : List Addr) : Hp := fun a => if a ∈ T then (h.get? a).map (fun o => .frz o (.own 0)) else H a
def unpinH (H : Hp) (T : List Addr) : Hp := fun a => if a ∈ T then none else H a
def joinH (H H' : Hp) (T : List Addr) : Hp := fun a => if a ∈ T then H a else H' a
theorem pin_in {H : Hp} {h : Heap} {T : List Addr} {a : Addr} {o : Obj} (ha : a ∈ T) (e : h.get? a = some o) : pinH H h T a = some (.frz o (.own 0)) := by unfold pinH; rw [if_pos ha, e]; rfl
theorem pin_out {H : Hp} {h : Heap} {T : List Addr} {a : Addr} (ha : a ∉ T) : pinH H h T a = H a := by unfold pinH; rw [if_neg ha]
theorem unpin_in {H : Hp} {T : List Addr} {a : Addr} (ha : a ∈ T) : unpinH H T a = none := by unfold unpinH; rw [if_pos ha]
theorem unpin_out {H : Hp} {T : List Addr} {a : Addr} (ha : a ∉ T) : unpinH H T a = H a := by unfold unpinH; rw [if_neg ha]
theorem un_none {H : Hp} {T : List Addr} {a : Addr} (h : H a = none) : unpinH H T a = none := by
  by_cases z : a ∈ T
  · exact unpin_in z
  · rw [unpin_out z]; exact h
theorem join_in {H H' : Hp} {T : List Addr} {a : Addr} (ha : a ∈ T) : joinH H H' T a = H a := by unfold joinH; rw [if_pos ha]
theorem join_out {H H' : Hp} {T : List Addr} {a : Addr} (ha : a ∉ T) : joinH H H' T a = H' a := by unfold joinH; rw [if_neg ha]
section
variable {P : Program} {w : World} {K : PySem.W.Frag} {mg : Str → Option Value} {base : Heap} {A : Around} {outer : List PySem.Env} {s s' : Shared} {H : Hp} {T : List Addr} {Q Q' : VK} {u : Value}
/-- what may be pinned -/
structure PinOk (base : Heap) (outer : List PySem.Env) (s : Shared) (H : Hp) (T : List Addr) : Prop where
  no : ∀ a ∈ T, H a = none
  ba : ∀ a ∈ T, base.get? a = none
  fr : ∀ a ∈ T, a ∉ frs outer
  ob : ∀ a ∈ T, ∃ o, s.heap.get? a = some o
theorem hok_pin (hok : HOk P w H s.heap) (p : PinOk base outer s H T) : HOk P w (pinH H s.heap T) s.heap := fun a o e => by
  by_cases ha : a ∈ T
  · obtain ⟨ob, hb⟩ := p.ob a ha
    rw [pin_in ha hb] at e
    cases e
    exact ⟨hb, ob, hb⟩
  · rw [pin_out ha] at e
    refine (hok a o e).stay (fun b v _ q => q) (fun b q => ?_) fun b xs q => ?_
    · rw [pin_out (fun z => by rw [p.no b z] at q; cases q)]; exact q
    · rw [pin_out (fun z => by rw [p.no b z] at q; cases q)]; exact q
theorem env0_pin (e : Env0 P w K mg base A outer s H) (p : PinOk base outer s H T) : Env0 P w K mg base A outer s (pinH H s.heap T) where
  frames := e.frames
  mod := e.mod
  bs := fun b o hb => ⟨(e.bs b o hb).1, by
    rw [pin_out (fun z => by rw [p.ba b z] at hb; cases hb)]
    exact (e.bs b o hb).2⟩
  bsz := e.bsz
  funs := e.funs
  frf := fun b hb => by
    rw [pin_out (fun z => p.fr b z hb)]
    exact e.frf b hb
  hok := hok_pin e.hok p
  bare := e.bare
theorem ce_unpin (hok : HOk P w H s.heap) (p : PinOk base outer s H T) (h : CE outer P w (pinH H s.heap T) s Q' u s') (hq : ∀ v H', Q' v H' → (∀ a ∈ T, H' a = pinH H s.heap T a) → Q v (unpinH H' T)) : CE outer P w H s Q u s' := by
  obtain ⟨v, H', os, bare, un, hok', r, q⟩ := h
  have hT : ∀ a ∈ T, ∃ o, s.heap.get? a = some o ∧ H' a = some (.frz o (.own 0)) := fun a ha => by
    obtain ⟨o, ho⟩ := p.ob a ha
    exact ⟨o, ho, un.frzs a o _ (pin_in ha ho)⟩
  have out : ∀ {b : Addr} {o : HO}, H b = some o → b ∉ T := fun e z => by rw [p.no _ z] at e; cases e
  refine ⟨v, unpinH H' T, os, bare, ⟨fun b o e n nf nx => ?_, fun b o e n nf nx => ?_, fun b o e n nx => ?_, un.there, fun b xs e => ?_, fun b o u e => ?_, fun b ps e => ?_⟩, fun a o e => ?_, r, hq v H' q fun a ha => ?_⟩
  · by_cases z : b ∈ T
    · obtain ⟨o', h1, h2⟩ := hT b z
      rw [e] at h1; cases h1
      exact (hok' b _ h2).1
    · exact un.keep b o e (by rw [pin_out z]; exact n) nf nx
  · have z : b ∉ T := fun z => p.fr b z nf
    exact un.slot b o e (by rw [pin_out z]; exact n) nf nx
  · by_cases z : b ∈ T
    · exact unpin_in z
    · rw [unpin_out z]; exact un.free b o e (by rw [pin_out z]; exact n) nx
  · rw [unpin_out (out e)]; exact un.tups b xs (by rw [pin_out (out e)]; exact e)
  · rw [unpin_out (out e)]; exact un.frzs b o u (by rw [pin_out (out e)]; exact e)
  · rw [unpin_out (out e)]; exact un.tbls b ps (by rw [pin_out (out e)]; exact e)
  · have z : a ∉ T := fun z => by rw [unpin_in z] at e; cases e
    rw [unpin_out z] at e
    have nz : ∀ {b : Addr} {x : HO}, H' b = some x → (∀ o, x ≠ .frz o (.own 0)) → b ∉ T := fun {b x} q hx z => by
      obtain ⟨o', _, h2⟩ := hT b z
      rw [q] at h2
      exact hx o' (Option.some.inj h2)
    refine (hok' a o e).stay (fun b v _ q => q) (fun b q => ?_) fun b xs q => ?_
    · rw [unpin_out (nz q fun o z => nomatch z)]; exact q
    · rw [unpin_out (nz q fun o z => nomatch z)]; exact q
  · obtain ⟨o, h1, h2⟩ := hT a ha
    rw [h2, pin_in ha h1]
/-- what is pinned -/
def Pinned (H : Hp) (T : List Addr) : Prop := ∀ a ∈ T, ∃ o, H a = some (.frz o (.own 0))
theorem hok_unpin (hok : HOk P w H s.heap) (p : Pinned H T) : HOk P w (unpinH H T) s.heap := fun a o e => by
  have z : a ∉ T := fun z => by rw [unpin_in z] at e; cases e
  rw [unpin_out z] at e
  have nz : ∀ {b : Addr} {x : HO}, H b = some x → (∀ o, x ≠ .frz o (.own 0)) → b ∉ T := fun {b x} q hx z => by
    obtain ⟨o', h2⟩ := p b z
    rw [q] at h2
    exact hx o' (Option.some.inj h2)
  refine (hok a o e).stay (fun b v _ q => q) (fun b q => ?_) fun b xs q => ?_
  · rw [unpin_out (nz q fun o z => nomatch z)]; exact q
  · rw [unpin_out (nz q fun o z => nomatch z)]; exact q
theorem env0_unpin (e : Env0 P w K mg base A outer s H) (p : Pinned H T) : Env0 P w K mg base A outer s (unpinH H T) where
  frames := e.frames
  mod := e.mod
  bs := fun b o hb => ⟨(e.bs b o hb).1, by
    by_cases z : b ∈ T
    · exact unpin_in z
    · rw [unpin_out z]; exact (e.bs b o hb).2⟩
  bsz := e.bsz
  funs := e.funs
  frf := fun b hb => by
    by_cases z : b ∈ T
    · exact unpin_in z
    · rw [unpin_out z]; exact e.frf b hb
  hok := hok_unpin e.hok p
  bare := e.bare
theorem ce_pin (e0 : Env0 P w K mg base A outer s H) (p : Pinned H T) (h : CE outer P w (unpinH H T) s Q' u s') (hq : ∀ v H', Q' v H' → (∀ a ∈ T, H' a = none) → Q v (joinH H H' T)) : CE outer P w H s Q u s' := by
  obtain ⟨v, H', os, bare, un, hok', r, q⟩ := h
  have hT : ∀ a ∈ T, ∃ o, H a = some (.frz o (.own 0)) ∧ s.heap.get? a = some o ∧ s'.heap.get? a = some o ∧ H' a = none := fun a ha => by
    obtain ⟨o, ho⟩ := p a ha
    have g := (e0.hok a _ ho).1
    have nf : a ∉ frs outer := fun z => by rw [e0.frf a z] at ho; cases ho
    exact ⟨o, ho, g, un.keep a o g (unpin_in ha) nf (by simp), un.free a o g (unpin_in ha) (by simp)⟩
  have out : ∀ {b : Addr}, H b = none → b ∉ T := fun e z => by obtain ⟨o, h, _⟩ := hT _ z; rw [h] at e; cases e
  refine ⟨v, joinH H H' T, os, bare, ⟨fun b o e n nf nx => ?_, fun b o e n nf nx => ?_, fun b o e n nx => ?_, un.there, fun b xs e => ?_, fun b o u e => ?_, fun b ps e => ?_⟩, fun a o e => ?_, r, hq v H' q fun a ha => (hT a ha).choose_spec.2.2.2⟩
  · exact un.keep b o e (by rw [unpin_out (out n)]; exact n) nf nx
  · exact un.slot b o e (by rw [unpin_out (out n)]; exact n) nf nx
  · rw [join_out (out n)]; exact un.free b o e (by rw [unpin_out (out n)]; exact n) nx
  · by_cases z : b ∈ T
    · rw [join_in z]; exact e
    · rw [join_out z]; exact un.tups b xs (by rw [unpin_out z]; exact e)
  · by_cases z : b ∈ T
    · rw [join_in z]; exact e
    · rw [join_out z]; exact un.frzs b o u (by rw [unpin_out z]; exact e)
  · by_cases z : b ∈ T
    · obtain ⟨o, h, _⟩ := hT b z
      rw [h] at e; cases e
    · rw [join_out z]; exact un.tbls b ps (by rw [unpin_out z]; exact e)
  · by_cases z : a ∈ T
    · obtain ⟨o', h1, h2, h3, _⟩ := hT a z
      rw [join_in z, h1] at e
      cases e
      exact ⟨h3, o', h3⟩
    · rw [join_out z] at e
      have nz : ∀ {b : Addr} {x : HO}, H' b = some x → b ∉ T := fun {b x} q z => by
        obtain ⟨_, _, _, _, h4⟩ := hT b z
        rw [h4] at q; cases q
      refine (hok' a o e).stay (fun b v _ q => q) (fun b q => ?_) fun b xs q => ?_
      · rw [join_out (nz q)]; exact q
      · rw [join_out (nz q)]; exact q
end
/-! ### worlds -/
def Wd.pin (W : Wd) (h : Heap) (T : List Addr) : Wd := ⟨pinH W.fz h T, W.bw, W.tb, W.tu⟩
def Wd.unpin (W : Wd) (T : List Addr) : Wd := ⟨unpinH W.fz T, W.bw, W.tb, W.tu⟩
def Wd.join (W W' : Wd) (T : List Addr) : Wd := ⟨joinH W.fz W'.fz T, W'.bw, W'.tb, W'.tu⟩
section
variable {c : Cn} {W W' : Wd} {H H' : Hp} {T : List Addr} {h : Heap}
theorem pd_ne {o : HO} {a : Addr} (p : Pinned W.fz T) (e : W.fz a = some o) (hx : ∀ ob, o ≠ .frz ob (.own 0)) : a ∉ T := fun z => by
  obtain ⟨ob, q⟩ := p a z
  rw [e] at q
  exact hx ob (Option.some.inj q)
theorem rd_unpin {o : HO} {a : Addr} (p : Pinned W.fz T) (e : Rd W.fz a o) (h1 : ∀ ob, o ≠ .frz ob (.own 0)) (h2 : o ≠ .own 0) : Rd (W.unpin T).fz a o := by
  rcases e with e | ⟨ob, e⟩
  · exact .inl (by show unpinH W.fz T a = _; rw [unpin_out (pd_ne p e h1)]; exact e)
  · refine .inr ⟨ob, ?_⟩
    show unpinH W.fz T a = _
    rw [unpin_out (pd_ne p e fun ob' z => ?_)]
    · exact e
    · injection z with _ z
      exact h2 z
mutual
theorem Rep.unpin (p : Pinned W.fz T) : ∀ {d : D} {v : V}, d.noClo = true → Rep c W d v → Rep c (W.unpin T) d v
  | .non, v, _, x => by simpa only [Rep] using x
  | .bl b, v, _, x => by simpa only [Rep] using x
  | .int i, v, _, x => by simpa only [Rep] using x
  | .str s, v, _, x => by simpa only [Rep] using x
  | .tup ds, v, n, x => by
    simp only [Rep] at x ⊢
    obtain ⟨a, vs, e, q, r⟩ := x
    refine ⟨a, vs, e, ?_, RepL.unpin p n r⟩
    rcases q with q | q
    · exact .inl (rd_unpin p q (fun _ z => nomatch z) fun z => nomatch z)
    · exact .inr q
  | .lst ds, v, n, x => by
    simp only [Rep] at x ⊢
    obtain ⟨a, vs, e, q, r⟩ := x
    exact ⟨a, vs, e, rd_unpin p q (fun _ z => nomatch z) (fun z => nomatch z), RepL.unpin p n r⟩
  | .dic ks ds, v, n, x => by
    simp only [D.noClo, Bool.and_eq_true] at n
    simp only [Rep] at x ⊢
    obtain ⟨a, o, e, q, r⟩ := x
    rcases r with ⟨kvs, rfl, e2, r⟩ | ⟨kas, vs, rfl, e0, e2, r1, r2⟩
    · exact ⟨a, _, e, rd_unpin p q (fun _ z => nomatch z) (fun z => nomatch z), .inl ⟨kvs, rfl, e2, RepL.unpin p n.2 r⟩⟩
    · exact ⟨a, _, e, rd_unpin p q (fun _ z => nomatch z) (fun z => nomatch z), .inr ⟨kas, vs, rfl, e0, e2, RepL.unpin p n.1 r1, RepL.unpin p n.2 r2⟩⟩
  | .obj cl ns ds, v, n, x => by
    simp only [Rep] at x ⊢
    obtain ⟨a, C, dx, vs, e, q1, q2, q3, q4, q5, r⟩ := x
    exact ⟨a, C, dx, vs, e, by show unpinH W.fz T a = _; rw [unpin_out (pd_ne p q1 fun _ z => nomatch z)]; exact q1, by show unpinH W.fz T dx = _; rw [unpin_out (pd_ne p q2 fun _ z => nomatch z)]; exact q2, q3, q4, q5, RepL.unpin p n r⟩
  | .fn f, v, _, x => by simpa only [Rep] using x
  | .clo _ _, v, n, x => by cases n
  | .bowl, v, _, x => by simp only [Rep] at x ⊢; exact x
theorem RepL.unpin (p : Pinned W.fz T) : ∀ {ds : List D} {vs : List V}, D.noCloL ds = true → RepL c W ds vs → RepL c (W.unpin T) ds vs
  | [], vs, _, x => by simpa only [RepL] using x
  | d :: ds, vs, n, x => by
    simp only [D.noCloL, Bool.and_eq_true] at n
    simp only [RepL] at x ⊢
    obtain ⟨v, r, e, q1, q2⟩ := x
    exact ⟨v, r, e, Rep.unpin p n.1 q1, RepL.unpin p n.2 q2⟩
end
theorem Wd.unpin_le : (W.unpin T).le W := ⟨fun a o e => by
  have e : unpinH W.fz T a = some o := e
  by_cases z : a ∈ T
  · rw [unpin_in z] at e; cases e
  · rw [unpin_out z] at e; exact e, fun _ h => h, rfl, fun _ h => h⟩
theorem Wd.In.unpin (wh : W.In H) (p : Pinned W.fz T) : (W.unpin T).In (unpinH H T) := by
  have p0 := p
  have nz : ∀ {b : Addr} {x : HO}, H b = some x → (∀ o, x ≠ .frz o (.own 0)) → b ∉ T := fun {b x} q hx z => by
    obtain ⟨o', h2⟩ := p b z
    rw [wh.fz _ _ h2] at q
    exact hx o' (Option.some.inj q).symm
  refine ⟨fun a o e => ?_, fun a e => ?_, fun q hq => ?_, fun a b q e => ?_, fun q hq => ⟨?_, (wh.tn q hq).2⟩, wh.te, fun a ps e => ?_, fun a e => ?_⟩
  · have e : unpinH W.fz T a = some o := e
    have z : a ∉ T := fun z => by rw [unpin_in z] at e; cases e
    rw [unpin_out z] at e ⊢
    exact wh.fz a o e
  · obtain ⟨⟨x, y, z, h1⟩, h2⟩ := wh.bw a e
    exact ⟨⟨x, y, z, by rw [unpin_out (nz h1 fun _ z => nomatch z)]; exact h1⟩, by show unpinH W.fz T a = none; exact un_none h2⟩
  · obtain ⟨ps, h1, h2, h3⟩ := wh.tb q hq
    refine ⟨ps, by rw [unpin_out (nz h1 fun _ z => nomatch z)]; exact h1, h2, fun pos cv hc => ?_⟩
    obtain ⟨cc, e1, e2⟩ := h3 pos cv hc
    exact ⟨cc, e1, by rw [unpin_out (nz e2 fun _ z => nomatch z)]; exact e2⟩
  · have z : a ∉ T := fun z => by rw [unpin_in z] at e; cases e
    rw [unpin_out z] at e
    show unpinH W.fz T a = _
    rw [unpin_out z]
    exact wh.cd a b q e
  · show unpinH W.fz T q.1 = none
    exact un_none (wh.tn q hq).1
  · have z : a ∉ T := fun z => by rw [unpin_in z] at e; cases e
    rw [unpin_out z] at e
    exact wh.ht a ps e
  · have z : a ∉ T := fun z => by
      obtain ⟨o, h1⟩ := p0 a z
      obtain ⟨b, q, h2⟩ := (wh.tu a e).2.1 _ h1
      cases h2
    exact ⟨by rw [unpin_out z]; exact (wh.tu a e).1, fun o h => (wh.tu a e).2.1 o (by
      have h : unpinH W.fz T a = some o := h
      rw [unpin_out z] at h; exact h), (wh.tu a e).2.2⟩
theorem Wd.In.pin (wh : W.In H) (no : ∀ a ∈ T, H a = none) : (W.pin h T).In (pinH H h T) := by
  have out : ∀ {b : Addr} {o : HO}, H b = some o → b ∉ T := fun e z => by rw [no _ z] at e; cases e
  refine ⟨fun a o e => ?_, fun a e => ?_, fun q hq => ?_, fun a b q e => ?_, fun q hq => ⟨?_, (wh.tn q hq).2⟩, wh.te, fun a ps e => ?_, fun a e => ?_⟩
  · have e : pinH W.fz h T a = some o := e
    by_cases z : a ∈ T
    · unfold pinH at e ⊢; rw [if_pos z] at e ⊢; exact e
    · rw [pin_out z] at e ⊢; exact wh.fz a o e
  · obtain ⟨⟨x, y, z, h1⟩, h2⟩ := wh.bw a e
    exact ⟨⟨x, y, z, by rw [pin_out (out h1)]; exact h1⟩, by show pinH W.fz h T a = none; rw [pin_out (out h1)]; exact h2⟩
  · obtain ⟨ps, h1, h2, h3⟩ := wh.tb q hq
    refine ⟨ps, by rw [pin_out (out h1)]; exact h1, h2, fun pos cv hc => ?_⟩
    obtain ⟨cc, e1, e2⟩ := h3 pos cv hc
    exact ⟨cc, e1, by rw [pin_out (out e2)]; exact e2⟩
  · by_cases z : a ∈ T
    · unfold pinH at e
      rw [if_pos z] at e
      cases q2 : h.get? a with
      | none => rw [q2] at e; cases e
      | some o => rw [q2] at e; cases e
    · rw [pin_out z] at e
      show pinH W.fz h T a = _
      rw [pin_out z]
      exact wh.cd a b q e
  · obtain ⟨ps, h1, _⟩ := wh.tb q hq
    show pinH W.fz h T q.1 = none
    rw [pin_out (out h1)]
    exact (wh.tn q hq).1
  · by_cases z : a ∈ T
    · unfold pinH at e
      rw [if_pos z] at e
      cases q2 : h.get? a with
      | none => rw [q2] at e; cases e
      | some o => rw [q2] at e; cases e
    · rw [pin_out z] at e
      exact wh.ht a ps e
  · have z : a ∉ T := fun z => (wh.tu a e).1 (no a z)
    exact ⟨by rw [pin_out z]; exact (wh.tu a e).1, fun o q => (wh.tu a e).2.1 o (by
      have q : pinH W.fz h T a = some o := q
      rw [pin_out z] at q; exact q), (wh.tu a e).2.2⟩
theorem Wd.pin_le (wh : W.In H) (no : ∀ a ∈ T, H a = none) : W.le (W.pin h T) := ⟨fun a o e => by
  show pinH W.fz h T a = _
  rw [pin_out (fun z => by have := wh.fz a o e; rw [no a z] at this; cases this)]
  exact e, fun _ h => h, rfl, fun _ h => h⟩
theorem Wd.In.pinned (wh : W.In H) (p : Pinned W.fz T) : Pinned H T := fun a ha => let ⟨o, e⟩ := p a ha; ⟨o, wh.fz _ _ e⟩
/-- back from a call with pins -/
theorem Grow.unpin (wh : W.In H) (no : ∀ a ∈ T, H a = none) (ob : ∀ a ∈ T, ∃ o, h.get? a = some o) (g : Grow (W.pin h T) (pinH H h T) W' H') : Grow W H (W'.unpin T) (unpinH H' T) ∧ Pinned W'.fz T := by
  have p : Pinned W'.fz T := fun a ha => by
    obtain ⟨o, e⟩ := ob a ha
    exact ⟨o, g.le.fz a _ (pin_in ha e)⟩
  refine ⟨⟨⟨fun a o e => ?_, fun a e => g.le.bw a e, g.le.tb, fun a e => g.le.tu a e⟩, g.wh.unpin p, fun a o e n => ?_⟩, p⟩
  · have z : a ∉ T := fun z => by have := wh.fz a o e; rw [no a z] at this; cases this
    show unpinH W'.fz T a = _
    rw [unpin_out z]
    exact g.le.fz a o (by show pinH W.fz h T a = _; rw [pin_out z]; exact e)
  · have z : a ∉ T := fun z => by rw [no a z] at e; cases e
    obtain ⟨h1, h2⟩ := g.kp a o (by rw [pin_out z]; exact e) ⟨by show pinH W.fz h T a = none; rw [pin_out z]; exact n.fz, n.bw, n.tb, n.tu⟩
    exact ⟨by rw [unpin_out z]; exact h1, ⟨by show unpinH W'.fz T a = none; rw [unpin_out z]; exact h2.fz, h2.bw, h2.tb, h2.tu⟩⟩
theorem ObAt.unpin (p : Pinned W.fz T) {a : Addr} {o : HO} {d : D} (n : d.noClo = true) (x : ObAt c W a o d) : ObAt c (W.unpin T) a o d := by
  cases d with
  | lst ds => obtain ⟨vs, e, r⟩ := x; exact ⟨vs, e, RepL.unpin p n r⟩
  | dic ks ds =>
    simp only [D.noClo, Bool.and_eq_true] at n
    rcases x with ⟨kvs, e1, e2, r⟩ | ⟨kas, vs, e1, e0, e2, r1, r2⟩
    · exact .inl ⟨kvs, e1, e2, RepL.unpin p n.2 r⟩
    · exact .inr ⟨kas, vs, e1, e0, e2, RepL.unpin p n.1 r1, RepL.unpin p n.2 r2⟩
  | _ => exact x.elim
theorem no_out {a : Addr} (p : Pinned W.fz T) (n : W.no a) : a ∉ T := fun z => by obtain ⟨o, e⟩ := p a z; rw [n.fz] at e; cases e
theorem no_unpin {a : Addr} (p : Pinned W.fz T) (n : W.no a) : (W.unpin T).no a := ⟨by show unpinH W.fz T a = none; rw [unpin_out (no_out p n)]; exact n.fz, n.bw, n.tb, n.tu⟩
theorem OwnB.unpin (p : Pinned W.fz T) {b : Bool} {d : D} {v : V} {S : List Addr} (n : d.noClo = true) (x : OwnB c W H b d v S) : OwnB c (W.unpin T) (unpinH H T) b d v S := by
  cases b with
  | false => exact ⟨Rep.unpin p n x.1, x.2⟩
  | true =>
    have x : Own c W H d v S := x
    show Own c _ _ d v S
    cases d with
    | lst ds =>
      obtain ⟨a, o, e, m, q, r, rfl⟩ := x
      exact ⟨a, o, e, no_unpin p m, by rw [unpin_out (no_out p m)]; exact q, r.unpin p n, rfl⟩
    | dic ks ds =>
      obtain ⟨a, o, e, m, q, r, rfl⟩ := x
      exact ⟨a, o, e, no_unpin p m, by rw [unpin_out (no_out p m)]; exact q, r.unpin p n, rfl⟩
    | obj cl ns ds =>
      obtain ⟨a, C, dx, vs, e, m1, m2, q1, q2, q3, q4, q5, r, rfl⟩ := x
      exact ⟨a, C, dx, vs, e, no_unpin p m1, no_unpin p m2, by rw [unpin_out (no_out p m1)]; exact q1, by rw [unpin_out (no_out p m2)]; exact q2, q3, q4, q5, RepL.unpin p n r, rfl⟩
    | _ => exact ⟨Rep.unpin p n x.1, x.2⟩
/-- back from a closure's body -/
theorem Grow.join (wh : W.In H) (p : Pinned W.fz T) (g : Grow (W.unpin T) (unpinH H T) W' H') (hn : ∀ a ∈ T, H' a = none) : Grow W H (W.join W' T) (joinH H H' T) ∧ W'.le (W.join W' T) := by
  have hf : ∀ a ∈ T, W'.fz a = none := fun a ha => by
    cases e : W'.fz a with
    | none => rfl
    | some o => have := g.wh.fz a o e; rw [hn a ha] at this; cases this
  have l2 : W'.le (W.join W' T) := ⟨fun a o e => by
    show joinH W.fz W'.fz T a = _
    rw [join_out (fun z => by rw [hf a z] at e; cases e)]
    exact e, fun _ h => h, rfl, fun _ h => h⟩
  have nz : ∀ {b : Addr} {x : HO}, H' b = some x → b ∉ T := fun {b x} q z => by rw [hn b z] at q; cases q
  refine ⟨⟨⟨fun a o e => ?_, fun a e => g.le.bw a e, g.le.tb, fun a e => g.le.tu a e⟩, ⟨fun a o e => ?_, fun a e => ?_, fun q hq => ?_, fun a b q e => ?_, fun q hq => ⟨?_, (g.wh.tn q hq).2⟩, g.wh.te, fun a ps e => ?_, fun a e => ?_⟩, fun a o e n => ?_⟩, l2⟩
  · by_cases z : a ∈ T
    · show joinH W.fz W'.fz T a = _; rw [join_in z]; exact e
    · show joinH W.fz W'.fz T a = _; rw [join_out z]
      exact g.le.fz a o (by show unpinH W.fz T a = _; rw [unpin_out z]; exact e)
  · have e : joinH W.fz W'.fz T a = some o := e
    by_cases z : a ∈ T
    · rw [join_in z] at e ⊢; exact wh.fz a o e
    · rw [join_out z] at e ⊢; exact g.wh.fz a o e
  · obtain ⟨⟨x, y, z, h1⟩, h2⟩ := g.wh.bw a e
    exact ⟨⟨x, y, z, by rw [join_out (nz h1)]; exact h1⟩, by show joinH W.fz W'.fz T a = none; rw [join_out (nz h1)]; exact h2⟩
  · obtain ⟨ps, h1, h2, h3⟩ := g.wh.tb q hq
    refine ⟨ps, by rw [join_out (nz h1)]; exact h1, h2, fun pos cv hc => ?_⟩
    obtain ⟨cc, e1, e2⟩ := h3 pos cv hc
    exact ⟨cc, e1, by rw [join_out (nz e2)]; exact e2⟩
  · by_cases z : a ∈ T
    · obtain ⟨o, h1⟩ := p a z
      rw [join_in z, wh.fz _ _ h1] at e
      cases e
    · rw [join_out z] at e
      show joinH W.fz W'.fz T a = _
      rw [join_out z]
      exact g.wh.cd a b q e
  · obtain ⟨ps, h1, _⟩ := g.wh.tb q hq
    show joinH W.fz W'.fz T q.1 = none
    rw [join_out (nz h1)]
    exact (g.wh.tn q hq).1
  · by_cases z : a ∈ T
    · obtain ⟨o, h1⟩ := p a z
      rw [join_in z, wh.fz _ _ h1] at e
      cases e
    · rw [join_out z] at e
      exact g.wh.ht a ps e
  · have z : a ∉ T := fun z => (g.wh.tu a e).1 (hn a z)
    exact ⟨by rw [join_out z]; exact (g.wh.tu a e).1, fun o q => (g.wh.tu a e).2.1 o (by
      have q : joinH W.fz W'.fz T a = some o := q
      rw [join_out z] at q; exact q), (g.wh.tu a e).2.2⟩
  · have z := no_out p n
    obtain ⟨h1, h2⟩ := g.kp a o (by rw [unpin_out z]; exact e) (no_unpin p n)
    exact ⟨by rw [join_out z]; exact h1, ⟨by show joinH W.fz W'.fz T a = none; rw [join_out z]; exact h2.fz, h2.bw, h2.tb, h2.tu⟩⟩
theorem no_join {a : Addr} (hn : H' a ≠ none) (hT : ∀ a ∈ T, H' a = none) (m : W'.no a) : (W.join W' T).no a := ⟨by show joinH W.fz W'.fz T a = none; rw [join_out (fun z => hn (hT a z))]; exact m.fz, m.bw, m.tb, m.tu⟩
end
end Pv

set_option autoImplicit false
set_option linter.all false
set_option maxRecDepth 100000
/-! Pv: calls. -/
namespace Pv
open PySem L2
/-- what a def promises: its checked form answers -/
def spF (c : Cn) (b : Bool) (φ : List D → R (D × List D)) (n : Nat) : Sp := fun vs H Q E => vs.length = n ∧ ∃ W ds, W.In H ∧ RepL c W ds vs ∧ (φ ds).Sat fun r => Res c b W H r.1 Q
theorem Res.froze {c : Cn} {b : Bool} {W : Wd} {H : Hp} {d : D} {Q : VK} (h : Res c false W H d Q) : Res c b W H d Q := fun v H' W' S g x n => by
  obtain ⟨W2, l, wh, r, k⟩ := x.freeze g.wh
  refine h v H' W2 [] ⟨g.le.trans l, wh, fun a o e q => ?_⟩ ⟨r, rfl⟩ (by simp)
  obtain ⟨e1, q1⟩ := g.kp a o e q
  exact ⟨e1, k a q1 fun z => by rw [n a z] at e; cases e⟩
section
variable {c : Cn} {B : Heap} {N : List Str} {sc : Scope} {fb : Str → Bool} {j k : Nat} {X : Cx} {io : Io} {G : Glo} {Φ : Phi} {F F1 F2 F' : List Bool} {e a d : Expr} {ie ia id il : IE} {b : Bool} {pos p : Pos} {es : List Expr} {f : Str} {n : Nat}
theorem Sx.cal (S : Sx c B N sc fb j X) {sp : Sp} {dvs : List V} (h : C8.Cal c.P c.w c.K c.mg B k f sp dvs) : C8.Cal X.prog X.w X.K X.mg X.base k f sp dvs := by
  rw [S.pr, S.ww, S.kk, S.mg, S.bs]; exact h
theorem evL_n (h : EA X io G Φ es il F F') (hl : lenIE il = n) : PA X es (taD X io (fun ρ => (evL G Φ ρ il).bind fun ds => if ds.length = n then .ok ds else .bad) (fl F) (fl F')) :=
  h.imp fun σ H Q ⟨G', W, ρ, E, s⟩ => ⟨G', W, ρ, E, (R.Sat.bind.mp s).mono fun ds hd => by
    by_cases z : ds.length = n
    · rw [if_pos z] at hd; exact hd
    · rw [if_neg z] at hd; exact hd.elim⟩
theorem r_call (S : Sx c B N sc fb j X) (C : C8.Cal c.P c.w c.K c.mg B k f (spF c b (Φ f []) n) []) (hk : k ≤ j) (ha : EA X io G Φ (e :: es) il F F') (hg : glC sc f = true) (hl : lenIE il = n := by rfl)
    (hdb : (f == ("__debug__" : Str)) = false := by decide) (he : starEach (e :: es) X.env = (false, eval e X.env) :: starEach es X.env := by rfl) (hpl : (backTo pos (starEach es X.env)).any (·.1) = false := by rfl) :
    EE X io G Φ b (.Call (.Name f p) (e :: es) [] pos) (.call f il) F F' :=
  (C8.pe_c (S.cal C) S.room hk (S.gl hg) ha hdb he hpl).imp fun σ H Q ⟨G', W, ρ, E, s⟩ => ⟨G', W, ρ, E, (evL_len il ρ _ (R.Sat.bind.mp s)).mono fun ds ⟨hn, hd⟩ vs H1 W1 l1 E1 r => by
    show spF c b (Φ f []) n (vs ++ []) H1 Q C8.E0
    rw [List.append_nil]
    refine ⟨by rw [← r.length, hn, hl], W1, ds, E1.wh, by rw [S.co] at r; exact r, (R.Sat.bind.mp hd).mono fun r' f => ?_⟩
    have f : Fin (cOf X) G' io σ ρ (fl F') W b r'.1 Q := f
    rw [← S.co]
    exact f.res l1 E1⟩
theorem r_call0 (S : Sx c B N sc fb j X) (C : C8.Cal c.P c.w c.K c.mg B k f (spF c b (Φ f []) 0) []) (hk : k ≤ j) (hg : glC sc f = true) (hdb : (f == ("__debug__" : Str)) = false := by decide) :
    EE X io G Φ b (.Call (.Name f p) [] [] pos) (.call f .enil) F F := by
  obtain ⟨fa, fd, ps, ds, FF, hm, kp, bb, dd⟩ := (S.cal C).ex
  refine (pe_call0 (E := C8.E0) FF (S.room.mono hk) (S.gl hg) hm kp bb dd C8.pass0 hdb).imp fun σ H Q ⟨G', W, ρ, E, s⟩ => ?_
  have s : ((Φ f [] []).bind fun r => .ok r.1).Sat _ := s
  refine ⟨rfl, W, [], E.wh, .nil, (R.Sat.bind.mp s).mono fun r f => ?_⟩
  have f : Fin (cOf X) G' io σ ρ (fl F) W b r.1 Q := f
  rw [← S.co]
  exact f.res (.refl W) E
/-- the defs that may be values -/
def ValOk (c : Cn) (B : Heap) (G : Glo) (Φ : Phi) (k : Nat) : Prop := ∀ g, G.isFn g = true → ∃ b n, C8.Cal c.P c.w c.K c.mg B k g (spF c b (Φ g []) n) [] ∧ ∀ xs P, (Φ g [] xs).Sat P → xs.length = n
/-- what the function of a nested def promises -/
def spN (c : Cn) (φ : List D → R (D × List D)) (np : Nat) : List (Option V) → Sp := fun wo vs H Q E => vs.length = np ∧ ∃ W ds es ws, W.In H ∧ wo = ws.map some ∧ RepL c W ds vs ∧ RepL c W es ws ∧ (φ (ds ++ es)).Sat fun r => Res c false W H r.1 Q
/-- the nested defs -/
def CloOk (c : Cn) (B : Heap) (Φ : Phi) (k : Nat) : Prop := ∀ g n, nst g = some n → ∃ ps : List Str, (∀ xs P, (Φ g [] xs).Sat P → xs.length = ps.length + n.fr.length) ∧ ∀ fa cl cc, NdefX.NOk c.P c.w c.K c.mg B C8.CX0 k fa (NdefX.NF.of n.st n.name n.qual cl cc) ps n.fr (spN c (Φ g []) ps.length)
/-- the cells' addresses -/
def cellsT (cl : List (Str × Addr)) : List Addr := cl.filterMap fun p => cl.lookup p.1
theorem cellsT_mem {cl : List (Str × Addr)} {a : Addr} : a ∈ cellsT cl ↔ ∃ y, cl.lookup y = some a := by
  unfold cellsT
  rw [List.mem_filterMap]
  constructor
  · rintro ⟨p, _, h⟩
    exact ⟨p.1, h⟩
  · rintro ⟨y, h⟩
    exact ⟨(y, a), PySem.mem_of_lookup h, h⟩
theorem CellsW.pinned {W : Wd} {cl : List (Str × Addr)} {fr : List Str} {ws : List V} (h : CellsW W cl fr ws) : Pinned W.fz (cellsT cl) := fun a ha => by
  obtain ⟨y, e⟩ := cellsT_mem.mp ha
  obtain ⟨o, h1, _⟩ := h.all y a e
  exact ⟨o, h1⟩
theorem CellsW.at {W : Wd} {H : Hp} {h : Heap} {P : Program} {w : World} {cl : List (Str × Addr)} {fr : List Str} {ws : List V} (x : CellsW W cl fr ws) (wh : W.In H) (hok : HOk P w H h) : NdefX.CellsAt cl fr (ws.map some) h (unpinH H (cellsT cl)) where
  len := by rw [List.length_map]; exact x.len
  all := fun y a e => by
    obtain ⟨o, h1, u, h2⟩ := x.all y a e
    exact ⟨unpin_in (cellsT_mem.mpr ⟨y, e⟩), u, o, (hok a _ (wh.fz _ _ h1)).1, h2⟩
  inj := x.inj
  has := fun i y e => by
    obtain ⟨a, o, u, v, h1, h2, h3, h4, h5⟩ := x.has i y e
    refine ⟨a, h1, fun v' ev => ⟨u, ?_, o, (hok a _ (wh.fz _ _ h2)).1, h3⟩⟩
    rw [List.getElem?_map, h4] at ev
    cases ev
    exact h5
/-- a local name that holds a def, called -/
theorem r_callv {i : Nat} {x : Str} (S : Sx c B N sc fb j X) (C : ValOk c B G Φ k) (CN : CloOk c B Φ k) (hk : k ≤ j) (ha : EA X io G Φ (e :: es) il F F') (hN : N[i]? = some x) (hv : visC sc x = true) (hd : ((x == ("__debug__" : Str)) || (x == ("__classdict__" : Str))) = false)
    (he : starEach (e :: es) X.env = (false, eval e X.env) :: starEach es X.env := by rfl) (hpl : (backTo pos (starEach es X.env)).any (·.1) = false := by rfl) :
    EE X io G Φ false (.Call (.Name x p) (e :: es) [] pos) (.callv i il) F F' := by
  rw [Bool.or_eq_false_iff] at hd
  refine ⟨fun pins s σ H Q I h => ?_⟩
  obtain ⟨G', W, ρ, E, sa⟩ := h
  obtain ⟨df, hi, sa⟩ := getV_of (R.Sat.bind.mp sa)
  obtain ⟨v, h1, h2⟩ := E.get hi
  have hp := pe_var (X := X) (pos := p) (by rw [S.nN]; exact hN) (S.vis hv) hd.1 hd.2
  have fin : ∀ g, df = .fn g → G.isFn g = true → ((evL G Φ ρ il).Sat fun ds => ((Φ g [] ds).bind fun r => .ok r.1).Sat fun d => Fin (cOf X) G' io σ ρ (fl F') W false d Q) →
      wpAny (model X.prog X.w) X.A (eval (.Call (.Name x p) (e :: es) [] pos) X.env) (EP X pins σ Q) X.xe s := by
    intro g eg hg sb
    subst eg
    obtain ⟨fa, rfl, hm⟩ := (show ∃ a, v = .ref a ∧ (cOf X).mg g = some (.ref a) by simpa only [Rdv, Rep] using h2)
    obtain ⟨b, n, C, hn⟩ := C g hg
    obtain ⟨fa', fd, ps, ds, FF, hm', kp, bb, dd⟩ := (S.cal C).ex
    have hm : X.mg g = some (.ref fa) := hm
    rw [hm] at hm'; cases hm'
    refine wpAny_Call_Name_kw (thn (hp.run pins _ σ H (fun v H1 => v = .ref fa ∧ H1 = H) I ⟨.ref fa, h1, rfl, rfl⟩) fun u s1 ⟨v, H1, I1, r1, q1⟩ => ?_)
    obtain ⟨rfl, rfl⟩ := q1
    cases r1
    refine PySem.W.callWith_K (h₀ := X.base) I1.ok.mod.kin kp (thn (ha.run pos pins s1 σ _ (fun vs H2 => spF c b (Φ g []) n (vs ++ []) H2 Q C8.E0) I1 ⟨G', W, ρ, E, sb.mono fun ds hd vs H1 W1 l1 E1 r => ?_⟩) fun us s2 ⟨vs, H2, I2, r, q⟩ => ⟨I2.kIn, ?_⟩) he hpl
    · show spF c b (Φ g []) n (vs ++ []) H1 Q C8.E0
      rw [List.append_nil]
      refine ⟨by rw [← r.length]; exact hn _ _ (R.Sat.bind.mp hd), W1, ds, E1.wh, by rw [S.co] at r; exact r, (R.Sat.bind.mp hd).mono fun r' f => ?_⟩
      have f : Fin (cOf X) G' io σ ρ (fl F') W false r'.1 Q := f
      rw [← S.co]
      exact (f.res l1 E1).froze
    · exact run_fn FF (S.room.mono hk) bb dd C8.pass0 I2 r q
  cases df with
  | fn g =>
    have sa : (if G.isFn g then (evL G Φ ρ il).bind fun xs => (Φ g [] xs).bind fun r => .ok r.1 else .bad).Sat fun d => Fin (cOf X) G' io σ ρ (fl F') W false d Q := sa
    obtain ⟨hg, sa⟩ := sat_if sa
    exact fin g rfl hg (R.Sat.bind.mp sa)
  | clo g l =>
    have sa : ((evL G Φ ρ il).bind fun xs => if D.noCloL xs && D.noCloL l then (Φ g [] (xs ++ l)).bind fun r => .ok r.1 else .bad).Sat fun d => Fin (cOf X) G' io σ ρ (fl F') W false d Q := sa
    obtain ⟨n, fa, cl, cc, ws, hn, rfl, f1, f2, cw, rc⟩ := (show ∃ n fa cl cc ws, nst g = some n ∧ v = .ref fa ∧ W.fz fa = some (NdefX.FnO fa (NdefX.NF.of n.st n.name n.qual cl cc)) ∧ W.fz cc = some (LamX.CodeO cc n.qual) ∧ CellsW W cl n.fr ws ∧ RepL (cOf X) W l ws by simpa only [Rdv, Rep] using h2)
    obtain ⟨ps, hlen, Fn⟩ := CN g n hn
    have Fn := Fn fa cl cc
    refine wpAny_Call_Name_kw (thn (hp.run pins _ σ H (fun v H1 => v = .ref fa ∧ H1 = H) I ⟨.ref fa, h1, rfl, rfl⟩) fun u s1 ⟨v, H1, I1, r1, q1⟩ => ?_)
    obtain ⟨rfl, rfl⟩ := q1
    cases r1
    have fa1 : PySem.W.FnAt fa s1.heap := NdefX.fnAt_of I1 (E.wh.fz _ _ f1)
    refine PySem.W.callWith_F (first := []) fa1 (thn (ha.run pos pins s1 σ _ (fun vs H2 => ∃ W1, W.le W1 ∧ W1.In H2 ∧ ∃ xs, RepL (cOf X) W1 xs vs ∧ D.noCloL xs = true ∧ D.noCloL l = true ∧ (Φ g [] (xs ++ l)).Sat fun r => Res (cOf X) false W1 H2 r.1 Q) I1 ⟨G', W, ρ, E, (R.Sat.bind.mp sa).mono fun ds hd vs H1 W1 l1 E1 r => ?_⟩) fun us s2 ⟨vs, H2, I2, r, W1, l1, wh1, xs, rx, n1, n2, q⟩ => ⟨NdefX.fnAt_of I2 (wh1.fz _ _ (l1.fz _ _ f1)), ?_⟩) he hpl
    · obtain ⟨hc, hd⟩ := sat_if hd
      rw [Bool.and_eq_true] at hc
      refine ⟨W1, l1, E1.wh, ds, r, hc.1, hc.2, (R.Sat.bind.mp hd).mono fun r' f => ?_⟩
      have f : Fin (cOf X) G' io σ ρ (fl F') W false r'.1 Q := f
      exact f.res l1 E1
    · show wpAny _ _ (call (.ref fa) us) _ _ _
      have cw1 := cw.mono l1
      have pw := cw1.pinned
      have pH : Pinned H2 (cellsT cl) := wh1.pinned pw
      have out : ∀ {a : Addr} {o : HO}, W1.fz a = some o → (∀ ob, o ≠ .frz ob (.own 0)) → unpinH H2 (cellsT cl) a = some o := fun e hx => by
        rw [unpin_out (pd_ne pw e hx)]
        exact wh1.fz _ _ e
      have hsp : spN c (Φ g []) ps.length (ws.map some) vs (unpinH H2 (cellsT cl)) (fun v H' => (∀ a ∈ cellsT cl, H' a = none) → Q v (joinH H2 H' (cellsT cl))) C8.E0 := by
        have hw : (xs ++ l).length = ps.length + n.fr.length := hlen _ _ q
        have lr := r.length
        have lx := rx.length
        have lw := (rc.length).trans cw.len
        rw [List.length_append] at hw
        refine ⟨by omega, W1.unpin (cellsT cl), xs, l, ws, wh1.unpin pw, rfl, ?_, ?_, q.mono fun r' f => ?_⟩
        · rw [← S.co]; exact RepL.unpin pw n1 rx
        · rw [← S.co]; exact RepL.unpin pw n2 (rc.mono _ l1)
        · rw [← S.co]
          intro v H' W' S' g' x n' hn'
          obtain ⟨x, rfl⟩ := x
          obtain ⟨g2, l2⟩ := g'.join wh1 pw hn'
          exact f v _ _ [] g2 ⟨x.mono _ l2, rfl⟩ (by simp)
      refine wpAny_call (codeAny_mono ((by rw [S.pr, S.ww, S.kk, S.mg, S.bs]; exact Fn : NdefX.NOk X.prog X.w X.K X.mg X.base C8.CX0 k fa (NdefX.NF.of n.st n.name n.qual cl cc) ps n.fr (spN c (Φ g []) ps.length)).run X.A X.stack s2 (unpinH H2 (cellsT cl)) us vs _ _ _ (S.room.mono hk) (env0_unpin I2.env0 pH) (out (l1.fz _ _ f1) fun _ z => nomatch z) (out (l1.fz _ _ f2) fun _ z => nomatch z) (cw1.at wh1 I2.hok) r hsp) fun r' s' hq => ?_)
      cases r' with
      | error e => exact False.elim hq
      | ok fl =>
        cases fl with
        | ret u => exact I2.after (ce_pin I2.env0 pH hq fun v H' h hn => h hn)
        | next => exact False.elim hq
        | brk => exact False.elim hq
        | cont => exact False.elim hq
  | _ => exact sa.elim
end
end Pv

set_option autoImplicit false
set_option linter.all false
set_option maxRecDepth 100000
/-! Pv: what loops walk. -/
namespace Pv
open PySem L2
/-- it walks these data -/
def WalkD (c : Cn) (J : It) (W : Wd) (l : List D) : Prop :=
  l.length ≤ sizeLine ∧ Walk J l.length (fun H => ∃ W1, W.le W1 ∧ W1.In H) (fun i H x H' => ∀ W1, W.le W1 → W1.In H → ∃ W2 d, Grow W1 H W2 H' ∧ l[i]? = some d ∧ Rep c W2 d x)
def tiD (X : Cx) (io : Io) (m : Env → R (List D)) (F F' : Nat → Bool) : TI := fun σ H R =>
  ∃ G W ρ, EnvOk (cOf X) G io W H σ ρ F ∧ (m ρ).Sat fun l => ∀ J H' W', W.le W' → EnvOk (cOf X) G io W' H' σ ρ F' → WalkD (cOf X) J W' l → R J H'
section
variable {c : Cn} {B : Heap} {N : List Str} {sc : Scope} {fb : Str → Bool} {j k : Nat} {X : Cx} {io : Io} {G : Glo} {Φ : Phi} {F F1 F2 F' : List Bool} {e a d tg : Expr} {ie ia id il : IE} {b : Bool} {pos p : Pos} {es : List Expr} {f : Str} {n : Nat}
abbrev EI (X : Cx) (io : Io) (G : Glo) (Φ : Phi) (tg e : Expr) (ie : IE) (F F' : List Bool) : Prop := PI X tg e (tiD X io (fun ρ => evI G Φ ρ ie) (fl F) (fl F'))
theorem walkD_list {W : Wd} {q : Addr} {vs : List V} {l : List D} (h : Rd W.fz q (.lst vs)) (hz : vs.length ≤ sizeLine) (r : RepL c W l vs) : WalkD c (Itl c.K q) W l := by
  unfold WalkD
  refine ⟨by rw [r.length]; exact hz, ?_⟩
  rw [r.length]
  have gd : ∀ {H : Hp} {W1 : Wd}, W.le W1 → W1.In H → SqL c.K H q vs := fun l1 i1 => .inl (rd_ext i1.fz (l1.rd h))
  refine (walk_list (xs := vs)).mono (fun H ⟨W1, l1, i1⟩ => gd l1 i1) fun i H x H' hi _ y W1 l1 i1 => ?_
  obtain ⟨rfl, hx⟩ := y
  obtain ⟨d, hd, rr⟩ := r.getV hx
  exact ⟨W1, d, .refl i1, hd, rr.mono _ l1⟩
theorem walkD_tup {W : Wd} {q : Addr} {vs : List V} {l : List D} (h : SqT c.K W.fz q vs) (hz : vs.length ≤ sizeLine) (r : RepL c W l vs) : WalkD c (Itt c.K q) W l := by
  unfold WalkD
  refine ⟨by rw [r.length]; exact hz, ?_⟩
  rw [r.length]
  have gd : ∀ {H : Hp} {W1 : Wd}, W.le W1 → W1.In H → SqT c.K H q vs := fun l1 i1 => (l1.sqt h).ext i1.fz
  refine (walk_tup (xs := vs)).mono (fun H ⟨W1, l1, i1⟩ => gd l1 i1) fun i H x H' hi _ y W1 l1 i1 => ?_
  obtain ⟨rfl, hx⟩ := y
  obtain ⟨d, hd, rr⟩ := r.getV hx
  exact ⟨W1, d, .refl i1, hd, rr.mono _ l1⟩
theorem chars_get {z : Str} {i : Nat} {u : Nat} (h : z.cps[i]? = some u) : (chars z)[i]? = some (.str ⟨#[u]⟩) := by
  unfold chars
  rw [List.getElem?_map, Array.getElem?_toList, h]
  rfl
theorem walkD_str {W : Wd} {z : Str} (hz : z.length ≤ sizeLine) : WalkD c (Its z) W (chars z) := by
  unfold WalkD
  refine ⟨by rw [show (chars z).length = z.length by simp [chars, Str.length]]; exact hz, ?_⟩
  rw [show (chars z).length = z.cps.size by simp [chars]]
  refine (walk_str (z := z)).mono (fun H _ => True.intro) fun i H x H' hi _ y W1 l1 i1 => ?_
  obtain ⟨rfl, u, hu, rfl⟩ := y
  exact ⟨W1, _, .refl i1, chars_get hu, by simp only [Rep]; exact ⟨trivial, by show 1 ≤ sizeLine; decide⟩⟩
/-- a value that is walked: what comes ahead -/
theorem i_over (h : EE X io G Φ b e ie F F') : EI X io G Φ tg e (.over ie) F F' := by
  refine ⟨fun pins s σ H RR I q => ?_⟩
  obtain ⟨G', W, ρ, E, sa⟩ := q
  have sa : ((evE G Φ ρ ie).bind itemsD).Sat _ := sa
  refine thn (h.any.run pins s σ H (fun x H1 => ∃ W' d l, W.le W' ∧ EnvOk (cOf X) G' io W' H1 σ ρ (fl F') ∧ Rep (cOf X) W' d x ∧ itemsD d = .ok l ∧
    ∀ J H' W', W.le W' → EnvOk (cOf X) G' io W' H' σ ρ (fl F') → WalkD (cOf X) J W' l → RR J H') I ⟨G', W, ρ, E, (R.Sat.bind.mp sa).mono fun d hd v H' W' S l1 E1 x n => ?_⟩) fun v s1 ⟨x, H1, I1, r1, q1⟩ => ?_
  · obtain ⟨r, rfl⟩ := x
    rw [addG_nil] at E1
    cases d with
    | tup l => exact ⟨W', _, l, l1, E1, r, rfl, hd⟩
    | lst l => exact ⟨W', _, l, l1, E1, r, rfl, hd⟩
    | str l => exact ⟨W', _, _, l1, E1, r, rfl, hd⟩
    | _ => exact hd.elim
  obtain ⟨W', d, l, l1, E1, r, hl, hR⟩ := q1
  cases d with
  | tup l =>
    cases hl
    obtain ⟨q, vs, rfl, h1, h2⟩ := (show ∃ a vs, x = .ref a ∧ SqT (cOf X).K W'.fz a vs ∧ RepL (cOf X) W' l vs by simpa only [Rep] using r)
    cases r1
    obtain ⟨its, rv, p, hz⟩ := I1.tuple (h1.ext E1.wh.fz)
    exact wpAny_pyIter_tuple (show s1.heap.IsTuple q its.toArray from p) (pi_one (tk := s1.toks) I1 _ (turn_tuple q _) ⟨_, Heap.get?_push_size _ rfl, rfl, rfl⟩ (hR _ _ W' l1 E1 (walkD_tup h1 hz h2)))
  | lst l =>
    cases hl
    obtain ⟨q, vs, rfl, h1, h2⟩ := (show ∃ a vs, x = .ref a ∧ Rd W'.fz a (.lst vs) ∧ RepL (cOf X) W' l vs by simpa only [Rep] using r)
    cases r1
    obtain ⟨its, rv, p, hz⟩ := I1.list (.inl (rd_ext E1.wh.fz h1))
    exact wpAny_pyIter_list p.isList (pi_one (tk := s1.toks) I1 _ (turn_list q _) ⟨_, Heap.get?_push_size _ rfl, rfl, rfl⟩ (hR _ _ W' l1 E1 (walkD_list h1 hz h2)))
  | str z =>
    cases hl
    obtain ⟨rfl, hz⟩ := (show x = .str z ∧ z.length ≤ sizeLine by simpa only [Rep] using r)
    obtain ⟨t, rfl⟩ := r1
    have q := hR _ _ W' l1 E1 (walkD_str (z := z) hz)
    cases ha : z.cps.all (· < 128)
    · exact wpAny_pyIter_wide ha (pi_one (tk := s1.toks) I1 _ (turn_str _ z t "str_iterator" (.inr rfl)) ⟨_, Heap.get?_push_size _ rfl, rfl, rfl⟩ q)
    · exact wpAny_pyIter_ascii ha (pi_one (tk := s1.toks) I1 _ (turn_str _ z t "str_ascii_iterator" (.inl rfl)) ⟨_, Heap.get?_push_size _ rfl, rfl, rfl⟩ q)
  | _ => cases hl
/-! range -/
theorem walkD_range {W : Wd} {lo : Int} {n : Nat} {l : List D} (hl : l.length = n) (hz : n ≤ sizeLine) (h : ∀ i, i < n → l[i]? = some (.int (lo + i))) : WalkD c (Itr lo n) W l := by
  unfold WalkD
  rw [hl]
  refine ⟨hz, ?_⟩
  refine (walk_range (lo := lo) (n := n)).mono (fun H _ => True.intro) fun i H x H' hi _ y W1 l1 i1 => ?_
  obtain ⟨rfl, rfl⟩ := y
  exact ⟨W1, _, .refl i1, h i hi, by simp only [Rep]⟩
theorem i_range1 (S : Sx c B N sc fb j X) (ha : EB X io G Φ a ia F F') (hg : glC sc "range" = true) (hm : c.mg "range" = none) (hs : starEach [a] X.env = [(false, eval a X.env)] := by rfl) : EI X io G Φ tg (.Call (.Name "range" p) [a] [] pos) (.range1 ia) F F' := by
  refine ⟨fun pins s σ H RR I q => (pi_range1 (S.gl hg) (by rw [S.mg]; exact hm) (pa_cons ha pa_nil hs) hs).run pins s σ H RR I ?_⟩
  obtain ⟨G', W, ρ, E, sa⟩ := q
  have sa : ((evE G Φ ρ ia).bind fun x => match x with | .int n => if mid n && decide (n ≤ big) then R.ok ((List.range n.toNat).map fun (i : Nat) => D.int (i : Int)) else .bad | _ => .bad).Sat _ := sa
  refine ⟨G', W, ρ, E, (R.Sat.bind.mp sa).mono fun d hd v H1 W1 l1 E1 b1 => ?_⟩
  cases d with
  | int n =>
    cases rdv_int (b1.rd E1)
    have hd : (if mid n && decide (n ≤ big) then R.ok ((List.range n.toNat).map fun (i : Nat) => D.int (i : Int)) else .bad).Sat _ := hd
    obtain ⟨hn, hd⟩ := sat_if hd
    simp only [mid, Bool.and_eq_true, decide_eq_true_eq] at hn
    refine ⟨n, rfl, hn.1.1, hn.1.2, (show ∀ J H' W', _ from hd) _ _ W1 l1 E1 (walkD_range (by simp) (by have := hn.2; rw [big_eq] at this; omega) fun i hi => ?_)⟩
    rw [List.getElem?_map, List.getElem?_range hi, Int.zero_add]
    rfl
  | _ => exact hd.elim
theorem i_range2 (S : Sx c B N sc fb j X) (ha : EB X io G Φ a ia F F1) (hb : EB X io G Φ d id F1 F') (hg : glC sc "range" = true) (hm : c.mg "range" = none) (hs : starEach [a, d] X.env = [(false, eval a X.env), (false, eval d X.env)] := by rfl) (hs2 : starEach [d] X.env = [(false, eval d X.env)] := by rfl) :
    EI X io G Φ tg (.Call (.Name "range" p) [a, d] [] pos) (.range2 ia id) F F' := by
  refine ⟨fun pins s σ H RR I q => (pi_range2 (S.gl hg) (by rw [S.mg]; exact hm) (pa_cons ha (pa_cons hb pa_nil hs2) (by rw [hs, hs2])) hs hs2).run pins s σ H RR I ?_⟩
  obtain ⟨G', W, ρ, E, sa⟩ := q
  have sa : ((evE G Φ ρ ia).bind fun x => (evE G Φ ρ id).bind fun y => match x, y with
    | .int i, .int j => if mid i && mid j && decide (j - i ≤ big) then R.ok ((List.range (j - i).toNat).map fun (k : Nat) => D.int (i + (k : Int))) else .bad
    | _, _ => .bad).Sat _ := sa
  refine ⟨G', W, ρ, E, (R.Sat.bind.mp sa).mono fun d1 hd v H1 W1 l1 E1 b1 => ⟨G', W1, ρ, E1, (R.Sat.bind.mp hd).mono fun d2 hd v2 H2 W2 l2 E2 b2 => ?_⟩⟩
  cases d1 with
  | int i =>
    cases d2 with
    | int j =>
      cases rdv_int ((b1.mono l2).rd E2)
      cases rdv_int (b2.rd E2)
      have hd : (if mid i && mid j && decide (j - i ≤ big) then R.ok ((List.range (j - i).toNat).map fun (k : Nat) => D.int (i + (k : Int))) else .bad).Sat _ := hd
      obtain ⟨hn, hd⟩ := sat_if hd
      simp only [mid, Bool.and_eq_true, decide_eq_true_eq] at hn
      refine ⟨i, j, rfl, ⟨hn.1.1.1, hn.1.1.2, hn.1.2.1, hn.1.2.2⟩, (show ∀ J H' W', _ from hd) _ _ W2 (l1.trans l2) E2 (walkD_range (by simp) (by have := hn.2; rw [big_eq] at this; omega) fun k hk => ?_)⟩
      rw [List.getElem?_map, List.getElem?_range hk]
      rfl
    | _ => exact hd.elim
  | _ => cases d2 <;> exact hd.elim
/-! walks that may read an owned slot: good while the environment stands -/
def WalkG (c : Cn) (J : It) (Gd : Wd → Hp → Prop) (W : Wd) (l : List D) : Prop :=
  l.length ≤ sizeLine ∧ Walk J l.length (fun H => ∃ W1, W.le W1 ∧ W1.In H ∧ Gd W1 H) (fun i H x H' => ∀ W1, W.le W1 → W1.In H → Gd W1 H → ∃ W2 d, Grow W1 H W2 H' ∧ l[i]? = some d ∧ Rep c W2 d x)
def StandsD (c : Cn) (io : Io) (σ : St) (ρ : Env) : Wd → Hp → Prop := fun W1 H => ∃ G F, EnvOk c G io W1 H σ ρ F
def tiB (X : Cx) (io : Io) (m : Env → R (List D)) (F F' : Nat → Bool) : TI := fun σ H R =>
  ∃ G W ρ, EnvOk (cOf X) G io W H σ ρ F ∧ (m ρ).Sat fun l => ∀ J H' W', W.le W' → EnvOk (cOf X) G io W' H' σ ρ F' → WalkG (cOf X) J (StandsD (cOf X) io σ ρ) W' l → R J H'
abbrev EIB (X : Cx) (io : Io) (G : Glo) (Φ : Phi) (tg e : Expr) (ie : IE) (F F' : List Bool) : Prop := PI X tg e (tiB X io (fun ρ => evI G Φ ρ ie) (fl F) (fl F'))
theorem WalkD.toG {J : It} {Gd : Wd → Hp → Prop} {W : Wd} {l : List D} (h : WalkD c J W l) : WalkG c J Gd W l :=
  ⟨h.1, h.2.mono (fun H ⟨W1, l1, i1, _⟩ => ⟨W1, l1, i1⟩) fun i H x H' _ _ y W1 l1 i1 _ => y W1 l1 i1⟩
theorem i_toB (h : EI X io G Φ tg e ie F F') : EIB X io G Φ tg e ie F F' := ⟨fun pins s σ H RR I q => h.run pins s σ H RR I (by
  obtain ⟨G', W, ρ, E, sa⟩ := q
  exact ⟨G', W, ρ, E, sa.mono fun l f J H' W' l' E' wd => f J H' W' l' E' wd.toG⟩)⟩
theorem i_lowB (h : EIB X io G Φ tg e ie F F1) (hf : subL F' F1 = true) : EIB X io G Φ tg e ie F F' :=
  ⟨fun pins s σ H RR I q => h.run pins s σ H RR I (by
    obtain ⟨G', W, ρ, E, sa⟩ := q
    exact ⟨G', W, ρ, E, sa.mono fun l f J H' W' l' E' wd => let ⟨W2, l2, E2⟩ := E'.lowers (fl_sub hf); f J H' W2 (l'.trans l2) E2 (by
      obtain ⟨h1, h2⟩ := wd
      exact ⟨h1, h2.mono (fun H ⟨W3, l3, i3, g3⟩ => ⟨W3, l2.trans l3, i3, g3⟩) fun i H x H' hi _ y W3 l3 i3 g3 => y W3 (l2.trans l3) i3 g3⟩)⟩)⟩
theorem i_overB (h : EB X io G Φ e ie F F') : EIB X io G Φ tg e (.over ie) F F' := by
  refine ⟨fun pins s σ H RR I q => ?_⟩
  obtain ⟨G', W, ρ, E, sa⟩ := q
  have sa : ((evE G Φ ρ ie).bind itemsD).Sat _ := sa
  refine thn (h.run pins s σ H (fun x H1 => ∃ W' d l, W.le W' ∧ EnvOk (cOf X) G' io W' H1 σ ρ (fl F') ∧ Bor (cOf X) W' σ ρ d x ∧ itemsD d = .ok l ∧
    ∀ J H' W', W.le W' → EnvOk (cOf X) G' io W' H' σ ρ (fl F') → WalkG (cOf X) J (StandsD (cOf X) io σ ρ) W' l → RR J H') I ⟨G', W, ρ, E, (R.Sat.bind.mp sa).mono fun d hd v H' W' l1 E1 x => ?_⟩) fun v s1 ⟨x, H1, I1, r1, q1⟩ => ?_
  · cases d with
    | tup l => exact ⟨W', _, l, l1, E1, x, rfl, hd⟩
    | lst l => exact ⟨W', _, l, l1, E1, x, rfl, hd⟩
    | str l => exact ⟨W', _, _, l1, E1, x, rfl, hd⟩
    | _ => exact hd.elim
  obtain ⟨W', d, l, l1, E1, r, hl, hR⟩ := q1
  cases d with
  | tup l =>
    cases hl
    obtain ⟨q, vs, rfl, h1, h2⟩ := (show ∃ a vs, x = .ref a ∧ SqT (cOf X).K W'.fz a vs ∧ RepL (cOf X) W' l vs by simpa only [Rdv, Rep] using r.rd E1)
    cases r1
    obtain ⟨its, rv, p, hz⟩ := I1.tuple (h1.ext E1.wh.fz)
    exact wpAny_pyIter_tuple (show s1.heap.IsTuple q its.toArray from p) (pi_one (tk := s1.toks) I1 _ (turn_tuple q _) ⟨_, Heap.get?_push_size _ rfl, rfl, rfl⟩ (hR _ _ W' l1 E1 (walkD_tup h1 hz h2).toG))
  | lst l =>
    cases hl
    obtain ⟨q, vs, rfl, h1, h2⟩ := (show ∃ a vs, x = .ref a ∧ Rd H1 a (.lst vs) ∧ RepL (cOf X) W' l vs from r.rd E1)
    cases r1
    obtain ⟨its, rv, p, hz⟩ := I1.list (.inl h1)
    have rdAt : ∀ {H : Hp} {W1 : Wd}, W'.le W1 → StandsD (cOf X) io σ ρ W1 H → ∃ vs, SqL X.K H q vs ∧ RepL (cOf X) W1 l vs := by
      intro H W1 l1 ⟨G2, F2, E2⟩
      obtain ⟨a, vs, e, k1, k2⟩ := (show ∃ a vs, V.ref q = .ref a ∧ Rd H a (.lst vs) ∧ RepL (cOf X) W1 l vs from (r.mono l1).rd E2)
      cases e
      exact ⟨vs, .inl k1, k2⟩
    refine wpAny_pyIter_list p.isList (pi_one (tk := s1.toks) I1 _ (turn_list q _) ⟨_, Heap.get?_push_size _ rfl, rfl, rfl⟩ (hR _ _ W' l1 E1 ⟨by rw [h2.length]; exact hz, fun i H hi ⟨W1, l1, i1, g1⟩ => ?_, fun H ⟨W1, l1, i1, g1⟩ => ?_, fun i H x H' hi ⟨W0, _, _, _⟩ y W1 l1 i1 g1 => ?_⟩))
    · obtain ⟨vs, k1, k2⟩ := rdAt l1 g1
      exact ⟨vs, vs[i]'(by rw [← k2.length]; exact hi), k1, by simp⟩
    · obtain ⟨vs, k1, k2⟩ := rdAt l1 g1
      exact ⟨vs, k1, by rw [k2.length]; exact Nat.le_refl _⟩
    · obtain ⟨vs, k1, k2⟩ := rdAt l1 g1
      obtain ⟨rfl, hy⟩ := y
      obtain ⟨d, hd, rr⟩ := k2.getV (hy vs k1)
      exact ⟨W1, d, .refl i1, hd, rr⟩
  | str z =>
    cases hl
    obtain ⟨rfl, hz⟩ := (show x = .str z ∧ z.length ≤ sizeLine by simpa only [Rdv, Rep] using r.rd E1)
    obtain ⟨t, rfl⟩ := r1
    have q := hR _ _ W' l1 E1 (walkD_str (z := z) hz).toG
    cases ha : z.cps.all (· < 128)
    · exact wpAny_pyIter_wide ha (pi_one (tk := s1.toks) I1 _ (turn_str _ z t "str_iterator" (.inr rfl)) ⟨_, Heap.get?_push_size _ rfl, rfl, rfl⟩ q)
    · exact wpAny_pyIter_ascii ha (pi_one (tk := s1.toks) I1 _ (turn_str _ z t "str_ascii_iterator" (.inl rfl)) ⟨_, Heap.get?_push_size _ rfl, rfl, rfl⟩ q)
  | _ => cases hl
end
end Pv

set_option autoImplicit false
set_option linter.all false
set_option maxRecDepth 100000
/-! Pv: targets, comprehensions. -/
namespace Pv
open PySem L2
section
variable {c : Cn} {G : Hp} {io : Io} {W W' : Wd} {H H' : Hp} {σ σ2 : St} {ρ ρ2 : Env} {F F0 : Nat → Bool}
theorem wipeD_out {i : Nat} : ∀ {vs : List Nat}, i ∉ vs → (wipe ρ vs)[i]? = ρ[i]?
  | [], _ => rfl
  | v :: vs, h => by
    simp only [List.mem_cons, not_or] at h
    show ((wipe ρ vs).set v none)[i]? = _
    rw [List.getElem?_set_ne (fun e => h.1 e.symm)]
    exact wipeD_out h.2
theorem wipeD_some {i : Nat} {d : D} : ∀ {vs : List Nat}, (wipe ρ vs)[i]? = some (some d) → ρ[i]? = some (some d) ∧ i ∉ vs
  | [], h => ⟨h, by simp⟩
  | v :: vs, h => by
    have h : ((wipe ρ vs).set v none)[i]? = some (some d) := h
    by_cases e : v = i
    · subst e
      rw [List.getElem?_set] at h
      split at h
      · split at h <;> cases h
      · exact absurd rfl (by assumption)
    · rw [List.getElem?_set_ne e] at h
      obtain ⟨h1, h2⟩ := wipeD_some h
      exact ⟨h1, by simp only [List.mem_cons, not_or]; exact ⟨fun z => e z.symm, h2⟩⟩
theorem wipeD_length : ∀ vs : List Nat, (wipe ρ vs).length = ρ.length
  | [] => rfl
  | v :: vs => by
    show ((wipe ρ vs).set v none).length = _
    rw [List.length_set, wipeD_length vs]
/-- slots forgotten -/
theorem EnvOk.wipe (E : EnvOk c G io W H σ ρ F) {own : List Nat} (hio : ∀ p ∈ io, p.1 ∉ own) : EnvOk c G io W H (L2.wipe σ own) (Pv.wipe ρ own) F := by
  obtain ⟨fp, h1, h2, h3, h4⟩ := E.sl
  refine ⟨E.wh, E.g, by rw [wipeD_length, L2.wipe_length]; exact E.len, ⟨fun i => if i ∈ own then [] else fp i, fun i d e => ?_, fun i j a hi hj => ?_, fun i a hi => ?_, fun i a hi => ?_⟩, fun p hp => ?_⟩
  · obtain ⟨e1, e2⟩ := wipeD_some e
    obtain ⟨v, q1, q2⟩ := h1 i d e1
    exact ⟨v, by rw [L2.wipe_out e2]; exact q1, by simp only [if_neg e2]; exact q2⟩
  · by_cases z1 : i ∈ own
    · simp only [if_pos z1] at hi; cases hi
    · by_cases z2 : j ∈ own
      · simp only [if_pos z2] at hj; cases hj
      · simp only [if_neg z1] at hi; simp only [if_neg z2] at hj; exact h2 i j a hi hj
  · by_cases z1 : i ∈ own
    · simp only [if_pos z1] at hi; cases hi
    · simp only [if_neg z1] at hi; exact h3 i a hi
  · by_cases z1 : i ∈ own
    · simp only [if_pos z1] at hi; cases hi
    · simp only [if_neg z1] at hi
      obtain ⟨d, e⟩ := h4 i a hi
      exact ⟨d, by rw [wipeD_out z1]; exact e⟩
  · exact ⟨by rw [L2.wipe_out (hio p hp)]; exact (E.io p hp).1, (E.io p hp).2⟩
/-- behind a block: the frame's own slots again -/
theorem EnvOk.back (E0 : EnvOk c G io W H σ ρ F0) (l : W.le W') {G' : Hp} (E : EnvOk c G' io W' H' σ2 ρ2 F) {own : List Nat} (same : ∀ i, i ∉ own → σ2[i]? = σ[i]? ∧ ρ2[i]? = ρ[i]?) (hf : ∀ i ∈ own, F0 i = false) (hs : ∀ i, F0 i = true → F i = true) : ∃ W2 : Wd, W'.le W2 ∧ EnvOk c G' io W2 H' σ ρ F0 := by
  obtain ⟨W2, l2, E⟩ := E.lowers (F' := F0) hs
  obtain ⟨fp, h1, h2, h3, h4⟩ := E.sl
  refine ⟨W2, l2, E.wh, E.g, E0.len, ⟨fun i => if i ∈ own then [] else fp i, fun i d e => ?_, fun i j a hi hj => ?_, fun i a hi => ?_, fun i a hi => ?_⟩, fun p hp => (E0.io p hp).mono (l.trans l2)⟩
  · by_cases z : i ∈ own
    · simp only [if_pos z]
      obtain ⟨fp0, k1, _⟩ := E0.sl
      obtain ⟨v, q1, q2⟩ := k1 i d e
      rw [hf i z] at q2 ⊢
      exact ⟨v, q1, q2.1.mono _ (l.trans l2), rfl⟩
    · obtain ⟨s1, s2⟩ := same i z
      simp only [if_neg z]
      obtain ⟨v, q1, q2⟩ := h1 i d (by rw [s2]; exact e)
      exact ⟨v, by rw [← s1]; exact q1, q2⟩
  · by_cases z1 : i ∈ own
    · simp only [if_pos z1] at hi; cases hi
    · by_cases z2 : j ∈ own
      · simp only [if_pos z2] at hj; cases hj
      · simp only [if_neg z1] at hi; simp only [if_neg z2] at hj; exact h2 i j a hi hj
  · by_cases z1 : i ∈ own
    · simp only [if_pos z1] at hi; cases hi
    · simp only [if_neg z1] at hi; exact h3 i a hi
  · by_cases z1 : i ∈ own
    · simp only [if_pos z1] at hi; cases hi
    · simp only [if_neg z1] at hi
      obtain ⟨d, e⟩ := h4 i a hi
      exact ⟨d, by rw [← (same i z1).2]; exact e⟩
theorem Wd.In.upd {D : Addr} {o : HO} (wh : W.In H) (n : W.no D) (nc : NC o := by exact ⟨(fun _ _ z => nomatch z), (fun _ z => nomatch z)⟩) : W.In (upd H D o) where
  fz := fun a u e => by
    rw [upd_ne (fun z => by rw [z, n.fz] at e; cases e)]
    exact wh.fz a u e
  bw := fun a e => by
    obtain ⟨⟨x, y, z, h1⟩, h3⟩ := wh.bw a e
    exact ⟨⟨x, y, z, by rw [upd_ne (fun q => n.bw (by rw [← q]; exact e))]; exact h1⟩, h3⟩
  tb := wh.tabs fun a u e na => by
    rw [upd_ne (fun z => na (by rw [z]; exact n))]
    exact e
  cd := fun a b q e => by
    by_cases z : a = D
    · rw [z, upd_same] at e
      exact absurd (Option.some.inj e) (nc.1 b q)
    · rw [upd_ne z] at e
      exact wh.cd a b q e
  tn := wh.tn
  te := wh.te
  ht := fun a ps e => by
    by_cases z : a = D
    · rw [z, upd_same] at e
      exact absurd (Option.some.inj e) (nc.2 ps)
    · rw [upd_ne z] at e
      exact wh.ht a ps e
  tu := fun a e => ⟨by rw [upd_ne (fun z => n.tu (by rw [← z]; exact e))]; exact (wh.tu a e).1, (wh.tu a e).2⟩
/-- an object beside the environment is written -/
theorem EnvOk.putOwn {S : List Addr} {D : Addr} {o o1 : HO} (E : EnvOk c (addG G H S) io W H σ ρ F) (hD : D ∈ S) (n : W.no D) (ho : H D = some o1) (nc : NC o := by exact ⟨(fun _ _ z => nomatch z), (fun _ z => nomatch z)⟩) : EnvOk c (addG G (upd H D o) S) io W (upd H D o) σ ρ F := by
  have gS : ∀ a ∈ S, a ≠ D → addG G H S a = H a := fun a ha _ => by unfold addG; rw [if_pos ha]
  refine ⟨E.wh.upd n nc, fun a u e => ?_, E.len, ?_, E.io⟩
  · by_cases z : a = D
    · subst z
      unfold addG at e
      rw [if_pos hD] at e
      exact ⟨e, n⟩
    · have e2 : addG G H S a = some u := by
        unfold addG at e ⊢
        by_cases hs : a ∈ S
        · rw [if_pos hs, upd_ne z] at e; rw [if_pos hs]; exact e
        · rw [if_neg hs] at e; rw [if_neg hs]; exact e
      rw [upd_ne z]
      exact E.g a u e2
  · obtain ⟨fp, h1, h2, h3, h4⟩ := E.sl
    have hn : ∀ i a, a ∈ fp i → a ≠ D := fun i a ha z => by
      have := h3 i a ha
      rw [z] at this
      unfold addG at this
      rw [if_pos hD, ho] at this
      cases this
    refine ⟨fp, fun i d e => ?_, h2, fun i a ha => ?_, h4⟩
    · obtain ⟨v, q1, q2⟩ := h1 i d e
      exact ⟨v, q1, q2.keep (.refl W) (fun a ha u e => by rw [upd_ne (hn i a ha)]; exact e) fun a ha => (q2.at a ha).1⟩
    · have := h3 i a ha
      unfold addG at this ⊢
      by_cases hs : a ∈ S
      · rw [if_pos hs] at this; rw [if_pos hs, upd_ne (hn i a ha)]; exact this
      · rw [if_neg hs] at this; rw [if_neg hs]; exact this
end

/-! ### targets -/
mutual
def Tg.slots : Tg → List Nat
  | .var i => [i]
  | .nil => []
  | .cons t ts => t.slots ++ ts.slots
end
def clr (F : List Bool) : List Nat → List Bool
  | [] => F
  | i :: l => clr (F.set i false) l
/-- σ' is σ but for these slots -/
def SameBut (σ σ' : St) (ss : List Nat) : Prop := σ'.length = σ.length ∧ ∀ i, i ∉ ss → σ'[i]? = σ[i]?
def tgD (X : Cx) (io : Io) (m : D → Env → R Env) (ss : List Nat) (F F' : Nat → Bool) : TG := fun v σ H Q =>
  ∃ G W ρ d, EnvOk (cOf X) G io W H σ ρ F ∧ Rep (cOf X) W d v ∧ (m d ρ).Sat fun ρ' => ∀ σ', EnvOk (cOf X) G io W H σ' ρ' F' → SameBut σ σ' ss → (∀ i, i ∉ ss → ρ'[i]? = ρ[i]?) → Q σ' H
def tgsD (X : Cx) (io : Io) (m : List D → Env → R Env) (ss : List Nat) (F F' : Nat → Bool) : TGs := fun vs σ H Q =>
  ∃ G W ρ ds, EnvOk (cOf X) G io W H σ ρ F ∧ RepL (cOf X) W ds vs ∧ (m ds ρ).Sat fun ρ' => ∀ σ', EnvOk (cOf X) G io W H σ' ρ' F' → SameBut σ σ' ss → (∀ i, i ∉ ss → ρ'[i]? = ρ[i]?) → Q σ' H
section
variable {c : Cn} {B : Heap} {N : List Str} {sc : Scope} {fb : Str → Bool} {j k : Nat} {X : Cx} {io : Io} {G : Glo} {Φ : Phi} {F F1 F2 F' : List Bool} {e a d tg : Expr} {ie ia id il : IE} {b : Bool} {pos p : Pos} {es : List Expr} {n : Nat} {t ts : Tg} {ss rr : List Nat}
theorem _root_.L2.PG.imp {tg : Expr} {g g' : TG} (h : PG X tg g) (i : ∀ v σ H Q, g' v σ H Q → g v σ H Q) : PG X tg g' := ⟨fun pins s σ H v u Q I r q => h.run pins s σ H v u Q I r (i v σ H Q q)⟩
theorem _root_.L2.PGs.imp {es : List Expr} {g g' : TGs} (h : PGs X es g) (i : ∀ v σ H Q, g' v σ H Q → g v σ H Q) : PGs X es g' := ⟨fun pins s σ H v u Q I r q => h.run pins s σ H v u Q I r (i v σ H Q q)⟩
theorem _root_.L2.PG.impN {tg : Expr} {g g' : TG} (h : PG X tg g) (i : ∀ v σ H Q, σ.length = X.N.length → g' v σ H Q → g v σ H Q) : PG X tg g' := ⟨fun pins s σ H v u Q I r q => h.run pins s σ H v u Q I r (i v σ H Q I.len q)⟩
abbrev EG (X : Cx) (io : Io) (tg : Expr) (t : Tg) (ss : List Nat) (F F' : List Bool) : Prop := PG X tg (tgD X io (asgT t) ss (fl F) (fl F'))
abbrev EGs (X : Cx) (io : Io) (es : List Expr) (t : Tg) (ss : List Nat) (F F' : List Bool) : Prop := PGs X es (tgsD X io (asgTs t) ss (fl F) (fl F'))
theorem g_name {i : Nat} {x : Str} (S : Sx c B N sc fb j X) (hN : N[i]? = some x) (hx : locC sc x = true) (hf : (fb x || decide (sc.names.lookup x = some .local)) = true) (hio : ∀ p ∈ io, p.1 ≠ i) : EG X io (.Name x pos) (.var i) [i] F (F.set i false) := by
  refine (pg_name (by rw [S.nN]; exact S.nd) (by rw [S.nN]; exact hN) (S.loc hx) ?_).impN fun v σ H Q hl ⟨G', W, ρ, d, E, r, s⟩ => ?_
  · rw [Bool.or_eq_true, decide_eq_true_eq] at hf
    rcases hf with h | h
    · exact .inl (S.fn x h)
    · exact .inr (by rw [S.sc]; exact h)
  · have s : ∀ σ', EnvOk (cOf X) G' io W H σ' (setV ρ i d) (fl (F.set i false)) → SameBut σ σ' [i] → (∀ k, k ∉ [i] → (setV ρ i d)[k]? = ρ[k]?) → Q σ' H := s
    have hi : i < ρ.length := by
      rw [E.len, hl, S.nN]
      exact (List.getElem?_eq_some_iff.mp hN).1
    have E2 := EnvOk.store (b := false) (S := []) (i := i) (d := d) (v := v) (by rw [addG_nil]; exact E) (by simp) ⟨r, rfl⟩ hi hio
    rw [fl_set] at E2
    exact s _ E2 ⟨by simp, fun k hk => List.getElem?_set_ne (fun z => hk (by simp [z]))⟩ fun k hk => by unfold setV; exact List.getElem?_set_ne (fun z => hk (by simp [z]))
theorem gs_nil : EGs X io [] .nil [] F F := pgs_nil.imp fun vs σ H Q ⟨G', W, ρ, ds, E, r, s⟩ => by
  cases ds with
  | nil =>
    have e : vs = [] := by simpa only [RepL] using r
    exact ⟨e, (show ∀ σ', EnvOk (cOf X) G' io W H σ' ρ (fl F) → _ from s) σ E ⟨rfl, fun _ _ => rfl⟩ fun _ _ => rfl⟩
  | cons d ds => exact s.elim
theorem gs_cons (h1 : EG X io a t ss F F1) (h2 : EGs X io es ts rr F1 F') (hs : (assignEach (a :: es) X.env).map (·.2) = assign a X.env :: (assignEach es X.env).map (·.2) := by rfl) : EGs X io (a :: es) (.cons t ts) (ss ++ rr) F F' :=
  (pgs_cons h1 h2 hs).imp fun vs σ H Q ⟨G', W, ρ, ds, E, r, s⟩ => by
    cases ds with
    | nil => exact s.elim
    | cons d ds =>
      obtain ⟨v, vr, rfl, r1, r2⟩ := (show ∃ v r, vs = v :: r ∧ Rep (cOf X) W d v ∧ RepL (cOf X) W ds r by simpa only [RepL] using r)
      refine ⟨v, vr, rfl, G', W, ρ, d, E, r1, (R.Sat.bind.mp s).mono fun ρ1 q σ1 E1 b1 k1 => ⟨G', W, ρ1, ds, E1, r2, (show (asgTs ts ds ρ1).Sat _ from q).mono fun ρ2 f σ2 E2 b2 k2 => ?_⟩⟩
      exact f σ2 E2 ⟨b2.1.trans b1.1, fun i hi => by
        rw [List.mem_append, not_or] at hi
        rw [b2.2 i hi.2, b1.2 i hi.1]⟩ fun i hi => by
        rw [List.mem_append, not_or] at hi
        rw [k2 i hi.2, k1 i hi.1]
def Tg.len : Tg → Nat
  | .cons _ ts => ts.len + 1
  | _ => 0
mutual
theorem asgT_ok : ∀ (t : Tg) (d : D) (ρ : Env), (∃ ρ', asgT t d ρ = .ok ρ') ∨ asgT t d ρ = .bad
  | .var i, d, ρ => .inl ⟨_, rfl⟩
  | .nil, d, ρ => by
    cases d with
    | tup l => cases l with
      | nil => exact .inl ⟨_, rfl⟩
      | cons a l => exact .inr rfl
    | _ => exact .inr rfl
  | .cons t ts, d, ρ => by
    cases d with
    | tup l => cases l with
      | nil => exact .inr rfl
      | cons a l =>
        rcases asgT_ok t a ρ with ⟨ρ1, h⟩ | h
        · show (∃ ρ', (asgT t a ρ).bind (fun ρ => asgTs ts l ρ) = .ok ρ') ∨ _
          rw [show asgT (.cons t ts) (.tup (a :: l)) ρ = (asgT t a ρ).bind fun ρ => asgTs ts l ρ from rfl, h]
          exact asgTs_ok ts l ρ1
        · right
          rw [show asgT (.cons t ts) (.tup (a :: l)) ρ = (asgT t a ρ).bind fun ρ => asgTs ts l ρ from rfl, h]
          rfl
    | _ => exact .inr rfl
theorem asgTs_ok : ∀ (t : Tg) (ds : List D) (ρ : Env), (∃ ρ', asgTs t ds ρ = .ok ρ') ∨ asgTs t ds ρ = .bad
  | .var _, [], _ => .inr rfl
  | .var _, _ :: _, _ => .inr rfl
  | .nil, [], ρ => .inl ⟨_, rfl⟩
  | .nil, _ :: _, _ => .inr rfl
  | .cons _ _, [], _ => .inr rfl
  | .cons t ts, a :: l, ρ => by
    rcases asgT_ok t a ρ with ⟨ρ1, h⟩ | h
    · rw [show asgTs (.cons t ts) (a :: l) ρ = (asgT t a ρ).bind fun ρ => asgTs ts l ρ from rfl, h]
      exact asgTs_ok ts l ρ1
    · right
      rw [show asgTs (.cons t ts) (a :: l) ρ = (asgT t a ρ).bind fun ρ => asgTs ts l ρ from rfl, h]
      rfl
end
theorem asgTs_len : ∀ {T : Tg} {ds : List D} {ρ : Env} {P : Env → Prop}, (asgTs T ds ρ).Sat P → ds.length = T.len
  | .nil, [], _, _, _ => rfl
  | .nil, _ :: _, _, _, s => s.elim
  | .var _, [], _, _, s => s.elim
  | .var _, _ :: _, _, _, s => s.elim
  | .cons t ts, [], _, _, s => s.elim
  | .cons t ts, d :: ds, ρ, P, s => by
    have s : ((asgT t d ρ).bind fun ρ => asgTs ts ds ρ).Sat P := s
    rcases asgT_ok t d ρ with ⟨ρ1, h⟩ | h <;> rw [h] at s
    · rw [List.length_cons, asgTs_len (show (asgTs ts ds ρ1).Sat P from s)]; rfl
    · exact s.elim
theorem g_tup {kk : Nat} (S : Sx c B N sc fb j X) (h : EGs X io es (.cons t ts) ss F F') (hl : (Tg.cons t ts).len = n := by rfl) (hn : (assignEach es X.env).length = n := by rfl) (hst : (assignEach es X.env).findIdx? (·.1) = none := by rfl) :
    EG X io (.Tuple es kk pos) (.cons t ts) ss F F' :=
  (pg_tup S.calm h hn hst).imp fun v σ H Q ⟨G', W, ρ, d, E, r, s⟩ => by
    cases d with
    | tup l =>
      obtain ⟨q, vs, rfl, h1, h2⟩ := (show ∃ a vs, v = .ref a ∧ SqT (cOf X).K W.fz a vs ∧ RepL (cOf X) W l vs by simpa only [Rep] using r)
      have e1 : asgT (.cons t ts) (.tup l) ρ = asgTs (.cons t ts) l ρ := by cases l <;> rfl
      rw [e1] at s
      exact ⟨q, vs, rfl, h1.ext E.wh.fz, by rw [← h2.length, ← hl]; exact asgTs_len s, G', W, ρ, l, E, h2, s⟩
    | _ => exact s.elim
end
end Pv

/-! ### list comprehensions -/
namespace Pv
open PySem L2
theorem addG_one {G H H' : Hp} {D : Addr} (h : H D = H' D) : addG G H [D] = addG G H' [D] := by
  funext a
  unfold addG
  by_cases z : a ∈ [D]
  · have e : a = D := by simpa using z
    subst e
    rw [if_pos z, if_pos z, h]
  · rw [if_neg z, if_neg z]
theorem wipe_get_in {σ : St} {i : Nat} : ∀ {vs : List Nat}, i ∈ vs → i < σ.length → (L2.wipe σ vs)[i]? = some none
  | [], h, _ => by simp at h
  | v :: vs, h, hl => by
    show ((L2.wipe σ vs).set v none)[i]? = _
    by_cases e : v = i
    · subst e
      rw [List.getElem?_set_self (by rw [L2.wipe_length]; exact hl)]
    · rw [List.getElem?_set_ne e]
      rcases List.mem_cons.mp h with z | z
      · exact absurd z.symm e
      · exact wipe_get_in z hl
theorem wipe_same {σ σ2 : St} {ow ss : List Nat} (h : SameBut (L2.wipe σ ow) σ2 ss) (hs : ∀ i ∈ ss, i ∈ ow) : L2.wipe σ2 ow = L2.wipe σ ow ∧ (∀ i, i ∉ ow → σ2[i]? = σ[i]?) := by
  have hl : σ2.length = σ.length := by rw [h.1, L2.wipe_length]
  have h2 : ∀ i, i ∉ ow → σ2[i]? = σ[i]? := fun i hi => by rw [h.2 i (fun z => hi (hs i z)), L2.wipe_out hi]
  refine ⟨List.ext_getElem? fun i => ?_, h2⟩
  by_cases hi : i ∈ ow
  · by_cases hb : i < σ.length
    · rw [wipe_get_in hi hb, wipe_get_in hi (by rw [hl]; exact hb)]
    · rw [List.getElem?_eq_none (by rw [L2.wipe_length]; omega), List.getElem?_eq_none (by rw [L2.wipe_length]; omega)]
  · rw [L2.wipe_out hi, L2.wipe_out hi, h2 i hi]
section
variable {c : Cn} {B : Heap} {N : List Str} {sc : Scope} {fb : Str → Bool} {j k : Nat} {X : Cx} {io : Io} {G : Glo} {Φ : Phi} {F F1 F2 F3 F4 F' : List Bool} {e a d tg it elt : Expr} {ie ia id il iit ic ielt : IE} {b : Bool} {pos p : Pos} {es ifs : List Expr} {n : Nat} {t ts : Tg} {ss rr ow : List Nat} {scope : Scope} {own : List (Str × Nat)}
theorem Sx.blk (S : Sx c B N sc fb j X) (s : Shared) (H : Hp) (scope : Scope) (cl : List (Str × Addr)) (C : Addr) (fp : List Addr) : Sx c B N (relS scope sc) (fun x => scope.names.lookup x == some .cell) j (X.blk s H scope (compEnvC scope cl C X.env) fp) :=
  ⟨S.pr, S.ww, S.kk, S.mg, S.bs, S.nN, by rw [← S.sc]; rfl, S.room, S.calm, S.nd, (fun x h => h), rfl⟩
/-- one turn's reading -/
def turnF (G : Glo) (Φ : Phi) (elt : IE) (t : Tg) (c : IE) (own : List Nat) (ρ : Env) : D → R (Option D) := fun x => (asgT t x (wipe ρ own)).bind fun ρ => (evE G Φ ρ c).bind fun y => y.truthy.bind fun b =>
  if b then (evE G Φ ρ elt).bind fun z => .ok (some z) else .ok none
theorem lc_sat (E0 : ∀ p ∈ io, p.1 ∉ ow) (hss : ∀ i ∈ ss, i ∈ ow) (hown : ∀ i ∈ ow, fl F1 i = false) (h3 : subL F1 F3 = true) (h4 : subL F1 F4 = true) {σ : St} {H : Hp} {Q : VK}
    (q : teD X io true (fun ρ => evE G Φ ρ (.comp ielt t iit ic ow)) (fl F) (fl F1) σ H Q) :
    tLc (tiB X io (fun ρ => evI G Φ ρ iit) (fl F) (fl F1)) (tgD X io (asgT t) ss (fl F1) (fl F2)) (ttD X io (fun ρ => testE G Φ ρ ic) (fl F2) (fl F3)) (teD X io false (fun ρ => evE G Φ ρ ielt) (fl F3) (fl F4)) ow σ H Q := by
  obtain ⟨G', W, ρ, E, sa⟩ := q
  have sa : ((evI G Φ ρ iit).bind fun l => (gather (turnF G Φ ielt t ic ow ρ) l).bind fun r => .ok (.lst r)).Sat fun d => Fin (cOf X) G' io σ ρ (fl F1) W true d Q := sa
  refine ⟨G', W, ρ, E, (R.Sat.bind.mp sa).mono fun l hl J H1 W1 l1 E1 wd D hD => ?_⟩
  have hl := R.Sat.bind.mp hl
  have hGD := E1.gNone hD
  refine lc_it wd.2 (fun i H => ∃ W2 acc ds, W1.le W2 ∧ EnvOk (cOf X) (addG G' H [D]) io W2 H σ ρ (fl F1) ∧ H D = some (.lst acc) ∧ W2.no D ∧ RepL (cOf X) W2 ds acc ∧ ds.length ≤ i ∧
    (gather (turnF G Φ ielt t ic ow ρ) (l.drop i)).Sat fun rs => Fin (cOf X) G' io σ ρ (fl F1) W true (.lst (ds ++ rs)) Q) ?_ ?_ ?_ ?_
  · have g1 : Grow W1 H1 W1 (upd H1 D (.lst [])) := .new E1.wh hD
    have hno := E1.wh.free hD
    have x : OwnB (cOf X) W1 (upd H1 D (.lst [])) true (.lst []) (.ref D) [D] := ⟨D, .lst [], rfl, hno, upd_same, ⟨[], rfl, .nil⟩, rfl⟩
    exact ⟨W1, [], [], .refl W1, E1.growNew g1 x (by simpa using hD), upd_same, hno, .nil, Nat.le_refl _, hl⟩
  · rintro i H _ ⟨W2, acc, ds, l2, E2, _⟩
    exact ⟨W2, l2, E2.wh, _, _, E2⟩
  · rintro i x H H' hi ⟨W2, acc, ds, l2, E2, hacc, hno, hr, hdl, hs⟩ y
    obtain ⟨W3, d, g3, hd, rd⟩ := y W2 l2 E2.wh ⟨_, _, E2⟩
    have E3 := E2.grow g3
    have hD' := g3.kp D _ hacc hno
    rw [addG_one (show H D = H' D by rw [hacc, hD'.1])] at E3
    have e1 : l.drop i = d :: l.drop (i + 1) := by
      have hi' := (List.getElem?_eq_some_iff.mp hd)
      obtain ⟨hlt, he⟩ := hi'
      rw [List.drop_eq_getElem_cons hlt, he]
    rw [e1] at hs
    have hs : ((turnF G Φ ielt t ic ow ρ d).bind fun r => (gather (turnF G Φ ielt t ic ow ρ) (l.drop (i + 1))).bind fun rs => R.ok (match r with | some d => d :: rs | none => rs)).Sat fun rs => Fin (cOf X) G' io σ ρ (fl F1) W true (.lst (ds ++ rs)) Q := hs
    have hs := R.Sat.bind.mp hs
    refine ⟨_, W3, _, d, E3.wipe E0, rd, (R.Sat.bind.mp hs).mono fun ρ2 q2 σ2 E4 sb kb => ?_⟩
    obtain ⟨ws, wo⟩ := wipe_same sb hss
    have wr : ∀ i, i ∉ ow → ρ2[i]? = ρ[i]? := fun i hi => by rw [kb i (fun z => hi (hss i z)), wipeD_out hi]
    refine ⟨ws, _, W3, ρ2, E4, R.Sat.bind.mpr ((R.Sat.bind.mp q2).mono fun yv qy => (R.Sat.bind.mp qy).mono fun bb hb H3 W4 l4 E5 => ?_)⟩
    have lW : W2.le W4 := g3.le.trans l4
    have fin : ∀ (σ2 : St) (ρ2 : Env) (Fz : List Bool) (W5 : Wd) (H4 : Hp), W4.le W5 → EnvOk (cOf X) (addG G' H' [D]) io W5 H4 σ2 ρ2 (fl Fz) → (∀ i, i ∉ ow → σ2[i]? = σ[i]?) → (∀ i, i ∉ ow → ρ2[i]? = ρ[i]?) → subL F1 Fz = true →
        ∃ W6 : Wd, W5.le W6 ∧ EnvOk (cOf X) (addG G' H4 [D]) io W6 H4 σ ρ (fl F1) ∧ H4 D = some (.lst acc) ∧ W6.no D := by
      intro σ2 ρ2 Fz W5 H4 l5 E6 s1 s2 hz
      obtain ⟨W6, l6, E7⟩ := E3.back (l4.trans l5) E6 (own := ow) (fun i hi => ⟨s1 i hi, s2 i hi⟩) hown (fl_sub hz)
      have hg := E7.g D (.lst acc) (by unfold addG; rw [if_pos (by simp)]; exact hD'.1)
      rw [addG_one (show H' D = H4 D by rw [hD'.1, hg.1])] at E7
      exact ⟨W6, l6, E7, hg.1, hg.2⟩
    cases bb with
    | false =>
      simp only []
      rw [if_neg Bool.false_ne_true]
      obtain ⟨W6, l6, E7, h7, n7⟩ := fin σ2 ρ2 F3 W4 H3 (.refl W4) E5 wo wr h3
      refine ⟨W6, acc, ds, (l2.trans lW).trans l6, E7, h7, n7, hr.mono _ (lW.trans l6), Nat.le_succ_of_le hdl, ?_⟩
      exact R.Sat.bind.mp (show ((gather (turnF G Φ ielt t ic ow ρ) (l.drop (i + 1))).bind fun rs => .ok rs).Sat _ from hb)
    | true =>
      simp only [if_true]
      have hb := R.Sat.bind.mp (show ((evE G Φ ρ2 ielt).bind fun z => .ok (some z)).Sat _ from hb)
      refine ⟨_, W4, ρ2, E5, hb.mono fun z hz yv H4 W5 S l5 E6 xz nz => ?_⟩
      obtain ⟨rz, rfl⟩ := xz
      rw [addG_nil] at E6
      obtain ⟨W6, l6, E7, h7, n7⟩ := fin σ2 ρ2 F4 W5 H4 l5 E6 wo wr h4
      have lT := lW.trans (l5.trans l6)
      have hlt : ds.length < sizeLine := by
        have h8 := wd.1
        omega
      refine ⟨acc, h7, by rw [← hr.length]; exact hlt, W6, acc ++ [yv], ds ++ [z], l2.trans lT, E7.putOwn (by simp) n7 h7, upd_same, n7, (hr.mono _ lT).append (.cons (rz.mono _ l6) .nil), by rw [List.length_append]; simpa using hdl, ?_⟩
      refine (R.Sat.bind.mp (show ((gather (turnF G Φ ielt t ic ow ρ) (l.drop (i + 1))).bind fun rs => .ok (z :: rs)).Sat _ from hz)).mono fun rs f => ?_
      rw [List.append_assoc]
      exact f
  · rintro H2 ⟨W2, acc, ds, l2, E2, hacc, hno, hr, hdl, hs⟩
    rw [List.drop_length] at hs
    have hs : Fin (cOf X) G' io σ ρ (fl F1) W true (.lst (ds ++ [])) Q := hs
    rw [List.append_nil] at hs
    exact hs (.ref D) H2 W2 [D] (l1.trans l2) E2 ⟨D, .lst acc, rfl, hno, hacc, ⟨acc, rfl, hr⟩, rfl⟩ (by simpa using hGD)
/-- the tests of a comprehension -/
abbrev ETs (X : Cx) (io : Io) (G : Glo) (Φ : Phi) (ifs : List Expr) (ie : IE) (F F' : List Bool) : Prop := PTs X ifs (ttD X io (fun ρ => testE G Φ ρ ie) (fl F) (fl F'))
theorem ts_nil : ETs X io G Φ [] (.bl true) F F := ⟨fun pins s σ H Q I ⟨G', W, ρ, E, s'⟩ => pts_nil.run pins s σ H Q I ((show ∀ H' W', W.le W' → EnvOk (cOf X) G' io W' H' σ ρ (fl F) → Q true H' from s') H W (.refl W) E)⟩
theorem ts_one (h : ET X io G Φ e ie F F') : ETs X io G Φ [e] ie F F' := pts_one h
/-- what a block's body asks -/
abbrev InBlk (c : Cn) (B : Heap) (N : List Str) (sc scope : Scope) (j : Nat) (P : Cx → Prop) : Prop := ∀ X, Sx c B N (relS scope sc) (fun x => scope.names.lookup x == some .cell) j X → P X
theorem r_comp (S : Sx c B N sc fb j X) (hi : EIB X io G Φ tg it iit F F1) (hblk : blkC N sc scope own = true) (how : own.map (·.2) = ow)
    (hg : InBlk c B N sc scope j fun X => EG X io tg t ss F1 F2) (ht : InBlk c B N sc scope j fun X => ETs X io G Φ ifs ic F2 F3) (he : InBlk c B N sc scope j fun X => EE X io G Φ false elt ielt F3 F4)
    (hio : ∀ p ∈ io, p.1 ∉ ow) (hss : ss.all ow.contains = true) (hown : (ow.all fun i => !(fl F1 i)) = true) (h34 : (subL F1 F3 && subL F1 F4) = true) (hs : ∀ x, foldedSetIterable it X.env x = pure x := by intro _; rfl) :
    EE X io G Φ true (.ListComp elt [⟨tg, it, ifs, 0⟩] scope pos) (.comp ielt t iit ic ow) F F1 := by
  subst how
  rw [Bool.and_eq_true] at h34
  refine (pe_lc (g := tgD X io (asgT t) ss (fl F1) (fl F2)) (tt := ttD X io (fun ρ => testE G Φ ρ ic) (fl F2) (fl F3)) (te := teD X io false (fun ρ => evE G Φ ρ ielt) (fl F3) (fl F4)) S.calm (by rw [S.nN]; exact S.nd) hi (blkOk_by (by rw [S.nN, S.sc]; exact hblk)) (fun s H C cl fp => hg _ (S.blk s H scope cl C fp)) (fun s H C cl fp => ht _ (S.blk s H scope cl C fp)) (fun s H C cl fp => he _ (S.blk s H scope cl C fp)) hs).imp fun σ H Q q => ?_
  exact lc_sat hio (fun i hi => by simpa using List.all_eq_true.mp hss i hi) (fun i hi => by simpa using List.all_eq_true.mp hown i hi) h34.1 h34.2 q
end
end Pv

set_option autoImplicit false
set_option linter.all false
set_option maxRecDepth 100000
/-! Pv: statements. -/
namespace Pv
open PySem L2
section
variable {c : Cn} {G : Hp} {io : Io} {W W' : Wd} {H H' : Hp} {σ σ2 : St} {ρ ρ2 : Env} {F F0 : Nat → Bool}
/-- an owned slot's value is taken out -/
theorem EnvOk.take (E : EnvOk c G io W H σ ρ F) {i : Nat} {d : D} (h : ρ[i]? = some (some d)) (hF : F i = true) : ∃ v S, σ[i]? = some (some v) ∧ OwnB c W H true d v S ∧ (∀ a ∈ S, G a = none) ∧ EnvOk c (addG G H S) io W H σ (ρ.set i none) F := by
  obtain ⟨fp, h1, h2, h3, h4⟩ := E.sl
  obtain ⟨v, q1, q2⟩ := h1 i d h
  have q2' := q2
  rw [hF] at q2
  refine ⟨v, fp i, q1, q2, fun a ha => h3 i a ha, E.wh, fun a o e => ?_, by rw [List.length_set]; exact E.len, ⟨fun j => if j = i then [] else fp j, fun j d' e => ?_, fun j k a hj hk => ?_, fun j a hj => ?_, fun j a hj => ?_⟩, E.io⟩
  · unfold addG at e
    by_cases z : a ∈ fp i
    · rw [if_pos z] at e
      exact ⟨e, (q2.at a z).1⟩
    · rw [if_neg z] at e
      exact E.g a o e
  · by_cases z : j = i
    · subst z
      rw [List.getElem?_set] at e
      split at e
      · split at e <;> cases e
      · exact absurd rfl (by assumption)
    · rw [List.getElem?_set_ne (fun q => z q.symm)] at e
      simp only [if_neg z]
      exact h1 j d' e
  · by_cases z : j = i
    · simp only [if_pos z] at hj; cases hj
    · by_cases z2 : k = i
      · simp only [if_pos z2] at hk; cases hk
      · simp only [if_neg z] at hj; simp only [if_neg z2] at hk; exact h2 j k a hj hk
  · by_cases z : j = i
    · simp only [if_pos z] at hj; cases hj
    · simp only [if_neg z] at hj
      have : a ∉ fp i := fun q => z (h2 j i a hj q)
      unfold addG
      rw [if_neg this]
      exact h3 j a hj
  · by_cases z : j = i
    · simp only [if_pos z] at hj; cases hj
    · simp only [if_neg z] at hj
      obtain ⟨d', e⟩ := h4 j a hj
      exact ⟨d', by rw [List.getElem?_set_ne (fun q => z q.symm)]; exact e⟩
/-- .. and put back, changed -/
theorem EnvOk.putBack {b : Bool} {d : D} {v : V} {S : List Addr} {i : Nat} (E : EnvOk c (addG G H S) io W H σ (ρ.set i none) F) (hS : ∀ a ∈ S, G a = none) (x : OwnB c W H b d v S) (hi : i < ρ.length) (hv : σ[i]? = some (some v)) :
    EnvOk c G io W H σ (setV ρ i d) (fun j => if j = i then b else F j) := by
  have E0 : EnvOk c (addG G H S) [] W H σ (ρ.set i none) F := ⟨E.wh, E.g, E.len, E.sl, fun p hp => absurd hp (by simp)⟩
  have E1 := E0.store hS x (by rw [List.length_set]; exact hi) (fun p hp => absurd hp (by simp))
  have e1 : σ.set i (some v) = σ := by
    refine List.ext_getElem? fun k => ?_
    by_cases z : i = k
    · subst z
      rw [hv, List.getElem?_set_self (List.getElem?_eq_some_iff.mp hv).1]
    · rw [List.getElem?_set_ne z]
  have e2 : setV (ρ.set i none) i d = setV ρ i d := by unfold setV; rw [List.set_set]
  rw [e1, e2] at E1
  exact ⟨E1.wh, E1.g, E1.len, E1.sl, E.io⟩
end

/-! ### judgement -/
/-- how a statement ends: flags behind it, at a break, at a continue; whether a returned value is fresh -/
def tsD (X : Cx) (io : Io) (b : Bool) (m : Env → R Fl) (F Fn Fb Fc : Nat → Bool) : TS := fun D σ H =>
  ∃ G W ρ, EnvOk (cOf X) G io W H σ ρ F ∧ (m ρ).Sat fun r => match r with
    | .nx ρ' => ∀ σ' H' W', W.le W' → EnvOk (cOf X) G io W' H' σ' ρ' Fn → D.nx σ' H'
    | .bk ρ' => ∀ σ' H' W', W.le W' → EnvOk (cOf X) G io W' H' σ' ρ' Fb → D.bk σ' H'
    | .ct ρ' => ∀ σ' H' W', W.le W' → EnvOk (cOf X) G io W' H' σ' ρ' Fc → D.ct σ' H'
    | .rt d ρ' => ∀ v σ' H' W' S F', W.le W' → EnvOk (cOf X) (addG G H' S) io W' H' σ' ρ' F' → OwnB (cOf X) W' H' b d v S → (∀ a ∈ S, G a = none) → D.rt v H'
section
variable {c : Cn} {B : Heap} {N : List Str} {sc : Scope} {fb : Str → Bool} {j k : Nat} {X : Cx} {io : Io} {G : Glo} {Φ : Phi} {F F1 F2 F3 F4 F' Fb Fc Fn : List Bool} {e a d tg it elt : Expr} {ie ia id il iit ic : IE} {b br : Bool} {pos p : Pos} {es : List Expr} {n : Nat} {t ts : Tg} {ss rr ow : List Nat}
  {st : Stmt} {sts sts2 : List Stmt} {is is2 : IS}
abbrev ES (X : Cx) (io : Io) (G : Glo) (Φ : Phi) (n : Nat) (b : Bool) (st : Stmt) (is : IS) (F Fn Fb Fc : List Bool) : Prop := PS X st (tsD X io b (fun ρ => exS G Φ n is ρ) (fl F) (fl Fn) (fl Fb) (fl Fc))
abbrev ESs (X : Cx) (io : Io) (G : Glo) (Φ : Phi) (n : Nat) (b : Bool) (sts : List Stmt) (is : IS) (F Fn Fb Fc : List Bool) : Prop := PSs X sts (tsD X io b (fun ρ => exS G Φ n is ρ) (fl F) (fl Fn) (fl Fb) (fl Fc))
theorem _root_.L2.PS.imp {t t' : TS} (h : PS X st t) (i : ∀ D σ H, σ.length = X.N.length → t' D σ H → t D σ H) : PS X st t' := ⟨fun pins s σ H D I q => h.run pins s σ H D I (i D σ H I.len q)⟩
theorem _root_.L2.PSs.imp {t t' : TS} (h : PSs X sts t) (i : ∀ D σ H, σ.length = X.N.length → t' D σ H → t D σ H) : PSs X sts t' := ⟨fun pins s σ H D I q => h.run pins s σ H D I (i D σ H I.len q)⟩
/-- the ends, from a later world -/
def EndD (c : Cn) (G : Hp) (io : Io) (b : Bool) (Fn Fb Fc : Nat → Bool) (D : Ends) (W : Wd) (r : Fl) : Prop := match r with
    | .nx ρ' => ∀ σ' H' W', W.le W' → EnvOk c G io W' H' σ' ρ' Fn → D.nx σ' H'
    | .bk ρ' => ∀ σ' H' W', W.le W' → EnvOk c G io W' H' σ' ρ' Fb → D.bk σ' H'
    | .ct ρ' => ∀ σ' H' W', W.le W' → EnvOk c G io W' H' σ' ρ' Fc → D.ct σ' H'
    | .rt d ρ' => ∀ v σ' H' W' S F', W.le W' → EnvOk c (addG G H' S) io W' H' σ' ρ' F' → OwnB c W' H' b d v S → (∀ a ∈ S, G a = none) → D.rt v H'
theorem EndD.later {c : Cn} {G : Hp} {io : Io} {b : Bool} {Fn Fb Fc : Nat → Bool} {D : Ends} {W W2 : Wd} {r : Fl} (h : EndD c G io b Fn Fb Fc D W r) (l : W.le W2) : EndD c G io b Fn Fb Fc D W2 r := by
  cases r with
  | nx ρ => exact fun σ' H' W' l' => h σ' H' W' (l.trans l')
  | bk ρ => exact fun σ' H' W' l' => h σ' H' W' (l.trans l')
  | ct ρ => exact fun σ' H' W' l' => h σ' H' W' (l.trans l')
  | rt d ρ => exact fun v σ' H' W' S F' l' => h v σ' H' W' S F' (l.trans l')
theorem tsD_mk {io : Io} {b : Bool} {m : Env → R Fl} {F Fn Fb Fc : Nat → Bool} {D : Ends} {σ : St} {H : Hp} : tsD X io b m F Fn Fb Fc D σ H ↔ ∃ G W ρ, EnvOk (cOf X) G io W H σ ρ F ∧ (m ρ).Sat (EndD (cOf X) G io b Fn Fb Fc D W) := Iff.rfl
/-- lower the flags behind a statement -/
theorem s_low (h : ES X io G Φ n br st is F Fn Fb Fc) (hf : subL F' Fn = true) : ES X io G Φ n br st is F F' Fb Fc := h.imp fun D σ H _ ⟨G', W, ρ, E, s⟩ =>
  ⟨G', W, ρ, E, s.mono fun r q => by
    cases r with
    | nx ρ' => exact fun σ' H' W' l E' => let ⟨W2, l2, E2⟩ := E'.lowers (fl_sub hf); q σ' H' W2 (l.trans l2) E2
    | bk ρ' => exact q
    | ct ρ' => exact q
    | rt d ρ' => exact q⟩
theorem ss_low (h : ESs X io G Φ n br sts is F Fn Fb Fc) (hf : subL F' Fn = true) : ESs X io G Φ n br sts is F F' Fb Fc := h.imp fun D σ H _ ⟨G', W, ρ, E, s⟩ =>
  ⟨G', W, ρ, E, s.mono fun r q => by
    cases r with
    | nx ρ' => exact fun σ' H' W' l E' => let ⟨W2, l2, E2⟩ := E'.lowers (fl_sub hf); q σ' H' W2 (l.trans l2) E2
    | bk ρ' => exact q
    | ct ρ' => exact q
    | rt d ρ' => exact q⟩
/-- .. ahead of it -/
theorem ss_pre (h : ESs X io G Φ n br sts is F' Fn Fb Fc) (hf : subL F' F = true) : ESs X io G Φ n br sts is F Fn Fb Fc := h.imp fun D σ H _ ⟨G', W, ρ, E, s⟩ =>
  let ⟨W2, l2, E2⟩ := E.lowers (fl_sub hf)
  ⟨G', W2, ρ, E2, R.Sat.mono (fun r (q : EndD _ _ _ _ _ _ _ _ _ _) => q.later l2) s⟩
theorem s_pre (h : ES X io G Φ n br st is F' Fn Fb Fc) (hf : subL F' F = true) : ES X io G Φ n br st is F Fn Fb Fc := h.imp fun D σ H _ ⟨G', W, ρ, E, s⟩ =>
  let ⟨W2, l2, E2⟩ := E.lowers (fl_sub hf)
  ⟨G', W2, ρ, E2, R.Sat.mono (fun r (q : EndD _ _ _ _ _ _ _ _ _ _) => q.later l2) s⟩
/-! lists of statements -/
theorem ss_nil : ESs X io G Φ n br [] .skip F F Fb Fc := pss_nil.imp fun D σ H _ ⟨G', W, ρ, E, s⟩ => (show ∀ σ' H' W', W.le W' → EnvOk (cOf X) G' io W' H' σ' ρ (fl F) → D.nx σ' H' from s) σ H W (.refl W) E
theorem ss_one (h : ES X io G Φ n br st is F Fn Fb Fc) : ESs X io G Φ n br [st] is F Fn Fb Fc := pss_one h
theorem ss_cons (h1 : ES X io G Φ n br st is F F1 Fb Fc) (h2 : ESs X io G Φ n br sts is2 F1 Fn Fb Fc) : ESs X io G Φ n br (st :: sts) (.seq is is2) F Fn Fb Fc :=
  (pss_cons h1 h2).imp fun D σ H _ ⟨G', W, ρ, E, s⟩ => ⟨G', W, ρ, E, (R.Sat.bind.mp (show ((exS G Φ n is ρ).bind fun f => match f with | .nx ρ => exS G Φ n is2 ρ | f => .ok f).Sat _ from s)).mono fun r q => by
    cases r with
    | nx ρ1 => exact fun σ' H' W' l E' => ⟨G', W', ρ1, E', R.Sat.mono (fun r (q : EndD _ _ _ _ _ _ _ _ _ _) => q.later l) (show (exS G Φ n is2 ρ1).Sat _ from q)⟩
    | bk ρ' => exact q
    | ct ρ' => exact q
    | rt d ρ' => exact q⟩
/-- a statement without sense (pass, a text) -/
theorem ss_skip (h : PS X st tNext) (h2 : ESs X io G Φ n br sts is2 F Fn Fb Fc) : ESs X io G Φ n br (st :: sts) is2 F Fn Fb Fc := (pss_cons h h2).imp fun D σ H _ q => q
/-! if -/
theorem s_if (hc : ET X io G Φ e ie F F1) (ha : ESs X io G Φ n br sts is F1 Fn Fb Fc) (hb : ESs X io G Φ n br sts2 is2 F1 Fn Fb Fc) : ES X io G Φ n br (.If e sts sts2 pos) (.iff ie is is2) F Fn Fb Fc :=
  (ps_if hc ha hb).imp fun D σ H _ ⟨G', W, ρ, E, s⟩ => ⟨G', W, ρ, E, (R.Sat.bind.mp (show ((testE G Φ ρ ie).bind fun c => if c then exS G Φ n is ρ else exS G Φ n is2 ρ).Sat _ from s)).mono fun k hk H1 W1 l1 E1 => by
    cases k with
    | true => exact ⟨G', W1, ρ, E1, R.Sat.mono (fun r (q : EndD _ _ _ _ _ _ _ _ _ _) => q.later l1) (show (exS G Φ n is ρ).Sat _ from hk)⟩
    | false => exact ⟨G', W1, ρ, E1, R.Sat.mono (fun r (q : EndD _ _ _ _ _ _ _ _ _ _) => q.later l1) (show (exS G Φ n is2 ρ).Sat _ from hk)⟩⟩
/-! return -/
theorem s_ret (h : EE X io G Φ br e ie F F1) : ES X io G Φ n br (.Return (some e) pos) (.ret (.e ie)) F Fn Fb Fc :=
  (ps_ret h).imp fun D σ H _ ⟨G', W, ρ, E, s⟩ => ⟨G', W, ρ, E, (R.Sat.bind.mp (R.Sat.bind.mp (show (((evE G Φ ρ ie).bind fun d => R.ok (d, ρ)).bind fun r => .ok (Fl.rt r.1 r.2)).Sat _ from s))).mono fun d q v H' W' S l E' x n => q v σ H' W' S _ l E' x n⟩
theorem s_retN : ES X io G Φ n br (.Return none pos) (.ret (.e .non)) F Fn Fb Fc :=
  ps_retN.imp fun D σ H _ ⟨G', W, ρ, E, s⟩ => (show ∀ v σ' H' W' S F', W.le W' → _ from s) .non σ H W [] _ (.refl W) (by rw [addG_nil]; exact E) (by
    cases br
    · exact ⟨by simp only [Rep], rfl⟩
    · exact ⟨by simp only [Rep], rfl⟩) (by simp)
/-- an owned local is given away -/
theorem s_retMv {i : Nat} {x : Str} {xp : Pos} (S : Sx c B N sc fb j X) (hN : N[i]? = some x) (hv : visC sc x = true) (hd : ((x == ("__debug__" : Str)) || (x == ("__classdict__" : Str))) = false) (hF : fl F i = true) : ES X io G Φ n true (.Return (some (.Name x xp)) pos) (.ret (.mv i)) F Fn Fb Fc := by
  rw [Bool.or_eq_false_iff] at hd
  refine (ps_ret (pe_var (i := i) (by rw [S.nN]; exact hN) (S.vis hv) hd.1 hd.2)).imp fun D σ H _ ⟨G', W, ρ, E, s⟩ => ?_
  obtain ⟨d, hi, s⟩ := getV_of (R.Sat.bind.mp (R.Sat.bind.mp (show (((getV ρ i).bind fun d => R.ok (d, ρ.set i none)).bind fun r => .ok (Fl.rt r.1 r.2)).Sat _ from s)))
  obtain ⟨v, S', h1, x, n, E1⟩ := E.take hi hF
  exact ⟨v, h1, (show ∀ v σ' H' W' S F', W.le W' → EnvOk (cOf X) (addG G' H' S) io W' H' σ' (ρ.set i none) F' → OwnB (cOf X) W' H' true d v S → (∀ a ∈ S, G' a = none) → D.rt v H' from s) v σ H W S' _ (.refl W) E1 x n⟩
/-! assignment -/
theorem s_set {i : Nat} {x : Str} {xp : Pos} (S : Sx c B N sc fb j X) (h : EE X io G Φ b e ie F F1) (hN : N[i]? = some x) (hx : locC sc x = true) (hf : (fb x || decide (sc.names.lookup x = some .local)) = true) (hio : ∀ p ∈ io, p.1 ≠ i) (hF : decide (i < F1.length) = true)
    (hs : swapsWith e (some (.Name x xp)) pos.line X.env = pure false := by rfl) : ES X io G Φ n br (.Assign [.Name x xp] e pos) (.asg (.var i) (.e ie)) F (F1.set i b) Fb Fc := by
  refine (ps_set (by rw [S.nN]; exact S.nd) (by rw [S.nN]; exact hN) (S.loc hx) h hs ?_).imp fun D σ H hl ⟨G', W, ρ, E, s⟩ => ?_
  · rw [Bool.or_eq_true, decide_eq_true_eq] at hf
    rcases hf with h | h
    · exact .inl (S.fn x h)
    · exact .inr (by rw [S.sc]; exact h)
  · have hi : i < ρ.length := by
      rw [E.len, hl, S.nN]
      exact (List.getElem?_eq_some_iff.mp hN).1
    refine ⟨G', W, ρ, E, (R.Sat.bind.mp (R.Sat.bind.mp (show (((evE G Φ ρ ie).bind fun d => R.ok (d, ρ)).bind fun r => (asgT (.var i) r.1 r.2).bind fun ρ => R.ok (Fl.nx ρ)).Sat _ from s))).mono fun d q v H' W' S' l E' x n => ?_⟩
    have q : ∀ σ' H' W', W.le W' → EnvOk (cOf X) G' io W' H' σ' (setV ρ i d) (fl (F1.set i b)) → D.nx σ' H' := q
    refine q _ H' W' l ?_
    rw [← fl_put (of_decide_eq_true hF)]
    exact E'.store n x hi hio
end
end Pv

set_option autoImplicit false
set_option linter.all false
set_option maxRecDepth 100000
/-! Pv: loops, lists and dicts that change. -/
namespace Pv
open PySem L2
section
variable {c : Cn} {B : Heap} {N : List Str} {sc : Scope} {fb : Str → Bool} {j k : Nat} {X : Cx} {io : Io} {G : Glo} {Φ : Phi} {F F1 F2 F3 F4 F' Fb Fc Fn : List Bool} {e a d tg it elt : Expr} {ie ia id il iit ic : IE} {b br : Bool} {pos p apos cpos xp : Pos} {es : List Expr} {n : Nat} {t ts : Tg} {ss rr ow : List Nat}
  {st : Stmt} {sts sts2 : List Stmt} {is is2 : IS} {i : Nat} {x : Str}
theorem s_brk : ES X io G Φ n br (.Break pos) .brk F Fn F Fc := ps_break.imp fun D σ H _ ⟨G', W, ρ, E, s⟩ => (show ∀ σ' H' W', W.le W' → EnvOk (cOf X) G' io W' H' σ' ρ (fl F) → D.bk σ' H' from s) σ H W (.refl W) E
theorem s_cont : ES X io G Φ n br (.Continue pos) .cont F Fn Fb F := ps_continue.imp fun D σ H _ ⟨G', W, ρ, E, s⟩ => (show ∀ σ' H' W', W.le W' → EnvOk (cOf X) G' io W' H' σ' ρ (fl F) → D.ct σ' H' from s) σ H W (.refl W) E
theorem s_raise {cl : Str} : ES X io G Φ n br st (.raise cl ie) F Fn Fb Fc := ps_never.imp fun D σ H _ ⟨G', W, ρ, E, s⟩ => R.Sat.no (R.Sat.mono (fun _ h => h) (R.Sat.bind.mp (show ((evE G Φ ρ ie).bind fun d => R.exc cl d).Sat _ from s)))
theorem s_raise0 {cl : Str} : ES X io G Φ n br st (.raise0 cl) F Fn Fb Fc := ps_never.imp fun D σ H _ ⟨G', W, ρ, E, s⟩ => s
theorem s_expr (h : EE X io G Φ b e ie F F1) (hs : swapsWith e none pos.line X.env = pure false := by rfl) : ES X io G Φ n br (.Expr e pos) (.expr (.e ie)) F F1 Fb Fc :=
  (ps_expr h.any hs).imp fun D σ H _ ⟨G', W, ρ, E, s⟩ => ⟨G', W, ρ, E, (R.Sat.bind.mp (R.Sat.bind.mp (show (((evE G Φ ρ ie).bind fun d => R.ok (d, ρ)).bind fun r => R.ok (Fl.nx r.2)).Sat _ from s))).mono fun d q v H' W' S l E' x _ => by
    obtain ⟨_, rfl⟩ := x
    rw [addG_nil] at E'
    exact (show ∀ σ' H' W', W.le W' → EnvOk (cOf X) G' io W' H' σ' ρ (fl F1) → D.nx σ' H' from q) σ H' W' l E'⟩
/-! for, while -/
theorem s_for (S : Sx c B N sc fb j X) (hi : EI X io G Φ tg it iit F F1) (hg : EG X io tg t ss F1 F2) (hb : ESs X io G Φ n br sts is F2 F1 F1 F1) (hs : ∀ x, foldedSetIterable it X.env x = pure x := by intro _; rfl) :
    ES X io G Φ n br (.For tg it sts [] pos) (.forr t (.e iit) is) F F1 Fb Fc := by
  refine (ps_for S.hp S.calm hi hg hb hs).imp fun D σ H _ ⟨G', W, ρ, E, s⟩ => ?_
  have s : ((evI G Φ ρ iit).bind fun l => forL t (exS G Φ n is) l ρ).Sat (EndD (cOf X) G' io br (fl F1) (fl Fb) (fl Fc) D W) := s
  refine ⟨G', W, ρ, E, (R.Sat.bind.mp s).mono fun l hl J H1 W1 l1 E1 wd => ?_⟩
  refine for_it wd.2 (fun i σ H => ∃ W2 ρ, W1.le W2 ∧ EnvOk (cOf X) G' io W2 H σ ρ (fl F1) ∧ (forL t (exS G Φ n is) (l.drop i) ρ).Sat (EndD (cOf X) G' io br (fl F1) (fl Fb) (fl Fc) D W)) ⟨W1, ρ, .refl W1, E1, hl⟩ ?_ ?_ ?_
  · rintro i σ H _ ⟨W2, ρ, l2, E2, _⟩
    exact ⟨W2, l2, E2.wh⟩
  · rintro i x σ H H' hi ⟨W2, ρ, l2, E2, hs⟩ y
    obtain ⟨W3, d, g3, hd, rd⟩ := y W2 l2 E2.wh
    have E3 := E2.grow g3
    have e1 : l.drop i = d :: l.drop (i + 1) := by
      obtain ⟨hlt, he⟩ := (List.getElem?_eq_some_iff.mp hd)
      rw [List.drop_eq_getElem_cons hlt, he]
    rw [e1] at hs
    have hs : ((asgT t d ρ).bind fun ρ => (exS G Φ n is ρ).bind fun r => match r with
      | .nx ρ => forL t (exS G Φ n is) (l.drop (i + 1)) ρ
      | .ct ρ => forL t (exS G Φ n is) (l.drop (i + 1)) ρ
      | .bk ρ => R.ok (Fl.nx ρ)
      | .rt d ρ => R.ok (Fl.rt d ρ)).Sat (EndD (cOf X) G' io br (fl F1) (fl Fb) (fl Fc) D W) := hs
    refine ⟨G', W3, ρ, d, E3, rd, (R.Sat.bind.mp hs).mono fun ρ2 q2 σ2 E4 _ _ => ⟨G', W3, ρ2, E4, (R.Sat.bind.mp q2).mono fun r q => ?_⟩⟩
    have lw := l2.trans g3.le
    cases r with
    | nx ρ' => exact fun σ' H' W' l' E' => ⟨W', ρ', lw.trans l', E', q⟩
    | ct ρ' => exact fun σ' H' W' l' E' => ⟨W', ρ', lw.trans l', E', q⟩
    | bk ρ' => exact fun σ' H' W' l' E' => (show ∀ σ' H' W', W.le W' → EnvOk (cOf X) G' io W' H' σ' ρ' (fl F1) → D.nx σ' H' from q) σ' H' W' (l1.trans (lw.trans l')) E'
    | rt d ρ' => exact fun v σ' H' W' S F' l' => (show ∀ v σ' H' W' S F', W.le W' → _ from q) v σ' H' W' S F' (l1.trans (lw.trans l'))
  · rintro σ H ⟨W2, ρ, l2, E2, hs⟩
    rw [List.drop_length] at hs
    exact (show ∀ σ' H' W', W.le W' → EnvOk (cOf X) G' io W' H' σ' ρ (fl F1) → D.nx σ' H' from hs) σ H W2 (l1.trans l2) E2
theorem s_while (S : Sx c B N sc fb j X) (hc : ET X io G Φ e ie F F1) (hb : ESs X io G Φ n br sts is F1 F F1 F) : ES X io G Φ n br (.While e sts [] pos) (.whil ie is) F F1 Fb Fc := by
  refine (ps_while S.hp hc hb).imp fun D σ H _ ⟨G', W, ρ, E, s⟩ => ?_
  have s : (whileN (fun ρ => testE G Φ ρ ie) (exS G Φ n is) n ρ).Sat (EndD (cOf X) G' io br (fl F1) (fl Fb) (fl Fc) D W) := s
  refine ⟨fun m σ H => ∃ W2 ρ, W.le W2 ∧ EnvOk (cOf X) G' io W2 H σ ρ (fl F) ∧ (whileN (fun ρ => testE G Φ ρ ie) (exS G Φ n is) m ρ).Sat (EndD (cOf X) G' io br (fl F1) (fl Fb) (fl Fc) D W), ⟨n, W, ρ, .refl W, E, s⟩, ?_⟩
  rintro m σ H ⟨W2, ρ, l2, E2, hs⟩
  cases m with
  | zero => exact hs.elim
  | succ m =>
    have hs : ((testE G Φ ρ ie).bind fun b => if b then (exS G Φ n is ρ).bind fun r => match r with
      | .nx ρ => whileN (fun ρ => testE G Φ ρ ie) (exS G Φ n is) m ρ
      | .ct ρ => whileN (fun ρ => testE G Φ ρ ie) (exS G Φ n is) m ρ
      | .bk ρ => R.ok (Fl.nx ρ)
      | .rt d ρ => R.ok (Fl.rt d ρ)
      else R.ok (Fl.nx ρ)).Sat (EndD (cOf X) G' io br (fl F1) (fl Fb) (fl Fc) D W) := hs
    refine ⟨G', W2, ρ, E2, (R.Sat.bind.mp hs).mono fun kk hk H1 W1 l1 E1 => ?_⟩
    cases kk with
    | false =>
      simp only [Bool.false_eq_true, if_false]
      exact (show ∀ σ' H' W', W.le W' → EnvOk (cOf X) G' io W' H' σ' ρ (fl F1) → D.nx σ' H' from hk) σ H1 W1 (l2.trans l1) E1
    | true =>
      simp only [if_true]
      have hk := R.Sat.bind.mp (show ((exS G Φ n is ρ).bind fun r => match r with
        | .nx ρ => whileN (fun ρ => testE G Φ ρ ie) (exS G Φ n is) m ρ
        | .ct ρ => whileN (fun ρ => testE G Φ ρ ie) (exS G Φ n is) m ρ
        | .bk ρ => R.ok (Fl.nx ρ)
        | .rt d ρ => R.ok (Fl.rt d ρ)).Sat _ from hk)
      refine ⟨fun σ' H' => ∃ W3 ρ', W.le W3 ∧ EnvOk (cOf X) G' io W3 H' σ' ρ' (fl F) ∧ (whileN (fun ρ => testE G Φ ρ ie) (exS G Φ n is) m ρ').Sat (EndD (cOf X) G' io br (fl F1) (fl Fb) (fl Fc) D W), fun σ' H' h => ⟨m, Nat.lt_succ_self m, h⟩, G', W1, ρ, E1, hk.mono fun r q => ?_⟩
      have lw := l2.trans l1
      cases r with
      | nx ρ' => exact fun σ' H' W' l' E' => ⟨W', ρ', lw.trans l', E', q⟩
      | ct ρ' => exact fun σ' H' W' l' E' => ⟨W', ρ', lw.trans l', E', q⟩
      | bk ρ' => exact fun σ' H' W' l' E' => (show ∀ σ' H' W', W.le W' → EnvOk (cOf X) G' io W' H' σ' ρ' (fl F1) → D.nx σ' H' from q) σ' H' W' (lw.trans l') E'
      | rt d ρ' => exact fun v σ' H' W' S F' l' => (show ∀ v σ' H' W' S F', W.le W' → _ from q) v σ' H' W' S F' (lw.trans l')
/-! a list comprehension, set to a name -/
theorem s_setLc {ifs : List Expr} {scope : Scope} {own : List (Str × Nat)} {ielt : IE} {lpos : Pos} (S : Sx c B N sc fb j X) (hi : EIB X io G Φ tg it iit F F1) (hblk : blkC N sc scope own = true) (how : own.map (·.2) = ow)
    (hg : InBlk c B N sc scope j fun X => EG X io tg t ss F1 F2) (ht : InBlk c B N sc scope j fun X => ETs X io G Φ ifs ic F2 F3) (he : InBlk c B N sc scope j fun X => EE X io G Φ false elt ielt F3 F4)
    (hio : ∀ p ∈ io, p.1 ∉ ow) (hss : ss.all ow.contains = true) (hown : (ow.all fun i => !(fl F1 i)) = true) (h34 : (subL F1 F3 && subL F1 F4) = true)
    (hN : N[i]? = some x) (hx : sc.names.lookup x = some .local) (hio2 : ∀ p ∈ io, p.1 ≠ i) (hF : decide (i < F1.length) = true) (hl : (xp.line == lpos.line) = true) (hk : sc.kind = .function) (hna : (scope.names.any fun (n, k) => n == x && (k == .local || k == .cell)) = false) (hs : ∀ x, foldedSetIterable it X.env x = pure x := by intro _; rfl) :
    ES X io G Φ n br (.Assign [.Name x xp] (.ListComp elt [⟨tg, it, ifs, 0⟩] scope lpos) pos) (.asg (.var i) (.e (.comp ielt t iit ic ow))) F (F1.set i true) Fb Fc := by
  subst how
  rw [Bool.and_eq_true] at h34
  have hloc : X.env.scope.names.lookup x = some .local := by rw [S.sc]; exact hx
  have hsw : swapsWith (.ListComp elt [⟨tg, it, ifs, 0⟩] scope lpos) (some (.Name x xp)) pos.line X.env = pure true := sw_true (by rw [S.sc]; exact hk) hloc hl hna
  refine (ps_setLc (g := tgD X io (asgT t) ss (fl F1) (fl F2)) (tt := ttD X io (fun ρ => testE G Φ ρ ic) (fl F2) (fl F3)) (te := teD X io false (fun ρ => evE G Φ ρ ielt) (fl F3) (fl F4)) S.calm (by rw [S.nN]; exact S.nd) (by rw [S.nN]; exact hN) hloc hsw hi (blkOk_by (by rw [S.nN, S.sc]; exact hblk)) (fun s H C cl fp => hg _ (S.blk s H scope cl C fp)) (fun s H C cl fp => ht _ (S.blk s H scope cl C fp)) (fun s H C cl fp => he _ (S.blk s H scope cl C fp)) hs).imp fun D σ H hl ⟨G', W, ρ, E, s⟩ => ?_
  have hi : i < ρ.length := by
    rw [E.len, hl, S.nN]
    exact (List.getElem?_eq_some_iff.mp hN).1
  refine lc_sat (F := F) hio (fun i hi => by simpa using List.all_eq_true.mp hss i hi) (fun i hi => by simpa using List.all_eq_true.mp hown i hi) h34.1 h34.2 ⟨G', W, ρ, E, ?_⟩
  refine (R.Sat.bind.mp (R.Sat.bind.mp (show (((evE G Φ ρ (.comp ielt t iit ic (own.map (·.2)))).bind fun d => R.ok (d, ρ)).bind fun r => (asgT (.var i) r.1 r.2).bind fun ρ => R.ok (Fl.nx ρ)).Sat _ from s))).mono fun d q v H' W' S' l E' x n => ?_
  have q : ∀ σ' H' W', W.le W' → EnvOk (cOf X) G' io W' H' σ' (setV ρ i d) (fl (F1.set i true)) → D.nx σ' H' := q
  refine q _ H' W' l ?_
  rw [← fl_put (of_decide_eq_true hF)]
  exact E'.store n x hi hio2
/-! xs.append(e) -/
theorem s_append (S : Sx c B N sc fb j X) (hN : N[i]? = some x) (hv : visC sc x = true) (hd : ((x == ("__debug__" : Str)) || (x == ("__classdict__" : Str))) = false) (he : EE X io G Φ b e ie F F1) (hF : fl F1 i = true) (hFl : decide (i < F1.length) = true)
    (hfew : ((backTo cpos (starEach [e] X.env)).all (fun x => !x.1) && (backToKw cpos (keywordEach [] X.env)).all (fun x => x.1.isSome) && decide (([e] : List Expr).length + ([] : List Keyword).length + (if ([] : List Keyword).isEmpty then 0 else 1) < 30)) = true := by rfl)
    (hline : (apos.endLine == cpos.line) = true := by rfl) (hse : starEach [e] X.env = (false, eval e X.env) :: starEach [] X.env := by rfl) (hpl : (backTo cpos (starEach [] X.env)).any (·.1) = false := by rfl)
    (hs : swapsWith (.Call (.Attribute (.Name x xp) "append" apos) [e] [] cpos) none pos.line X.env = pure false := by rfl) :
    ES X io G Φ n br (.Expr (.Call (.Attribute (.Name x xp) "append" apos) [e] [] cpos) pos) (.mt .append i (.e ie)) F F1 Fb Fc := by
  rw [Bool.or_eq_false_iff] at hd
  refine (ps_expr (pe_bm PySem.F.plainAttrs_list PySem.F.slot_list_append PySem.F.type_list_append mt_append (pe_var (i := i) (by rw [S.nN]; exact hN) (S.vis hv) hd.1 hd.2) (pa_cons he.any pa_nil hse) (by rfl) hfew hline hse hpl) hs).imp fun D σ H _ ⟨G', W, ρ, E, s⟩ => ?_
  have s := (R.Sat.bind.mp (R.Sat.bind.mp (show (((evE G Φ ρ ie).bind fun d => R.ok (d, ρ)).bind fun r => (getV r.2 i).bind fun d => (mtD .append d r.1).bind fun d => R.ok (Fl.nx (setV r.2 i d))).Sat _ from s)))
  by_cases hl : ∃ l, ρ[i]? = some (some (.lst l))
  · obtain ⟨l, hi⟩ := hl
    obtain ⟨v, h1, h2⟩ := E.get hi
    obtain ⟨q, vs, rfl, h3, h4⟩ := h2
    refine ⟨.ref q, h1, .inl ⟨rfl, vs, .inl h3⟩, G', W, ρ, E, R.Sat.mono (fun d0 q0 xv H1 W1 S' l1 E1 xx nn => ?_) s⟩
    obtain ⟨rx, rfl⟩ := xx
    rw [addG_nil] at E1
    have q0 : ((getV ρ i).bind fun d => (mtD .append d d0).bind fun d => R.ok (Fl.nx (setV ρ i d))).Sat _ := q0
    have eg : getV ρ i = .ok (.lst l) := by unfold getV; rw [hi]
    rw [eg] at q0
    have q0 : ((if l.length < big then R.ok (Pv.D.lst (l ++ [d0])) else .bad).bind fun d => R.ok (Fl.nx (setV ρ i d))).Sat _ := q0
    obtain ⟨hz, q0⟩ := sat_ifp (R.Sat.bind.mp q0)
    obtain ⟨v', S', k1, k2, k3, E2⟩ := E1.take hi hF
    rw [h1] at k1; cases k1
    obtain ⟨a', o, e1, no, ho, ⟨vs', rfl, rv⟩, rfl⟩ := k2
    cases e1
    refine ⟨q, vs', xv, rfl, rfl, ho, by rw [← rv.length]; rw [big_eq] at hz; exact hz, ?_⟩
    have E3 := E2.putOwn (o := .lst (vs' ++ [xv])) (by simp) no ho
    have E4 := E3.putBack (b := true) (d := .lst (l ++ [d0])) (v := .ref q) k3 ⟨q, _, rfl, no, upd_same, ⟨_, rfl, rv.append (.cons rx .nil)⟩, rfl⟩ (List.getElem?_eq_some_iff.mp hi).1 h1
    rw [fl_put (of_decide_eq_true hFl), show F1.set i true = F1 by
      refine List.ext_getElem? fun m => ?_
      rw [List.getElem?_set]
      split
      · rename_i e; subst e
        have hlt := of_decide_eq_true hFl
        simp only [hlt, if_true]
        unfold fl at hF
        rw [List.getD_eq_getElem?_getD, List.getElem?_eq_getElem hlt] at hF
        rw [List.getElem?_eq_getElem hlt]
        simpa using hF.symm
      · rfl] at E4
    exact (show ∀ σ' H' W', W.le W' → EnvOk (cOf X) G' io W' H' σ' (setV ρ i (.lst (l ++ [d0]))) (fl F1) → D.nx σ' H' from q0) σ _ W1 l1 E4
  · refine (R.Sat.no (s.mono fun d0 q0 => ?_)).elim
    have q0 := R.Sat.bind.mp (show ((getV ρ i).bind fun d => (mtD .append d d0).bind fun d => R.ok (Fl.nx (setV ρ i d))).Sat _ from q0)
    obtain ⟨d, hi, q0⟩ := getV_of q0
    cases d with
    | lst l => exact hl ⟨l, hi⟩
    | _ => exact (R.Sat.bind.mp q0)
end
end Pv

set_option autoImplicit false
set_option linter.all false
set_option maxRecDepth 100000
/-! Pv: nested defs: made, handed to a call, their bodies. -/
namespace Pv
open PySem L2
/-- the captured data -/
def capD (ρ : Env) (i : Nat) : Option D := match ρ[i]? with | some (some d) => some d | _ => none
def capsD (ρ : Env) (js : List Nat) : Option (List D) := js.mapM (capD ρ)
/-- an argument: data, or the closure made here -/
def RepC (c : Cn) (W : Wd) (g : Str) (fa : Addr) (cs : Option (List D)) (d : D) (v : V) : Prop := Rep c W d v ∨ ∃ l, cs = some l ∧ d = .clo g l ∧ v = .ref fa
def RepCL (c : Cn) (W : Wd) (g : Str) (fa : Addr) (cs : Option (List D)) : List D → List V → Prop
  | [], vs => vs = []
  | d :: ds, vs => ∃ v r, vs = v :: r ∧ RepC c W g fa cs d v ∧ RepCL c W g fa cs ds r
section
variable {c : Cn} {W W' : Wd} {g : Str} {fa : Addr} {cs : Option (List D)}
theorem RepCL.mono (l : W.le W') : ∀ {ds : List D} {vs : List V}, RepCL c W g fa cs ds vs → RepCL c W' g fa cs ds vs
  | [], _, h => h
  | _ :: _, _, ⟨v, r, e, h1, h2⟩ => ⟨v, r, e, h1.imp (fun q => q.mono _ l) id, RepCL.mono l h2⟩
theorem RepCL.length : ∀ {ds : List D} {vs : List V}, RepCL c W g fa cs ds vs → ds.length = vs.length
  | [], _, h => by rw [(show _ = [] from h)]; rfl
  | _ :: _, _, ⟨v, r, e, h1, h2⟩ => by rw [e]; simp [RepCL.length h2]
theorem RepCL.all (l : W.le W') (hc : ∀ l, cs = some l → Rep c W' (.clo g l) (.ref fa)) : ∀ {ds : List D} {vs : List V}, RepCL c W g fa cs ds vs → RepL c W' ds vs
  | [], _, h => by rw [(show _ = [] from h)]; exact .nil
  | d :: ds, _, ⟨v, r, e, h1, h2⟩ => by
    rw [e]
    refine .cons ?_ (RepCL.all l hc h2)
    rcases h1 with h1 | ⟨x, e1, e2, e3⟩
    · exact h1.mono _ l
    · rw [e2, e3]; exact hc x e1
end
def tcD (X : Cx) (io : Io) (g : Str) (fa : Addr) (js : List Nat) (m : Env → R (List D)) (F F' : Nat → Bool) : TA := fun σ H Q =>
  ∃ G W ρ, EnvOk (cOf X) G io W H σ ρ F ∧ (m ρ).Sat fun ds => ∀ vs H' W', W.le W' → EnvOk (cOf X) G io W' H' σ ρ F' → RepCL (cOf X) W' g fa (capsD ρ js) ds vs → Q vs H'
/-- the maker's surroundings -/
structure Mkr (c : Cn) (B : Heap) (qual : Str) (P : Addr) (X : Cx) : Prop where
  ql : X.env.qual = qual
  cd : ∃ cc, X.env.code = .ref cc ∧ LamX.TabB B c.mg cc P
section
variable {c : Cn} {B : Heap} {N : List Str} {sc : Scope} {fb : Str → Bool} {j k : Nat} {X : Cx} {io : Io} {G : Glo} {Φ : Phi} {F F1 F2 F' Fn Fb Fc : List Bool} {e a d : Expr} {ie ia id il : IE} {b br : Bool} {pos p : Pos} {es : List Expr} {f g x qual : Str} {n i : Nat} {fa cc : Addr} {js : List Nat} {nn : NSt} {cl : List (Str × Addr)} {P : Addr}
  {st : Stmt} {sts : List Stmt} {is : IS}
abbrev EC (X : Cx) (io : Io) (G : Glo) (Φ : Phi) (g : Str) (fa : Addr) (js : List Nat) (es : List Expr) (ie : IE) (F F' : List Bool) : Prop := PA X es (tcD X io g fa js (fun ρ => evL G Φ ρ ie) (fl F) (fl F'))
theorem c_nil : EC X io G Φ g fa js [] .enil F F := pa_nil.imp fun σ H Q ⟨G', W, ρ, E, s⟩ => (show ∀ vs H' W', W.le W' → EnvOk (cOf X) G' io W' H' σ ρ (fl F) → RepCL (cOf X) W' g fa (capsD ρ js) [] vs → Q vs H' from s) [] H W (.refl W) E rfl
theorem c_cons (ha : EE X io G Φ false a ia F F1) (hr : EC X io G Φ g fa js es il F1 F') (hs : starEach (a :: es) X.env = (false, eval a X.env) :: starEach es X.env := by rfl) : EC X io G Φ g fa js (a :: es) (.econs ia il) F F' :=
  (pa_cons ha hr hs).imp fun σ H Q ⟨G', W, ρ, E, s⟩ => ⟨G', W, ρ, E, (R.Sat.bind.mp (show ((evE G Φ ρ ia).bind fun x => (evL G Φ ρ il).bind fun xs => .ok (x :: xs)).Sat _ from s)).mono fun d hd v H1 W1 S l1 E1 x n => by
    obtain ⟨r, rfl⟩ := x
    rw [addG_nil] at E1
    exact ⟨G', W1, ρ, E1, (R.Sat.bind.mp hd).mono fun ds f vs H' W' l' E' r' => (show ∀ vs H' W', W.le W' → EnvOk (cOf X) G' io W' H' σ ρ (fl F') → RepCL (cOf X) W' g fa (capsD ρ js) (d :: ds) vs → Q vs H' from f) _ H' W' (l1.trans l') E' ⟨v, vs, rfl, .inl (r.mono _ l'), r'⟩⟩⟩
/-- the closure itself: a name -/
theorem c_clo {fs : List (Addr × HO)} (S : Sx c B N sc fb j X) (hio : (i, .ref fa, fs) ∈ io) (hN : N[i]? = some x) (hv : visC sc x = true) (hd : ((x == ("__debug__" : Str)) || (x == ("__classdict__" : Str))) = false) (hr : EC X io G Φ g fa js es il F F')
    (hs : starEach (.Name x p :: es) X.env = (false, eval (.Name x p) X.env) :: starEach es X.env := by rfl) : EC X io G Φ g fa js (.Name x p :: es) (.econs (.clo g js) il) F F' := by
  rw [Bool.or_eq_false_iff] at hd
  refine (pa_cons (pe_var (X := X) (pos := p) (by rw [S.nN]; exact hN) (S.vis hv) hd.1 hd.2) hr hs).imp fun σ H Q ⟨G', W, ρ, E, s⟩ => ?_
  have s : ((evE G Φ ρ (.clo g js)).bind fun x => (evL G Φ ρ il).bind fun xs => .ok (x :: xs)).Sat (fun ds => ∀ vs H' W', W.le W' → EnvOk (cOf X) G' io W' H' σ ρ (fl F') → RepCL (cOf X) W' g fa (capsD ρ js) ds vs → Q vs H') := s
  have e : evE G Φ ρ (.clo g js) = match capsD ρ js with | some ds => .ok (.clo g ds) | none => .bad := rfl
  rw [e] at s
  cases hc : capsD ρ js with
  | none => rw [hc] at s; exact s.elim
  | some l =>
    rw [hc] at s
    refine ⟨.ref fa, (E.io _ hio).1, G', W, ρ, E, (R.Sat.bind.mp (show ((evL G Φ ρ il).bind fun xs => R.ok (D.clo g l :: xs)).Sat _ from s)).mono fun ds f vs H' W' l' E' r' => ?_⟩
    rw [hc] at r'
    exact (show ∀ vs H' W', W.le W' → EnvOk (cOf X) G' io W' H' σ ρ (fl F') → RepCL (cOf X) W' g fa (some l) (D.clo g l :: ds) vs → Q vs H' from f) _ H' W' l' E' ⟨.ref fa, vs, rfl, .inr ⟨l, rfl, rfl, rfl⟩, r'⟩
theorem mapM_get {α β : Type} {f : α → Option β} : ∀ {l : List α} {r : List β}, l.mapM f = some r → r.length = l.length ∧ ∀ (i : Nat) a, l[i]? = some a → ∃ y, f a = some y ∧ r[i]? = some y
  | [], r, h => by
    simp at h
    subst h
    exact ⟨rfl, fun i a e => by simp at e⟩
  | a :: l, r, h => by
    rw [List.mapM_cons] at h
    cases e1 : f a with
    | none => rw [e1] at h; simp at h
    | some y =>
      cases e2 : l.mapM f with
      | none => rw [e1, e2] at h; simp at h
      | some ys =>
        rw [e1, e2] at h
        have h : some (y :: ys) = some r := h
        cases h
        obtain ⟨h1, h2⟩ := mapM_get e2
        refine ⟨by simp [h1], fun i x e => ?_⟩
        cases i with
        | zero => simp at e; subst e; exact ⟨y, e1, rfl⟩
        | succ i => simpa using h2 i x (by simpa using e)
/-- frozen captured slots -/
theorem caps_rep {G' : Hp} {W : Wd} {H : Hp} {σ : St} {ρ : Env} (E : EnvOk c G' io W H σ ρ (fl F)) (hF : ∀ i ∈ js, fl F i = false) : ∀ {l : List D}, capsD ρ js = some l → ∃ ws : List V, js.map (NdefX.slotAt σ) = ws.map some ∧ RepL c W l ws := by
  unfold capsD
  induction js with
  | nil =>
    intro l h
    simp at h
    subst h
    exact ⟨[], rfl, .nil⟩
  | cons i js ih =>
    intro l h
    rw [List.mapM_cons] at h
    cases e1 : capD ρ i with
    | none => rw [e1] at h; simp at h
    | some y =>
      cases e2 : js.mapM (capD ρ) with
      | none => rw [e1, e2] at h; simp at h
      | some ys =>
        rw [e1, e2] at h
        have h : some (y :: ys) = some l := h
        cases h
        obtain ⟨ws, h1, h2⟩ := ih (fun i hi => hF i (List.mem_cons_of_mem _ hi)) e2
        have e3 : ρ[i]? = some (some y) := by
          unfold capD at e1
          split at e1
          · rename_i d e; cases e1; exact e
          · cases e1
        obtain ⟨fp, q1, _⟩ := E.sl
        obtain ⟨v, v1, v2⟩ := q1 i y e3
        rw [hF i (by simp)] at v2
        exact ⟨v :: ws, by rw [List.map_cons, List.map_cons, NdefX.slotAt_of v1, h1], .cons v2.1 h2⟩
/-- f(.., closure, ..) -/
theorem r_callc (S : Sx c B N sc (fun _ => true) j X) (C : C8.Cal c.P c.w c.K c.mg B k f (spF c b (Φ f []) n) []) (hk : k ≤ j) (hn : nst g = some nn) (hio : (i, .ref fa, [(fa, NdefX.FnO fa (NdefX.NF.of nn.st nn.name nn.qual cl cc)), (cc, LamX.CodeO cc nn.qual)]) ∈ io)
    (cp : X.Ok → NdefX.Caps X cl nn.fr js) (ha : EC X io G Φ g fa js (e :: es) il F F') (hF : (js.all fun i => !fl F' i) = true) (hg : glC sc f = true) (hl : lenIE il = n := by rfl)
    (hdb : (f == ("__debug__" : Str)) = false := by decide) (he : starEach (e :: es) X.env = (false, eval e X.env) :: starEach es X.env := by rfl) (hpl : (backTo pos (starEach es X.env)).any (·.1) = false := by rfl) :
    EE X io G Φ b (.Call (.Name f p) (e :: es) [] pos) (.callc f il) F F' := by
  refine ⟨fun pins s σ H Q I h => ?_⟩
  obtain ⟨G', W, ρ, E, sa⟩ := h
  have sa : ((evL G Φ ρ il).bind fun xs => (Φ f [] xs).bind fun r => if r.1.noClo then .ok r.1 else .bad).Sat fun d => Fin (cOf X) G' io σ ρ (fl F') W b d Q := sa
  obtain ⟨fd', fd, ps, ds, FF, hm, kp, bb, dd⟩ := (S.cal C).ex
  obtain rfl : ds = [] := by cases dd; rfl
  refine wpAny_Call_Name_kw (ld_glob I (S.gl hg) hm ?_ hdb)
  refine PySem.W.callWith_K (h₀ := X.base) I.ok.mod.kin kp (thn (ha.run pos pins s σ H (fun vs H2 => ∃ W1, W.le W1 ∧ EnvOk (cOf X) G' io W1 H2 σ ρ (fl F') ∧ ∃ xs, RepCL (cOf X) W1 g fa (capsD ρ js) xs vs ∧ xs.length = n ∧ (Φ f [] xs).Sat fun r => r.1.noClo = true ∧ Res (cOf X) b W1 H2 r.1 Q) I ⟨G', W, ρ, E, ?_⟩) fun us s2 ⟨vs, H2, I2, r, W1, l1, E1, xs, rx, hxl, q⟩ => ⟨I2.kIn, ?_⟩) he hpl
  · refine (evL_len il ρ _ (R.Sat.bind.mp sa)).mono fun ds ⟨hl2, hd⟩ vs H1 W1 l1 E1 r => ⟨W1, l1, E1, ds, r, by rw [hl2, hl], (R.Sat.bind.mp hd).mono fun r' f => ?_⟩
    obtain ⟨h1, f⟩ := sat_if f
    have f : Fin (cOf X) G' io σ ρ (fl F') W b r'.1 Q := f
    exact ⟨h1, f.res l1 E1⟩
  · have cp := cp I2.ok
    have CA := NdefX.cells_of I2 cp
    have hmem : ∀ a ∈ cellsT cl, ∃ y, X.env.cells.lookup y = some a := fun a ha => by
      obtain ⟨y, hy⟩ := cellsT_mem.mp ha
      exact ⟨y, cp.sub y a hy⟩
    have obj : ∀ a ∈ cellsT cl, ∃ o u, s2.heap.get? a = some o ∧ o.data = .cell u := fun a ha => by
      obtain ⟨y, hy⟩ := hmem a ha
      obtain ⟨v, o, h1, h2⟩ := I2.cell y a hy
      exact ⟨o, v, h1, h2⟩
    have PO : PinOk X.base X.stack s2 H2 (cellsT cl) := ⟨fun a ha => let ⟨y, hy⟩ := hmem a ha; I2.freeC y a hy, fun a ha => by
        obtain ⟨y, hy⟩ := hmem a ha
        exact Heap.get?_none_of_le (Nat.le_trans I2.ok.bsz (I2.ok.cab y a (S.fn y rfl) hy)), fun a ha z => by
        obtain ⟨y, hy⟩ := hmem a ha
        rcases List.mem_cons.mp (I2.stkSub a z) with e | hb
        · exact I2.cne y a hy e
        · obtain ⟨_, o, ho, _⟩ := I2.ok.funs.mem hb
          exact absurd (Heap.lt_size ho) (Nat.not_lt.mpr (I2.ok.cab y a (S.fn y rfl) hy)), fun a ha => let ⟨o, _, h, _⟩ := obj a ha; ⟨o, h⟩⟩
    have ob : ∀ a ∈ cellsT cl, ∃ o, s2.heap.get? a = some o := PO.ob
    have wh1 := E1.wh
    have lp : W1.le (W1.pin s2.heap (cellsT cl)) := Wd.pin_le wh1 PO.no
    have facts := (E1.io _ hio).2
    have f1 := facts (fa, NdefX.FnO fa (NdefX.NF.of nn.st nn.name nn.qual cl cc)) (by simp)
    have f2 := facts (cc, LamX.CodeO cc nn.qual) (by simp)
    have rep : ∀ l, capsD ρ js = some l → Rep (cOf X) (W1.pin s2.heap (cellsT cl)) (.clo g l) (.ref fa) := fun l hl => by
      obtain ⟨ws, e1, e2⟩ := caps_rep E1 (fun i hi => by have := List.all_eq_true.mp hF i hi; simpa using this) hl
      simp only [Rep]
      refine ⟨nn, fa, cl, cc, ws, hn, rfl, lp.fz _ _ f1, lp.fz _ _ f2, ⟨?_, fun y a e => ?_, CA.inj, fun i y e => ?_⟩, e2.mono _ lp⟩
      · have := CA.len
        rw [e1, List.length_map] at this
        exact this
      · obtain ⟨o, u, h1, h2⟩ := obj a (cellsT_mem.mpr ⟨y, e⟩)
        exact ⟨o, pin_in (cellsT_mem.mpr ⟨y, e⟩) h1, u, h2⟩
      · obtain ⟨a, ha, hv⟩ := CA.has i y e
        have hi : i < ws.length := by
          have := CA.len
          rw [e1, List.length_map] at this
          rw [this]
          exact (List.getElem?_eq_some_iff.mp e).1
        obtain ⟨v, hw⟩ : ∃ v, ws[i]? = some v := ⟨ws[i], List.getElem?_eq_getElem hi⟩
        obtain ⟨u, r1, o, h1, h2⟩ := hv v (by rw [e1, List.getElem?_map, hw]; rfl)
        exact ⟨a, o, u, v, ha, pin_in (cellsT_mem.mpr ⟨y, ha⟩) h1, h2, hw, r1⟩
    have hsp : spF c b (Φ f []) n vs (pinH H2 s2.heap (cellsT cl)) (fun v H' => Q v (unpinH H' (cellsT cl))) C8.E0 := by
      refine ⟨by rw [← rx.length]; exact hxl, W1.pin s2.heap (cellsT cl), xs, wh1.pin PO.no, by rw [← S.co]; exact rx.all lp rep, q.mono fun r' ⟨nc, f⟩ => ?_⟩
      rw [← S.co]
      intro v H' W' S' g' x n'
      obtain ⟨g2, pw⟩ := Grow.unpin wh1 PO.no ob g'
      refine f v _ _ S' g2 (x.unpin pw nc) fun a ha => ?_
      have := n' a ha
      by_cases z : a ∈ cellsT cl
      · obtain ⟨o, ho⟩ := ob a z
        rw [pin_in z ho] at this
        cases this
      · rw [pin_out z] at this
        exact this
    have hus : us.length = ps.length := by rw [← r.length]; exact FF.len _ _ _ _ hsp
    have hb := bb s2 us I2.kIn (by rw [List.append_nil]; exact hus)
    rw [List.append_nil] at hb
    refine wpAny_call (codeAny_mono (FF.run X.A X.stack s2 _ ⟨us, []⟩ us vs _ _ (S.room.mono hk) (env0_pin I2.env0 PO) hb r hsp) fun r' s' hq => ?_)
    cases r' with
    | error e => exact False.elim hq
    | ok fl =>
      cases fl with
      | ret u => exact I2.after (ce_unpin I2.hok PO hq fun v H' h hn => h)
      | next => exact False.elim hq
      | brk => exact False.elim hq
      | cont => exact False.elim hq
end
end Pv

set_option autoImplicit false
set_option linter.all false
set_option maxRecDepth 100000
/-! Pv: a def by its body. -/
namespace Pv
open PySem L2
open Classical in
/-- what a callee has to keep -/
noncomputable def keepG (W : Wd) (H : Hp) : Hp := fun a => if W.no a then H a else none
theorem keepG_some {W : Wd} {H : Hp} {a : Addr} {o : HO} (h : keepG W H a = some o) : H a = some o ∧ W.no a := by
  unfold keepG at h
  split at h
  · exact ⟨h, by assumption⟩
  · cases h
theorem keepG_of {W : Wd} {H : Hp} {a : Addr} {o : HO} (h : H a = some o) (n : W.no a) : keepG W H a = some o := by
  unfold keepG
  rw [if_pos n]
  exact h
section
variable {c : Cn} {W W' : Wd} {H H' : Hp}
theorem keepG_no {a : Addr} (l : W.le W') (n : W'.no a) (h : keepG W H a = none) : H a = none := by
  by_cases z : W.no a
  · unfold keepG at h; rw [if_pos z] at h; exact h
  · exfalso
    refine z ⟨?_, fun q => n.bw (l.bw a q), fun p hp => n.tb p (by rw [l.tb]; exact hp), fun q => n.tu (l.tu a q)⟩
    cases e : W.fz a with
    | none => rfl
    | some o =>
      have q := l.fz a o e
      rw [n.fz] at q; cases q
def envOf (slots : Nat) (ds : List D) : Env := ds.map some ++ List.replicate (slots - ds.length) none
theorem envOf_get {slots : Nat} {ds : List D} {i : Nat} {d : D} (h : (envOf slots ds)[i]? = some (some d)) : ds[i]? = some d := by
  unfold envOf at h
  by_cases hi : i < ds.length
  · rw [List.getElem?_append_left (by simpa using hi), List.getElem?_map] at h
    cases e : ds[i]? with
    | none => rw [e] at h; cases h
    | some a => rw [e] at h; cases h; rfl
  · rw [List.getElem?_append_right (by simpa using hi), List.getElem?_replicate] at h
    split at h <;> cases h
/-- the entry -/
theorem EnvOk.start {N : List Str} {ds : List D} {vs : List V} (wh : W.In H) (r : RepL c W ds vs) (hN : ds.length ≤ N.length) {F : List Bool} (hF : ∀ i, fl F i = false) : EnvOk c (keepG W H) [] W H (start N vs) (envOf N.length ds) (fl F) := by
  have hl := r.length
  refine ⟨wh, fun a o e => keepG_some e, by unfold L2.start envOf; simp; omega, ⟨fun _ => [], fun i d e => ?_, fun _ _ _ h => absurd h (by simp), fun _ _ h => absurd h (by simp), fun _ _ h => absurd h (by simp)⟩, fun p hp => absurd hp (by simp)⟩
  have e := envOf_get e
  obtain ⟨v, h1, h2⟩ := r.get e
  refine ⟨v, ?_, by rw [hF]; exact ⟨h2, rfl⟩⟩
  have hi := (List.getElem?_eq_some_iff.mp h1).1
  unfold L2.start
  rw [List.getElem?_append_left (by simpa using hi), List.getElem?_map, h1]
  rfl
theorem Grow.ofG {io : Io} {σ : St} {ρ : Env} {F : Nat → Bool} {S : List Addr} (l : W.le W') (E : EnvOk c (addG (keepG W H) H' S) io W' H' σ ρ F) (hS : ∀ a ∈ S, keepG W H a = none) : Grow W H W' H' :=
  ⟨l, E.wh, fun a o e n => E.g a o (by
    have k := keepG_of e n
    unfold addG
    rw [if_neg (fun z => by rw [hS a z] at k; cases k)]
    exact k)⟩
end
section
variable {c : Cn} {B : Heap} {G : Glo} {Φ : Phi} {n k : Nat} {b : Bool} {x qual : Str} {st : Stmt} {f : Addr} {fd : FuncData} {N ps : List Str} {F Fn Fb Fc : List Bool} {d : Fd}
theorem callFd_sat {ds : List D} {P : D × List D → Prop} (hd : d.dflt = []) (hi : d.inout = []) (s : (callFd G Φ n d ds).Sat P) : ds.length = d.caps + d.params.length ∧ (exS G Φ n d.body (envOf d.slots ds)).Sat fun r => match r with
    | .nx _ => P (.non, [])
    | .rt r _ => P (r, [])
    | _ => False := by
  unfold callFd at s
  rw [hd, hi] at s
  simp only [List.drop_nil, List.append_nil] at s
  obtain ⟨h, s⟩ := sat_ifp s
  refine ⟨h, R.Sat.mono (fun r q => ?_) (R.Sat.bind.mp s)⟩
  cases r <;> exact q
/-- the body's reading gives the def's promise -/
theorem fd_bodyM (S : FnScope N ps (C8.fnScope st)) (hdf : d.dflt = []) (hio : d.inout = []) (hps : ps.length = d.caps + d.params.length) (hsl : d.slots = N.length) (hF : (F.all fun b => !b) = true)
    (cdv : Value) (body : ∀ X, Sx c B N (C8.fnScope st) (fun _ => true) k X → X.env.qual = qual ++ ".<locals>." → X.env.code = cdv → ESs X [] G Φ n b (C8.fnBody st) d.body F Fn Fb Fc) (A : Around) (outer : List PySem.Env) (s : Shared) (H : Hp) (vs : List V) (Q : VK) (E : XK) (hr : Room k (A.deeper (PyProof.Rows.envOfC qual (C8.fnScope st) s.heap.objs.size f cdv)))
    (hsp : spF c b (fun ds => callFd G Φ n d ds) ps.length vs H Q E) :
      ∃ t, PSs (cxOf C8.CX0 c.P c.w c.K c.mg B N qual (C8.fnScope st) f cdv A outer s H E).nox (C8.fnBody st) t ∧ t { nx := fun _ H' => Q .non H', rt := Q } (start N vs) H := by
  obtain ⟨hl, W, ds, wh, r, sat⟩ := hsp
  obtain ⟨h1, sat⟩ := callFd_sat hdf hio sat
  have SX : Sx c B N (C8.fnScope st) (fun _ => true) k (cxOf C8.CX0 c.P c.w c.K c.mg B N qual (C8.fnScope st) f cdv A outer s H E).nox := ⟨rfl, rfl, rfl, rfl, rfl, rfl, rfl, hr, rfl, S.nd, fun _ _ => rfl, rfl⟩
  have hpl : ps.length ≤ N.length := by have := congrArg List.length S.pre; rw [List.length_take] at this; omega
  refine ⟨_, body _ SX rfl rfl, keepG W H, W, envOf N.length ds, EnvOk.start wh r (by omega) (fun i => ?_), ?_⟩
  · unfold fl
    rw [List.getD_eq_getElem?_getD]
    cases e : F[i]? with
    | none => rfl
    | some q => have := List.all_eq_true.mp hF q (List.mem_of_getElem? e); simpa using this
  rw [← hsl]
  refine R.Sat.mono (fun r q => ?_) sat
  cases r with
  | nx ρ' =>
    intro σ' H' W' l E'
    have E2 : EnvOk c (addG (keepG W H) H' []) [] W' H' σ' ρ' (fl Fn) := by rw [addG_nil]; exact E'
    refine (show Res c b W H .non Q from q) .non H' W' [] (Grow.ofG l E2 (by simp)) ?_ (by simp)
    cases b <;> exact ⟨by simp only [Rep], rfl⟩
  | rt dv ρ' =>
    intro v σ' H' W' S' F' l E' xx hn
    exact (show Res c b W H dv Q from q) v H' W' S' (Grow.ofG l E' hn) xx fun a ha => keepG_no l (xx.at a ha).1 (hn a ha)
  | bk _ => exact q.elim
  | ct _ => exact q.elim
theorem fd_body (S : FnScope N ps (C8.fnScope st)) (hdf : d.dflt = []) (hio : d.inout = []) (hps : ps.length = d.caps + d.params.length) (hsl : d.slots = N.length) (hF : (F.all fun b => !b) = true)
    (body : ∀ X, Sx c B N (C8.fnScope st) (fun _ => true) k X → ESs X [] G Φ n b (C8.fnBody st) d.body F Fn Fb Fc) (cdv : Value) (A : Around) (outer : List PySem.Env) (s : Shared) (H : Hp) (vs : List V) (Q : VK) (E : XK) (hr : Room k (A.deeper (PyProof.Rows.envOfC qual (C8.fnScope st) s.heap.objs.size f cdv)))
    (hsp : spF c b (fun ds => callFd G Φ n d ds) ps.length vs H Q E) :
      ∃ t, PSs (cxOf C8.CX0 c.P c.w c.K c.mg B N qual (C8.fnScope st) f cdv A outer s H E).nox (C8.fnBody st) t ∧ t { nx := fun _ H' => Q .non H', rt := Q } (start N vs) H :=
  fd_bodyM S hdf hio hps hsl hF cdv (fun X SX _ _ => body X SX) A outer s H vs Q E hr hsp
theorem fd_cal (D0 : C8.Def c.K c.mg x st f fd) (bb : Binds c.K fd ps []) (S : FnScope N ps (C8.fnScope st)) (hdf : d.dflt = []) (hio : d.inout = []) (hps : ps.length = d.caps + d.params.length) (hsl : d.slots = N.length) (hF : (F.all fun b => !b) = true)
    (body : ∀ X, Sx c B N (C8.fnScope st) (fun _ => true) k X → ESs X [] G Φ n b (C8.fnBody st) d.body F Fn Fb Fc) : C8.Cal c.P c.w c.K c.mg B (k + 1) x (spF c b (fun ds => callFd G Φ n d ds) ps.length) [] :=
  C8.cal0 D0 bb .nil S (fun vs H Q E h => h.1) fun cdv A outer s H vs Q E hr hsp => fd_body S hdf hio hps hsl hF body cdv A outer s H vs Q E hr hsp
end
end Pv

set_option autoImplicit false
set_option linter.all false
set_option maxRecDepth 100000
/-! Pv: x[k] = v; two names at once. -/
namespace Pv
open PySem L2
def tSetD (X : Cx) : TSet := fun o i v H Q => ∃ W a ob d k dv d', W.In H ∧ o = .ref a ∧ H a = some ob ∧ ObAt (cOf X) W a ob d ∧ Rep (cOf X) W k i ∧ Rep (cOf X) W dv v ∧ setAt d k dv = .ok d' ∧ ∀ o', ObAt (cOf X) W a o' d' → Q (upd H a o')
theorem ixN_of {α : Type} {l : List α} {i : Int} {d : α} (h : atIx l i = some d) : ixN l.length i = some (if 0 ≤ i then i.toNat else (i + l.length).toNat) := by
  unfold atIx at h
  unfold ixN
  by_cases h0 : 0 ≤ i
  · rw [if_pos h0] at h
    rw [if_pos h0, if_pos h0]
    have := (List.getElem?_eq_some_iff.mp h).1
    rw [if_pos (by omega)]
  · rw [if_neg h0] at h
    rw [if_neg h0, if_neg h0]
    by_cases h1 : -(l.length : Int) ≤ i
    · rw [if_pos h1]
    · simp [h1] at h
theorem set_D {X : Cx} (hu : X.A.units + 80 < cLine) : PSet X (tSetD X) := by
  intro pins s σ H o i v ov iv u Q I ro ri rv h
  obtain ⟨W, a, ob, d, k, dv, d', wh, rfl, ha, x, rk, rd, e, q⟩ := h
  cases d with
  | lst l =>
    cases k with
    | int n =>
      obtain ⟨vs, rfl, r⟩ := x
      have hi : i = .int n := by simpa only [Rep] using rk
      subst hi
      have e : (match atIx l n with | some _ => R.ok (D.lst (l.set (if 0 ≤ n then n.toNat else (n + l.length).toNat) dv)) | none => .bad) = .ok d' := e
      cases hx : atIx l n with
      | none => rw [hx] at e; cases e
      | some z =>
        rw [hx] at e
        cases e
        have hj := ixN_of hx
        refine set_list pins s σ H _ _ v ov iv u Q I ro ri rv ⟨a, vs, n, _, rfl, rfl, ha, by rw [← r.length]; exact hj, q _ ⟨_, rfl, r.set _ rd⟩⟩
    | _ => cases e
  | dic ks ds =>
    have e : (if keyFits ks k && ks.length < big then let r := dput ks ds k dv; R.ok (D.dic r.1 r.2) else .bad) = .ok d' := by cases k <;> exact e
    by_cases hh : (keyFits ks k && decide (ks.length < big)) = true
    · rw [if_pos hh] at e
      cases e
      rw [Bool.and_eq_true, decide_eq_true_eq] at hh
      cases ro
      exact dd_set hu I wh ha x hh.1 rk ri rd rv hh.2 fun s' o' I' x' => ⟨_, I', q o' x'⟩
    · rw [if_neg hh] at e; cases e
  | _ => exact x.elim
section
variable {c : Cn} {B : Heap} {N : List Str} {sc : Scope} {fb : Str → Bool} {j k : Nat} {X : Cx} {io : Io} {G : Glo} {Φ : Phi} {F F1 F2 F3 F4 F' Fb Fc Fn : List Bool} {e a d tg it elt : Expr} {ie ia id il iit ic ik : IE} {b br b1 b2 : Bool} {pos p apos cpos xp : Pos} {es : List Expr} {n : Nat} {t ts : Tg} {ss rr ow : List Nat}
  {st : Stmt} {sts sts2 : List Stmt} {is is2 : IS} {i : Nat} {x : Str}
theorem fl_keep {F : List Bool} {i : Nat} (hFl : decide (i < F.length) = true) (hF : fl F i = true) : (fun j => if j = i then true else fl F j) = fl F := by
  funext m
  by_cases h : m = i
  · rw [if_pos h, h, hF]
  · rw [if_neg h]
theorem setAt_ok (d k v : D) : (∃ d', setAt d k v = .ok d') ∨ setAt d k v = .bad := by
  cases d with
  | lst l =>
    cases k with
    | int n =>
      show (∃ d', (match atIx l n with | some _ => R.ok (D.lst (l.set (if 0 ≤ n then n.toNat else (n + l.length).toNat) v)) | none => .bad) = .ok d') ∨ (match atIx l n with | some _ => R.ok (D.lst (l.set (if 0 ≤ n then n.toNat else (n + l.length).toNat) v)) | none => .bad) = .bad
      cases atIx l n <;> first | exact .inr rfl | exact .inl ⟨_, rfl⟩
    | _ => exact .inr rfl
  | dic ks ds =>
    have e : setAt (.dic ks ds) k v = (if keyFits ks k && ks.length < big then let r := dput ks ds k v; R.ok (D.dic r.1 r.2) else .bad) := by cases k <;> rfl
    rw [e]
    split
    · exact .inl ⟨_, rfl⟩
    · exact .inr rfl
  | _ => cases k <;> exact .inr rfl
theorem setAt_own {d k v : D} {d' : D} (h : setAt d k v = .ok d') : (∃ l l', d = .lst l ∧ d' = .lst l') ∨ ∃ ks ds ks' ds', d = .dic ks ds ∧ d' = .dic ks' ds' := by
  cases d with
  | lst l =>
    cases k with
    | int n =>
      have h : (match atIx l n with | some _ => R.ok (D.lst (l.set (if 0 ≤ n then n.toNat else (n + l.length).toNat) v)) | none => .bad) = .ok d' := h
      cases hx : atIx l n with
      | none => rw [hx] at h; cases h
      | some z => rw [hx] at h; cases h; exact .inl ⟨_, _, rfl, rfl⟩
    | _ => cases h
  | dic ks ds =>
    have e : (if keyFits ks k && ks.length < big then let r := dput ks ds k v; R.ok (D.dic r.1 r.2) else .bad) = .ok d' := by cases k <;> exact h
    split at e
    · cases e; exact .inr ⟨_, _, _, _, rfl, rfl⟩
    · cases e
  | _ => cases k <;> cases h
theorem s_setItem (S : Sx c B N sc fb j X) (he : EE X io G Φ b1 e ie F F1) (hN : N[i]? = some x) (hv : visC sc x = true) (hd : ((x == ("__debug__" : Str)) || (x == ("__classdict__" : Str))) = false) (hk : EE X io G Φ b2 a ik F1 F2) (hF : fl F2 i = true) (hFl : decide (i < F2.length) = true)
    (ha : ∀ v, assign (.Subscript (.Name x xp) a p) X.env v = (do
      let ov ← holding [v] (eval (.Name x xp) X.env)
      let iv ← holding [v, ov] (eval a X.env)
      standAt p
      holding [v, ov, iv] (setItem ov iv v)
      release [v, ov, iv] []) := by intro _; rfl)
    (hs : swapsWithSole [.Subscript (.Name x xp) a p] e pos.line X.env = pure false := by rfl) (hw : swappedStores [.Subscript (.Name x xp) a p] e X.env = pure none := by rfl)
    (h1 : (assignEach [.Subscript (.Name x xp) a p] X.env).map (·.2) = [assign (.Subscript (.Name x xp) a p) X.env] := by rfl) :
    ES X io G Φ n br (.Assign [.Subscript (.Name x xp) a p] e pos) (.setItem i ik ie) F F2 Fb Fc := by
  rw [Bool.or_eq_false_iff] at hd
  refine (ps_asg he.any (pg_sub (pe_var (i := i) (by rw [S.nN]; exact hN) (S.vis hv) hd.1 hd.2) hk.any (set_D S.hu) ha) hs hw h1).imp fun D σ H _ ⟨G', W, ρ, E, s⟩ => ?_
  have s := R.Sat.bind.mp (show ((evE G Φ ρ ie).bind fun v => (getV ρ i).bind fun d => (evE G Φ ρ ik).bind fun k => (setAt d k v).bind fun d => R.ok (Fl.nx (setV ρ i d))).Sat _ from s)
  refine ⟨G', W, ρ, E, R.Sat.mono (fun dv q xv H1 W1 S' l1 E1 xx nn => ?_) s⟩
  obtain ⟨rx, rfl⟩ := xx
  rw [addG_nil] at E1
  obtain ⟨do_, hi, q⟩ := getV_of (R.Sat.bind.mp (show ((getV ρ i).bind fun d => (evE G Φ ρ ik).bind fun k => (setAt d k dv).bind fun d => R.ok (Fl.nx (setV ρ i d))).Sat _ from q))
  obtain ⟨v, h1, h2⟩ := E1.get hi
  refine ⟨v, h1, G', W1, ρ, E1, (R.Sat.bind.mp q).mono fun dk q yv H2 W2 S2 l2 E2 yy n2 => ?_⟩
  obtain ⟨ry, rfl⟩ := yy
  rw [addG_nil] at E2
  rcases setAt_ok do_ dk dv with ⟨d', hset⟩ | hset
  · rw [hset] at q
    have q : EndD (cOf X) G' io br (fl F2) (fl Fb) (fl Fc) D W (.nx (setV ρ i d')) := q
    obtain ⟨v', S', k1, k2, k3, E3⟩ := E2.take hi hF
    rw [h1] at k1; cases k1
    have fin : ∀ (aa : Addr) (o : HO), v = .ref aa → W2.no aa → H2 aa = some o → ObAt (cOf X) W2 aa o do_ → S' = [aa] → (∀ o', ObAt (cOf X) W2 aa o' d' → OwnB (cOf X) W2 (upd H2 aa o') true d' (.ref aa) [aa]) → tSetD X v yv xv H2 fun H3 => D.nx σ H3 := by
      intro aa o ev no ho ox eS own
      subst ev eS
      refine ⟨W2, aa, o, do_, dk, dv, d', E2.wh, rfl, ho, ox, ry, rx.mono _ l2, hset, fun o' ox' => ?_⟩
      have E4 := (E3.putOwn (o := o') (by simp) no ho ox'.nc).putBack (b := true) (d := d') (v := .ref aa) k3 (own o' ox') (List.getElem?_eq_some_iff.mp hi).1 h1
      rw [fl_keep hFl hF] at E4
      exact (show ∀ σ' H' W', W.le W' → EnvOk (cOf X) G' io W' H' σ' (setV ρ i d') (fl F2) → D.nx σ' H' from q) σ _ W2 (l1.trans l2) E4
    rcases setAt_own hset with ⟨l, l', rfl, rfl⟩ | ⟨ks, ds, ks', ds', rfl, rfl⟩
    · obtain ⟨aa, o, ev, no, ho, ox, eS⟩ := k2
      exact fin aa o ev no ho ox eS fun o' ox' => ⟨aa, o', rfl, no, upd_same, ox', rfl⟩
    · obtain ⟨aa, o, ev, no, ho, ox, eS⟩ := k2
      exact fin aa o ev no ho ox eS fun o' ox' => ⟨aa, o', rfl, no, upd_same, ox', rfl⟩
  · rw [hset] at q
    exact q.elim
/-! two names at once -/
theorem s_par {y : Str} {i2 : Nat} {px py pt : Pos} {kt k2 : Nat} {pt2 : Pos} (S : Sx c B N sc fb j X) (ha : EE X io G Φ b1 a ia F F1) (hb : EE X io G Φ b2 d id F1 F2) (hN : N[i]? = some x) (hN2 : N[i2]? = some y) (hij : decide (i ≠ i2) = true)
    (hx : sc.names.lookup x = some .local) (hy : sc.names.lookup y = some .local) (hio : ∀ p ∈ io, p.1 ≠ i) (hio2 : ∀ p ∈ io, p.1 ≠ i2) (hF : (decide (i < F2.length) && decide (i2 < F2.length)) = true)
    (hse : starEach [a, d] X.env = (false, eval a X.env) :: starEach [d] X.env := by rfl) (hse2 : starEach [d] X.env = (false, eval d X.env) :: starEach [] X.env := by rfl)
    (hw : swappedStores [.Tuple [.Name x px, .Name y py] kt pt] (.Tuple [a, d] k2 pt2) X.env = pure (some [x, y]))
    (hs : swapsWithSole [.Tuple [.Name x px, .Name y py] kt pt] (.Tuple [a, d] k2 pt2) pos.line X.env = pure false := by rfl) :
    ES X io G Φ n br (.Assign [.Tuple [.Name x px, .Name y py] kt pt] (.Tuple [a, d] k2 pt2) pos) (.par [i, i2] [.e ia, .e id]) F ((F2.set i2 b2).set i b1) Fb Fc := by
  have hij := of_decide_eq_true hij
  rw [Bool.and_eq_true, decide_eq_true_eq, decide_eq_true_eq] at hF
  refine (ps_par S.calm (by rw [S.nN]; exact S.nd) (by rw [S.nN]; exact hN) (by rw [S.nN]; exact hN2) hij (by rw [S.sc]; exact hx) (by rw [S.sc]; exact hy) (pa_cons ha (pa_cons hb pa_nil hse2) hse) hw hs).imp fun D σ H hl ⟨G', W, ρ, E, s⟩ => ?_
  have hi : i < ρ.length := by rw [E.len, hl, S.nN]; exact (List.getElem?_eq_some_iff.mp hN).1
  have hi2 : i2 < ρ.length := by rw [E.len, hl, S.nN]; exact (List.getElem?_eq_some_iff.mp hN2).1
  have s := R.Sat.bind.mp (R.Sat.bind.mp (R.Sat.bind.mp (show (((evE G Φ ρ ia).bind fun d => R.ok (d, ρ)).bind fun r => ((((evE G Φ r.2 id).bind fun d => R.ok (d, r.2)).bind fun r' => R.ok ([r'.1], r'.2)).bind fun s => R.ok (r.1 :: s.1, s.2))).bind (fun r => R.ok (Fl.nx (([i, i2].zip r.1).foldl (fun ρ o => setV ρ o.1 o.2) r.2))) |>.Sat _ from s)))
  refine ⟨G', W, ρ, E, s.mono fun d1 q v1 H1 W1 S1 l1 E1 x1 n1 => ?_⟩
  have q := R.Sat.bind.mp (R.Sat.bind.mp (R.Sat.bind.mp (show ((((evE G Φ ρ id).bind fun d => R.ok (d, ρ)).bind fun r' => R.ok ([r'.1], r'.2)).bind fun s => R.ok (d1 :: s.1, s.2)).Sat _ from q)))
  refine ⟨addG G' H1 S1, W1, ρ, E1, q.mono fun d2 q v2 H2 W2 S2 l2 E2 x2 n2 => ?_⟩
  have q : ∀ σ' H' W', W.le W' → EnvOk (cOf X) G' io W' H' σ' (setV (setV ρ i d1) i2 d2) (fl ((F2.set i2 b2).set i b1)) → D.nx σ' H' := q
  have k1 : ∀ a ∈ S1, ∀ o, H1 a = some o → H2 a = some o ∧ W2.no a := fun a ha o ho => E2.g a o (by
    have e : addG G' H1 S1 a = some o := by unfold addG; rw [if_pos ha]; exact ho
    unfold addG
    rw [if_neg (fun z => by have := n2 a z; rw [e] at this; cases this)]
    rw [if_pos ha]; exact ho)
  have x1' : OwnB (cOf X) W2 H2 b1 d1 v1 S1 := x1.keep l2 (fun a ha o ho => (k1 a ha o ho).1) fun a ha => by
    obtain ⟨_, o, ho⟩ := x1.at a ha
    exact (k1 a ha o ho).2
  have eG : addG G' H1 S1 = addG G' H2 S1 := by
    funext a
    unfold addG
    by_cases z : a ∈ S1
    · obtain ⟨_, o, ho⟩ := x1.at a z
      rw [if_pos z, if_pos z, ho, (k1 a z o ho).1]
    · rw [if_neg z, if_neg z]
  have E3 := E2.store n2 x2 hi2 hio2
  rw [eG, fl_put hF.2] at E3
  have E4 := E3.store n1 x1' (by unfold setV; rw [List.length_set]; exact hi) hio
  rw [fl_put (by rw [List.length_set]; exact hF.1)] at E4
  have e1 : (σ.set i2 (some v2)).set i (some v1) = (σ.set i (some v1)).set i2 (some v2) := List.set_comm _ _ (fun z => hij z.symm)
  have e2 : setV (setV ρ i2 d2) i d1 = setV (setV ρ i d1) i2 d2 := by unfold setV; exact List.set_comm _ _ (fun z => hij z.symm)
  rw [e1, e2] at E4
  exact ⟨v1, v2, rfl, q _ _ _ (l1.trans l2) E4⟩
end
end Pv

set_option autoImplicit false
set_option linter.all false
set_option maxRecDepth 100000
/-! Pv: dict(a list of pairs). -/
namespace Pv
open PySem L2
theorem putK_nd {κ : Type} [DecidableEq κ] {kvs : List (κ × V)} {k : κ} {v : V} (hn : (kvs.map (·.1)).Nodup) : ((putK kvs k v).map (·.1)).Nodup := by
  unfold putK
  split
  · rw [List.map_map]
    have : ((fun x : κ × V => x.1) ∘ fun kv : κ × V => if kv.1 = k then (kv.1, v) else kv) = fun kv => kv.1 := by
      funext kv; simp only [Function.comp]; split <;> rfl
    rw [this]; exact hn
  · rename_i h
    rw [List.map_append, List.nodup_append]
    refine ⟨hn, by simp, fun a ha b hb e => ?_⟩
    have hb : b = k := by simpa using hb
    subst hb e
    obtain ⟨q, hq, e⟩ := List.mem_map.mp ha
    exact h (List.any_eq_true.mpr ⟨q, hq, by simpa using e⟩)
theorem storedH_nd {K : Type} [DecidableEq K] {xs : List (K × Addr × Value)} {k : K} {a : Addr} {u : Value} (hn : (xs.map (·.1)).Nodup) : ((storedH xs k a u).map (·.1)).Nodup := by
  unfold storedH
  split
  · rw [List.map_map]
    have : ((fun x : K × Addr × Value => x.1) ∘ putAt k u) = fun x => x.1 := by
      funext x; simp only [Function.comp, putAt]; split <;> rfl
    rw [this]; exact hn
  · rename_i h
    rw [List.map_append, List.nodup_append]
    refine ⟨hn, by simp, fun b hb c hc e => ?_⟩
    have hc : c = k := by simpa using hc
    subst hc e
    obtain ⟨q, hq, e⟩ := List.mem_map.mp hb
    refine h ?_
    unfold atKey
    rw [Option.isSome_map, List.find?_isSome]
    exact ⟨q, hq, by simpa using e⟩
theorem into_cons {k d : D} {l ks ds : List D} : pairsInto (.tup [k, d] :: l) ks ds = if keyFits ks k then pairsInto l (dput ks ds k d).1 (dput ks ds k d).2 else .bad := rfl
theorem into_shape {a : D} {l ks ds : List D} {r : D} (h : pairsInto (a :: l) ks ds = .ok r) : ∃ k d, a = .tup [k, d] ∧ keyFits ks k = true ∧ pairsInto l (dput ks ds k d).1 (dput ks ds k d).2 = .ok r := by
  cases a with
  | tup q =>
    match q, h with
    | [k, d], h =>
      rw [into_cons] at h
      split at h
      · exact ⟨k, d, rfl, by assumption, h⟩
      · cases h
    | [], h => cases h
    | [_], h => cases h
    | _ :: _ :: _ :: _, h => cases h
  | _ => cases h
section
variable {c : Cn} {W : Wd}
/-- a pair's own tuple -/
theorem pair_rep {k d : D} {v : V} (h : Rep c W (.tup [k, d]) v) : ∃ p kv dv, v = .ref p ∧ SqT c.K W.fz p [kv, dv] ∧ Rep c W k kv ∧ Rep c W d dv := by
  simp only [Rep] at h
  obtain ⟨p, vs, rfl, h1, h2⟩ := h
  simp only [RepL] at h2
  obtain ⟨kv, r, rfl, h3, dv, r', rfl, h4, rfl⟩ := h2
  exact ⟨p, kv, dv, rfl, h1, h3, h4⟩
theorem into_flat : ∀ (l : List D) (kvs : List (Key × V)) (ds : List D) (vs : List V) (r : D), (kvs.map (·.1)).Nodup → RepL c W ds (kvs.map (·.2)) → RepL c W l vs → pairsInto l (kvs.map fun p => kD p.1) ds = .ok r →
    (kvs = [] → ∀ k d l', l = .tup [k, d] :: l' → sortOf k = 0) → ∃ (ps : List Addr) (more : List (Key × V)), vs = ps.map V.ref ∧ Paired (fun p kv => SqT c.K W.fz p [kV kv.1, kv.2]) ps more ∧ ∃ ds', r = .dic ((mergeK kvs more).map fun p => kD p.1) ds' ∧ RepL c W ds' ((mergeK kvs more).map (·.2))
  | [], kvs, ds, vs, r, hn, hr, hv, h, _ => by
    have : vs = [] := by simpa only [RepL] using hv
    subst this
    have h : R.ok (D.dic (kvs.map fun p => kD p.1) ds) = .ok r := h
    cases h
    exact ⟨[], [], rfl, .nil, ds, rfl, hr⟩
  | a :: l, kvs, ds, vs, r, hn, hr, hv, h, hs => by
    obtain ⟨k, d, rfl, hf, h⟩ := into_shape h
    simp only [RepL] at hv
    obtain ⟨v, vs', rfl, hv1, hv2⟩ := hv
    obtain ⟨p, kv, dv, rfl, hp, hk, hd⟩ := pair_rep hv1
    have hs0 : sortOf k = 0 := by
      cases kvs with
      | nil => exact hs rfl _ _ _ rfl
      | cons q t =>
        unfold keyFits at hf
        simp only [Bool.and_eq_true, List.all_eq_true, beq_iff_eq] at hf
        rw [← hf.2 (kD q.1) (by simp)]
        cases q.1 <;> rfl
    have htop : topKey k = true := by
      unfold keyFits at hf
      simp only [Bool.and_eq_true] at hf
      exact hf.1.2
    have hkey : ∃ key, k = kD key ∧ kv = kV key := by
      cases k with
      | int i => exact ⟨.inl i, rfl, (show kv = .int i by simpa only [Rep] using hk)⟩
      | str z => exact ⟨.inr z, rfl, (show kv = .str z ∧ z.length ≤ sizeLine by simpa only [Rep] using hk).1⟩
      | tup _ => cases hs0
      | _ => cases htop
    obtain ⟨key, rfl, rfl⟩ := hkey
    obtain ⟨f1, f2⟩ := dput_kvs (k := key) hd hn hr
    rw [f1] at h
    obtain ⟨ps, more, rfl, hpm, ds', e, hr'⟩ := into_flat l (putK kvs key dv) _ vs' r (putK_nd hn) f2 hv2 h (fun e => by
      exfalso
      unfold putK at e
      split at e
      · rename_i hany
        cases kvs with
        | nil => simp at hany
        | cons => simp at e
      · simp at e)
    exact ⟨p :: ps, (key, dv) :: more, rfl, .cons hp hpm, ds', e, hr'⟩
theorem into_nest (PT : Addr → Value → Value → Prop) : ∀ (l : List D) (xs : List (NestedKey × Addr × Value)) (ds : List D) (us vs : List V) (its : List Value) (r : D), (xs.map (·.1)).Nodup → Vals us (xs.map (·.2.2)) → RepL c W ds us → RepL c W (nkDs (xs.map (·.1))) (xs.map fun x => V.ref x.2.1) →
    RepL c W l vs → pairsInto l (nkDs (xs.map (·.1))) ds = .ok r → (∀ x ∈ xs, x.1.depth ≤ 8) → (∀ x ∈ xs, sortOf (nkD x.1) = 1) → (xs = [] → ∀ k d l', l = .tup [k, d] :: l' → sortOf k = 1) →
    (∀ p kv dv, (V.ref p) ∈ vs → SqT c.K W.fz p [kv, dv] → ∃ ku du, RelV kv ku ∧ RelV dv du ∧ PT p ku du) →
    ∃ (ts : List (Addr × NestedKey × Addr × Value)), vs = ts.map (fun t => V.ref t.1) ∧ (∀ t ∈ ts, ∃ dv, SqT c.K W.fz t.1 [.ref t.2.2.1, dv] ∧ RelV dv t.2.2.2 ∧ Rep c W (nkD t.2.1) (.ref t.2.2.1) ∧ PT t.1 (.ref t.2.2.1) t.2.2.2 ∧ t.2.1.depth ≤ 8 ∧ sortOf (nkD t.2.1) = 1) ∧ (∀ x ∈ storedAllH xs (ts.map (·.2)), x.1.depth ≤ 8) ∧
      ∃ ds' us', r = .dic (nkDs ((storedAllH xs (ts.map (·.2))).map (·.1))) ds' ∧ Vals us' ((storedAllH xs (ts.map (·.2))).map (·.2.2)) ∧ RepL c W ds' us' ∧ RepL c W (nkDs ((storedAllH xs (ts.map (·.2))).map (·.1))) ((storedAllH xs (ts.map (·.2))).map fun x => V.ref x.2.1)
  | [], xs, ds, us, vs, its, r, hn, hu, hr, hkr, hv, h, h8, h1, _, _ => by
    have : vs = [] := by simpa only [RepL] using hv
    subst this
    have h : R.ok (D.dic (nkDs (xs.map (·.1))) ds) = .ok r := h
    cases h
    exact ⟨[], rfl, by simp, h8, ds, us, rfl, hu, hr, hkr⟩
  | a :: l, xs, ds, us, vs, its, r, hn, hu, hr, hkr, hv, h, h8, h1, hs, hrel => by
    obtain ⟨k, d, rfl, hf, h⟩ := into_shape h
    simp only [RepL] at hv
    obtain ⟨v, vs', rfl, hv1, hv2⟩ := hv
    obtain ⟨p, kv, dv, rfl, hp, hk, hd⟩ := pair_rep hv1
    unfold keyFits at hf
    simp only [Bool.and_eq_true, List.all_eq_true, beq_iff_eq] at hf
    have hs1 : sortOf k = 1 := by
      cases xs with
      | nil => exact hs rfl _ _ _ rfl
      | cons q t => rw [← hf.2 (nkD q.1) (by simp [nkDs]), h1 q (by simp)]
    obtain ⟨lk, rfl⟩ : ∃ lk, k = .tup lk := by
      cases k with
      | tup lk => exact ⟨lk, rfl⟩
      | _ => cases hs1
    obtain ⟨g1, g2⟩ := nkD_dNk 8 _ hf.1.1
    obtain ⟨b, ws, rfl, hb⟩ := (show ∃ a vs, kv = .ref a ∧ SqT c.K W.fz a vs ∧ RepL c W lk vs by simpa only [Rep] using hk)
    obtain ⟨ku, du, rk, rd, pt⟩ := hrel p _ _ (by simp) hp
    cases rk
    rw [← g1] at h hk
    obtain ⟨us', q1, q2, q3, q4⟩ := dput_zip (k := dNk (.tup lk)) (b := b) (u := du) hd rd hk hn hu hr hkr
    rw [q3] at h
    obtain ⟨ts, rfl, t1, t8, rest⟩ := into_nest PT l (storedH xs (dNk (.tup lk)) b du) _ us' vs' its r (storedH_nd hn) q1 q2 q4 hv2 h
      (fun x hx => by
        rcases storedH_mem hx with ⟨q, hq, e⟩ | e
        · rw [e]; exact h8 q hq
        · rw [e]; exact g2)
      (fun x hx => by
        rcases storedH_mem hx with ⟨q, hq, e⟩ | e
        · rw [e]; exact h1 q hq
        · rw [e, g1]; rfl)
      (fun e => absurd e storedH_ne) (fun p kv dv hm hq => hrel p kv dv (by simp at hm ⊢; exact .inr hm) hq)
    refine ⟨(p, dNk (.tup lk), b, du) :: ts, rfl, fun t ht => ?_, t8, rest⟩
    rcases List.mem_cons.mp ht with e | e
    · subst e; exact ⟨dv, hp, rd, hk, pt, g2, by rw [g1]; rfl⟩
    · exact t1 t e
theorem into_ok : ∀ (l ks ds : List D), (∃ r, pairsInto l ks ds = .ok r) ∨ pairsInto l ks ds = .bad
  | [], ks, ds => .inl ⟨_, rfl⟩
  | a :: l, ks, ds => by
    cases a with
    | tup q =>
      match q with
      | [k, d] =>
        rw [into_cons]
        split
        · exact into_ok l _ _
        · exact .inr rfl
      | [] => exact .inr rfl
      | [_] => exact .inr rfl
      | _ :: _ :: _ :: _ => exact .inr rfl
    | _ => exact .inr rfl
end
theorem paired_map {α β : Type} {R R' : α → β → Prop} (h : ∀ a b, R a b → R' a b) : ∀ {l : List α} {m : List β}, Paired R l m → Paired R' l m
  | _, _, .nil => .nil
  | _, _, .cons x t => .cons (h _ _ x) (paired_map h t)
theorem getD_some {α : Type} {l : List α} {j : Nat} {a d : α} (h : l[j]? = some a) : l.getD j d = a := by rw [List.getD_eq_getElem?_getD, h]; rfl
section
variable {X : Cx}
/-- dict(a list of pairs) -/
theorem f_dict (hc : X.calm = true) (hu : X.A.units + 80 < cLine) : CallR X (.type "dict") (rC X true (oneD dictF)) :=
  call_one oneD_ok fun pins s σ H Q W d v u I wh hv ru q => by
    cases d with
    | lst l =>
      obtain ⟨a, vs, rfl, h1, h2⟩ := hv
      have q : (pairsInto l [] []).Sat fun d => Res (cOf X) true W H d Q := q
      rcases into_ok l [] [] with ⟨r, hr⟩ | hr
      · rw [hr] at q
        have q : Res (cOf X) true W H r Q := q
        cases ru
        by_cases hflat : ∀ k d l', l = .tup [k, d] :: l' → sortOf k = 0
        · obtain ⟨ps, more, rfl, hp, ds', rfl, hrep⟩ := into_flat (c := cOf X) (W := W) l [] [] vs r (by simp) .nil h2 hr fun _ => hflat
          refine call_dictP hc pins s σ H [.ref a] [.ref a] Q I (.cons rfl .nil) ⟨a, ps, more, rfl, .inl h1, ?_, fun p hp' => ?_⟩
          · exact paired_map (fun p kv x => x.ext wh.fz) hp
          · exact q (.ref p) _ W [p] (.new wh hp') ⟨p, _, rfl, wh.free hp', upd_same, .inl ⟨_, rfl, rfl, hrep⟩, rfl⟩ (by simpa using hp')
        · have hnest : ([] : List (NestedKey × Addr × Value)) = [] → ∀ k d l', l = .tup [k, d] :: l' → sortOf k = 1 := by
            intro _ k d l' e
            have : ¬ sortOf k = 0 := fun z => hflat fun k' d' l'' e' => by
              rw [e] at e'; cases e'; exact z
            cases k <;> first | rfl | exact absurd rfl this
          obtain ⟨_, its, nn, rv, ho⟩ := lstR I h1
          obtain ⟨ts, rfl, ht, h8, ds', us', rfl, hu1, hu2, hu3⟩ := into_nest (c := cOf X) (W := W) (fun p ku du => s.heap.IsTuple p #[ku, du]) l [] [] [] vs its r (by simp) .nil .nil .nil h2 hr (by simp) (by simp) hnest (fun p kv dv hm hq => by
            obtain ⟨its2, rv2, tp, _⟩ := I.tuple (show SqT X.K H p [kv, dv] from hq.ext wh.fz)
            obtain ⟨ku, du, rfl, r1, r2⟩ := vals2 rv2
            exact ⟨ku, du, r1, r2, tp⟩)
          have hl := rv.length
          rw [List.length_map] at hl
          have hst : ∀ t ∈ ts, (nestedKind X.prog X.w).is s.heap t.2.1 t.2.2.1 := fun t hm => by
            obtain ⟨dv, k1, k2, k3, k4, k5, k6⟩ := ht t hm
            exact ⟨rep_nested I wh _ _ _ k3 rfl, k5⟩
          have P := PairArg.list (prog := X.prog) (w := X.w) a its.toArray (fun j => (ts.getD j (0, .none, 0, .none)).1) (ts.map fun t => (Value.ref t.2.2.1, t.2.2.2))
          rw [List.length_map] at P
          have ok : PlainSeq "list" s.heap a its.toArray ∧ PairItems s.heap its.toArray (fun j => (ts.getD j (0, .none, 0, .none)).1) (ts.map fun t => (Value.ref t.2.2.1, t.2.2.2)) := by
            refine ⟨⟨_, nn, ho, rfl, rfl, rfl⟩, by simp [hl], fun jj k v hj => ?_⟩
            rw [List.getElem?_map] at hj
            cases et : ts[jj]? with
            | none => rw [et] at hj; cases hj
            | some t =>
              rw [et] at hj; cases hj
              obtain ⟨dv, k1, k2, k3, k4, k5, k6⟩ := ht t (List.mem_of_getElem? et)
              obtain ⟨u', hu', ru'⟩ := rv.get (i := jj) (x := V.ref t.1) (by rw [List.getElem?_map, et]; rfl)
              cases ru'
              have eg : ts.getD jj (0, .none, 0, .none) = t := getD_some et
              show its.toArray[jj]? = some (Value.ref (ts.getD jj (0, .none, 0, .none)).1) ∧ PairAt s.heap (ts.getD jj (0, .none, 0, .none)).1 _ _
              rw [eg]
              exact ⟨by simpa using hu', .inl k4⟩
          have hv : PairsHaveH (nestedKind X.prog X.w) ts.length (PairRel (ts.map fun t => (Value.ref t.2.2.1, t.2.2.2))) (ts.map (·.2)) := by
            refine ⟨by simp, fun jj k v hj => ?_⟩
            have hj : (ts.map fun t => (Value.ref t.2.2.1, t.2.2.2))[jj]? = some (k, v) := hj
            rw [List.getElem?_map] at hj
            cases et : ts[jj]? with
            | none => rw [et] at hj; cases hj
            | some t => rw [et] at hj; cases hj; exact ⟨t.2.1, t.2.2.1, by rw [List.getElem?_map, et]; rfl, rfl⟩
          refine call_dict_pairsH (knd := nestedKind X.prog X.w) (ps := ts.map (·.2)) (n := ts.length) (wr := []) P (I.ok.hd hc) (by show X.A.units + 1 + 1 + 8 < cLine; omega) ok hv (fun h' hk x hx => ?_) ?_ fun h' tk hd' hk => ?_
          · obtain ⟨t, hm, rfl⟩ := List.mem_map.mp hx
            obtain ⟨g1, g2⟩ := hst t hm
            exact ⟨g1.at (fun b o _ _ e _ => hk b o (Nat.ne_of_lt (Heap.lt_size e)) (by simp) e), g2⟩
          · have := (lstR I h1).1
            rw [List.length_map] at this
            exact this
          · have hf : H s.heap.objs.size = none := I.hok.fresh (Nat.le_refl _)
            have hx : (s.heap.objs.size == sysModules) = false := by
              have := I.big
              rw [beq_eq_false_iff_ne]; exact Nat.ne_of_gt this
            have hz : (storedAllH [] (ts.map (·.2))).length ≤ sizeLine := by
              have h9 : ∀ (ps xs : List (NestedKey × Addr × Value)), (storedAllH xs ps).length ≤ xs.length + ps.length := by
                intro ps
                induction ps with
                | nil => intro xs; simp [storedAllH]
                | cons p ps ih =>
                  intro xs
                  have := ih (storedH xs p.1 p.2.1 p.2.2)
                  have := storedH_length (xs := xs) (k := p.1) (a := p.2.1) (u := p.2.2)
                  show (storedAllH (storedH xs p.1 p.2.1 p.2.2) ps).length ≤ _
                  simp only [List.length_cons]; omega
              have := h9 (ts.map (·.2)) []
              have := (lstR I h1).1
              rw [List.length_map] at this
              simp only [List.length_nil, List.length_map] at *
              omega
            have new := dn_new (P := X.prog) (w := X.w) (H' := upd H s.heap.objs.size (.ext (DictN X.prog X.w s.heap.objs.size ((storedAllH [] (ts.map (·.2))).map fun x => (x.1, x.2.1)) us'))) hx hz hu1 hd' h8
            refine ⟨.ref s.heap.objs.size, _, I.laid (fun b u e => hk b u (by simp) e) (Nat.le_refl _) new, rfl, q _ _ W [s.heap.objs.size] (.new wh hf nc_dict) ⟨_, _, rfl, wh.free hf, upd_same, ?_, rfl⟩ (by simpa using hf)⟩
            have hne : storedAllH ([] : List (NestedKey × Addr × Value)) (ts.map (·.2)) ≠ [] := by
              cases ts with
              | nil =>
                exfalso
                have : l = [] := List.eq_nil_of_length_eq_zero (h2.length.trans rfl)
                subst this
                exact hflat fun k d l' e => by cases e
              | cons t ts =>
                show storedAllH (storedH [] t.2.1 t.2.2.1 t.2.2.2) (ts.map (·.2)) ≠ []
                have h9 : ∀ (ps xs : List (NestedKey × Addr × Value)), xs ≠ [] → storedAllH xs ps ≠ [] := by
                  intro ps
                  induction ps with
                  | nil => intro xs h; exact h
                  | cons p ps ih => intro xs h; exact ih _ storedH_ne
                exact h9 _ _ storedH_ne
            exact .inr ⟨_, us', rfl, by simpa using hne, by rw [List.map_map]; rfl, by rw [List.map_map]; exact hu3, hu2⟩
      · rw [hr] at q; exact q.elim
    | _ => exact q.elim
end
end Pv

set_option autoImplicit false
set_option linter.all false
set_option maxRecDepth 100000
/-! Pv: chains, the module's dicts, what a def's reading asks. -/
namespace Pv
open PySem L2
theorem hio0 {P : Nat × V × List (Addr × HO) → Prop} : ∀ p ∈ ([] : Io), P p := fun p h => absurd h (by simp)
section
variable {c : Cn} {B : Heap} {N : List Str} {sc : Scope} {fb : Str → Bool} {j k : Nat} {X : Cx} {io : Io} {G : Glo} {Φ : Phi} {F F1 F2 F' : List Bool} {e a d a3 tg it : Expr} {ie ia id i3 iit : IE} {b : Bool} {pos p : Pos} {n : Nat}
theorem i_low (h : EI X io G Φ tg it iit F F1) (hf : subL F' F1 = true) : EI X io G Φ tg it iit F F' :=
  ⟨fun pins s σ H RR I q => h.run pins s σ H RR I (by
    obtain ⟨G', W, ρ, E, sa⟩ := q
    exact ⟨G', W, ρ, E, sa.mono fun l f J H' W' l' E' wd => let ⟨W2, l2, E2⟩ := E'.lowers (fl_sub hf); f J H' W2 (l'.trans l2) E2 (by
      obtain ⟨h1, h2⟩ := wd
      exact ⟨h1, h2.mono (fun H ⟨W3, l3, i3⟩ => ⟨W3, l2.trans l3, i3⟩) fun i H x H' hi _ y W3 l3 i3 => y W3 (l2.trans l3) i3⟩)⟩)⟩
/-- a < b < c -/
theorem chain_sat {o o' : Op} (hc : isCmp o = true) {σ : St} {H : Hp} {Q : VK} (S : Sx c B N sc fb j X)
    (q : teD X io true (fun ρ => evE G Φ ρ (.chain o o' ia id i3)) (fl F) (fl F') σ H Q) (h34 : subL F' F2 = true) :
    tChain (rD X (opE Φ o)) (rD X (opE Φ o')) (teB X io (fun ρ => evE G Φ ρ ia) (fl F) (fl F1)) (teB X io (fun ρ => evE G Φ ρ id) (fl F1) (fl F2)) (teB X io (fun ρ => evE G Φ ρ i3) (fl F2) (fl F')) σ H Q := by
  obtain ⟨G', W, ρ, E, sa⟩ := q
  have sa := R.Sat.bind.mp (show ((evE G Φ ρ ia).bind fun x => (evE G Φ ρ id).bind fun y => (opE Φ o x y).bind fun z => match z with
    | .bl true => (evE G Φ ρ i3).bind fun w => opE Φ o' y w
    | .bl false => R.ok (.bl false)
    | _ => .bad).Sat _ from sa)
  refine ⟨G', W, ρ, E, sa.mono fun dx hx v1 H1 W1 l1 E1 b1 => ⟨G', W1, ρ, E1, (R.Sat.bind.mp hx).mono fun dy hy v2 H2 W2 l2 E2 b2 => ?_⟩⟩
  refine ⟨W2, dx, dy, E2.wh, (b1.mono l2).rd E2, b2.rd E2, (cmp_bl hc dx dy _ (R.Sat.bind.mp hy)).mono fun dz ⟨⟨kk, hk⟩, hz⟩ => ?_⟩
  subst hk
  intro v H' W' S' g x n
  obtain ⟨r, rfl⟩ := x
  have r : v = .bl kk := by simpa only [Rep] using r
  subst r
  have E3 := E2.grow g
  refine ⟨kk, rfl, ?_⟩
  cases kk with
  | true =>
    rw [if_pos rfl]
    have hz := R.Sat.bind.mp (show ((evE G Φ ρ i3).bind fun w => opE Φ o' dy w).Sat _ from hz)
    exact ⟨G', W', ρ, E3, hz.mono fun dw hw v3 H3 W3 l3 E4 b3 => ⟨W3, dy, dw, E4.wh, (b2.mono (g.le.trans l3)).rd E4, b3.rd E4, hw.mono fun d f => f.res ((l1.trans l2).trans (g.le.trans l3)) E4⟩⟩
  | false =>
    rw [if_neg Bool.false_ne_true]
    obtain ⟨W3, l3, E4⟩ := E3.lowers (fl_sub h34)
    exact (show Fin (cOf X) G' io σ ρ (fl F') W true (.bl false) Q from hz).bare ((l1.trans l2).trans (g.le.trans l3)) E4 rfl (by simp only [Rep])
theorem r_chain {o o' : Op} {po po' : CmpOp} (S : Sx c B N sc fb j X) (ho : OpR X (compareOp po) (rD X (opE Φ o))) (ho' : OpR X (compareOp po') (rD X (opE Φ o'))) (ha : EB X io G Φ a ia F F1) (hb : EB X io G Φ d id F1 F2) (hc : EB X io G Φ a3 i3 F2 F') (hm : lastMarks [po, po'] [d, a3] = false := by rfl) (hcmp : isCmp o = true := by rfl) (h34 : subL F' F2 = true := by rfl) :
    EE X io G Φ true (.Compare a [po, po'] [d, a3] pos) (.chain o o' ia id i3) F F' := (pe_chain ho ho' ha hb hc hm).imp fun σ H Q q => chain_sat hcmp S q h34
/-! the module's dicts with texts as keys -/
def DicOk (c : Cn) (G : Glo) : Prop := ∀ x ks vs, G.gdic x = some (ks, vs) → ∃ p, c.mg x = some (.ref p) ∧ ∀ y d, dlook ks vs y = some d → ∃ z v, y = .str z ∧ KDct c.K c.w p z v ∧ ∀ W, Rep c W d v
theorem r_gsub {x : Str} {xp : Pos} (S : Sx c B N sc fb j X) (g : DicOk c G) (hg : glC sc x = true) (hd : (x == ("__debug__" : Str)) = false) (hs : (G.gdic x).isSome = true) (ha : EB X io G Φ a ia F F') (hpl : PlainIx a := by intro _ _; rfl) :
    EE X io G Φ false (.Subscript (.Name x xp) a pos) (.gsub x ia) F F' := by
  obtain ⟨⟨ks, vs⟩, e⟩ := Option.isSome_iff_exists.mp hs
  obtain ⟨p, hm, h⟩ := g x ks vs e
  refine (pe_ix ix_kdict (pe_glob (S.gl hg) (by rw [S.mg]; exact hm) (v := .ref p) rfl hd) ha hpl).imp fun σ H Q ⟨G', W, ρ, E, s⟩ => ?_
  have s : ((evE G Φ ρ ia).bind fun y => match G.gdic x with
    | some (ks, vs) => match dlook ks vs y with | some d => R.ok d | none => .bad
    | none => .bad).Sat _ := s
  rw [e] at s
  refine ⟨G', W, ρ, E, (R.Sat.bind.mp s).mono fun y hy v H1 W1 l1 E1 b1 => ?_⟩
  have hz : (match dlook ks vs y with | some d => R.ok d | none => .bad).Sat fun d => Fin (cOf X) G' io σ ρ (fl F') W false d Q := hy
  clear hy
  cases hl : dlook ks vs y with
  | none => rw [hl] at hz; exact hz.elim
  | some d =>
    rw [hl] at hz
    obtain ⟨z, vv, rfl, kd, rep⟩ := h y d hl
    obtain ⟨rfl, _⟩ := rdv_str (b1.rd E1)
    exact ⟨p, z, vv, rfl, rfl, by rw [S.kk, S.ww]; exact kd, (show Fin (cOf X) G' io σ ρ (fl F') W false d Q from hz).rep l1 E1 (by rw [S.co]; exact rep W1)⟩
end
/-- the built-in names that stand free -/
def bltN : List Str := ["len", "tuple", "list", "sorted", "int", "abs", "all", "any", "sum", "dict", "divmod", "str", "set", "bool", "min", "max", "isinstance", "range", "enumerate", "zip", "reversed"]
/-- what a def's reading asks of its surroundings -/
structure Fx (c : Cn) (B : Heap) (G : Glo) (Φ : Phi) (sig : List (Str × (Nat × Bool))) (k : Nat) : Prop where
  cls : ClsOk c G.attrs
  gl : GlOk c G
  dic : DicOk c G
  val : ValOk c B G Φ k
  clo : CloOk c B Φ k
  bl : ∀ x, bltN.contains x = true → c.mg x = none
  fns : ∀ f n b, sig.lookup f = some (n, b) → C8.Cal c.P c.w c.K c.mg B k f (spF c b (Φ f []) n) []
end Pv

set_option autoImplicit false
set_option linter.all false
set_option maxRecDepth 100000
/-! Pv: enumerate over a list, a tuple, a text. -/
namespace Pv
open PySem L2
set_option maxHeartbeats 1000000 in
theorem meets_enum1 {v : Value} {o : Obj} {H : Heap → Prop} (Bg : Begins v o H) :
    Meets (Builtin.«enumerate.__new__» ⟨[.type "enumerate", v], []⟩) (fun _ R s => H s.heap ∧
      R (.ok (.ret (.ref (s.heap.push o).objs.size))) { s with heap := (s.heap.push o).push { cls := .type "enumerate", data := .fields #[.none, .bool false, .ref s.heap.objs.size, rawInt 0, .none, .none] } }) :=
  .of_wp fun prog w A R s h => by
    obtain ⟨hp, g, d, tk, os⟩ := s; obtain ⟨h1, h⟩ := h
    have hsub := sub_enumerate
    have q1 : ∀ {A' : Around} {E : Value → Shared → Prop} {Q : Value → Shared → Prop}, Q (.ref hp.objs.size) ⟨hp.push o, g, d, tk, os⟩ → wpAny (model prog w) A' (pyIter v) Q E ⟨hp, g, d, tk, os⟩ :=
      fun q => Bg.iter prog w _ _ ⟨hp, g, d, tk, os⟩ _ h1 q
    wp_walk using q1
    refine wpAny_stack_any fun st => wpAny_pure ?_
    split
    · rename_i c _ _ _ _ _
      cases (c == Value.type "enumerate")
      · wp_walk using q1
        exact ⟨_, rfl, h⟩
      · wp_walk using q1
        exact ⟨_, rfl, h⟩
    · wp_walk using q1
      exact ⟨_, rfl, h⟩
section
variable {prog : Program} {w : World} {A : Around} {E : Value → Shared → Prop} {s : Shared}
theorem enum_new {v : Value} {o : Obj} {H : Heap → Prop} {Q : Value → Shared → Prop} (Bg : Begins v o H) (h1 : H s.heap)
    (h : ∀ h', IsEnum h' (s.heap.objs.size + 1) s.heap.objs.size 0 .none → h'.get? s.heap.objs.size = some o → h'.objs.size = s.heap.objs.size + 2 →
      (∀ b o, s.heap.get? b = some o → h'.get? b = some o) → Q (.ref (s.heap.objs.size + 1)) { s with heap := h' }) :
    wpAny (model prog w) A (call (.type "enumerate") [v]) Q E s := by
  refine callType_new F.called_enumerate (by decide) (F.typeCall_enumerate_1 _) (F.newCall_enumerate_1 _) (fun obj => F.args_object_init_2 obj _) F.entry_enumerate_new
    (meets_enum1 Bg) ⟨h1, ?_⟩
  have hz : (s.heap.push o).objs.size = s.heap.objs.size + 1 := Heap.size_push ..
  show _ ∧ _
  rw [hz]
  have he : IsEnum ((s.heap.push o).push { cls := .type "enumerate", data := .fields #[.none, .bool false, .ref s.heap.objs.size, rawInt 0, .none, .none] }) (s.heap.objs.size + 1) s.heap.objs.size 0 .none := by
    have := Heap.get?_push_size (s.heap.push o) (o := { cls := .type "enumerate", data := .fields #[.none, .bool false, .ref s.heap.objs.size, rawInt 0, .none, .none] }) rfl
    rw [hz] at this; exact this
  refine ⟨⟨_, he, rfl⟩, h _ he (Heap.get?_push_of_some _ (Heap.get?_push_size _ Bg.free)) (by rw [Heap.size_push, hz]) fun b o x => Heap.get?_push_of_some _ (Heap.get?_push_of_some _ x)⟩
end
/-- what an enumerate counts along: n items of src, drawn by it while ok stands -/
structure Src (it : Addr) (n : Nat) (ok : PySem.W.Frag → Hp → Prop) (src : Nat → V → Prop) (Sti : Nat → Heap → Prop) : Prop where
  at_ : ∀ i h, Sti i h → ∃ o, h.get? it = some o ∧ ∀ v, o.data ≠ .cell v
  keep : ∀ i h h', Sti i h → (∀ o, h.get? it = some o → h'.get? it = some o) → Sti i h'
  draws : ∀ (X : Cx) (pins : List (Addr × Obj)) (σ : St) (H : Hp) (s : Shared) (i m : Nat) (e : Addr) (old : Value), X.calm = true → L2.Inv X pins σ H s → ok X.K H → Sti m s.heap → IsEnum s.heap e it (i : Int) old →
    ∃ (fp : List Addr) (P : Nat → Value → Prop) (Sd : Nat → Heap → Prop), Draws X.prog X.w X.A.in1 it fp n P Sd ∧ Sd m s.heap ∧ e ∉ fp ∧ (∀ i h, Sd i h → Sti i h) ∧ ∀ i v, P i v → ∃ x, RelV x v ∧ src i x
def ItE (K : PySem.W.Frag) (n : Nat) (ok : PySem.W.Frag → Hp → Prop) (src : Nat → V → Prop) : It :=
  ⟨fun i H => i < n ∧ ok K H, fun i H v H' => ∃ T x, v = .ref T ∧ H T = none ∧ H' = upd H T (.tup [.int (i : Nat), x]) ∧ src i x, fun i H => i = n ∧ ok K H⟩
theorem turn_enumG {P : Program} {w : World} {K : PySem.W.Frag} {elts : List Expr} {kk : Nat} {tpos : Pos} {e it : Addr} {n : Nat} {ok : PySem.W.Frag → Hp → Prop} {src : Nat → V → Prop} {Sti : Nat → Heap → Prop} (D : Src it n ok src Sti) :
    Turn P w K (.Tuple elts kk tpos) (ItE K n ok src) [e, it] e (fun i h => (∃ old, IsEnum h e it ((i : Nat) : Int) old) ∧ Sti i h ∧ e ≠ it) where
  mem := by simp
  obj := fun i h st b hb => by
    obtain ⟨⟨old, he⟩, hs, _⟩ := st
    have e' : b = e ∨ b = it := by simpa using hb
    rcases e' with z | z
    · rw [z]; exact ⟨_, he, fun v q => nomatch q⟩
    · rw [z]; exact D.at_ i h hs
  keep := fun i h h' st k => let ⟨⟨old, he⟩, hi, hne⟩ := st; ⟨⟨old, k e (by simp) _ he⟩, D.keep i h h' hi (fun o q => k it (by simp) o q), hne⟩
  item := by
    intro X hP hw hK hc i pins s σ H E I hf st hg
    subst hP hw hK
    obtain ⟨⟨old, he⟩, hit, hne⟩ := st
    obtain ⟨hi, hok⟩ := hg
    obtain ⟨fp, PP, Sd, DD, hsd, hef, hss, hrel⟩ := D.draws X pins σ H s i i e old hc I hok hit he
    have hel : e < s.heap.objs.size := Heap.lt_size he
    have hil : it < s.heap.objs.size := by obtain ⟨_, q, _⟩ := D.at_ i _ hit; exact Heap.lt_size q
    refine wpAny_pyNext_enum_itemD DD he hsd hi hne hef fun u h' tk hu ho hsd' hT hsz hk => ?_
    obtain ⟨x, ru, hx⟩ := hrel i u hu
    refine ⟨_, rfl, wpAny_letOwnedTupleGo_enum (s := { s with heap := h', toks := tk + 1 }) ho fun h'' he' sb => ?_⟩
    have hT2 : h''.get? s.heap.objs.size = some { cls := .type "tuple", data := .seq #[.int i tk, u] } := (sb.2 _ (Nat.ne_of_gt hel)).trans hT
    have new : ObjOk X.prog X.w (upd H s.heap.objs.size (.tup [.int (i : Nat), x])) h'' s.heap.objs.size (.tup [.int (i : Nat), x]) :=
      ⟨by show 2 ≤ sizeLine; decide, [.int i tk, u], .cons ⟨_, rfl⟩ (.cons ru .nil), ⟨_, hT2, rfl, _, rfl⟩⟩
    have I1 : L2.Inv X pins σ (upd H s.heap.objs.size (.tup [.int (i : Nat), x])) { s with heap := h'', toks := tk + 1 } :=
      I.turnedNew (ch := [e, it]) (fun b ob hb q => (sb.2 b (fun z => hb (by simp [z]))).trans (hk b ob (fun z => hb (by simp [z])) (fun z => hb (by simp [z])) q)) hf (Nat.le_refl _) new
    refine ⟨.ref s.heap.objs.size, _, I1, rfl, ⟨_, x, rfl, I.hok.fresh (Nat.le_refl _), rfl, hx⟩, ⟨⟨u, ?_⟩, D.keep _ _ _ (hss _ _ hsd') (fun o q => (sb.2 it (Ne.symm hne)).trans q), hne⟩, fun b hb => ?_⟩
    · have e1 : ((i + 1 : Nat) : Int) = (i : Int) + 1 := by omega
      rw [e1]; exact he'
    · have hb' : b < s.heap.objs.size := by
        have e' : b = e ∨ b = it := by simpa using hb
        rcases e' with z | z
        · rw [z]; exact hel
        · rw [z]; exact hil
      rw [upd_ne (Nat.ne_of_lt hb')]
      exact (hf b hb).1
  done := by
    intro X hP hw hK hc i pins s σ H E I hf st hg
    subst hP hw hK
    obtain ⟨⟨old, he⟩, hit, hne⟩ := st
    obtain ⟨rfl, hok⟩ := hg
    obtain ⟨fp, PP, Sd, DD, hsd, hef, hss, hrel⟩ := D.draws X pins σ H s i i e old hc I hok hit he
    obtain ⟨f0, f1, f2, f3, f4, f5⟩ := hf it (by simp)
    exact wpAny_pyNext_enum_endD DD he hsd fun h' eb => ⟨rfl, I.turned (t' := s.toks) (fun b o hb q => eb b o hb q) f0 f1 f3 f4 f5⟩
  self := fun A i s Q E st h => let ⟨⟨_, he⟩, _⟩ := st; wpAny_pyIter_enum he h
section
theorem src_tup {q it : Addr} {vs : List V} : Src it vs.length (fun K H => SqT K H q vs) (fun i x => vs[i]? = some x) (fun i h => h.IsTupleIter it q i) where
  at_ := fun i h st => let ⟨o, ho, _, hd⟩ := st; ⟨o, ho, fun v z => by rw [hd] at z; cases z⟩
  keep := fun i h h' st k => st.at fun o e => k o e
  draws := fun X pins σ H s i m e old hc I ok st he => by
    obtain ⟨its, rv, tp, hz⟩ := I.tuple ok
    have tp : s.heap.IsTuple q its.toArray := tp
    have hq : q ≠ it := fun z => by
      obtain ⟨o, ho, hcl, _⟩ := st
      obtain ⟨o', ho', hcl', _⟩ := tp
      rw [z, ho] at ho'; cases ho'
      rw [hcl] at hcl'; injection hcl' with hh; exact absurd hh (by decide)
    have hn : its.toArray.size = vs.length := by simp [rv.length]
    have DD := Draws.tuple (prog := X.prog) (w := X.w) (A := X.A.in1) (I.ok.hd hc) it q hq its.toArray
    rw [hn] at DD
    refine ⟨_, _, _, DD, ⟨st, tp⟩, fun z => ?_, fun i h x => x.1, fun i v hv => ?_⟩
    · have z : e = it ∨ e = q := by simpa using z
      rcases z with z | z
      · obtain ⟨o, ho, hcl, _⟩ := st
        rw [z] at he
        cases (ho.symm.trans he); injection hcl with hh; exact absurd hh (by decide)
      · obtain ⟨o', ho', hcl', _⟩ := tp
        rw [z] at he
        cases (ho'.symm.trans he); injection hcl' with hh; exact absurd hh (by decide)
    · have hv : its.toArray[i]? = some v := hv
      have hv : its[i]? = some v := by simpa using hv
      have hi := (List.getElem?_eq_some_iff.mp hv).1
      obtain ⟨u, hu, ru⟩ := rv.get (i := i) (x := vs[i]'(by rw [rv.length]; exact hi)) (by simp)
      rw [hv] at hu; cases hu
      exact ⟨_, ru, by simp⟩
theorem src_lst {q it : Addr} {vs : List V} : Src it vs.length (fun K H => SqL K H q vs) (fun i x => vs[i]? = some x) (fun i h => h.IsListIter it q i) where
  at_ := fun i h st => let ⟨o, ho, _, hd⟩ := st; ⟨o, ho, fun v z => by rw [hd] at z; cases z⟩
  keep := fun i h h' st k => st.at fun o e => k o e
  draws := fun X pins σ H s i m e old hc I ok st he => by
    obtain ⟨its, rv, tp, hz⟩ := I.list ok
    have tp : s.heap.IsList q its.toArray := tp.isList
    have hq : q ≠ it := fun z => by
      obtain ⟨o, ho, hcl, _⟩ := st
      obtain ⟨o', ho', hcl', _⟩ := tp
      rw [z, ho] at ho'; cases ho'
      rw [hcl] at hcl'; injection hcl' with hh; exact absurd hh (by decide)
    have hn : its.toArray.size = vs.length := by simp [rv.length]
    have DD := Draws.list (prog := X.prog) (w := X.w) (A := X.A.in1) (I.ok.hd hc) it q hq its.toArray
    rw [hn] at DD
    refine ⟨_, _, _, DD, ⟨st, tp⟩, fun z => ?_, fun i h x => x.1, fun i v hv => ?_⟩
    · have z : e = it ∨ e = q := by simpa using z
      rcases z with z | z
      · obtain ⟨o, ho, hcl, _⟩ := st
        rw [z] at he
        cases (ho.symm.trans he); injection hcl with hh; exact absurd hh (by decide)
      · obtain ⟨o', ho', hcl', _⟩ := tp
        rw [z] at he
        cases (ho'.symm.trans he); injection hcl' with hh; exact absurd hh (by decide)
    · have hv : its.toArray[i]? = some v := hv
      have hv : its[i]? = some v := by simpa using hv
      have hi := (List.getElem?_eq_some_iff.mp hv).1
      obtain ⟨u, hu, ru⟩ := rv.get (i := i) (x := vs[i]'(by rw [rv.length]; exact hi)) (by simp)
      rw [hv] at hu; cases hu
      exact ⟨_, ru, by simp⟩
theorem src_str {z : Str} {tk : Tok} {it : Addr} : Src it z.cps.size (fun _ _ => True) (fun i x => ∃ c, z.cps[i]? = some c ∧ x = .str ⟨#[c]⟩) (fun i h => h.IsStrIter it (strIterType z) z tk i) where
  at_ := fun i h st => let ⟨o, ho, _, hd⟩ := st; ⟨o, ho, fun v z => by rw [hd] at z; cases z⟩
  keep := fun i h h' st k => let ⟨o, ho, h1, h2⟩ := st; ⟨o, k o ho, h1, h2⟩
  draws := fun X pins σ H s i m e old hc I ok st he => by
    refine ⟨_, _, _, Draws.text (A := X.A.in1) (I.ok.hd hc) it z tk, st, fun q => ?_, fun i h x => x, fun i v hv => ?_⟩
    · have q : e = it := by simpa using q
      obtain ⟨o, ho, hcl, _⟩ := st
      rw [q] at he
      cases (ho.symm.trans he)
      unfold strIterType at hcl
      split at hcl <;> (injection hcl with hh; exact absurd hh (by decide))
    · obtain ⟨c, u, h1, rfl⟩ := hv
      exact ⟨.str ⟨#[c]⟩, ⟨u, rfl⟩, c, h1, rfl⟩
end
theorem enumL_get : ∀ {l : List D} {n i : Nat} {d : D}, l[i]? = some d → (enumL n l)[i]? = some (.tup [.int ((n + i : Nat) : Int), d])
  | [], n, i, d, h => by simp at h
  | x :: l, n, 0, d, h => by
    have h : x = d := by simpa using h
    subst h
    show some (D.tup [.int (n : Int), x]) = _
    rw [Nat.add_zero]
  | x :: l, n, i + 1, d, h => by
    have h : l[i]? = some d := by simpa using h
    have := enumL_get (n := n + 1) h
    show (enumL (n + 1) l)[i]? = _
    rw [this, show n + 1 + i = n + (i + 1) by omega]
theorem enumL_len : ∀ {l : List D} {n : Nat}, (enumL n l).length = l.length
  | [], n => rfl
  | x :: l, n => by show (enumL (n + 1) l).length + 1 = _; rw [enumL_len]; rfl
section
variable {c : Cn}
theorem walkD_enum {K : PySem.W.Frag} {W : Wd} {n : Nat} {ok : PySem.W.Frag → Hp → Prop} {src : Nat → V → Prop} {l : List D} (hl : l.length = n) (hz : n ≤ sizeLine) (hok : ∀ H W1, W.le W1 → W1.In H → ok K H) (hs : ∀ i x W1, W.le W1 → src i x → ∃ d, l[i]? = some d ∧ Rep c W1 d x) :
    WalkD c (ItE K n ok src) W (enumL 0 l) := by
  unfold WalkD
  rw [enumL_len, hl]
  refine ⟨hz, fun i H hi ⟨W1, l1, i1⟩ => ⟨hi, hok H W1 l1 i1⟩, fun H ⟨W1, l1, i1⟩ => ⟨rfl, hok H W1 l1 i1⟩, fun i H x H' hi _ y W1 l1 i1 => ?_⟩
  obtain ⟨T, xv, rfl, hT, rfl, sx⟩ := y
  obtain ⟨d, hd, rd⟩ := hs i xv W1 l1 sx
  have hle : W1.le (W1.put T (.tup [.int (i : Nat), xv])) := Wd.put_le (i1.free hT).1
  refine ⟨W1.put T (.tup [.int (i : Nat), xv]), _, .put i1 hT, enumL_get hd, ?_⟩
  simp only [Rep]
  refine ⟨T, _, rfl, SqT.of upd_same, .cons ?_ (.cons (rd.mono _ hle) .nil)⟩
  simp only [Rep, Nat.zero_add]
end
section
variable {c : Cn} {B : Heap} {N : List Str} {sc : Scope} {fb : Str → Bool} {j k : Nat} {X : Cx} {io : Io} {G : Glo} {Φ : Phi} {F F1 F2 F' : List Bool} {e a d : Expr} {ie ia : IE} {b : Bool} {pos p tpos : Pos} {elts : List Expr} {kk : Nat}
theorem i_enum (S : Sx c B N sc fb j X) (ha : EE X io G Φ b a ia F F') (hg : glC sc "enumerate" = true) (hm : c.mg "enumerate" = none) (hs : starEach [a] X.env = [(false, eval a X.env)] := by rfl) :
    EI X io G Φ (.Tuple elts kk tpos) (.Call (.Name "enumerate" p) [a] [] pos) (.enum ia) F F' := by
  refine ⟨fun pins s σ H RR I q => ?_⟩
  obtain ⟨G', W, ρ, E, sa⟩ := q
  have sa : ((evE G Φ ρ ia).bind fun x => (itemsD x).bind fun l => R.ok (enumL 0 l)).Sat _ := sa
  refine PyProof.Rows.Call_ (ld_blt I (S.gl hg) (by rw [S.mg]; exact hm) (show bootBuiltins ("enumerate" : Str) = some (.type "enumerate") from rfl) (PyProof.Rows.callWith_type1 (thn ((pa_cons ha.any pa_nil hs).run pos pins s σ H (fun xs H1 => ∃ x W' d l, xs = [x] ∧ W.le W' ∧ EnvOk (cOf X) G' io W' H1 σ ρ (fl F') ∧ Rep (cOf X) W' d x ∧ itemsD d = .ok l ∧
    ∀ J H' W', W.le W' → EnvOk (cOf X) G' io W' H' σ ρ (fl F') → WalkD (cOf X) J W' (enumL 0 l) → RR J H') I ⟨G', W, ρ, E, (R.Sat.bind.mp sa).mono fun d hd v H' W' S l1 E1 x n => ?_⟩) fun us s1 ⟨vs, H1, I1, r1, q1⟩ => ?_) hs rfl))
  · obtain ⟨r, rfl⟩ := x
    rw [addG_nil] at E1
    cases d with
    | tup l => exact ⟨_, W', _, l, rfl, l1, E1, r, rfl, hd⟩
    | lst l => exact ⟨_, W', _, l, rfl, l1, E1, r, rfl, hd⟩
    | str l => exact ⟨_, W', _, _, rfl, l1, E1, r, rfl, hd⟩
    | _ => exact hd.elim
  obtain ⟨x, W', d, l, rfl, l1, E1, r, hl, hR⟩ := q1
  obtain ⟨u, rfl, ru⟩ := vals1 r1
  have fin : ∀ {n : Nat} {ok : PySem.W.Frag → Hp → Prop} {src : Nat → V → Prop} {Sti : Nat → Heap → Prop} {o : Obj} {Hh : Heap → Prop}, Begins u o Hh → Hh s1.heap → Src s1.heap.objs.size n ok src Sti → (∀ h' : Heap, h'.get? s1.heap.objs.size = some o → Sti 0 h') →
      WalkD (cOf X) (ItE X.K n ok src) W' (enumL 0 l) → wpAny (model X.prog X.w) X.A (call (.type "enumerate") [u]) (fun v s1 => wpAny (model X.prog X.w) X.A (pyIter v) (PIE X pins σ (.Tuple elts kk tpos) RR) X.xe s1) X.xe s1 := by
    intro n ok src Sti o Hh Bg h0 sc hst wd
    refine enum_new Bg h0 fun h' he hit hsz hk => wpAny_pyIter_enum he ?_
    have I2 : L2.Inv X pins σ H1 { s1 with heap := h' } := I1.kept (t' := s1.toks) hk
    refine ⟨s1.heap.objs.size + 1, [s1.heap.objs.size + 1, s1.heap.objs.size], _, _, H1, rfl, I2, turn_enumG sc, ⟨⟨.none, he⟩, hst h' hit, Nat.succ_ne_self _⟩, fun b hb => ?_, hR _ _ W' l1 E1 wd⟩
    have e' : b = s1.heap.objs.size + 1 ∨ b = s1.heap.objs.size := by simpa using hb
    have hle : s1.heap.objs.size ≤ b := by
      rcases e' with z | z
      · rw [z]; exact Nat.le_add_right _ _
      · rw [z]; exact Nat.le_refl _
    exact I1.fpOk hle (I1.hok.fresh hle)
  cases d with
  | tup l =>
    cases hl
    obtain ⟨q, vs, rfl, h1, h2⟩ := (show ∃ a vs, x = .ref a ∧ SqT (cOf X).K W'.fz a vs ∧ RepL (cOf X) W' l vs by simpa only [Rep] using r)
    cases ru
    obtain ⟨its, rv, tp, hz⟩ := I1.tuple (h1.ext E1.wh.fz)
    exact fin (begins_tuple q its.toArray) tp (src_tup (vs := vs)) (fun h' e => ⟨_, e, rfl, rfl⟩) (walkD_enum h2.length hz (fun H W1 l2 i2 => (l2.sqt h1).ext i2.fz) fun i x W1 l2 hx => by
      obtain ⟨d, hd, rd⟩ := h2.getV hx
      exact ⟨d, hd, rd.mono _ l2⟩)
  | lst l =>
    cases hl
    obtain ⟨q, vs, rfl, h1, h2⟩ := (show ∃ a vs, x = .ref a ∧ Rd W'.fz a (.lst vs) ∧ RepL (cOf X) W' l vs by simpa only [Rep] using r)
    cases ru
    obtain ⟨its, rv, tp, hz⟩ := I1.list (.inl (rd_ext E1.wh.fz h1))
    exact fin (begins_list q its.toArray) tp.isList (src_lst (vs := vs)) (fun h' e => ⟨_, e, rfl, rfl⟩) (walkD_enum h2.length hz (fun H W1 l2 i2 => .inl (rd_ext i2.fz (l2.rd h1))) fun i x W1 l2 hx => by
      obtain ⟨d, hd, rd⟩ := h2.getV hx
      exact ⟨d, hd, rd.mono _ l2⟩)
  | str z =>
    cases hl
    obtain ⟨rfl, hz⟩ := (show x = .str z ∧ z.length ≤ sizeLine by simpa only [Rep] using r)
    obtain ⟨t, rfl⟩ := ru
    exact fin (begins_text z t) trivial (src_str (z := z) (tk := t)) (fun h' e => ⟨_, e, rfl, rfl⟩) (walkD_enum (by simp [chars]) hz (fun _ _ _ _ => trivial) fun i x W1 l2 hx => by
      obtain ⟨u, hu, rfl⟩ := hx
      exact ⟨_, chars_get hu, by simp only [Rep]; exact ⟨trivial, by show 1 ≤ sizeLine; decide⟩⟩)
  | _ => cases hl
end
end Pv

set_option autoImplicit false
set_option linter.all false
set_option maxRecDepth 100000
/-! Pv: right sides that change the frame; {}. -/
namespace Pv
open PySem L2
def teX (X : Cx) (io : Io) (b : Bool) (m : Env → R (D × Env)) (F F' : Nat → Bool) : TE := fun σ H Q =>
  ∃ G W ρ, EnvOk (cOf X) G io W H σ ρ F ∧ (m ρ).Sat fun r => ∀ v H' W' S, W.le W' → EnvOk (cOf X) (addG G H' S) io W' H' σ r.2 F' → OwnB (cOf X) W' H' b r.1 v S → (∀ a ∈ S, G a = none) → Q v H'
section
variable {c : Cn} {B : Heap} {N : List Str} {sc : Scope} {fb : Str → Bool} {j k : Nat} {X : Cx} {io : Io} {G : Glo} {Φ : Phi} {F F1 F2 F3 F4 F' Fb Fc Fn : List Bool} {e a d tg it elt : Expr} {ie ia id il iit ic : IE} {ix : IX} {b br : Bool} {pos p apos cpos xp : Pos} {es : List Expr} {n : Nat} {t ts : Tg} {ss rr ow : List Nat}
  {st : Stmt} {sts sts2 : List Stmt} {is is2 : IS} {i : Nat} {x : Str}
abbrev EX (X : Cx) (io : Io) (G : Glo) (Φ : Phi) (b : Bool) (e : Expr) (ix : IX) (F F' : List Bool) : Prop := PE X e (teX X io b (fun ρ => evX G Φ ρ ix) (fl F) (fl F'))
theorem x_e (h : EE X io G Φ b e ie F F') : EX X io G Φ b e (.e ie) F F' := h.imp fun σ H Q ⟨G', W, ρ, E, s⟩ => ⟨G', W, ρ, E, R.Sat.bind.mp (show ((evE G Φ ρ ie).bind fun d => R.ok (d, ρ)).Sat _ from s)⟩
theorem x_fz (h : EX X io G Φ b e ix F F') : EX X io G Φ false e ix F F' := by
  cases b with
  | false => exact h
  | true =>
    exact h.imp fun σ H Q ⟨G', W, ρ, E, s⟩ => ⟨G', W, ρ, E, s.mono fun r f v H' W' S l E' x n => by
      obtain ⟨W2, l2, E2, rr⟩ := E'.freeze n x
      exact f v H' W2 [] (l.trans l2) (by rw [addG_nil]; exact E2) ⟨rr, rfl⟩ (by simp)⟩
/-- a name is given away -/
theorem x_mv (S : Sx c B N sc fb j X) (hN : N[i]? = some x) (hv : visC sc x = true) (hd : ((x == ("__debug__" : Str)) || (x == ("__classdict__" : Str))) = false) (hF : fl F i = true) : EX X io G Φ true (.Name x pos) (.mv i) F F := by
  rw [Bool.or_eq_false_iff] at hd
  refine (pe_var (i := i) (by rw [S.nN]; exact hN) (S.vis hv) hd.1 hd.2).imp fun σ H Q ⟨G', W, ρ, E, s⟩ => ?_
  obtain ⟨d, hi, s⟩ := getV_of (R.Sat.bind.mp (show ((getV ρ i).bind fun d => R.ok (d, ρ.set i none)).Sat _ from s))
  obtain ⟨v, S', h1, x, n, E1⟩ := E.take hi hF
  exact ⟨v, h1, (show ∀ v H' W' S, W.le W' → EnvOk (cOf X) (addG G' H' S) io W' H' σ (ρ.set i none) (fl F) → OwnB (cOf X) W' H' true d v S → (∀ a ∈ S, G' a = none) → Q v H' from s) v H W S' (.refl W) E1 x n⟩
/-- .. frozen -/
theorem x_mvF (S : Sx c B N sc fb j X) (hN : N[i]? = some x) (hv : visC sc x = true) (hd : ((x == ("__debug__" : Str)) || (x == ("__classdict__" : Str))) = false) : EX X io G Φ false (.Name x pos) (.mv i) F F := by
  rw [Bool.or_eq_false_iff] at hd
  refine (pe_var (i := i) (by rw [S.nN]; exact hN) (S.vis hv) hd.1 hd.2).imp fun σ H Q ⟨G', W, ρ, E, s⟩ => ?_
  obtain ⟨d, hi, s⟩ := getV_of (R.Sat.bind.mp (show ((getV ρ i).bind fun d => R.ok (d, ρ.set i none)).Sat _ from s))
  obtain ⟨W1, l1, E1, g⟩ := E.lower i
  obtain ⟨v, h1, r⟩ := g d hi
  refine ⟨v, h1, (show ∀ v H' W' S, W.le W' → EnvOk (cOf X) (addG G' H' S) io W' H' σ (ρ.set i none) (fl F) → OwnB (cOf X) W' H' false d v S → (∀ a ∈ S, G' a = none) → Q v H' from s) v H W1 [] l1 ?_ ⟨r, rfl⟩ (by simp)⟩
  rw [addG_nil]
  obtain ⟨fp, h1, h2, h3, h4⟩ := E1.sl
  refine ⟨E1.wh, E1.g, by rw [List.length_set]; exact E1.len, ⟨fun m => if m = i then [] else fp m, fun m d' e => ?_, fun m q a hm hq => ?_, fun m a hm => ?_, fun m a hm => ?_⟩, E1.io⟩
  · have z : m ≠ i := fun z => by
      subst z
      rw [List.getElem?_set] at e
      split at e
      · split at e <;> cases e
      · exact absurd rfl (by assumption)
    rw [List.getElem?_set_ne (fun q => z q.symm)] at e
    obtain ⟨v, q1, q2⟩ := h1 m d' e
    simp only [if_neg z] at q2 ⊢
    exact ⟨v, q1, q2⟩
  · by_cases z : m = i
    · simp only [if_pos z] at hm; cases hm
    · by_cases z2 : q = i
      · simp only [if_pos z2] at hq; cases hq
      · simp only [if_neg z] at hm; simp only [if_neg z2] at hq; exact h2 m q a hm hq
  · by_cases z : m = i
    · simp only [if_pos z] at hm; cases hm
    · simp only [if_neg z] at hm; exact h3 m a hm
  · by_cases z : m = i
    · simp only [if_pos z] at hm; cases hm
    · simp only [if_neg z] at hm
      obtain ⟨d', e⟩ := h4 m a hm
      exact ⟨d', by rw [List.getElem?_set_ne (fun q => z q.symm)]; exact e⟩
/-! statements over them -/
theorem s_setX (S : Sx c B N sc fb j X) (h : EX X io G Φ b e ix F F1) (hN : N[i]? = some x) (hx : locC sc x = true) (hf : (fb x || decide (sc.names.lookup x = some .local)) = true) (hio : ∀ p ∈ io, p.1 ≠ i) (hF : decide (i < F1.length) = true)
    (hs : swapsWith e (some (.Name x xp)) pos.line X.env = pure false := by rfl) : ES X io G Φ n br (.Assign [.Name x xp] e pos) (.asg (.var i) ix) F (F1.set i b) Fb Fc := by
  refine (ps_set (by rw [S.nN]; exact S.nd) (by rw [S.nN]; exact hN) (S.loc hx) h hs ?_).imp fun D σ H hl ⟨G', W, ρ, E, s⟩ => ?_
  · rw [Bool.or_eq_true, decide_eq_true_eq] at hf
    rcases hf with h | h
    · exact .inl (S.fn x h)
    · exact .inr (by rw [S.sc]; exact h)
  · refine ⟨G', W, ρ, E, (R.Sat.bind.mp (show ((evX G Φ ρ ix).bind fun r => (asgT (.var i) r.1 r.2).bind fun ρ => R.ok (Fl.nx ρ)).Sat _ from s)).mono fun r q v H' W' S' l E' x n => ?_⟩
    have hi : i < r.2.length := by
      rw [E'.len, hl, S.nN]
      exact (List.getElem?_eq_some_iff.mp hN).1
    have q : ∀ σ' H' W', W.le W' → EnvOk (cOf X) G' io W' H' σ' (setV r.2 i r.1) (fl (F1.set i b)) → D.nx σ' H' := q
    refine q _ H' W' l ?_
    rw [← fl_put (of_decide_eq_true hF)]
    exact E'.store n x hi hio
theorem s_retX (h : EX X io G Φ br e ix F F1) : ES X io G Φ n br (.Return (some e) pos) (.ret ix) F Fn Fb Fc :=
  (ps_ret h).imp fun D σ H _ ⟨G', W, ρ, E, s⟩ => ⟨G', W, ρ, E, (R.Sat.bind.mp (show ((evX G Φ ρ ix).bind fun r => R.ok (Fl.rt r.1 r.2)).Sat _ from s)).mono fun d q v H' W' S l E' x n => q v σ H' W' S _ l E' x n⟩
theorem s_exprX (h : EX X io G Φ b e ix F F1) (hs : swapsWith e none pos.line X.env = pure false := by rfl) : ES X io G Φ n br (.Expr e pos) (.expr ix) F F1 Fb Fc :=
  (ps_expr (x_fz h) hs).imp fun D σ H _ ⟨G', W, ρ, E, s⟩ => ⟨G', W, ρ, E, (R.Sat.bind.mp (show ((evX G Φ ρ ix).bind fun r => R.ok (Fl.nx r.2)).Sat _ from s)).mono fun r q v H' W' S l E' x _ => by
    obtain ⟨_, rfl⟩ := x
    rw [addG_nil] at E'
    exact (show ∀ σ' H' W', W.le W' → EnvOk (cOf X) G' io W' H' σ' r.2 (fl F1) → D.nx σ' H' from q) σ H' W' l E'⟩
/-! x.pop(k) -/
theorem sat_at {W : Wd} {l : List D} {vs : List V} {kk : Int} {d : D} (r : RepL (cOf X) W l vs) (h : atIx l kk = some d) : seqIndex? kk vs.length = some (if 0 ≤ kk then kk.toNat else (kk + l.length).toNat) ∧ ∃ v, vs[if 0 ≤ kk then kk.toNat else (kk + l.length).toNat]? = some v ∧ Rep (cOf X) W d v := by
  have h1 := ixN_of h
  rw [r.length] at h1
  obtain ⟨h2, h3, h4, h5⟩ := ixN_seq h1
  refine ⟨by rw [r.length]; exact h2, ?_⟩
  unfold atIx at h
  by_cases h0 : 0 ≤ kk
  · rw [if_pos h0] at h ⊢
    exact r.get h
  · rw [if_neg h0] at h ⊢
    by_cases h6 : -(l.length : Int) ≤ kk
    · simp only [h6, if_true] at h
      exact r.get h
    · simp [h6] at h
theorem set_true {F : List Bool} {i : Nat} (hFl : decide (i < F.length) = true) (hF : fl F i = true) : F.set i true = F := by
  refine List.ext_getElem? fun m => ?_
  rw [List.getElem?_set]
  split
  · rename_i e; subst e
    have hlt := of_decide_eq_true hFl
    simp only [hlt, if_true]
    unfold fl at hF
    rw [List.getD_eq_getElem?_getD, List.getElem?_eq_getElem hlt] at hF
    rw [List.getElem?_eq_getElem hlt]
    simpa using hF.symm
  · rfl
theorem x_popK {ik : IE} (S : Sx c B N sc fb j X) (hN : N[i]? = some x) (hv : visC sc x = true) (hd : ((x == ("__debug__" : Str)) || (x == ("__classdict__" : Str))) = false) (he : EB X io G Φ a ik F F1) (hF : fl F1 i = true) (hFl : decide (i < F1.length) = true)
    (hfew : ((backTo cpos (starEach [a] X.env)).all (fun x => !x.1) && (backToKw cpos (keywordEach [] X.env)).all (fun x => x.1.isSome) && decide (([a] : List Expr).length + ([] : List Keyword).length + (if ([] : List Keyword).isEmpty then 0 else 1) < 30)) = true := by rfl)
    (hline : (apos.endLine == cpos.line) = true := by rfl) (hse : starEach [a] X.env = (false, eval a X.env) :: starEach [] X.env := by rfl) (hpl : (backTo cpos (starEach [] X.env)).any (·.1) = false := by rfl) :
    EX X io G Φ false (.Call (.Attribute (.Name x xp) "pop" apos) [a] [] cpos) (.pop i (.econs ik .enil)) F F1 := by
  rw [Bool.or_eq_false_iff] at hd
  refine (pe_bm PySem.F.plainAttrs_list PySem.F.slot_list_pop PySem.F.type_list_pop mt_popAt (pe_var (i := i) (by rw [S.nN]; exact hN) (S.vis hv) hd.1 hd.2) (pa_cons he pa_nil hse) (by rfl) hfew hline hse hpl).imp fun σ H Q ⟨G', W, ρ, E, s⟩ => ?_
  have s := R.Sat.bind.mp (R.Sat.bind.mp (show (((evE G Φ ρ ik).bind fun x => R.ok [x]).bind fun xs => (getV ρ i).bind fun d => match d, xs with
    | .lst l, [] => match l.getLast? with
      | some x => R.ok (x, setV ρ i (.lst l.dropLast))
      | none => .bad
    | .lst l, [.int k] => match (if mid k then atIx l k else none) with
      | some x => .ok (x, setV ρ i (.lst (l.eraseIdx (if 0 ≤ k then k.toNat else (k + l.length).toNat))))
      | none => .bad
    | _, _ => .bad).Sat _ from s))
  by_cases hl : ∃ l, ρ[i]? = some (some (.lst l))
  · obtain ⟨l, hi⟩ := hl
    obtain ⟨v, h1, h2⟩ := E.get hi
    obtain ⟨q, vs, rfl, h3, h4⟩ := h2
    refine ⟨.ref q, h1, .inl ⟨rfl, vs, .inl h3⟩, G', W, ρ, E, R.Sat.mono (fun dk q0 kv H1 W1 l1 E1 bk => ?_) s⟩
    have q0 := R.Sat.bind.mp (show ((getV ρ i).bind fun d => match d, [dk] with
      | .lst l, [] => match l.getLast? with
        | some x => R.ok (x, setV ρ i (.lst l.dropLast))
        | none => .bad
      | .lst l, [.int k] => match (if mid k then atIx l k else none) with
        | some x => .ok (x, setV ρ i (.lst (l.eraseIdx (if 0 ≤ k then k.toNat else (k + l.length).toNat))))
        | none => .bad
      | _, _ => .bad).Sat _ from q0)
    have eg : getV ρ i = .ok (.lst l) := by unfold getV; rw [hi]
    rw [eg] at q0
    cases dk with
    | int kk =>
      cases rdv_int (bk.rd E1)
      have q0 : (match (if mid kk then atIx l kk else none) with
        | some x => R.ok (x, setV ρ i (.lst (l.eraseIdx (if 0 ≤ kk then kk.toNat else (kk + l.length).toNat))))
        | none => .bad).Sat fun r => ∀ v H' W' S, W.le W' → EnvOk (cOf X) (addG G' H' S) io W' H' σ r.2 (fl F1) → OwnB (cOf X) W' H' false r.1 v S → (∀ a ∈ S, G' a = none) → Q v H' := q0
      cases hx : (if mid kk then atIx l kk else none) with
      | none => rw [hx] at q0; exact q0.elim
      | some d =>
        rw [hx] at q0
        obtain ⟨v', S', k1, k2, k3, E2⟩ := E1.take hi hF
        rw [h1] at k1; cases k1
        obtain ⟨a', o, e1, no, ho, ⟨vs', rfl, rv⟩, rfl⟩ := k2
        cases e1
        have hm : mid kk = true ∧ atIx l kk = some d := by
          by_cases z : mid kk = true
          · rw [if_pos z] at hx; exact ⟨z, hx⟩
          · rw [if_neg z] at hx; cases hx
        obtain ⟨hm, hx⟩ := hm
        simp only [mid, Bool.and_eq_true, decide_eq_true_eq] at hm
        obtain ⟨g1, y, g2, g3⟩ := sat_at rv hx
        refine ⟨q, vs', kk, _, y, rfl, rfl, ho, by omega, by omega, g1, g2, ?_⟩
        have E3 := (E2.putOwn (o := .lst (vs'.eraseIdx (if 0 ≤ kk then kk.toNat else (kk + l.length).toNat))) (by simp) no ho).putBack (b := true) (d := .lst (l.eraseIdx (if 0 ≤ kk then kk.toNat else (kk + l.length).toNat))) (v := .ref q) k3
          ⟨q, _, rfl, no, upd_same, ⟨_, rfl, rv.eraseIdx _⟩, rfl⟩ (List.getElem?_eq_some_iff.mp hi).1 h1
        rw [fl_keep hFl hF] at E3
        exact q0 y _ W1 [] l1 (by rw [addG_nil]; exact E3) ⟨g3, rfl⟩ (by simp)
    | _ => exact q0.elim
  · refine (R.Sat.no (s.mono fun d0 q0 => ?_)).elim
    obtain ⟨d, hi, q0⟩ := getV_of (R.Sat.bind.mp q0)
    cases d with
    | lst l => exact hl ⟨l, hi⟩
    | _ => exact q0.elim
/-- the right side leaves this slot as it is -/
def KeepsX (G : Glo) (Φ : Phi) (ix : IX) (i : Nat) : Prop := ∀ (ρ : Env) (P : D × Env → Prop), (evX G Φ ρ ix).Sat P → (evX G Φ ρ ix).Sat fun r => r.2[i]? = ρ[i]? ∧ P r
theorem keepX_e : KeepsX G Φ (.e ie) i := fun ρ P s => R.Sat.bind.mpr ((R.Sat.bind.mp (show ((evE G Φ ρ ie).bind fun d => R.ok (d, ρ)).Sat P from s)).mono fun d h => ⟨rfl, h⟩)
theorem keepX_pop {q : Nat} {ik : IE} (h : decide (q ≠ i) = true) : KeepsX G Φ (.pop q ik) i := fun ρ P s => by
  have h := of_decide_eq_true h
  refine R.Sat.bind.mpr ((R.Sat.bind.mp (show ((evL G Φ ρ ik).bind fun xs => (getV ρ q).bind fun d => match d, xs with
    | .lst l, [] => match l.getLast? with
      | some x => R.ok (x, setV ρ q (.lst l.dropLast))
      | none => .bad
    | .lst l, [.int k] => match (if mid k then atIx l k else none) with
      | some x => .ok (x, setV ρ q (.lst (l.eraseIdx (if 0 ≤ k then k.toNat else (k + l.length).toNat))))
      | none => .bad
    | _, _ => .bad).Sat P from s)).mono fun xs hs => R.Sat.bind.mpr ((R.Sat.bind.mp hs).mono fun d hd => ?_))
  have key : ∀ d', (setV ρ q d')[i]? = ρ[i]? := fun d' => List.getElem?_set_ne h
  split at hd
  · rename_i l
    have hd' := hd
    cases hx : l.getLast? with
    | some x => rw [hx] at hd'; simp only [hx]; exact ⟨key _, hd'⟩
    | none => rw [hx] at hd'; exact hd'.elim
  · rename_i l k
    have hd' := hd
    cases hx : (if mid k then atIx l k else none) with
    | some x => rw [hx] at hd'; simp only [hx]; exact ⟨key _, hd'⟩
    | none => rw [hx] at hd'; exact hd'.elim
  · exact hd.elim
theorem s_appendX (S : Sx c B N sc fb j X) (hN : N[i]? = some x) (hv : visC sc x = true) (hd : ((x == ("__debug__" : Str)) || (x == ("__classdict__" : Str))) = false) (he : EX X io G Φ b e ix F F1) (hkp : KeepsX G Φ ix i) (hF : fl F1 i = true) (hFl : decide (i < F1.length) = true)
    (hfew : ((backTo cpos (starEach [e] X.env)).all (fun x => !x.1) && (backToKw cpos (keywordEach [] X.env)).all (fun x => x.1.isSome) && decide (([e] : List Expr).length + ([] : List Keyword).length + (if ([] : List Keyword).isEmpty then 0 else 1) < 30)) = true := by rfl)
    (hline : (apos.endLine == cpos.line) = true := by rfl) (hse : starEach [e] X.env = (false, eval e X.env) :: starEach [] X.env := by rfl) (hpl : (backTo cpos (starEach [] X.env)).any (·.1) = false := by rfl)
    (hs : swapsWith (.Call (.Attribute (.Name x xp) "append" apos) [e] [] cpos) none pos.line X.env = pure false := by rfl) :
    ES X io G Φ n br (.Expr (.Call (.Attribute (.Name x xp) "append" apos) [e] [] cpos) pos) (.mt .append i ix) F F1 Fb Fc := by
  rw [Bool.or_eq_false_iff] at hd
  refine (ps_expr (pe_bm PySem.F.plainAttrs_list PySem.F.slot_list_append PySem.F.type_list_append mt_append (pe_var (i := i) (by rw [S.nN]; exact hN) (S.vis hv) hd.1 hd.2) (pa_cons (x_fz he) pa_nil hse) (by rfl) hfew hline hse hpl) hs).imp fun D σ H _ ⟨G', W, ρ, E, s⟩ => ?_
  have s := hkp ρ _ (R.Sat.bind.mp (show ((evX G Φ ρ ix).bind fun r => (getV r.2 i).bind fun d => (mtD .append d r.1).bind fun d => R.ok (Fl.nx (setV r.2 i d))).Sat _ from s))
  by_cases hl : ∃ l, ρ[i]? = some (some (.lst l))
  · obtain ⟨l, hi0⟩ := hl
    obtain ⟨v, h1, h2⟩ := E.get hi0
    obtain ⟨q, vs, rfl, h3, h4⟩ := h2
    refine ⟨.ref q, h1, .inl ⟨rfl, vs, .inl h3⟩, G', W, ρ, E, R.Sat.mono (fun r ⟨hkeep, q0⟩ xv H1 W1 S' l1 E1 xx nn => ?_) s⟩
    obtain ⟨rx, rfl⟩ := xx
    rw [addG_nil] at E1
    have hi : r.2[i]? = some (some (.lst l)) := by rw [hkeep]; exact hi0
    have eg : getV r.2 i = .ok (.lst l) := by unfold getV; rw [hi]
    rw [eg] at q0
    have q0 : ((if l.length < big then R.ok (Pv.D.lst (l ++ [r.1])) else .bad).bind fun d => R.ok (Fl.nx (setV r.2 i d))).Sat _ := q0
    obtain ⟨hz, q0⟩ := sat_ifp (R.Sat.bind.mp q0)
    obtain ⟨v', S', k1, k2, k3, E2⟩ := E1.take hi hF
    rw [h1] at k1; cases k1
    obtain ⟨a', o, e1, no, ho, ⟨vs', rfl, rv⟩, rfl⟩ := k2
    cases e1
    refine ⟨q, vs', xv, rfl, rfl, ho, by rw [← rv.length]; rw [big_eq] at hz; exact hz, ?_⟩
    have E4 := (E2.putOwn (o := .lst (vs' ++ [xv])) (by simp) no ho).putBack (b := true) (d := .lst (l ++ [r.1])) (v := .ref q) k3 ⟨q, _, rfl, no, upd_same, ⟨_, rfl, rv.append (.cons rx .nil)⟩, rfl⟩ (List.getElem?_eq_some_iff.mp hi).1 h1
    rw [fl_keep hFl hF] at E4
    exact (show ∀ σ' H' W', W.le W' → EnvOk (cOf X) G' io W' H' σ' (setV r.2 i (.lst (l ++ [r.1]))) (fl F1) → D.nx σ' H' from q0) σ _ W1 l1 E4
  · refine (R.Sat.no (s.mono fun r ⟨hkeep, q0⟩ => ?_)).elim
    obtain ⟨d, hi, q0⟩ := getV_of (R.Sat.bind.mp q0)
    rw [hkeep] at hi
    cases d with
    | lst l => exact hl ⟨l, hi⟩
    | _ => exact (R.Sat.bind.mp q0)
/-! {} -/
theorem r_dic0 : EE X io G Φ true (.Dict [] [] pos) (.dic .enil .enil) F F := pe_dnewK.imp fun σ H Q ⟨G', W, ρ, E, s⟩ p hp =>
  (show Fin (cOf X) G' io σ ρ (fl F) W true (.dic [] []) Q from s).res (.refl W) E (.ref p) _ W [p] (.new E.wh hp) ⟨p, _, rfl, E.wh.free hp, upd_same, .inl ⟨[], rfl, rfl, .nil⟩, rfl⟩ (by simpa using hp)
/-! sep.join(texts) -/
theorem joinL_eq (S : List Nat) : ∀ l : List (List Nat), joinL S l = TL.joinL S l
  | [] => rfl
  | [_] => rfl
  | a :: b :: l => by
    show a ++ S ++ joinL S (b :: l) = a ++ (S ++ TL.joinL S (b :: l))
    rw [joinL_eq S (b :: l), List.append_assoc]
theorem joinL_len (s : List Nat) : ∀ l : List (List Nat), (joinL s l).length ≤ (l.map (·.length)).sum + l.length * s.length
  | [] => by simp [joinL]
  | [a] => by simp [joinL]
  | a :: b :: l => by
    have := joinL_len s (b :: l)
    show (a ++ s ++ joinL s (b :: l)).length ≤ _
    simp only [List.length_append, List.map_cons, List.sum_cons, List.length_cons, Nat.add_mul, Nat.one_mul] at this ⊢
    omega
theorem join_fin {W : Wd} {H : Hp} {z : Str} {ys : List Str} {Q : VK} {C : Cn} (q : Res C true W H (.str (strOf (joinL z.cps.toList (ys.map (·.cps.toList))))) Q) (wh : W.In H) (hz : ((ys.map (·.cps.toList)).map (·.length)).sum + (ys.map (·.cps.toList)).length * z.length ≤ big) : Q (.str (Txt.join z ys)) H := by
  have e : Txt.join z ys = strOf (joinL z.cps.toList (ys.map (·.cps.toList))) := by
    refine TL.ext_tl ?_
    rw [TL.join_eq, TL.tl_join, joinL_eq]
    rfl
  rw [e]
  suffices hlen : (strOf (joinL z.cps.toList (ys.map (·.cps.toList)))).length ≤ sizeLine by
    exact q (.str _) H W [] (.refl wh) ⟨by simp only [Rep]; exact ⟨trivial, hlen⟩, rfl⟩ (by simp)
  have h1 := joinL_len z.cps.toList (ys.map (·.cps.toList))
  rw [big_eq] at hz
  have e2 : (strOf (joinL z.cps.toList (ys.map (·.cps.toList)))).length = (joinL z.cps.toList (ys.map (·.cps.toList))).length := by simp [strOf, Str.length]
  rw [e2]
  have e3 : z.cps.toList.length = z.length := by simp [Str.length]
  rw [e3] at h1
  omega
theorem r_join {o : Expr} {io2 : IE} (S : Sx c B N sc fb j X) (ho : EB X io G Φ o io2 F F1) (ha : EB X io G Φ a ia F1 F')
    (hbase : attributeBase o "join" X.env (eval o X.env) = eval o X.env := by rfl)
    (hfew : ((backTo cpos (starEach [a] X.env)).all (fun x => !x.1) && (backToKw cpos (keywordEach [] X.env)).all (fun x => x.1.isSome) && decide (([a] : List Expr).length + ([] : List Keyword).length + (if ([] : List Keyword).isEmpty then 0 else 1) < 30)) = true := by rfl)
    (hline : (apos.endLine == cpos.line) = true := by rfl) (hse : starEach [a] X.env = (false, eval a X.env) :: starEach [] X.env := by rfl) (hpl : (backTo cpos (starEach [] X.env)).any (·.1) = false := by rfl) :
    EE X io G Φ true (.Call (.Attribute o "join" apos) [a] [] cpos) (.mf .join io2 (.econs ia .enil)) F F' := by
  refine (pe_bm PySem.F.plainAttrs_str PySem.F.slot_str_join PySem.F.type_str_join mt_join ho (pa_cons ha pa_nil hse) hbase hfew hline hse hpl).imp fun σ H Q ⟨G', W, ρ, E, s⟩ => ?_
  have s := R.Sat.bind.mp (show ((evE G Φ ρ io2).bind fun x => ((evE G Φ ρ ia).bind fun y => R.ok [y]).bind fun xs => mfD .join x xs).Sat _ from s)
  refine ⟨G', W, ρ, E, s.mono fun dx hx v H1 W1 l1 E1 b1 => ?_⟩
  have hx := R.Sat.bind.mp (R.Sat.bind.mp hx)
  cases dx with
  | str z =>
    obtain ⟨rfl, hz⟩ := rdv_str (b1.rd E1)
    refine ⟨rfl, G', W1, ρ, E1, hx.mono fun dy hy v2 H2 W2 l2 E2 b2 => ?_⟩
    have hy : (joinF (.str z) dy).Sat fun d => Fin (cOf X) G' io σ ρ (fl F') W true d Q := hy
    cases dy with
    | lst l =>
      obtain ⟨p, vs, rfl, h1, h2⟩ := (show ∃ a vs, v2 = .ref a ∧ Rd H2 a (.lst vs) ∧ RepL (cOf X) W2 l vs from b2.rd E2)
      have hy : (match strsOf l with
        | some ts => if (ts.map (fun q : List Nat => q.length)).sum + ts.length * z.length ≤ big then R.ok (D.str (strOf (joinL z.cps.toList ts))) else .bad
        | none => .bad).Sat fun d => Fin (cOf X) G' io σ ρ (fl F') W true d Q := hy
      cases hs : strsOf l with
      | none => rw [hs] at hy; exact hy.elim
      | some ts =>
        rw [hs] at hy
        obtain ⟨hb, hy⟩ := sat_ifp hy
        obtain ⟨ys, rfl, rfl, hys⟩ := rep_strs h2 hs
        refine ⟨z, p, ys, rfl, rfl, .inl (.inl h1), ?_, join_fin ((show Fin (cOf X) G' io σ ρ (fl F') W true _ Q from hy).res (l1.trans l2) E2) E2.wh hb⟩
        have e1 : (ys.map (fun y : Str => y.cps.toList)).map (fun l : List Nat => l.length) = ys.map (fun y : Str => y.length) := by rw [List.map_map]; rfl
        rw [e1, List.length_map] at hb
        exact hb
    | _ => exact hy.elim
  | _ => exact (R.Sat.no (hx.mono fun dy hy => by cases dy <;> exact hy)).elim
end
end Pv

set_option autoImplicit false
set_option linter.all false
set_option maxRecDepth 100000
/-! Pv: two names at once, the rest. -/
namespace Pv
open PySem L2
section
variable {c : Cn} {B : Heap} {N : List Str} {sc : Scope} {fb : Str → Bool} {j k : Nat} {X : Cx} {io : Io} {G : Glo} {Φ : Phi} {F F1 F2 F3 F4 F' Fb Fc Fn : List Bool} {e a d tg it elt : Expr} {ie ia id il iit ic : IE} {ix : IX} {b br b1 b2 : Bool} {pos p apos cpos xp : Pos} {es : List Expr} {n : Nat} {t ts : Tg} {ss rr ow : List Nat}
  {st : Stmt} {sts sts2 : List Stmt} {is is2 : IS} {i : Nat} {x : Str}
def notStar : Expr → Bool
  | .Starred .. => false
  | _ => true
theorem sw_par {y : Str} {px py pt pt2 : Pos} {kt k2 : Nat} {env : PySem.Env} (hk : env.scope.kind = .function) (hx : env.scope.names.lookup x = some .local) (hy : env.scope.names.lookup y = some .local) (hxy : (x == y) = false) (hl : (py.line == px.line) = true)
    (hs : (notStar a && notStar d) = true) (h1 : ([a, d].all (foldedForSure 8)) = false) (h2 : ([a, d].all (constantsAlone 8)) = false) :
    swappedStores [.Tuple [.Name x px, .Name y py] kt pt] (.Tuple [a, d] k2 pt2) env = pure (some [x, y]) := by
  have kx : env.kindOf x = some .local := hx
  have ky : env.kindOf y = some .local := hy
  have hb : env.blockKind = .function := by unfold Env.blockKind; rw [hk]; rfl
  rw [Bool.and_eq_true] at hs
  have hst : ([a, d].any fun | .Starred .. => true | _ => false) = false := by
    obtain ⟨s1, s2⟩ := hs
    have ns : ∀ e : Expr, (match e with | .Starred .. => true | _ => false) = !notStar e := fun e => by cases e <;> rfl
    simp only [List.any_cons, List.any_nil, ns, s1, s2]
    rfl
  have hn : ([Expr.Name x px, Expr.Name y py].filterMap fun
    | .Name id pos => if env.kindOf id == some .local && pos.line == (([Expr.Name x px, Expr.Name y py].head?.map (·.pos.line)).getD 0) then some id else none
    | _ => none) = [x, y] := by
    have e0 : (([Expr.Name x px, Expr.Name y py].head?.map (·.pos.line)).getD 0) = px.line := rfl
    rw [e0]
    simp only [List.filterMap_cons, List.filterMap_nil, kx, ky, hl]
    simp
  have he : [x, y].eraseDups.length = [x, y].length := by
    have : [x, y].eraseDups = [x, y] := by
      rw [List.eraseDups_cons]
      have hyx : (y == x) = false := by rw [BEq.comm]; exact hxy
      simp [hyx, List.eraseDups_cons]
    rw [this]
  unfold swappedStores
  simp only []
  erw [hst, hn, he, hb, h1, h2]
  rfl
theorem s_par2 {y : Str} {i2 : Nat} {px py pt : Pos} {kt k2 : Nat} {pt2 : Pos} (S : Sx c B N sc fb j X) (ha : EE X io G Φ b1 a ia F F1) (hb : EE X io G Φ b2 d id F1 F2) (hN : N[i]? = some x) (hN2 : N[i2]? = some y) (hij : decide (i ≠ i2) = true)
    (hx : sc.names.lookup x = some .local) (hy : sc.names.lookup y = some .local) (hio : ∀ p ∈ io, p.1 ≠ i) (hio2 : ∀ p ∈ io, p.1 ≠ i2) (hF : (decide (i < F2.length) && decide (i2 < F2.length)) = true)
    (hk : sc.kind = .function) (hxy : (x == y) = false) (hl : (py.line == px.line) = true) (hst : (notStar a && notStar d) = true) (h1 : ([a, d].all (foldedForSure 8)) = false) (h2 : ([a, d].all (constantsAlone 8)) = false)
    (hse : starEach [a, d] X.env = (false, eval a X.env) :: starEach [d] X.env := by rfl) (hse2 : starEach [d] X.env = (false, eval d X.env) :: starEach [] X.env := by rfl)
    (hs : swapsWithSole [.Tuple [.Name x px, .Name y py] kt pt] (.Tuple [a, d] k2 pt2) pos.line X.env = pure false := by rfl) :
    ES X io G Φ n br (.Assign [.Tuple [.Name x px, .Name y py] kt pt] (.Tuple [a, d] k2 pt2) pos) (.par [i, i2] [.e ia, .e id]) F ((F2.set i2 b2).set i b1) Fb Fc :=
  s_par S ha hb hN hN2 hij hx hy hio hio2 hF hse hse2 (sw_par (by rw [S.sc]; exact hk) (by rw [S.sc]; exact hx) (by rw [S.sc]; exact hy) hxy hl hst h1 h2) hs
/-- a name that is no plain local: the tuple is laid -/
theorem sw_parN {y : Str} {px py pt pt2 : Pos} {kt k2 : Nat} {env : PySem.Env} (hk : env.scope.kind = .function) (hxy : (env.scope.names.lookup x == some .local && env.scope.names.lookup y == some .local) = false)
    (hs : (notStar a && notStar d) = true) : swappedStores [.Tuple [.Name x px, .Name y py] kt pt] (.Tuple [a, d] k2 pt2) env = pure none := by
  have hb : env.blockKind = .function := by unfold Env.blockKind; rw [hk]; rfl
  rw [Bool.and_eq_true] at hs
  have hst : ([a, d].any fun | .Starred .. => true | _ => false) = false := by
    obtain ⟨s1, s2⟩ := hs
    have ns : ∀ e : Expr, (match e with | .Starred .. => true | _ => false) = !notStar e := fun e => by cases e <;> rfl
    simp only [List.any_cons, List.any_nil, ns, s1, s2]
    rfl
  have hn : (([Expr.Name x px, Expr.Name y py].filterMap fun
    | .Name id pos => if env.kindOf id == some .local && pos.line == (([Expr.Name x px, Expr.Name y py].head?.map (·.pos.line)).getD 0) then some id else none
    | _ => none).length != 2) = true := by
    have kx : env.kindOf x = env.scope.names.lookup x := rfl
    have ky : env.kindOf y = env.scope.names.lookup y := rfl
    simp only [List.filterMap_cons, List.filterMap_nil, kx, ky]
    cases h1 : (env.scope.names.lookup x == some .local)
    · simp only [Bool.false_and, Bool.false_eq_true, if_false]
      split <;> simp
    · rw [h1, Bool.true_and] at hxy
      simp only [hxy, Bool.false_and, Bool.false_eq_true, if_false]
      split <;> simp
  unfold swappedStores
  simp only []
  erw [hst]
  simp only [hb]
  erw [if_neg (show ¬ (false = true) from Bool.false_ne_true), if_neg (show ¬ (false = true) from Bool.false_ne_true), if_pos (by erw [hn]; rfl)]
theorem s_parC {y : Str} {i2 : Nat} {px py pt : Pos} {kt k2 : Nat} {pt2 : Pos} (S : Sx c B N sc fb j X) (ha : EE X io G Φ b1 a ia F F1) (hb : EE X io G Φ b2 d id F1 F2) (hN : N[i]? = some x) (hN2 : N[i2]? = some y) (hij : decide (i ≠ i2) = true)
    (hx : locC sc x = true) (hy : locC sc y = true) (hfb : (fb x && fb y) = true) (hio : ∀ p ∈ io, p.1 ≠ i) (hio2 : ∀ p ∈ io, p.1 ≠ i2) (hF : (decide (i < F2.length) && decide (i2 < F2.length)) = true)
    (hk : sc.kind = .function) (hxy : (sc.names.lookup x == some .local && sc.names.lookup y == some .local) = false) (hst : (notStar a && notStar d) = true)
    (hse : starEach [a, d] X.env = (false, eval a X.env) :: starEach [d] X.env := by rfl) (hse2 : starEach [d] X.env = (false, eval d X.env) :: starEach [] X.env := by rfl)
    (hn : (assignEach [.Name x px, .Name y py] X.env).length = 2 := by rfl) (hst2 : (assignEach [.Name x px, .Name y py] X.env).findIdx? (·.1) = none := by rfl)
    (hg1 : (assignEach [.Name x px, .Name y py] X.env).map (·.2) = assign (.Name x px) X.env :: (assignEach [.Name y py] X.env).map (·.2) := by rfl) (hg2 : (assignEach [.Name y py] X.env).map (·.2) = assign (.Name y py) X.env :: (assignEach [] X.env).map (·.2) := by rfl)
    (hs : swapsWithSole [.Tuple [.Name x px, .Name y py] kt pt] (.Tuple [a, d] k2 pt2) pos.line X.env = pure false := by rfl)
    (h1 : (assignEach [.Tuple [.Name x px, .Name y py] kt pt] X.env).map (·.2) = [assign (.Tuple [.Name x px, .Name y py] kt pt) X.env] := by rfl) :
    ES X io G Φ n br (.Assign [.Tuple [.Name x px, .Name y py] kt pt] (.Tuple [a, d] k2 pt2) pos) (.par [i, i2] [.e ia, .e id]) F ((F2.set i2 b2).set i b1) Fb Fc := by
  have hij := of_decide_eq_true hij
  rw [Bool.and_eq_true, decide_eq_true_eq, decide_eq_true_eq] at hF
  have hw := sw_parN (x := x) (y := y) (px := px) (py := py) (pt := pt) (pt2 := pt2) (kt := kt) (k2 := k2) (env := X.env) (by rw [S.sc]; exact hk) (by rw [S.sc]; exact hxy) hst
  have hnd : X.N.Nodup := by rw [S.nN]; exact S.nd
  refine (ps_asg (pe_tup (pa_cons ha (pa_cons hb pa_nil hse2) hse)) (pg_tup S.calm (pgs_cons (pg_name hnd (by rw [S.nN]; exact hN) (S.loc hx) (.inl (S.fn x (Bool.and_eq_true _ _ ▸ hfb).1))) (pgs_cons (pg_name hnd (by rw [S.nN]; exact hN2) (S.loc hy) (.inl (S.fn y (Bool.and_eq_true _ _ ▸ hfb).2))) pgs_nil hg2) hg1) hn hst2) hs hw h1).imp fun D σ H hl ⟨G', W, ρ, E, s⟩ => ?_
  have hi : i < ρ.length := by rw [E.len, hl, S.nN]; exact (List.getElem?_eq_some_iff.mp hN).1
  have hi2 : i2 < ρ.length := by rw [E.len, hl, S.nN]; exact (List.getElem?_eq_some_iff.mp hN2).1
  have s := R.Sat.bind.mp (R.Sat.bind.mp (R.Sat.bind.mp (show (((evE G Φ ρ ia).bind fun d => R.ok (d, ρ)).bind fun r => ((((evE G Φ r.2 id).bind fun d => R.ok (d, r.2)).bind fun r' => R.ok ([r'.1], r'.2)).bind fun s => R.ok (r.1 :: s.1, s.2))).bind (fun r => R.ok (Fl.nx (([i, i2].zip r.1).foldl (fun ρ o => setV ρ o.1 o.2) r.2))) |>.Sat _ from s)))
  refine ⟨G', W, ρ, E, s.mono fun d1 q v1 H1 W1 S1 l1 E1 x1 n1 => ?_⟩
  have q := R.Sat.bind.mp (R.Sat.bind.mp (R.Sat.bind.mp (show ((((evE G Φ ρ id).bind fun d => R.ok (d, ρ)).bind fun r' => R.ok ([r'.1], r'.2)).bind fun s => R.ok (d1 :: s.1, s.2)).Sat _ from q)))
  refine ⟨addG G' H1 S1, W1, ρ, E1, q.mono fun d2 q v2 H2 W2 S2 l2 E2 x2 n2 => ⟨by show 2 ≤ sizeLine; decide, fun p hp => ?_⟩⟩
  have q : ∀ σ' H' W', W.le W' → EnvOk (cOf X) G' io W' H' σ' (setV (setV ρ i d1) i2 d2) (fl ((F2.set i2 b2).set i b1)) → D.nx σ' H' := q
  have k1 : ∀ a ∈ S1, ∀ o, H1 a = some o → H2 a = some o ∧ W2.no a := fun a ha o ho => E2.g a o (by
    have e : addG G' H1 S1 a = some o := by unfold addG; rw [if_pos ha]; exact ho
    unfold addG
    rw [if_neg (fun z => by have := n2 a z; rw [e] at this; cases this)]
    rw [if_pos ha]; exact ho)
  have x1' : OwnB (cOf X) W2 H2 b1 d1 v1 S1 := x1.keep l2 (fun a ha o ho => (k1 a ha o ho).1) fun a ha => by
    obtain ⟨_, o, ho⟩ := x1.at a ha
    exact (k1 a ha o ho).2
  have gr : Grow W2 H2 W2 (upd H2 p (.tup [v1, v2])) := .new E2.wh hp
  have kp2 : ∀ {b : Bool} {d : Pv.D} {v : V} {S : List Addr}, OwnB (cOf X) W2 H2 b d v S → OwnB (cOf X) W2 (upd H2 p (.tup [v1, v2])) b d v S := fun {b d v S} xx => xx.keep (.refl W2) (fun a ha o ho => (gr.kp a o ho (xx.at a ha).1).1) fun a ha => (xx.at a ha).1
  have agree : ∀ {b : Bool} {d : Pv.D} {v : V} {S : List Addr} {G0 : Hp}, OwnB (cOf X) W2 H2 b d v S → addG G0 H2 S = addG G0 (upd H2 p (.tup [v1, v2])) S := fun {b d v S G0} xx => by
    funext a
    unfold addG
    by_cases z : a ∈ S
    · obtain ⟨nn, o, ho⟩ := xx.at a z
      rw [if_pos z, if_pos z, ho, (gr.kp a o ho nn).1]
    · rw [if_neg z, if_neg z]
  have eG : addG G' H1 S1 = addG G' H2 S1 := by
    funext a
    unfold addG
    by_cases z : a ∈ S1
    · obtain ⟨_, o, ho⟩ := x1.at a z
      rw [if_pos z, if_pos z, ho, (k1 a z o ho).1]
    · rw [if_neg z, if_neg z]
  have E2' := E2.grow gr
  rw [agree x2] at E2'
  have E3 := E2'.store n2 (kp2 x2) hi2 hio2
  rw [eG, agree x1', fl_put hF.2] at E3
  have E4 := E3.store n1 (kp2 x1') (by unfold setV; rw [List.length_set]; exact hi) hio
  rw [fl_put (by rw [List.length_set]; exact hF.1)] at E4
  have e1 : (σ.set i2 (some v2)).set i (some v1) = (σ.set i (some v1)).set i2 (some v2) := List.set_comm _ _ (fun z => hij z.symm)
  have e2 : setV (setV ρ i2 d2) i d1 = setV (setV ρ i d1) i2 d2 := by unfold setV; exact List.set_comm _ _ (fun z => hij z.symm)
  rw [e1, e2] at E4
  exact ⟨p, [v1, v2], rfl, .inl (.inl upd_same), rfl, v1, [v2], rfl, v2, [], rfl, rfl, q _ _ _ (l1.trans l2) E4⟩
/-- a list comprehension set to a name that a block holds -/
theorem sw_cell {elt : Expr} {gs : List Comprehension} {scope : Scope} {py : Pos} {l : Nat} (S : Sx c B N sc fb j X) (h : (sc.names.lookup x == some .local) = false) : swapsWith (.ListComp elt gs scope pos) (some (.Name x py)) l X.env = pure false := by
  have kx : (X.env.kindOf x == some .local) = false := by unfold Env.kindOf; rw [S.sc]; exact h
  unfold swapsWith
  simp only [kx, Bool.and_false, Bool.false_and]
end
end Pv

set_option autoImplicit false
set_option linter.all false
set_option maxRecDepth 100000
/-! Pv: own classes. -/
namespace Pv
open PySem L2
theorem putF_zip {f : Str} {y : V} : ∀ {ns : List Str} {vs : List V}, ns.length = vs.length → f ∉ ns → putF f y (ns.zip vs) = (ns ++ [f]).zip (vs ++ [y])
  | [], [], _, _ => rfl
  | n :: ns, v :: vs, h, hf => by
    simp only [List.mem_cons, not_or] at hf
    show (if n = f then _ else (n, v) :: putF f y (ns.zip vs)) = (n, v) :: (ns ++ [f]).zip (vs ++ [y])
    rw [if_neg (fun e => hf.1 e.symm), putF_zip (by simpa using h) hf.2]
  | [], _ :: _, h, _ => by simp at h
  | _ :: _, [], h, _ => by simp at h
theorem nodup_snoc {ns : List Str} {f : Str} (h : ns.Nodup) (hf : f ∉ ns) : (ns ++ [f]).Nodup := by
  rw [List.nodup_append]
  refine ⟨h, by simp, fun a h1 b h2 e => hf ?_⟩
  have h2 : b = f := by simpa using h2
  rw [← h2, ← e]
  exact h1
section
variable {c : Cn} {B : Heap} {N : List Str} {sc : Scope} {fb : Str → Bool} {j k : Nat} {X : Cx} {io : Io} {G : Glo} {Φ : Phi} {F F1 F2 F' Fb Fc Fn : List Bool} {e a d : Expr} {ie ia id : IE} {b br : Bool} {pos p pos' xp : Pos} {n : Nat} {i : Nat} {x f : Str}
/-- self.f = e -/
theorem s_setAttr (S : Sx c B N sc fb j X) (hc : ClsOk c G.attrs) (he : EE X io G Φ b e ie F F1) (hN : N[i]? = some x) (hv : visC sc x = true) (hd : ((x == ("__debug__" : Str)) || (x == ("__classdict__" : Str))) = false) (hF : fl F1 i = true) (hFl : decide (i < F1.length) = true) (hf : (f == ("__class__" : Str)) = false)
    (hs : swapsWith e (some (.Attribute (.Name x xp) f pos')) pos.line X.env = pure false := by rfl) :
    ES X io G Φ n br (.Assign [.Attribute (.Name x xp) f pos'] e pos) (.setAttr i f (.e ie)) F F1 Fb Fc := by
  rw [Bool.or_eq_false_iff] at hd
  refine (ps_fld (pe_var (i := i) (by rw [S.nN]; exact hN) (S.vis hv) hd.1 hd.2) he.any hs).imp fun D σ H _ ⟨G', W, ρ, E, s⟩ => ?_
  have s := R.Sat.bind.mp (R.Sat.bind.mp (show (((evE G Φ ρ ie).bind fun d => R.ok (d, ρ)).bind fun r => (getV r.2 i).bind fun d => (putAttr G.attrs d f r.1).bind fun d => R.ok (Fl.nx (setV r.2 i d))).Sat _ from s))
  refine ⟨G', W, ρ, E, s.mono fun dv q yv H1 W1 S' l1 E1 xx nn => ?_⟩
  obtain ⟨ry, rfl⟩ := xx
  rw [addG_nil] at E1
  obtain ⟨d, hi, q⟩ := getV_of (R.Sat.bind.mp (show ((getV ρ i).bind fun d => (putAttr G.attrs d f dv).bind fun d => R.ok (Fl.nx (setV ρ i d))).Sat _ from q))
  obtain ⟨v, S', h1, x2, k3, E2⟩ := E1.take hi hF
  cases d with
  | obj cl ns ds =>
    have q : ((if G.attrs cl f && !(ns.contains f) && decide (ns.length < 900) then R.ok (Pv.D.obj cl (ns ++ [f]) (ds ++ [dv])) else .bad).bind fun d => R.ok (Fl.nx (setV ρ i d))).Sat _ := q
    obtain ⟨hh, q⟩ := sat_if (R.Sat.bind.mp q)
    simp only [Bool.and_eq_true, Bool.not_eq_true', decide_eq_true_eq] at hh
    obtain ⟨⟨ha, hnf⟩, hz⟩ := hh
    have hnf : f ∉ ns := fun z => by rw [List.contains_iff_mem.mpr z] at hnf; cases hnf
    obtain ⟨ad, C, dx, vs, rfl, no, nod, ho, hod, hm, hl, hnd, rl, rfl⟩ := x2
    have hcl := hc.attr cl f C ha (fun z => by rw [z] at hf; exact absurd hf (by decide)) (by have hm : X.mg cl = some (.ref C) := hm; rw [S.mg] at hm; exact hm)
    have hne : ad ≠ dx := fun z => by rw [z, hod] at ho; cases ho
    refine ⟨_, h1, ad, C, dx, ns.zip vs, rfl, ho, by rw [S.kk]; exact hcl.1, by rw [S.kk]; exact hcl.2, by rw [List.length_zip]; omega, ?_⟩
    rw [putF_zip hl hnf]
    have E4 := (E2.putOwn (o := .ins C dx ((ns ++ [f]).zip (vs ++ [yv]))) (by simp) no ho).putBack (b := true) (d := .obj cl (ns ++ [f]) (ds ++ [dv])) (v := .ref ad) k3
      ⟨ad, C, dx, vs ++ [yv], rfl, no, nod, upd_same, by rw [upd_ne (fun z => hne z.symm)]; exact hod, hm, by simp [hl], nodup_snoc hnd hnf, rl.append (.cons ry .nil), rfl⟩ (List.getElem?_eq_some_iff.mp hi).1 h1
    rw [fl_keep hFl hF] at E4
    exact (show ∀ σ' H' W', W.le W' → EnvOk (cOf X) G' io W' H' σ' (setV ρ i (.obj cl (ns ++ [f]) (ds ++ [dv]))) (fl F1) → D.nx σ' H' from q) σ _ W1 l1 E4
  | _ => exact (R.Sat.bind.mp q).elim
end
end Pv
namespace Pv
open PySem L2
/-- what an __init__ promises: the object, filled -/
def spI (c : Cn) (cl : Str) (φ : List D → R D) (n : Nat) : Sp := fun vs H Q E => vs.length = n + 1 ∧ ∃ W H1 x dx us ds C, vs = .ref x :: us ∧ H = upd (upd H1 dx (.own x)) x (.ins C dx []) ∧ H1 x = none ∧ H1 dx = none ∧ dx ≠ x ∧ W.In H1 ∧ c.mg cl = some (.ref C) ∧ RepL c W ds us ∧
  (φ ds).Sat fun o => ∀ H' W', Grow W H1 W' H' → Rep c W' o (.ref x) → Q .non H'
section
variable {c : Cn} {B : Heap} {N : List Str} {sc : Scope} {fb : Str → Bool} {j k : Nat} {X : Cx} {io : Io} {G : Glo} {Φ : Phi} {F F1 F2 F' Fb Fc Fn : List Bool} {e a d : Expr} {ie ia id il : IE} {b br : Bool} {pos p pos' xp : Pos} {n : Nat} {i : Nat} {x f cl : Str} {es : List Expr} {C : Addr} {φ : List D → R D}
/-- C(..): a new object of an own class -/
theorem r_make (S : Sx c B N sc fb j X) (M : C8.Mak c.P c.w c.K c.mg B k cl C (spI c cl φ n) []) (hΦ : ∀ ds, Φ cl [] ds = (φ ds).bind fun o => .ok (o, [])) (hk : k + 1 ≤ j) (ha : EA X io G Φ (e :: es) il F F') (hg : glC sc cl = true) (hl : lenIE il = n := by rfl)
    (hdb : (cl == ("__debug__" : Str)) = false := by decide) (he : starEach (e :: es) X.env = (false, eval e X.env) :: starEach es X.env := by rfl) (hpl : (backTo pos (starEach es X.env)).any (·.1) = false := by rfl) :
    EE X io G Φ false (.Call (.Name cl p) (e :: es) [] pos) (.call cl il) F F' := by
  have M' : C8.Mak X.prog X.w X.K X.mg X.base k cl C (spI c cl φ n) [] := by rw [S.pr, S.ww, S.kk, S.mg, S.bs]; exact M
  have hm : c.mg cl = some (.ref C) := by obtain ⟨_, _, _, _, _, _, hm, _⟩ := M.ex; exact hm
  refine (C8.pe_mk M' S.room hk (S.gl hg) ha hdb he hpl).imp fun σ H Q ⟨G', W, ρ, E, s⟩ => ⟨G', W, ρ, E, (evL_len il ρ _ (R.Sat.bind.mp s)).mono fun ds ⟨hn, hd⟩ vs H1 W1 l1 E1 r => ?_⟩
  intro x dx hx hdx hne
  rw [List.append_nil]
  refine ⟨by rw [List.length_cons, ← r.length, hn, hl], W1, H1, x, dx, vs, ds, C, rfl, rfl, hx, hdx, hne, E1.wh, hm, by rw [S.co] at r; exact r, ?_⟩
  have hd : ((Φ cl [] ds).bind fun r => R.ok r.1).Sat fun d => Fin (cOf X) G' io σ ρ (fl F') W false d Q := hd
  rw [hΦ] at hd
  refine (R.Sat.bind.mp (R.Sat.bind.mp hd)).mono fun o f H' W' g rr => ⟨rfl, ?_⟩
  have f : Fin (cOf X) G' io σ ρ (fl F') W false o Q := f
  have f := f.res l1 E1
  rw [S.co] at f
  exact f (.ref x) H' W' [] g ⟨rr, rfl⟩ (by simp)
end
end Pv
namespace Pv
open PySem L2
theorem EnvOk.ofRep {c : Cn} {W W0 : Wd} {H H0 : Hp} {σ : St} {ρ : Env} {F : Nat → Bool} (wh : W.In H) (hg : ∀ a o, keepG W0 H0 a = some o → H a = some o ∧ W.no a) (hl : ρ.length = σ.length) (h : ∀ (i : Nat) d, ρ[i]? = some (some d) → F i = false ∧ ∃ v, σ[i]? = some (some v) ∧ Rep c W d v) : EnvOk c (keepG W0 H0) [] W H σ ρ F :=
  ⟨wh, hg, hl, ⟨fun _ => [], fun i d e => by
    obtain ⟨h1, v, h2, h3⟩ := h i d e
    exact ⟨v, h2, by rw [h1]; exact ⟨h3, rfl⟩⟩, fun _ _ _ h => absurd h (by simp), fun _ _ h => absurd h (by simp), fun _ _ h => absurd h (by simp)⟩, fun p hp => absurd hp (by simp)⟩
section
variable {c : Cn} {B : Heap} {G : Glo} {Φ : Phi} {n k : Nat} {b : Bool} {x qual cl : Str} {st : Stmt} {f : Addr} {fd : FuncData} {N ps : List Str} {F Fn Fb Fc : List Bool} {d : Fd} {C0 : Addr}
/-- what the call of a class gives -/
def initF (G : Glo) (Φ : Phi) (n : Nat) (d : Fd) (cl : Str) (ds : List D) : R D := (callFd G Φ n d (.obj cl [] [] :: ds)).bind fun r => match r.2 with
  | [o] => .ok o
  | _ => .bad
theorem initF_sat {ds : List D} {P : D → Prop} (hd : d.dflt = []) (hi : d.inout = [0]) (s : (initF G Φ n d cl ds).Sat P) : ds.length + 1 = d.caps + d.params.length ∧ (exS G Φ n d.body (envOf d.slots (.obj cl [] [] :: ds))).Sat fun r => match r with
    | .nx ρ => ∃ o, ρ[0]? = some (some o) ∧ P o
    | .rt _ ρ => ∃ o, ρ[0]? = some (some o) ∧ P o
    | _ => False := by
  have s := R.Sat.bind.mp s
  unfold callFd at s
  rw [hd, hi] at s
  simp only [List.drop_nil, List.append_nil] at s
  obtain ⟨h, s⟩ := sat_ifp s
  refine ⟨by simpa using h, R.Sat.mono (fun r q => ?_) (R.Sat.bind.mp s)⟩
  cases r with
  | nx ρ =>
    obtain ⟨o, ho, q⟩ := getV_of (R.Sat.bind.mp (R.Sat.bind.mp (show ((((getV ρ 0).bind fun d => (R.ok []).bind fun ds => R.ok (d :: ds))).bind fun os => R.ok (D.non, os)).Sat _ from q)))
    exact ⟨o, ho, q⟩
  | rt v ρ =>
    obtain ⟨o, ho, q⟩ := getV_of (R.Sat.bind.mp (R.Sat.bind.mp (show ((((getV ρ 0).bind fun d => (R.ok []).bind fun ds => R.ok (d :: ds))).bind fun os => R.ok (v, os)).Sat _ from q)))
    exact ⟨o, ho, q⟩
  | bk _ => exact q
  | ct _ => exact q
theorem init_body (S : FnScope N ps (C8.fnScope st)) (hdf : d.dflt = []) (hio : d.inout = [0]) (hps : ps.length = d.caps + d.params.length) (hsl : d.slots = N.length) (hF : (fl F 0 && (F.drop 1).all fun b => !b) = true) (hFl : decide (0 < F.length) = true)
    (body : ∀ v X, Sx c B N (C8.fnScope st) (fun _ => true) k X → ESs X [(0, v, [])] G Φ n false (C8.fnBody st) d.body F Fn Fb Fc) (hnr : ∀ ρ P, (exS G Φ n d.body ρ).Sat P → (exS G Φ n d.body ρ).Sat fun r => (∃ ρ', r = .nx ρ') ∧ P r)
    (cdv : Value) (A : Around) (outer : List PySem.Env) (s : Shared) (H : Hp) (vs : List V) (Q : VK) (E : XK) (hr : Room k (A.deeper (PyProof.Rows.envOfC qual (C8.fnScope st) s.heap.objs.size f cdv)))
    (hsp : spI c cl (initF G Φ n d cl) (ps.length - 1) vs H Q E) (hp0 : 0 < ps.length) :
      ∃ t, PSs (cxOf C8.CX0 c.P c.w c.K c.mg B N qual (C8.fnScope st) f cdv A outer s H E).nox (C8.fnBody st) t ∧ t { nx := fun _ H' => Q .non H', rt := Q } (start N vs) H := by
  obtain ⟨hl, W, H1, xa, dx, us, ds, Ca, rfl, rfl, hx, hdx, hne, wh, hm, r, sat⟩ := hsp
  obtain ⟨h1, sat⟩ := initF_sat hdf hio sat
  have sat := hnr _ _ sat
  have SX : Sx c B N (C8.fnScope st) (fun _ => true) k (cxOf C8.CX0 c.P c.w c.K c.mg B N qual (C8.fnScope st) f cdv A outer s (upd (upd H1 dx (.own xa)) xa (.ins Ca dx [])) E).nox := ⟨rfl, rfl, rfl, rfl, rfl, rfl, rfl, hr, rfl, S.nd, fun _ _ => rfl, rfl⟩
  have hpl : ps.length ≤ N.length := by have := congrArg List.length S.pre; rw [List.length_take] at this; omega
  have hru := r.length
  have hd2 : (upd H1 dx (.own xa)) xa = none := by rw [upd_ne (fun z => hne z.symm)]; exact hx
  have g1 : Grow W H1 W (upd (upd H1 dx (.own xa)) xa (.ins Ca dx [])) := (Grow.new wh hdx).trans (.new (wh.new hdx) hd2)
  have eρ0 : (envOf N.length (.obj cl [] [] :: ds))[0]? = some (some (.obj cl [] [])) := rfl
  have hlen : ((envOf N.length (.obj cl [] [] :: ds)).set 0 none).length = (start N (.ref xa :: us)).length := by
    unfold envOf L2.start; simp; omega
  have E0 : EnvOk c (keepG W H1) [] W H1 (start N (.ref xa :: us)) ((envOf N.length (.obj cl [] [] :: ds)).set 0 none) (fl F) := EnvOk.ofRep wh (fun a o e => keepG_some e) hlen fun i dd e => by
    cases i with
    | zero => simp [envOf] at e
    | succ i =>
      rw [List.getElem?_set_ne (by simp)] at e
      have e := envOf_get e
      have e : ds[i]? = some dd := by simpa using e
      obtain ⟨v, hv, rv⟩ := r.get e
      rw [Bool.and_eq_true] at hF
      refine ⟨?_, v, ?_, rv⟩
      · unfold fl
        rw [List.getD_eq_getElem?_getD]
        cases ef : F[i + 1]? with
        | none => rfl
        | some q =>
          have := List.all_eq_true.mp hF.2 q (by rw [List.mem_iff_getElem?]; exact ⟨i, by rw [List.getElem?_drop, Nat.add_comm]; exact ef⟩)
          simpa using this
      · have hi := (List.getElem?_eq_some_iff.mp hv).1
        unfold L2.start
        rw [List.getElem?_append_left (by simpa using hi), List.getElem?_map]
        simp [hv]
  have own : OwnB c W (upd (upd H1 dx (.own xa)) xa (.ins Ca dx [])) true (.obj cl [] []) (.ref xa) [xa, dx] :=
    ⟨xa, Ca, dx, [], rfl, wh.free hx, wh.free hdx, upd_same, by rw [upd_ne hne]; exact upd_same, hm, rfl, List.nodup_nil, .nil, rfl⟩
  have hSn : ∀ a ∈ [xa, dx], H1 a = none := fun a ha => by
    have ha : a = xa ∨ a = dx := by simpa using ha
    rcases ha with z | z <;> rw [z] <;> assumption
  have hS2 : ∀ a ∈ [xa, dx], keepG W H1 a = none := fun a ha => by
    cases e : keepG W H1 a with
    | none => rfl
    | some o => have := hSn a ha; rw [(keepG_some e).1] at this; cases this
  have E1 := (E0.growNew g1 own hSn).putBack hS2 own (by unfold envOf; simp) (show (start N (.ref xa :: us))[0]? = some (some (.ref xa)) from rfl)
  rw [Bool.and_eq_true] at hF
  have e3 : setV (envOf N.length (.obj cl [] [] :: ds)) 0 (.obj cl [] []) = envOf N.length (.obj cl [] [] :: ds) := by unfold envOf setV; rfl
  rw [fl_keep hFl hF.1, e3] at E1
  have E2 : EnvOk c (keepG W H1) [(0, .ref xa, [])] W (upd (upd H1 dx (.own xa)) xa (.ins Ca dx [])) (start N (.ref xa :: us)) (envOf N.length (.obj cl [] [] :: ds)) (fl F) := ⟨E1.wh, E1.g, E1.len, E1.sl, fun p hp => by
    have hp : p = (0, V.ref xa, []) := by simpa using hp
    subst hp
    exact ⟨rfl, fun q hq => absurd hq (by simp)⟩⟩
  refine ⟨_, body (.ref xa) _ SX, keepG W H1, W, _, E2, ?_⟩
  rw [← hsl]
  refine R.Sat.mono (fun r q => ?_) sat
  obtain ⟨⟨ρ', rfl⟩, o, ho, hP⟩ := q
  intro σ' H' W' l E'
  obtain ⟨W2, l2, E3, g⟩ := E'.lower 0
  obtain ⟨v, hv, rv⟩ := g o ho
  have hio := (E'.io (0, .ref xa, []) (by simp)).1
  rw [hv] at hio
  cases hio
  exact hP H' W2 (Grow.ofG (S := []) (l.trans l2) (by rw [addG_nil]; exact E3) (by simp)) rv
end
end Pv
namespace Pv
open PySem L2
/-- a body that ends behind its last statement (or raises): no return, break, continue outside of a loop -/
def noRet : IS → Bool
  | .skip => true
  | .seq a b => noRet a && noRet b
  | .iff _ a b => noRet a && noRet b
  | .asg _ _ => true
  | .setAttr _ _ _ => true
  | .expr _ => true
  | .raise _ _ => true
  | .raise0 _ => true
  | _ => false
section
variable {G : Glo} {Φ : Phi} {n : Nat}
theorem noRet_nx : ∀ (is : IS), noRet is = true → ∀ ρ P, (exS G Φ n is ρ).Sat P → (exS G Φ n is ρ).Sat fun r => (∃ ρ', r = .nx ρ') ∧ P r := by
  intro is
  induction is with
  | skip => intro _ ρ P s; exact ⟨⟨ρ, rfl⟩, s⟩
  | seq a b iha ihb =>
    intro h ρ P s
    have h : (noRet a && noRet b) = true := h
    rw [Bool.and_eq_true] at h
    refine R.Sat.bind.mpr ((iha h.1 ρ _ (R.Sat.bind.mp (show ((exS G Φ n a ρ).bind fun f => match f with | .nx ρ => exS G Φ n b ρ | f => .ok f).Sat P from s))).mono fun r ⟨⟨ρ', e⟩, q⟩ => ?_)
    subst e
    exact ihb h.2 ρ' P q
  | iff t a b iha ihb =>
    intro h ρ P s
    have h : (noRet a && noRet b) = true := h
    rw [Bool.and_eq_true] at h
    refine R.Sat.bind.mpr ((R.Sat.bind.mp (show ((testE G Φ ρ t).bind fun c => if c then exS G Φ n a ρ else exS G Φ n b ρ).Sat P from s)).mono fun k q => ?_)
    cases k with
    | true => exact iha h.1 ρ P q
    | false => exact ihb h.2 ρ P q
  | asg t x =>
    intro _ ρ P s
    exact R.Sat.bind.mpr ((R.Sat.bind.mp (show ((evX G Φ ρ x).bind fun r => (asgT t r.1 r.2).bind fun ρ => R.ok (Fl.nx ρ)).Sat P from s)).mono fun r q => R.Sat.bind.mpr ((R.Sat.bind.mp q).mono fun ρ' q => ⟨⟨ρ', rfl⟩, q⟩))
  | setAttr i f x =>
    intro _ ρ P s
    exact R.Sat.bind.mpr ((R.Sat.bind.mp (show ((evX G Φ ρ x).bind fun r => (getV r.2 i).bind fun d => (putAttr G.attrs d f r.1).bind fun d => R.ok (Fl.nx (setV r.2 i d))).Sat P from s)).mono fun r q => R.Sat.bind.mpr ((R.Sat.bind.mp q).mono fun d q => R.Sat.bind.mpr ((R.Sat.bind.mp q).mono fun d' q => ⟨⟨_, rfl⟩, q⟩)))
  | expr x =>
    intro _ ρ P s
    exact R.Sat.bind.mpr ((R.Sat.bind.mp (show ((evX G Φ ρ x).bind fun r => R.ok (Fl.nx r.2)).Sat P from s)).mono fun r q => ⟨⟨_, rfl⟩, q⟩)
  | raise c e => intro _ ρ P s; exact (R.Sat.no (R.Sat.mono (fun _ h => h) (R.Sat.bind.mp (show ((evE G Φ ρ e).bind fun d => R.exc c d).Sat P from s)))).elim
  | raise0 c => intro _ ρ P s; exact s.elim
  | _ => intro h; cases h
end
section
variable {c : Cn} {B : Heap} {G : Glo} {Φ : Phi} {n k : Nat} {qual cl : Str} {st : Stmt} {f : Addr} {fd : FuncData} {N ps : List Str} {F Fn Fb Fc : List Bool} {d : Fd} {C0 : Addr}
theorem init_mak (M : Mk c.K C0 f) (hm : c.mg cl = some (.ref C0)) (F0 : C8.Fun c.K "__init__" qual st f fd) (bb : Binds c.K fd ps []) (S : FnScope N ps (C8.fnScope st)) (hdf : d.dflt = []) (hio : d.inout = [0]) (hps : ps.length = d.caps + d.params.length) (hsl : d.slots = N.length) (hF : (fl F 0 && (F.drop 1).all fun b => !b) = true) (hFl : decide (0 < F.length) = true)
    (hnr : noRet d.body = true) (hp0 : decide (0 < ps.length) = true) (body : ∀ v X, Sx c B N (C8.fnScope st) (fun _ => true) k X → ESs X [(0, v, [])] G Φ n false (C8.fnBody st) d.body F Fn Fb Fc) :
    C8.Mak c.P c.w c.K c.mg B (k + 1) cl C0 (spI c cl (initF G Φ n d cl) (ps.length - 1)) [] :=
  C8.mak0 M hm F0 bb .nil S (fun vs H Q E h => by have := of_decide_eq_true hp0; rw [h.1]; omega) fun cdv A outer s H vs Q E hr hsp => init_body S hdf hio hps hsl hF hFl body (fun ρ P s => noRet_nx _ hnr ρ P s) cdv A outer s H vs Q E hr hsp (of_decide_eq_true hp0)
end
end Pv
namespace Pv
open PySem L2
theorem hio1 {v : V} {i : Nat} (h : decide (0 ≠ i) = true) : ∀ p ∈ ([(0, v, [])] : Io), p.1 ≠ i := fun p hp => by
  have e : p = (0, v, []) := by simpa using hp
  subst e
  exact of_decide_eq_true h
theorem hio2 {v : V} {ow : List Nat} (h : (!ow.contains 0) = true) : ∀ p ∈ ([(0, v, [])] : Io), p.1 ∉ ow := fun p hp => by
  have e : p = (0, v, []) := by simpa using hp
  subst e
  intro z
  rw [List.contains_iff_mem.mpr z] at h
  cases h
end Pv
namespace Pv
open PySem L2
/-- .. and of the own classes -/
structure Fy (c : Cn) (B : Heap) (G : Glo) (Φ : Phi) (sig : List (Str × (Nat × Bool))) (sigc : List (Str × Nat)) (k : Nat) : Prop extends Fx c B G Φ sig k where
  mks : ∀ cl n, sigc.lookup cl = some n → ∃ (C : Addr) (φ : List D → R D) (k' : Nat), C8.Mak c.P c.w c.K c.mg B k' cl C (spI c cl φ n) [] ∧ (∀ ds, Φ cl [] ds = (φ ds).bind fun o => .ok (o, [])) ∧ k' + 1 ≤ k
section
variable {c : Cn} {B : Heap} {N : List Str} {sc : Scope} {fb : Str → Bool} {j k : Nat} {X : Cx} {io : Io} {G : Glo} {Φ : Phi} {F F' : List Bool} {e : Expr} {il : IE} {pos p : Pos} {n : Nat} {cl : Str} {es : List Expr}
theorem r_mk (S : Sx c B N sc fb j X) (M : ∃ (C : Addr) (φ : List D → R D) (k' : Nat), C8.Mak c.P c.w c.K c.mg B k' cl C (spI c cl φ n) [] ∧ (∀ ds, Φ cl [] ds = (φ ds).bind fun o => .ok (o, [])) ∧ k' + 1 ≤ k) (hk : k ≤ j) (ha : EA X io G Φ (e :: es) il F F') (hg : glC sc cl = true) (hl : lenIE il = n := by rfl)
    (hdb : (cl == ("__debug__" : Str)) = false := by decide) (he : starEach (e :: es) X.env = (false, eval e X.env) :: starEach es X.env := by rfl) (hpl : (backTo pos (starEach es X.env)).any (·.1) = false := by rfl) :
    EE X io G Φ false (.Call (.Name cl p) (e :: es) [] pos) (.call cl il) F F' := by
  obtain ⟨C, φ, k', M, h, hk'⟩ := M
  exact r_make S M h (Nat.le_trans hk' hk) ha hg hl hdb he hpl
end
end Pv

set_option autoImplicit false
set_option linter.all false
set_option maxRecDepth 100000
/-! Pv: an own ==. -/
namespace Pv
open PySem L2
/-- the own == of a class -/
structure EqOk (c : Cn) (B : Heap) (Φ : Phi) (k : Nat) (cl : Str) : Prop where
  ex : ∃ (C f : Addr) (fd : FuncData) (ps : List Str) (b : Bool), c.mg cl = some (.ref C) ∧ PySem.W.findIn c.K (.ref C) "__eq__" = some (some (.ref f)) ∧ PySem.W.isFn c.K (.ref f) = true ∧
    FnOk c.P c.w c.K c.mg B C8.CX0 k f fd ps (spF c b (Φ (cl ++ ".__eq__") []) 2) ∧ Binds c.K fd ps []
/-- every class whose == answers has such a def -/
def EqsOk (c : Cn) (B : Heap) (Φ : Phi) (k : Nat) : Prop := ∀ (cl : Str) (xs : List D) (P : D × List D → Prop), (Φ (cl ++ ".__eq__") [] xs).Sat P → EqOk c B Φ k cl
/-- the relation of an own == on frozen values -/
def rEqO (X : Cx) (Φ : Phi) : R2 := fun x y H Q => ∃ W dx dy, W.In H ∧ Rep (cOf X) W dx x ∧ Rep (cOf X) W dy y ∧ (opE Φ .eqo dx dy).Sat fun d => Res (cOf X) false W H d Q
theorem subTy {K : PySem.W.Frag} {C : Addr} : ∀ T ∈ ["NoneType", "int", "bool", "str", "tuple", "list", "dict"], PySem.W.notFirst K C (.type T) = true := by
  intro T hT
  simp only [List.mem_cons, List.not_mem_nil, or_false] at hT
  rcases hT with rfl | rfl | rfl | rfl | rfl | rfl | rfl <;> rfl
theorem cls0 {c : Cn} : ClsOk c (fun _ _ => false) := ⟨fun _ h => absurd h (by simp), fun _ _ _ _ h => absurd h (by simp), fun _ _ _ h => absurd h (by simp)⟩
section
variable {c : Cn} {B : Heap} {N : List Str} {sc : Scope} {fb : Str → Bool} {j k : Nat} {X : Cx} {io : Io} {G : Glo} {Φ : Phi} {F F1 F2 F' : List Bool} {e a d : Expr} {ie ia id : IE} {b : Bool} {pos : Pos}
theorem o_eqo (S : Sx c B N sc fb j X) (E : EqsOk c B Φ k) (hk : k ≤ j) : OpR X (compareOp .Eq) (rEqO X Φ) := by
  intro pins s σ H x y v u Q I rx ry ⟨W, dx, dy, wh, hx, hy, q⟩
  cases dx with
  | obj cl ns ds =>
    have q : (if eqRight cl dy then (Φ (cl ++ ".__eq__") [] [.obj cl ns ds, dy]).bind fun r => R.ok r.1 else .bad).Sat fun d => Res (cOf X) false W H d Q := q
    obtain ⟨hr, q⟩ := sat_if q
    have q := R.Sat.bind.mp q
    have hx0 := hx
    simp only [Rep] at hx
    obtain ⟨xa, C, dxx, vs, rfl, hx1, hx2, hx3, hx4, hx5, hx6⟩ := hx
    cases rx
    obtain ⟨C', f, fd, ps, b, hm, hfi, hif, FF, bb⟩ := (E cl _ _ q).ex
    have hm2 : c.mg cl = some (.ref C) := by rw [← hx3, S.co]
    rw [hm] at hm2; cases hm2
    obtain ⟨mA, J, _⟩ := ins_get I.hok (wh.fz _ _ hx1)
    obtain ⟨od, J, _⟩ := J.look
    obtain ⟨m, hF⟩ := I.fr
    have hb : ∃ tb, PySem.W.Looks (model X.prog X.w) s.heap (typeOf u) tb ∧ PySem.W.notFirst X.K C tb = true := by
      cases dy with
      | obj cl' ns' ds' =>
        have e : cl' = cl := by have : (cl' == cl) = true := hr; exact eq_of_beq this
        subst e
        simp only [Rep] at hy
        obtain ⟨ya, C2, dyy, us, rfl, hy1, hy2, hy3, _⟩ := hy
        cases ry
        have e2 : C2 = C := by rw [hx3] at hy3; cases hy3; rfl
        subst e2
        obtain ⟨mB, J', _⟩ := ins_get I.hok (wh.fz _ _ hy1)
        obtain ⟨od', J', _⟩ := J'.look
        exact ⟨.ref C2, J'.type, by simp [PySem.W.notFirst]⟩
      | fn f => exact absurd (show false = true from hr) (by decide)
      | clo f l => exact absurd (show false = true from hr) (by decide)
      | _ =>
        obtain ⟨t, P, Z, p, _, hz⟩ := kit_D (ok := fun _ _ => false) cls0 I wh (hy.rd wh) ry rfl
        refine ⟨t, Z.ty _ _ I.kIn p, ?_⟩
        rcases hz with ⟨_, rfl, hz⟩ | ⟨_, _, h, _⟩
        · exact subTy _ hz
        · cases h
    obtain ⟨tb, hb1, hb2⟩ := hb
    refine PySem.W.cmp_K (op := .Eq) S.room.units0 hF I.ok.mod.kin J hb1 hb2 (by rw [S.kk]; exact hfi) (by rw [S.kk]; exact hif) ?_
    have FF' : FnOk X.prog X.w X.K X.mg X.base C8.CX0 k f fd ps (spF c b (Φ (cl ++ ".__eq__") []) 2) := by rw [S.pr, S.ww, S.kk, S.mg, S.bs]; exact FF
    refine thn (run_fn (us := [.ref xa, u]) (vs := [.ref xa, y]) (Q := Q) (E := C8.E0) FF' (S.room.mono hk) (by rw [S.kk]; exact bb) .nil C8.pass0 I (.cons rfl (.cons ry .nil)) ?_) fun w s' hw => ?_
    · show spF c b (Φ (cl ++ ".__eq__") []) 2 ([.ref xa, y] ++ []) H Q C8.E0
      rw [List.append_nil]
      refine ⟨rfl, W, [.obj cl ns ds, dy], wh, .cons (by rw [← S.co]; exact hx0) (.cons (by rw [← S.co]; exact hy) .nil), q.mono fun r f => ?_⟩
      have f : Res (cOf X) false W H r.1 Q := f
      rw [← S.co]
      exact f.froze
    · obtain ⟨z, H', I', rz, qz⟩ := hw
      have : PySem.W.CmpBack (EP X pins σ Q) w s' := by
        cases w with
        | notImplemented => cases z <;> first | (cases rz; done) | (obtain ⟨_, rz⟩ := rz; cases rz; done)
        | _ => exact ⟨z, H', I', rz, qz⟩
      exact this
  | _ => exact q.elim
theorem r_eqo (S : Sx c B N sc fb j X) (E : EqsOk c B Φ k) (hk : k ≤ j) (ha : EE X io G Φ false a ia F F1) (hb : EE X io G Φ false d id F1 F') (hm : behindInMarks .Eq d = false := by rfl) :
    EE X io G Φ false (.Compare a [.Eq] [d] pos) (.op .eqo ia id) F F' :=
  (pe_cmpR (o_eqo S E hk) ha hb hm).imp fun σ H Q ⟨G', W, ρ, E, s⟩ =>
    ⟨G', W, ρ, E, (R.Sat.bind.mp s).mono fun dx hx v1 H1 W1 S1 l1 E1 b1 n1 => by
      obtain ⟨b1, rfl⟩ := b1
      rw [addG_nil] at E1
      exact ⟨G', W1, ρ, E1, (R.Sat.bind.mp hx).mono fun dy hy v2 H2 W2 S2 l2 E2 b2 n2 => by
        obtain ⟨b2, rfl⟩ := b2
        rw [addG_nil] at E2
        exact ⟨W2, dx, dy, E2.wh, b1.mono _ l2, b2, hy.mono fun d h => h.res (l1.trans l2) E2⟩⟩⟩
end
end Pv

set_option autoImplicit false
set_option linter.all false
set_option maxRecDepth 100000
/-! Pv: calls by name (all arguments by name). -/
namespace Pv
open PySem L2
/-- the items at some places -/
def pick {α : Type} (d : α) (p : List Nat) (l : List α) : List α := p.map fun i => l.getD i d
theorem pick_vals {p : List Nat} {vs : List V} {us : List Value} (r : Vals vs us) : Vals (pick .non p vs) (pick .none p us) := by
  unfold pick
  induction p with
  | nil => exact .nil
  | cons i p ih =>
    refine .cons ?_ ih
    show RelV (vs.getD i .non) (us.getD i .none)
    rw [List.getD_eq_getElem?_getD, List.getD_eq_getElem?_getD]
    cases e : vs[i]? with
    | none =>
      have : us[i]? = none := by
        rw [List.getElem?_eq_none_iff] at e ⊢
        rw [← r.length]; exact e
      rw [this]; rfl
    | some v =>
      obtain ⟨u, e2, h⟩ := r.get e
      rw [e2]; exact h
theorem pick_rep {c : Cn} {W : Wd} {p : List Nat} {ds : List D} {vs : List V} (r : RepL c W ds vs) : RepL c W (pick .non p ds) (pick .non p vs) := by
  unfold pick
  induction p with
  | nil => exact .nil
  | cons i p ih =>
    refine .cons ?_ ih
    show Rep c W (ds.getD i .non) (vs.getD i .non)
    rw [List.getD_eq_getElem?_getD, List.getD_eq_getElem?_getD]
    cases e : ds[i]? with
    | none =>
      have : vs[i]? = none := by
        rw [List.getElem?_eq_none_iff] at e ⊢
        rw [← r.length]; exact e
      rw [this]; simp only [Option.getD_none, Rep]
    | some d =>
      obtain ⟨v, e2, h⟩ := r.get e
      rw [e2]; exact h
/-- how such a call binds; n: positional ones ahead (an object) -/
abbrev KBp (K : PySem.W.Frag) (fd : FuncData) (ps : List Str) (n : Nat) (ks : List Str) (p : List Nat) : Prop := KBn K fd ps n ks (fun us ws => us ++ pick .none p ws) (fun vs zs => vs ++ pick .non p zs)
theorem kbp {K : PySem.W.Frag} {x qual : Str} {st : Stmt} {f : Addr} {fd : FuncData} {ps ks : List Str} {n : Nat} {p : List Nat} (F : C8.Fun K x qual st f fd) (df : fd.defaults = .none)
    (h : ∀ (kV doc pm : Value) (an : Option Addr) (cdv ct : Value) (us ws : List Value), us.length = n → ws.length = ks.length → bindArgs (PySem.W.fnOf x qual (C8.fnArgs st) (C8.fnBody st) (C8.fnScope st) .none kV doc pm an cdv ct) ⟨us, ks.zip ws⟩ = pure (ps.zip (us ++ pick .none p ws))) : KBp K fd ps n ks p := by
  obtain ⟨oc, od, dV, kV, doc, pm, an, cdv, ct, osl, rfl, lk, hcd⟩ := F.ex
  have e : dV = .none := df
  subst e
  exact ⟨fun s us ws X l1 l2 => .of_eq (h kV doc pm an cdv ct us ws l1 l2), fun r1 r2 => r1.append (pick_vals r2)⟩
/-- a class called by name -/
structure MakN (c : Cn) (B : Heap) (k : Nat) (cl : Str) (C : Addr) (sp : Sp) (ks : List Str) (p : List Nat) : Prop where
  ex : ∃ (f : Addr) (fd : FuncData) (ps : List Str), Mk c.K C f ∧ FnOk c.P c.w c.K c.mg B C8.CX0 k f fd ps sp ∧ c.mg cl = some (.ref C) ∧ KBp c.K fd ps 1 ks p
/-- a def called by name -/
structure CalN (c : Cn) (B : Heap) (k : Nat) (x : Str) (sp : Sp) (ks : List Str) (p : List Nat) : Prop where
  ex : ∃ (f : Addr) (fd : FuncData) (ps : List Str), FnOk c.P c.w c.K c.mg B C8.CX0 k f fd ps sp ∧ c.mg x = some (.ref f) ∧ PySem.W.keepIn c.K (.ref f) = true ∧ KBp c.K fd ps 0 ks p
section
variable {c : Cn} {B : Heap} {N : List Str} {sc : Scope} {fb : Str → Bool} {j k : Nat} {X : Cx} {io : Io} {G : Glo} {Φ : Phi} {F F1 F2 F' : List Bool} {e a d : Expr} {ie ia id il : IE} {b : Bool} {pos p kpos : Pos} {kws : List Keyword} {nm : Option Str} {C : Addr} {φ : List D → R D} {n : Nat} {cl x : Str} {ks : List Str} {pl : List Nat}
abbrev EK (X : Cx) (io : Io) (G : Glo) (Φ : Phi) (kws : List Keyword) (il : IE) (F F' : List Bool) : Prop := PK X kws (taD X io (fun ρ => evL G Φ ρ il) (fl F) (fl F'))
theorem _root_.L2.PK.imp {t t' : TA} (h : PK X kws t) (i : ∀ σ H Q, t' σ H Q → t σ H Q) : PK X kws t' := ⟨fun pos pins s σ H Q I q => h.run pos pins s σ H Q I (i σ H Q q)⟩
theorem r_knil : EK X io G Φ [] .enil F F := pk_nil.imp fun σ H Q ⟨G, W, ρ, E, s⟩ => (show ∀ vs H' W', W.le W' → _ from s) [] H W (.refl W) E .nil
theorem r_kcons (ha : EE X io G Φ b e ie F F1) (hr : EK X io G Φ kws il F1 F') : EK X io G Φ (⟨nm, e, kpos⟩ :: kws) (.econs ie il) F F' :=
  (pk_cons ha.any hr).imp fun σ H Q ⟨G', W, ρ, E, s⟩ => ⟨G', W, ρ, E, (R.Sat.bind.mp s).mono fun d hd v H1 W1 S l1 E1 x n => by
    obtain ⟨r, rfl⟩ := x
    rw [addG_nil] at E1
    exact ⟨G', W1, ρ, E1, (R.Sat.bind.mp hd).mono fun ds f vs H' W' l' E' r' => (show ∀ vs H' W', W.le W' → EnvOk (cOf X) G' io W' H' σ ρ (fl F') → RepL (cOf X) W' (d :: ds) vs → Q vs H' from f) _ H' W' (l1.trans l') E' (.cons (r.mono _ l') r')⟩⟩
/-- C(k = v, ..) -/
theorem r_makek (S : Sx c B N sc fb j X) (M : MakN c B k cl C (spI c cl φ n) ks pl) (hΦ : ∀ ds : List D, ds.length = ks.length → Φ cl ks ds = (φ (pick .non pl ds)).bind fun o => .ok (o, [])) (hp : pl.length = n) (hk : k + 1 ≤ j) (ha : EK X io G Φ kws il F F') (hg : glC sc cl = true) (hl : lenIE il = ks.length)
    (hall : (backToKw pos (keywordEach kws X.env)).all (·.1.isSome) = true := by rfl) (hks : (backToKw pos (keywordEach kws X.env)).filterMap (·.1) = ks := by rfl) (hdb : (cl == ("__debug__" : Str)) = false := by decide)
    (hpl : ((backTo pos (starEach [] X.env)).any (·.1) || (backToKw pos (keywordEach kws X.env)).any (·.1.isNone)) = false := by rfl) :
    EE X io G Φ false (.Call (.Name cl p) [] kws pos) (.callk cl ks il) F F' := by
  obtain ⟨f, fd, ps, Mk0, FF, hm, hb⟩ := M.ex
  have FF' : FnOk X.prog X.w X.K X.mg X.base C8.CX0 k f fd ps (spI c cl φ n) := by rw [S.pr, S.ww, S.kk, S.mg, S.bs]; exact FF
  refine (pe_makeK0 (E := C8.E0) (by rw [S.kk]; exact Mk0) FF' (S.room.mono hk) (S.gl hg) (by rw [S.mg]; exact hm) (by rw [S.kk]; exact hb) C8.pass0 ha hall hks hdb hpl).imp fun σ H Q ⟨G', W, ρ, E, s⟩ => ?_
  show taD X io (fun ρ => evL G Φ ρ il) (fl F) (fl F') σ H _
  refine ⟨G', W, ρ, E, (evL_len il ρ _ (R.Sat.bind.mp s)).mono fun ds ⟨hn, hd⟩ vs H1 W1 l1 E1 r => ?_⟩
  refine ⟨rfl, by rw [← r.length, hn, hl], fun x dx hx hdx hne => ?_⟩
  have r' : RepL c W1 (pick .non pl ds) (pick .non pl vs) := by rw [← S.co]; exact pick_rep r
  refine ⟨?_, W1, H1, x, dx, pick .non pl vs, pick .non pl ds, C, rfl, rfl, hx, hdx, hne, E1.wh, hm, r', ?_⟩
  · show ([V.ref x] ++ pick .non pl vs).length = n + 1
    rw [List.length_append, ← hp]
    unfold pick
    simp [Nat.add_comm]
  have hd : ((Φ cl ks ds).bind fun r => R.ok r.1).Sat fun d => Fin (cOf X) G' io σ ρ (fl F') W false d Q := hd
  rw [hΦ ds (by rw [hn, hl])] at hd
  refine (R.Sat.bind.mp (R.Sat.bind.mp hd)).mono fun o f H' W' g rr => ⟨rfl, ?_⟩
  have f : Fin (cOf X) G' io σ ρ (fl F') W false o Q := f
  have f := f.res l1 E1
  rw [S.co] at f
  exact f (.ref x) H' W' [] g ⟨rr, rfl⟩ (by simp)
/-- f(k = v, ..) -/
theorem r_callk {φ2 : List D → R (D × List D)} (S : Sx c B N sc fb j X) (M : CalN c B k x (spF c b (fun ds => φ2 ds) n) ks pl) (hΦ : ∀ ds : List D, ds.length = ks.length → Φ x ks ds = φ2 (pick .non pl ds)) (hp : pl.length = n) (hk : k ≤ j) (ha : EK X io G Φ kws il F F') (hg : glC sc x = true) (hl : lenIE il = ks.length)
    (hall : (backToKw pos (keywordEach kws X.env)).all (·.1.isSome) = true := by rfl) (hks : (backToKw pos (keywordEach kws X.env)).filterMap (·.1) = ks := by rfl) (hdb : (x == ("__debug__" : Str)) = false := by decide)
    (hpl : ((backTo pos (starEach [] X.env)).any (·.1) || (backToKw pos (keywordEach kws X.env)).any (·.1.isNone)) = false := by rfl) :
    EE X io G Φ b (.Call (.Name x p) [] kws pos) (.callk x ks il) F F' := by
  obtain ⟨f, fd, ps, FF, hm, kp, hb⟩ := M.ex
  have FF' : FnOk X.prog X.w X.K X.mg X.base C8.CX0 k f fd ps (spF c b (fun ds => φ2 ds) n) := by rw [S.pr, S.ww, S.kk, S.mg, S.bs]; exact FF
  have hb' : KBp X.K fd ps 0 ks pl := by rw [S.kk]; exact hb
  refine ⟨fun pins s σ H Q I h => ?_⟩
  obtain ⟨G', W, ρ, E, sa⟩ := h
  refine wpAny_Call_Name_kw (ld_glob I (S.gl hg) (by rw [S.mg]; exact hm) ?_ hdb)
  refine PySem.W.callWith_KW0 (h₀ := X.base) I.ok.mod.kin (by rw [S.kk]; exact kp) hall ?_ hpl
  refine thn (ha.run pos pins s σ H (fun vs H1 => spF c b (fun ds => φ2 ds) n (pick .non pl vs) H1 Q C8.E0 ∧ vs.length = ks.length) I ⟨G', W, ρ, E, (evL_len il ρ _ (R.Sat.bind.mp sa)).mono fun ds ⟨hn, hd⟩ vs H1 W1 l1 E1 r => ?_⟩) fun ws s2 ⟨zs, H2, I2, rz, q2, l2⟩ => ⟨I2.kIn, ?_⟩
  · rw [hks]
    have r2 := hb'.rel (vs := []) (us := []) .nil rz
    refine wpAny_call (codeAny_mono (FF'.run X.A X.stack s2 H2 ⟨[], ks.zip ws⟩ ([] ++ pick .none pl ws) ([] ++ pick .non pl zs) Q C8.E0 (S.room.mono hk) I2.env0 (hb'.to s2 [] ws I2.kIn rfl (by rw [← rz.length, l2])) r2 q2) fun r s' hq => ?_)
    cases r with
    | error e => exact C8.pass0 (E := C8.E0) pins σ H2 s2 e s' I2 hq
    | ok fl =>
      cases fl with
      | ret u => exact I2.after hq
      | next => exact False.elim hq
      | brk => exact False.elim hq
      | cont => exact False.elim hq
  · have hln : vs.length = ks.length := by rw [← r.length, hn, hl]
    refine ⟨⟨by unfold pick; simpa using hp, W1, pick .non pl ds, E1.wh, by rw [← S.co]; exact pick_rep r, ?_⟩, hln⟩
    have hd : ((Φ x ks ds).bind fun r => R.ok r.1).Sat fun d => Fin (cOf X) G' io σ ρ (fl F') W b d Q := hd
    rw [hΦ ds (by rw [hn, hl])] at hd
    refine (R.Sat.bind.mp hd).mono fun r' f => ?_
    have f : Fin (cOf X) G' io σ ρ (fl F') W b r'.1 Q := f
    rw [← S.co]
    exact f.res l1 E1
end
end Pv

set_option autoImplicit false
set_option linter.all false
set_option maxRecDepth 100000
/-! Pv: the bowl (made by a def in the language) and the draws out of it (by hand). -/
namespace Pv
open PySem L2
section
variable {c : Cn} {B : Heap} {k n : Nat} {x : Str} {φ φ' : List D → R (D × List D)}
/-- a fresh list of three ints becomes a bowl -/
theorem Res.bowl {W : Wd} {H : Hp} {i j l : Int} {Q : VK} (h : Res c false W H .bowl Q) : Res c true W H (.lst [.int i, .int j, .int l]) Q := fun v H' W' S g o hn => by
  obtain ⟨a, ho, rfl, n, e, ⟨vs, rfl, r⟩, rfl⟩ := o
  have hv : vs = [.int i, .int j, .int l] := by
    simp only [RepL, Rep] at r
    obtain ⟨_, _, rfl, rfl, _, _, rfl, rfl, _, _, rfl, rfl, rfl⟩ := r
    rfl
  subst hv
  have ha : H a = none := hn a (by simp)
  refine h (.ref a) H' ⟨W'.fz, fun b => W'.bw b ∨ b = a, W'.tb, W'.tu⟩ [] ⟨⟨g.le.fz, fun b hb => .inl (g.le.bw b hb), g.le.tb, g.le.tu⟩, ⟨g.wh.fz, fun b hb => ?_, g.wh.tb, g.wh.cd, fun p hp => ⟨(g.wh.tn p hp).1, fun z => ?_⟩, g.wh.te, g.wh.ht, fun b hb => ⟨(g.wh.tu b hb).1, (g.wh.tu b hb).2.1, fun z => ?_⟩⟩, fun b o eb nb => ?_⟩ ⟨?_, rfl⟩ (by simp)
  · rcases hb with hb | rfl
    · exact g.wh.bw b hb
    · exact ⟨⟨i, j, l, e⟩, n.fz⟩
  · rcases z with z | z
    · exact (g.wh.tn p hp).2 z
    · exact n.tb p hp z
  · rcases z with z | z
    · exact (g.wh.tu b hb).2.2 z
    · exact n.tu (by rw [← z]; exact hb)
  · obtain ⟨e1, m⟩ := g.kp b o eb nb
    refine ⟨e1, m.fz, fun z => ?_, m.tb, m.tu⟩
    rcases z with z | rfl
    · exact m.bw z
    · rw [ha] at eb; cases eb
  · simp only [Rep]; exact ⟨a, rfl, .inr rfl⟩
theorem cal_bowl (C : C8.Cal c.P c.w c.K c.mg B k x (spF c true φ n) []) (h : ∀ ds P, (φ' ds).Sat P → (φ ds).Sat fun r => ∃ i j l : Int, r.1 = .lst [.int i, .int j, .int l] ∧ P (.bowl, [])) : C8.Cal c.P c.w c.K c.mg B k x (spF c false φ' n) [] := by
  obtain ⟨f, fd, ps, ds, FF, hm, kp, bb, dd⟩ := C.ex
  refine ⟨f, fd, ps, ds, FF.imp fun vs H Q E ⟨hl, W, ds, wh, r, s⟩ => ⟨hl, W, ds, wh, r, (h ds _ s).mono fun r ⟨i, j, l, e, q⟩ => ?_⟩, hm, kp, bb, dd⟩
  rw [e]
  exact Res.bowl q
theorem Sx.xnd {N : List Str} {sc : Scope} {fb : Str → Bool} {j : Nat} {X : Cx} (S : Sx c B N sc fb j X) : X.N.Nodup := by rw [S.nN]; exact S.nd
theorem lst_0 {K : PySem.W.Frag} {H : Hp} {a : Addr} {i j l : Int} {Q : VK} (e : H a = some (.lst [.int i, .int j, .int l])) (q : Q (.int i) H) : rIxL K (.ref a) (.int 0) H Q := ⟨a, _, 0, .int i, rfl, rfl, .inl (.inl e), rfl, q⟩
theorem lst_1 {K : PySem.W.Frag} {H : Hp} {a : Addr} {i j l : Int} {Q : VK} (e : H a = some (.lst [.int i, .int j, .int l])) (q : Q (.int j) H) : rIxL K (.ref a) (.int 1) H Q := ⟨a, _, 1, .int j, rfl, rfl, .inl (.inl e), rfl, q⟩
theorem lst_2 {K : PySem.W.Frag} {H : Hp} {a : Addr} {i j l : Int} {Q : VK} (e : H a = some (.lst [.int i, .int j, .int l])) (q : Q (.int l) H) : rIxL K (.ref a) (.int 2) H Q := ⟨a, _, 2, .int l, rfl, rfl, .inl (.inl e), rfl, q⟩
/-- what the body of a draw does -/
def DrawBody (c : Cn) (B : Heap) (N : List Str) (sc : Scope) (k : Nat) (body : List Stmt) : Prop := ∀ X, Sx c B N sc (fun _ => true) k X → ∃ t, PSs X body t ∧
  ∀ (H : Hp) (a : Addr) (n i j l : Int) (D : Ends), H a = some (.lst [.int i, .int j, .int l]) → 0 < n → n < 1073741824 →
    (∀ (v i' j' l' : Int) (H' : Hp), 0 ≤ v → v < n → H' a = some (.lst [.int i', .int j', .int l']) → (∀ b, b ≠ a → H' b = H b ∨ (H b = none ∧ ∃ xs, H' b = some (.tup xs))) → D.rt (.int v) H') → t D (start N [.ref a, .int n]) H
theorem cal_draw {N ps : List Str} {st : Stmt} {f : Addr} {fd : FuncData} (D0 : C8.Def c.K c.mg x st f fd) (bb : Binds c.K fd ps []) (S : FnScope N ps (C8.fnScope st)) (hps : ps.length = 2) (body : DrawBody c B N (C8.fnScope st) k (C8.fnBody st))
    (h : ∀ ds P, (φ ds).Sat P → ∃ n : Int, ds = [.bowl, .int n] ∧ 0 < n ∧ n < 1073741824 ∧ ∀ i : Int, 0 ≤ i → i < n → P (.int i, [])) {b : Bool} : C8.Cal c.P c.w c.K c.mg B (k + 1) x (spF c b φ 2) [] := by
  refine C8.cal0 D0 bb .nil S (fun vs H Q E h => by rw [h.1, hps]) fun cdv A outer s H vs Q E hr ⟨hl, W, ds, wh, r, sat⟩ => ?_
  obtain ⟨n, rfl, h0, h1, hq⟩ := h ds _ sat
  simp only [RepL, Rep] at r
  obtain ⟨_, _, rfl, ⟨a, rfl, ha⟩, _, _, rfl, rfl, rfl⟩ := r
  obtain ⟨⟨i, j, l, e⟩, hf⟩ := wh.bw a ha
  obtain ⟨t, rd, ht⟩ := body (cxOf C8.CX0 c.P c.w c.K c.mg B N x (C8.fnScope st) f cdv A outer s H E).nox ⟨rfl, rfl, rfl, rfl, rfl, rfl, rfl, hr, rfl, S.nd, fun _ _ => rfl, rfl⟩
  refine ⟨t, rd, ht H a n i j l _ e h0 h1 fun v i' j' l' H' hv0 hv1 e' keep => ?_⟩
  have q : Res c b W H (.int v) Q := hq v hv0 hv1
  have kp : ∀ b o, b ≠ a → H b = some o → H' b = some o := fun b o hb e => by
    rcases keep b hb with z | ⟨z, _⟩
    · rw [z]; exact e
    · rw [z] at e; cases e
  have nfa : W.fz a = none := hf
  refine q (.int v) H' W [] ⟨.refl W, ⟨fun b o eb => ?_, fun b hb => ?_, fun p hp => ?_, fun x b' q' ex => ?_, wh.tn, wh.te, fun x ps ex => ?_, fun x hx => ⟨?_, (wh.tu x hx).2⟩⟩, fun b o eb nb => ⟨?_, nb⟩⟩ ?_ (by simp)
  · exact kp b o (fun z => by subst z; rw [hf] at eb; cases eb) (wh.fz b o eb)
  · by_cases z : b = a
    · subst z; exact ⟨⟨i', j', l', e'⟩, hf⟩
    · obtain ⟨⟨i2, j2, l2, e2⟩, hf2⟩ := wh.bw b hb
      exact ⟨⟨i2, j2, l2, kp b _ z e2⟩, hf2⟩
  · obtain ⟨ts, h1, h2, h3⟩ := wh.tb p hp
    refine ⟨ts, kp _ _ (fun z => ?_) h1, h2, fun pos cv hc => ?_⟩
    · rw [z, e] at h1; cases h1
    · obtain ⟨cc, e1, e2⟩ := h3 pos cv hc
      exact ⟨cc, e1, kp _ _ (fun z => by rw [z, e] at e2; cases e2) e2⟩
  · have hx : x ≠ a := fun z => by rw [z, e'] at ex; cases ex
    rcases keep x hx with z | ⟨_, xs, z⟩
    · rw [z] at ex; exact wh.cd x b' q' ex
    · rw [z] at ex; cases ex
  · have hx : x ≠ a := fun z => by rw [z, e'] at ex; cases ex
    rcases keep x hx with z | ⟨_, xs, z⟩
    · rw [z] at ex; exact wh.ht x ps ex
    · rw [z] at ex; cases ex
  · have hxa : x ≠ a := fun z => (wh.tu x hx).2.2 (by rw [z]; exact ha)
    rcases keep x hxa with z | ⟨_, xs, z⟩
    · rw [z]; exact (wh.tu x hx).1
    · rw [z]; simp
  · exact kp b o (fun z => nb.bw (by rw [z]; exact ha)) eb
  · cases b <;> exact ⟨by simp only [Rep], rfl⟩
end
end Pv

set_option autoImplicit false
set_option linter.all false
set_option maxRecDepth 100000
/-! Pv: nested defs: their statements, their bodies. -/
namespace Pv
open PySem L2
section
variable {c : Cn} {G : Hp} {io : Io} {W W' : Wd} {H H' H1 : Hp} {σ σ2 : St} {ρ ρ2 : Env} {F F0 : Nat → Bool}
/-- a slot that owns nothing is set free -/
theorem EnvOk.clear (E : EnvOk c G io W H σ ρ F) {i : Nat} (hF : F i = false) (hio : ∀ p ∈ io, p.1 ≠ i) (u : Option V) : EnvOk c G io W H (σ.set i u) (ρ.set i none) F := by
  obtain ⟨fp, h1, h2, h3, h4⟩ := E.sl
  have ne : ∀ {j : Nat} {d : D}, (ρ.set i none)[j]? = some (some d) → j ≠ i := fun {j d} e z => by
    subst z
    rw [List.getElem?_set] at e
    split at e
    · split at e <;> cases e
    · exact absurd rfl (by assumption)
  refine ⟨E.wh, E.g, by rw [List.length_set, List.length_set]; exact E.len, ⟨fp, fun j d e => ?_, h2, h3, fun j a hj => ?_⟩, fun p hp => ⟨?_, (E.io p hp).2⟩⟩
  · have hj := ne e
    rw [List.getElem?_set_ne (Ne.symm hj)] at e
    obtain ⟨v, q1, q2⟩ := h1 j d e
    exact ⟨v, by rw [List.getElem?_set_ne (Ne.symm hj)]; exact q1, q2⟩
  · obtain ⟨d, e⟩ := h4 j a hj
    have hj' : j ≠ i := fun z => by
      subst z
      obtain ⟨v, _, q2⟩ := h1 j d e
      rw [hF] at q2
      rw [q2.2] at hj; cases hj
    exact ⟨d, by rw [List.getElem?_set_ne (Ne.symm hj')]; exact e⟩
  · rw [List.getElem?_set_ne (Ne.symm (hio p hp))]; exact (E.io p hp).1
open Classical in
/-- the function at f, all code objects are of the world; other tables are not looked at -/
noncomputable def Wd.code (W : Wd) (H1 : Hp) (f : Addr) : Wd :=
  ⟨fun a => if a = f ∨ ∃ b q, H1 a = some (LamX.CodeO b q) then H1 a else W.fz a, W.bw, W.tb, fun a => W.tu a ∨ (∃ ps, H1 a = some (.tbl ps)) ∧ ∀ p ∈ W.tb, p.1 ≠ a⟩
theorem Wd.code_at {f a : Addr} (h : a = f ∨ ∃ b q, H1 a = some (LamX.CodeO b q)) : (W.code H1 f).fz a = H1 a := if_pos h
theorem Wd.code_ne {f a : Addr} (h : ¬ (a = f ∨ ∃ b q, H1 a = some (LamX.CodeO b q))) : (W.code H1 f).fz a = W.fz a := if_neg h
theorem fz_ntbl (wh : W.In H) {a : Addr} {o : HO} (e : W.fz a = some o) : ∀ ps, o ≠ .tbl ps := fun ps z => by
  subst z
  rcases wh.ht a ps (wh.fz _ _ e) with ⟨p, hp, rfl⟩ | z
  · rw [(wh.tn p hp).1] at e; cases e
  · obtain ⟨b, q, h⟩ := (wh.tu a z).2.1 _ e
    cases h
theorem no_ntbl (wh : W.In H) {a : Addr} {o : HO} (n : W.no a) (e : H a = some o) : ∀ ps, o ≠ .tbl ps := fun ps z => by
  subst z
  rcases wh.ht a ps e with ⟨p, hp, z⟩ | z
  · exact n.tb p hp z
  · exact n.tu z
theorem Grow.code {f : Addr} {F : NdefX.NF} (wh : W.In H) (eN : LamX.ExtN H H1) (nn : ∀ b, H1 b = none → H b = none) (T1 : NdefX.TabsN W.tb H1) (f0 : H f = none) (f1 : H1 f = some (NdefX.FnO f F)) : Grow W H (W.code H1 f) H1 := by
  have keep : ∀ {a : Addr} {o : HO}, H a = some o → a ≠ f := fun e z => by rw [z, f0] at e; cases e
  have lef : ∀ a o, W.fz a = some o → (W.code H1 f).fz a = some o := fun a o e => by
    by_cases z : a = f ∨ ∃ b q, H1 a = some (LamX.CodeO b q)
    · rw [Wd.code_at z]; exact eN a o (wh.fz a o e) (fz_ntbl wh e)
    · rw [Wd.code_ne z]; exact e
  have tabs : ∀ p ∈ W.tb, ¬ (p.1 = f ∨ ∃ b q, H1 p.1 = some (LamX.CodeO b q)) := fun p hp z => by
    obtain ⟨ps, e, _⟩ := T1 p hp
    rcases z with z | ⟨b, q, z⟩
    · rw [z, f1] at e; exact NdefX.fnO_ne ps (Option.some.inj e)
    · rw [z] at e; cases e
  refine ⟨⟨lef, fun _ h => h, rfl, fun _ h => .inl h⟩, ⟨fun a o e => ?_, fun a hb => ?_, T1, fun a b q e => ?_, fun p hp => ⟨?_, (wh.tn p hp).2⟩, wh.te, fun a ps e => ?_, fun a ha => ?_⟩, fun a o e n => ?_⟩
  · by_cases z : a = f ∨ ∃ b q, H1 a = some (LamX.CodeO b q)
    · rw [Wd.code_at z] at e; exact e
    · rw [Wd.code_ne z] at e; exact eN a o (wh.fz a o e) (fz_ntbl wh e)
  · obtain ⟨⟨x, y, z, h1⟩, h2⟩ := wh.bw a hb
    have h3 := eN a _ h1 (fun _ z => nomatch z)
    refine ⟨⟨x, y, z, h3⟩, ?_⟩
    rw [Wd.code_ne (fun z => ?_)]
    · exact h2
    · rcases z with z | ⟨b, q, z⟩
      · exact keep h1 z
      · rw [h3] at z; cases z
  · rw [Wd.code_at (.inr ⟨b, q, e⟩)]; exact e
  · rw [Wd.code_ne (tabs p hp)]; exact (wh.tn p hp).1
  · by_cases z : ∃ p ∈ W.tb, p.1 = a
    · exact .inl z
    · exact .inr (.inr ⟨⟨ps, e⟩, fun p hp q => z ⟨p, hp, q⟩⟩)
  · rcases ha with ha | ⟨⟨ps, e⟩, hn⟩
    · obtain ⟨h1, h2, h3⟩ := wh.tu a ha
      refine ⟨fun z => h1 (nn a z), fun o e => ?_, h3⟩
      by_cases z : a = f ∨ ∃ b q, H1 a = some (LamX.CodeO b q)
      · rw [Wd.code_at z] at e
        rcases z with z | ⟨b, q, z⟩
        · exact absurd f0 (by rw [← z]; exact h1)
        · rw [z] at e; exact ⟨b, q, (Option.some.inj e).symm⟩
      · rw [Wd.code_ne z] at e; exact h2 o e
    · have nz : ¬ (a = f ∨ ∃ b q, H1 a = some (LamX.CodeO b q)) := fun z => by
        rcases z with z | ⟨b, q, z⟩
        · rw [z, f1] at e; exact NdefX.fnO_ne ps (Option.some.inj e)
        · rw [z] at e; cases e
      have hf : W.fz a = none := by
        cases h : W.fz a with
        | none => rfl
        | some o =>
          have := eN a o (wh.fz a o h) (fz_ntbl wh h)
          rw [e] at this
          exact absurd (Option.some.inj this).symm (fz_ntbl wh h ps)
      refine ⟨by rw [e]; simp, fun o h => (by rw [Wd.code_ne nz, hf] at h; cases h), fun hb => ?_⟩
      obtain ⟨⟨x, y, z, h1⟩, _⟩ := wh.bw a hb
      have h3 := eN a _ h1 (fun _ z => nomatch z)
      rw [e] at h3; cases h3
  · have h3 := eN a o e (no_ntbl wh n e)
    refine ⟨h3, ?_, n.bw, n.tb, fun z => ?_⟩
    · rw [Wd.code_ne (fun z => ?_)]
      · exact n.fz
      · rcases z with z | ⟨b, q, z⟩
        · exact keep e z
        · rw [h3] at z
          have z := Option.some.inj z
          rw [z] at e
          have := wh.cd _ _ _ e
          rw [n.fz] at this; cases this
    · rcases z with z | ⟨⟨ps, z⟩, _⟩
      · exact n.tu z
      · rw [h3] at z
        exact no_ntbl wh n e ps (Option.some.inj z)
end
/-! ### the statement -/
section
variable {c : Cn} {B : Heap} {N : List Str} {sc : Scope} {fb : Str → Bool} {j k : Nat} {X : Cx} {io : Io} {G : Glo} {Φ : Phi} {F F1 F2 F' Fn Fb Fc : List Bool} {b br : Bool} {pos p : Pos} {f g x qual : Str} {n i : Nat} {js : List Nat} {nn : NSt} {P : Addr} {tm : Nat → Nat → Str}
  {st : Stmt} {sts : List Stmt} {is : IS}
/-- the cells that the nested def takes -/
abbrev cloOf (X : Cx) (nn : NSt) : List (Str × Addr) := cloFrom X.env.cells (C8.fnScope nn.st).names []
/-- what is known of the made function -/
abbrev ioN (X : Cx) (nn : NSt) (i : Nat) (fa cc : Addr) : Nat × V × List (Addr × HO) := (i, .ref fa, [(fa, NdefX.FnO fa (NdefX.NF.of nn.st nn.name nn.qual (cloOf X nn) cc)), (cc, LamX.CodeO cc nn.qual)])
theorem ss_defn (S : Sx c B N sc (fun _ => true) j X) (M : Mkr c B qual P X) (hst : nn.st = .FunctionDef nn.name (C8.fnArgs nn.st) (C8.fnBody nn.st) [] none [] (C8.fnScope nn.st) none nn.name pos) (hm : (P, tm) ∈ tabL) (hu : ∀ p ∈ tabL, p.1 = P → p.2 = tm) (hq : qual ++ nn.name = nn.qual) (ht : tm pos.line pos.col = qual ++ nn.name)
    (hnd : NdefX.ndefB sc (C8.fnScope nn.st) nn.fr = true) (hd0 : (C8.fnArgs nn.st).defaults = []) (hk0 : (C8.fnArgs nn.st).kw_defaults = []) (ha : annTrees (C8.fnArgs nn.st) none X.env = []) (hi : N[i]? = some nn.name) (hx : locC sc nn.name = true) (hF : fl F i = false) (hio : ∀ p ∈ io, p.1 ≠ i)
    (rest : ∀ fa cc, ESs X (ioN X nn i fa cc :: io) G Φ n br sts is F Fn Fb Fc) : ESs X io G Φ n br (nn.st :: sts) (.seq (.defn i g js) is) F Fn Fb Fc := by
  obtain ⟨cc0, hcode, TB⟩ := M.cd
  have PN := NdefX.ps_ndefMS (X := X) (st := nn.st) (T := tabL) (nm := tm) (c := cc0) (P := P) (name := nn.name) (pos := pos) (i := i) hst (by rw [S.bs, S.mg]; exact TB) hcode hm (by rw [M.ql]; exact ht) hu (fun y hy e => by rw [S.sc]; exact NdefX.ndef_free hnd y hy e) hd0 hk0 ha S.xnd (by rw [S.nN]; exact hi) (S.loc hx) (.inl (S.fn _ rfl))
  refine ⟨fun pins s σ H D I h => ?_⟩
  obtain ⟨G', W, ρ, E, sa⟩ := h
  have sa : ((exS G Φ n (.defn i g js) ρ).bind fun f => match f with | .nx ρ => exS G Φ n is ρ | f => .ok f).Sat (EndD (cOf X) G' io br (fl Fn) (fl Fb) (fl Fc) D W) := sa
  have sa : (exS G Φ n is (ρ.set i none)).Sat (EndD (cOf X) G' io br (fl Fn) (fl Fb) (fl Fc) D W) := sa
  have wb := E.wh.te
  let Rd : TS := fun D σ H => ∃ fa cc W2, W.le W2 ∧ IoAt σ W2 (ioN X nn i fa cc) ∧ EnvOk (cOf X) G' io W2 H σ (ρ.set i none) (fl F) ∧ (exS G Φ n is (ρ.set i none)).Sat (EndD (cOf X) G' io br (fl Fn) (fl Fb) (fl Fc) D W)
  have PR : PSs X sts Rd := ⟨fun pins s σ H D I ⟨fa, cc, W2, l, at_, E2, s2⟩ => (rest fa cc).run pins s σ H D I (by
    refine ⟨G', W2, ρ.set i none, ⟨E2.wh, E2.g, E2.len, E2.sl, fun p hp => ?_⟩, s2.mono fun r q => ?_⟩
    · rcases List.mem_cons.mp hp with rfl | hp
      · exact at_
      · exact E2.io p hp
    · have q : EndD (cOf X) G' io br (fl Fn) (fl Fb) (fl Fc) D W2 r := q.later l
      have dr : ∀ {G : Hp} {W : Wd} {H : Hp} {σ : St} {ρ : Env} {F : Nat → Bool}, EnvOk (cOf X) G (ioN X nn i fa cc :: io) W H σ ρ F → EnvOk (cOf X) G io W H σ ρ F := fun E => ⟨E.wh, E.g, E.len, E.sl, fun p hp => E.io p (List.mem_cons_of_mem _ hp)⟩
      cases r with
      | nx ρ' => exact fun σ' H' W' l' E' => q σ' H' W' l' (dr E')
      | bk ρ' => exact fun σ' H' W' l' E' => q σ' H' W' l' (dr E')
      | ct ρ' => exact fun σ' H' W' l' E' => q σ' H' W' l' (dr E')
      | rt d ρ' => exact fun v σ' H' W' S F' l' E' => q v σ' H' W' S F' l' (dr E'))⟩
  refine (pss_cons PN PR).run pins s σ H D I ?_
  refine ⟨by rw [← wb]; exact E.wh.tb, fun f c' H1 eN nn1 T1 f0 f1 c1 => ?_⟩
  have g := Grow.code E.wh eN nn1 (by rw [wb]; exact T1) f0 f1
  have hq' : X.env.qual ++ nn.name = nn.qual := by rw [M.ql]; exact hq
  rw [hq'] at f1
  have c1 : H1 c' = some (LamX.CodeO c' nn.qual) := by rw [← hq']; exact c1
  have hil : i < σ.length := by rw [I.len, S.nN]; exact (List.getElem?_eq_some_iff.mp hi).1
  refine ⟨f, c', W.code H1 f, g.le, ⟨List.getElem?_set_self hil, fun q hq => ?_⟩, (E.grow g).clear hF hio _, sa⟩
  simp only [List.mem_cons, List.not_mem_nil, or_false] at hq
  rcases hq with rfl | rfl
  · rw [Wd.code_at (.inl rfl)]; exact f1
  · rw [Wd.code_at (.inr ⟨_, _, c1⟩)]; exact c1
theorem caps_ok (S : Sx c B N sc (fun _ => true) j X) (hnd : NdefX.ndefB sc (C8.fnScope nn.st) nn.fr = true) (hjs : js.map (fun j => N[j]?) = nn.fr.map some) : X.Ok → NdefX.Caps X (cloOf X nn) nn.fr js := fun ok =>
  NdefX.Caps.made ok (fun y hy e => by rw [S.sc]; exact NdefX.ndef_free hnd y hy e) (NdefX.ndef_fr hnd) (by rw [S.nN]; exact hjs)
theorem hio_1 {e : Nat × V × List (Addr × HO)} {i : Nat} (h : decide (e.1 ≠ i) = true) : ∀ p ∈ ([e] : Io), p.1 ≠ i := fun p hp => by
  simp only [List.mem_cons, List.not_mem_nil, or_false] at hp
  subst hp
  exact of_decide_eq_true h
theorem hio_2 {e : Nat × V × List (Addr × HO)} {ow : List Nat} (h : (!ow.contains e.1) = true) : ∀ p ∈ ([e] : Io), p.1 ∉ ow := fun p hp => by
  simp only [List.mem_cons, List.not_mem_nil, or_false] at hp
  subst hp
  intro z
  have := List.contains_iff_mem.mpr z
  rw [this] at h
  cases h
theorem tab_u {T : List NdefX.NTab} (hn : (T.map (·.1)).Nodup) {P : Addr} {tm : Nat → Nat → Str} (h : (P, tm) ∈ T) : ∀ p ∈ T, p.1 = P → p.2 = tm := fun p hp e => by
  induction T with
  | nil => cases h
  | cons a T ih =>
    rw [List.map_cons, List.nodup_cons] at hn
    rcases List.mem_cons.mp h with h | h <;> rcases List.mem_cons.mp hp with q | q
    · rw [q, ← h]
    · exact absurd (List.mem_map.mpr ⟨p, q, by rw [e, ← h]⟩) hn.1
    · exact absurd (List.mem_map.mpr ⟨_, h, by rw [← q, e]⟩) hn.1
    · exact ih hn.2 h q
end
end Pv

set_option autoImplicit false
set_option linter.all false
set_option maxRecDepth 100000
/-! Pv: values unpacked, many names at once, xs.extend, displays of dicts. -/
namespace Pv
open PySem L2
section
variable {c : Cn} {G : Hp} {io : Io} {W W' : Wd} {H H' : Hp} {σ σ2 : St} {ρ ρ2 : Env} {F F0 : Nat → Bool}
/-- what is beside the environment may be forgotten -/
theorem EnvOk.less {S : List Addr} (E : EnvOk c (addG G H' S) io W H σ ρ F) (hS : ∀ a ∈ S, G a = none) : EnvOk c G io W H σ ρ F := by
  have e : ∀ {a : Addr} {o : HO}, G a = some o → addG G H' S a = some o := fun {a o} q => by
    unfold addG
    rw [if_neg (fun z => by rw [hS a z] at q; cases q)]
    exact q
  obtain ⟨fp, h1, h2, h3, h4⟩ := E.sl
  refine ⟨E.wh, fun a o q => E.g a o (e q), E.len, ⟨fp, h1, h2, fun i a ha => ?_, h4⟩, E.io⟩
  cases q : G a with
  | none => rfl
  | some o => rw [← e q, h3 i a ha]
theorem addG_agree {H1 H2 : Hp} {S : List Addr} (h : ∀ a ∈ S, H1 a = H2 a) : addG G H1 S = addG G H2 S := by
  funext a
  unfold addG
  by_cases z : a ∈ S
  · rw [if_pos z, if_pos z, h a z]
  · rw [if_neg z, if_neg z]
theorem addG_app {S T : List Addr} : addG G H (S ++ T) = addG (addG G H T) H S := by
  funext a
  unfold addG
  by_cases z : a ∈ S
  · rw [if_pos z, if_pos (by simp [z])]
  · rw [if_neg z]
    by_cases z2 : a ∈ T
    · rw [if_pos z2, if_pos (by simp [z2])]
    · rw [if_neg z2, if_neg (by simp [z, z2])]
theorem OwnB.agree {b : Bool} {d : D} {v : V} {S : List Addr} (x : OwnB c W H b d v S) (h : ∀ a ∈ S, ∀ o, H a = some o → H' a = some o ∧ W'.no a) (l : W.le W') : OwnB c W' H' b d v S :=
  x.keep l (fun a ha o ho => (h a ha o ho).1) fun a ha => by
    obtain ⟨_, o, ho⟩ := x.at a ha
    exact (h a ha o ho).2
/-! several values, each owned or frozen -/
def OwnL (c : Cn) (W : Wd) (H : Hp) : List Bool → List D → List V → List (List Addr) → Prop
  | [], [], vs, Ss => vs = [] ∧ Ss = []
  | b :: bs, d :: ds, vs, Ss => ∃ v r S T, vs = v :: r ∧ Ss = S :: T ∧ OwnB c W H b d v S ∧ (∀ a ∈ S, a ∉ T.flatten) ∧ OwnL c W H bs ds r T
  | _, _, _, _ => False
theorem OwnL.keep : ∀ {bs : List Bool} {ds : List D} {vs : List V} {Ss : List (List Addr)}, OwnL c W H bs ds vs Ss → (∀ a ∈ Ss.flatten, ∀ o, H a = some o → H' a = some o ∧ W'.no a) → W.le W' → OwnL c W' H' bs ds vs Ss
  | [], [], _, _, x, _, _ => x
  | b :: bs, d :: ds, vs, Ss, ⟨v, r, S, T, e1, e2, x, dj, t⟩, h, l => by
    subst e2
    exact ⟨v, r, S, T, e1, rfl, x.agree (fun a ha => h a (by simp [ha])) l, dj, t.keep (fun a ha => h a (by rw [List.flatten_cons]; simp [ha])) l⟩
  | [], _ :: _, _, _, x, _, _ => x.elim
  | _ :: _, [], _, _, x, _, _ => x.elim
theorem OwnL.len : ∀ {bs : List Bool} {ds : List D} {vs : List V} {Ss : List (List Addr)}, OwnL c W H bs ds vs Ss → vs.length = bs.length
  | [], [], _, _, x => by rw [x.1]; rfl
  | b :: bs, d :: ds, vs, Ss, ⟨v, r, S, T, e1, e2, x, dj, t⟩ => by rw [e1]; simp [t.len]
  | [], _ :: _, _, _, x => x.elim
  | _ :: _, [], _, _, x => x.elim
theorem OwnL.at : ∀ {bs : List Bool} {ds : List D} {vs : List V} {Ss : List (List Addr)}, OwnL c W H bs ds vs Ss → ∀ a ∈ Ss.flatten, W.no a ∧ ∃ o, H a = some o
  | [], [], _, _, x, a, ha => by rw [x.2] at ha; simp at ha
  | b :: bs, d :: ds, vs, Ss, ⟨v, r, S, T, e1, e2, x, dj, t⟩, a, ha => by
    subst e2
    rw [List.flatten_cons, List.mem_append] at ha
    rcases ha with ha | ha
    · exact x.at a ha
    · exact t.at a ha
  | [], _ :: _, _, _, x, _, _ => x.elim
  | _ :: _, [], _, _, x, _, _ => x.elim
def setS : St → List Nat → List V → St
  | σ, i :: is, v :: vs => setS (σ.set i (some v)) is vs
  | σ, _, _ => σ
def setDs : Env → List Nat → List D → Env
  | ρ, i :: is, d :: ds => setDs (setV ρ i d) is ds
  | ρ, _, _ => ρ
def setF : List Bool → List Nat → List Bool → List Bool
  | F, i :: is, b :: bs => setF (F.set i b) is bs
  | F, _, _ => F
theorem foldl_set : ∀ {is : List Nat} {ds : List D} {ρ : Env}, (is.zip ds).foldl (fun ρ o => setV ρ o.1 o.2) ρ = setDs ρ is ds
  | [], ds, ρ => by cases ds <;> rfl
  | i :: is, [], ρ => rfl
  | i :: is, d :: ds, ρ => foldl_set (is := is) (ds := ds)
theorem EnvOk.storeL : ∀ {bs : List Bool} {ds : List D} {vs : List V} {Ss : List (List Addr)} {is : List Nat} {σ : St} {ρ : Env} {F : List Bool}, EnvOk c (addG G H Ss.flatten) io W H σ ρ (fl F) → OwnL c W H bs ds vs Ss → (∀ a ∈ Ss.flatten, G a = none) →
    is.length = bs.length → (∀ i ∈ is, i < ρ.length ∧ i < F.length) → (∀ p ∈ io, p.1 ∉ is) → EnvOk c G io W H (setS σ is vs) (setDs ρ is ds) (fl (setF F is bs))
  | [], [], vs, Ss, is, σ, ρ, F, E, x, hS, hl, hi, hio => by
    obtain ⟨rfl, rfl⟩ := x
    have : is = [] := List.eq_nil_of_length_eq_zero (by simpa using hl)
    subst this
    have E : EnvOk c (addG G H []) io W H σ ρ (fl F) := E
    rw [addG_nil] at E
    exact E
  | b :: bs, d :: ds, vs, Ss, [], σ, ρ, F, E, x, hS, hl, hi, hio => by simp at hl
  | b :: bs, d :: ds, vs, Ss, i :: is, σ, ρ, F, E, ⟨v, r, S, T, e1, e2, x, dj, t⟩, hS, hl, hi, hio => by
    subst e1 e2
    rw [List.flatten_cons, addG_app] at E
    have hh := hi i (by simp)
    have E1 := E.store (i := i) (fun a ha => by
      unfold addG
      rw [if_neg (dj a ha)]
      exact hS a (by rw [List.flatten_cons]; simp [ha])) x hh.1 (fun p hp z => hio p hp (by simp [z]))
    rw [fl_put hh.2] at E1
    exact EnvOk.storeL (Ss := T) (σ := σ.set i (some v)) (ρ := setV ρ i d) (F := F.set i b) E1 t (fun a ha => hS a (by rw [List.flatten_cons]; simp [ha])) (by simpa using hl) (fun k hk => by
      have := hi k (by simp [hk])
      rw [List.length_set]
      exact ⟨by unfold setV; rw [List.length_set]; exact this.1, this.2⟩) (fun p hp z => hio p hp (by simp [z]))
  | [], _ :: _, _, _, _, _, _, _, _, x, _, _, _, _ => x.elim
  | _ :: _, [], _, _, _, _, _, _, _, x, _, _, _, _ => x.elim
end
def toL (X : Cx) (io : Io) (bs : List Bool) (m : Env → R (List D × Env)) (F F' : Nat → Bool) : TA := fun σ H Q =>
  ∃ G W ρ, EnvOk (cOf X) G io W H σ ρ F ∧ (m ρ).Sat fun r => r.2 = ρ ∧ ∀ vs H' W' Ss, W.le W' → EnvOk (cOf X) (addG G H' Ss.flatten) io W' H' σ ρ F' → OwnL (cOf X) W' H' bs r.1 vs Ss → (∀ a ∈ Ss.flatten, G a = none) → Q vs H'
section
variable {c : Cn} {B : Heap} {N : List Str} {sc : Scope} {fb : Str → Bool} {j k : Nat} {X : Cx} {io : Io} {G : Glo} {Φ : Phi} {F F1 F2 F3 F4 F' Fb Fc Fn : List Bool} {e a d tg : Expr} {ie ia id il : IE} {b br : Bool} {bs : List Bool} {pos p apos cpos xp : Pos} {es : List Expr} {n : Nat} {t ts : Tg} {ss rr : List Nat}
  {i : Nat} {x : Str} {xs : List IX}
/-! ### a value unpacked -/
theorem s_asgT (ha : EE X io G Φ false a ia F F1) (hg : EG X io tg t ss F1 F2) (hw : swappedStores [tg] a X.env = pure none := by rfl) (hs : swapsWithSole [tg] a pos.line X.env = pure false := by rfl)
    (h1 : (assignEach [tg] X.env).map (·.2) = [assign tg X.env] := by rfl) : ES X io G Φ n br (.Assign [tg] a pos) (.asg t (.e ia)) F F2 Fb Fc :=
  (ps_asg ha hg hs hw h1).imp fun D σ H hl ⟨G', W, ρ, E, s⟩ => ⟨G', W, ρ, E, (R.Sat.bind.mp (R.Sat.bind.mp (show (((evE G Φ ρ ia).bind fun d => R.ok (d, ρ)).bind fun r => (asgT t r.1 r.2).bind fun ρ => R.ok (Fl.nx ρ)).Sat _ from s))).mono fun d q v H1 W1 S1 l1 E1 x1 n1 => by
    obtain ⟨r, rfl⟩ := x1
    rw [addG_nil] at E1
    exact ⟨G', W1, ρ, d, E1, r, (R.Sat.bind.mp (show ((asgT t d ρ).bind fun ρ => R.ok (Fl.nx ρ)).Sat _ from q)).mono fun ρ' q σ' E2 _ _ => (show ∀ σ' H' W', W.le W' → EnvOk (cOf X) G' io W' H' σ' ρ' (fl F2) → D.nx σ' H' from q) σ' H1 W1 l1 E2⟩⟩
theorem fm_lt {α β : Type} {f : α → Option β} : ∀ {l : List α} {e : α}, e ∈ l → f e = none → (l.filterMap f).length < l.length
  | a :: l, e, he, hf => by
    cases h : f a with
    | none =>
      rw [List.filterMap_cons_none h]
      exact Nat.lt_succ_of_le (List.length_filterMap_le _ _)
    | some y =>
      rw [List.filterMap_cons_some h]
      rcases List.mem_cons.mp he with rfl | he
      · rw [hf] at h; cases h
      · exact Nat.succ_lt_succ (fm_lt he hf)
def notName : Expr → Bool
  | .Name .. => false
  | _ => true
/-- no plain local name -/
def nl (sc : Scope) : Expr → Bool
  | .Name id _ => !(sc.names.lookup id == some .local)
  | _ => true
/-- the tuple is laid -/
theorem sw_none {tes vs : List Expr} {pt pt2 : Pos} {kt k2 : Nat} {env : PySem.Env} {sc : Scope} (hsc : env.scope = sc) (hk : sc.kind = .function) (h : (!(tes.length == 2 || tes.length == 3) || tes.any (nl sc)) = true) (hs : (vs.all notStar) = true) : swappedStores [.Tuple tes kt pt] (.Tuple vs k2 pt2) env = pure none := by
  subst hsc
  have hb : env.blockKind = .function := by unfold Env.blockKind; rw [hk]; rfl
  have hst : (vs.any fun | .Starred .. => true | _ => false) = false := by
    rw [List.any_eq_false]
    intro e he
    have := List.all_eq_true.mp hs e he
    cases e <;> first | exact absurd this Bool.false_ne_true | simp
  unfold swappedStores
  simp only []
  by_cases hc : (!(tes.length == 2 || tes.length == 3) || vs.length != tes.length || env.blockKind != .function) = true
  · erw [if_pos hc]
  · have h : tes.any (nl env.scope) = true := by
      rw [Bool.or_eq_true] at h
      rcases h with h | h
      · exact absurd (by rw [h]; rfl) hc
      · exact h
    have hn : ∀ line : Nat, ((tes.filterMap fun
      | .Name id pos => if env.kindOf id == some .local && pos.line == line then some id else none
      | _ => none).length != tes.length) = true := fun line => by
      obtain ⟨e, he, hne⟩ := List.any_eq_true.mp h
      rw [bne_iff_ne]
      refine Nat.ne_of_lt (fm_lt he ?_)
      cases e with
      | Name id pos =>
        have hne : (!(env.scope.names.lookup id == some .local)) = true := hne
        have kx : (env.kindOf id == some .local) = false := by
          have : env.kindOf id = env.scope.names.lookup id := rfl
          rw [this]
          simpa using hne
        show (if (env.kindOf id == some .local && pos.line == line) = true then some id else none) = none
        rw [kx, Bool.false_and]
        rfl
      | _ => rfl
    erw [if_neg hc, hst]
    erw [if_neg (show ¬ (false = true) from Bool.false_ne_true), if_pos (by erw [hn]; rfl)]
theorem sw_par3 {a1 a2 a3 : Expr} {x y z : Str} {px py pz pt pt2 : Pos} {kt k2 : Nat} {env : PySem.Env} {sc : Scope} (hsc : env.scope = sc) (hk : sc.kind = .function) (hx : sc.names.lookup x = some .local) (hy : sc.names.lookup y = some .local) (hz : sc.names.lookup z = some .local)
    (hxy : ((x == y) || (x == z) || (y == z)) = false) (hl : (py.line == px.line && pz.line == px.line) = true) (hs : ([a1, a2, a3].all notStar) = true) (h1 : ([a1, a2, a3].all (foldedForSure 8)) = false) (h2 : ([a1, a2, a3].all (constantsAlone 8)) = false) :
    swappedStores [.Tuple [.Name x px, .Name y py, .Name z pz] kt pt] (.Tuple [a1, a2, a3] k2 pt2) env = pure (some [x, y, z]) := by
  subst hsc
  have kx : env.kindOf x = some .local := hx
  have ky : env.kindOf y = some .local := hy
  have kz : env.kindOf z = some .local := hz
  have hb : env.blockKind = .function := by unfold Env.blockKind; rw [hk]; rfl
  rw [Bool.and_eq_true] at hl
  have hst : ([a1, a2, a3].any fun | .Starred .. => true | _ => false) = false := by
    rw [List.any_eq_false]
    intro e he
    have := List.all_eq_true.mp hs e he
    cases e <;> first | exact absurd this Bool.false_ne_true | simp
  have hn : ([Expr.Name x px, Expr.Name y py, Expr.Name z pz].filterMap fun
    | .Name id pos => if env.kindOf id == some .local && pos.line == (([Expr.Name x px, Expr.Name y py, Expr.Name z pz].head?.map (·.pos.line)).getD 0) then some id else none
    | _ => none) = [x, y, z] := by
    have e0 : (([Expr.Name x px, Expr.Name y py, Expr.Name z pz].head?.map (·.pos.line)).getD 0) = px.line := rfl
    rw [e0]
    simp only [List.filterMap_cons, List.filterMap_nil, kx, ky, kz, hl.1, hl.2]
    simp
  simp only [Bool.or_eq_false_iff] at hxy
  have he : [x, y, z].eraseDups.length = [x, y, z].length := by
    have : [x, y, z].eraseDups = [x, y, z] := by
      rw [List.eraseDups_cons]
      have hyx : (y == x) = false := by rw [BEq.comm]; exact hxy.1.1
      have hzx : (z == x) = false := by rw [BEq.comm]; exact hxy.1.2
      have hzy : (z == y) = false := by rw [BEq.comm]; exact hxy.2
      simp [hyx, hzx, hzy, List.eraseDups_cons]
    rw [this]
  unfold swappedStores
  simp only []
  erw [hst, hn, he, hb, h1, h2]
  rfl
/-! ### many names at once -/
abbrev EOw (X : Cx) (io : Io) (G : Glo) (Φ : Phi) (bs : List Bool) (es : List Expr) (xs : List IX) (F F' : List Bool) : Prop := PA X es (toL X io bs (fun ρ => evXs G Φ ρ xs) (fl F) (fl F'))
theorem w_nil : EOw X io G Φ [] [] [] F F := pa_nil.imp fun σ H Q ⟨G', W, ρ, E, s⟩ => by
  have s : ρ = ρ ∧ ∀ vs H' W' Ss, W.le W' → EnvOk (cOf X) (addG G' H' Ss.flatten) io W' H' σ ρ (fl F) → OwnL (cOf X) W' H' [] [] vs Ss → (∀ a ∈ Ss.flatten, G' a = none) → Q vs H' := s
  exact s.2 [] H W [] (.refl W) (by rw [List.flatten_nil, addG_nil]; exact E) ⟨rfl, rfl⟩ (by simp)
theorem w_cons (ha : EE X io G Φ b a ia F F1) (hr : EOw X io G Φ bs es xs F1 F') (hs : starEach (a :: es) X.env = (false, eval a X.env) :: starEach es X.env := by rfl) : EOw X io G Φ (b :: bs) (a :: es) (.e ia :: xs) F F' :=
  (pa_cons ha hr hs).imp fun σ H Q ⟨G', W, ρ, E, s⟩ => ⟨G', W, ρ, E, (R.Sat.bind.mp (R.Sat.bind.mp (show (((evE G Φ ρ ia).bind fun d => R.ok (d, ρ)).bind fun r => (evXs G Φ r.2 xs).bind fun s => R.ok (r.1 :: s.1, s.2)).Sat _ from s))).mono fun d hd v H1 W1 S l1 E1 x1 n1 => ⟨addG G' H1 S, W1, ρ, E1, (R.Sat.bind.mp (show ((evXs G Φ ρ xs).bind fun s => R.ok (d :: s.1, s.2)).Sat _ from hd)).mono fun r f => by
    have f : r.2 = ρ ∧ ∀ vs H' W' Ss, W.le W' → EnvOk (cOf X) (addG G' H' Ss.flatten) io W' H' σ ρ (fl F') → OwnL (cOf X) W' H' (b :: bs) (d :: r.1) vs Ss → (∀ a ∈ Ss.flatten, G' a = none) → Q vs H' := f
    refine ⟨f.1, fun vs H2 W2 Ss l2 E2 x2 n2 => ?_⟩
    have nS : ∀ a ∈ S, a ∉ Ss.flatten := fun a ha z => by
      have := n2 a z
      unfold addG at this
      rw [if_pos ha] at this
      obtain ⟨_, o, ho⟩ := x1.at a ha
      rw [ho] at this; cases this
    have k1 : ∀ a ∈ S, ∀ o, H1 a = some o → H2 a = some o ∧ W2.no a := fun a ha o ho => E2.g a o (by
      unfold addG
      rw [if_neg (nS a ha), if_pos ha]; exact ho)
    have eg : addG (addG G' H1 S) H2 Ss.flatten = addG G' H2 (S :: Ss).flatten := by
      rw [List.flatten_cons, addG_agree (H1 := H1) (H2 := H2) (fun a ha => by
        obtain ⟨_, o, ho⟩ := x1.at a ha
        rw [ho, (k1 a ha o ho).1])]
      funext a
      unfold addG
      by_cases z : a ∈ S
      · rw [if_neg (nS a z), if_pos z, if_pos (by simp [z])]
      · by_cases z2 : a ∈ Ss.flatten
        · rw [if_pos z2, if_pos (List.mem_append.mpr (.inr z2))]
        · rw [if_neg z2, if_neg z, if_neg (fun q => (List.mem_append.mp q).elim z z2)]
    rw [eg] at E2
    refine f.2 (v :: vs) H2 W2 (S :: Ss) (l1.trans l2) E2 ⟨v, vs, S, Ss, rfl, rfl, x1.agree k1 l2, nS, x2⟩ fun a ha => ?_
    rw [List.flatten_cons, List.mem_append] at ha
    rcases ha with ha | ha
    · exact n1 a ha
    · have := n2 a ha
      unfold addG at this
      by_cases z : a ∈ S
      · exact n1 a z
      · rw [if_neg z] at this; exact this⟩⟩
/-- plain right sides change no name -/
def isE : IX → Bool
  | .e _ => true
  | _ => false
theorem sat_same {α : Type} {m : R α} {P Q : α → Prop} (h : ∀ T : α → Prop, m.Sat T → m.Sat fun a => Q a ∧ T a) (s : m.Sat P) : m.Sat fun a => Q a ∧ P a := h P s
theorem evXs_same : ∀ {xs : List IX} {ρ : Env}, xs.all isE = true → ∀ T : List Pv.D × Env → Prop, (evXs G Φ ρ xs).Sat T → (evXs G Φ ρ xs).Sat fun a => a.2 = ρ ∧ T a
  | [], ρ, _, T, s => ⟨rfl, s⟩
  | .e ie :: xs, ρ, h, T, s => by
    have hx : xs.all isE = true := by rw [List.all_cons, Bool.and_eq_true] at h; exact h.2
    have s := R.Sat.bind.mp (R.Sat.bind.mp (show (((evE G Φ ρ ie).bind fun d => R.ok (d, ρ)).bind fun r => (evXs G Φ r.2 xs).bind fun s => R.ok (r.1 :: s.1, s.2)).Sat T from s))
    show (((evE G Φ ρ ie).bind fun d => R.ok (d, ρ)).bind fun r => (evXs G Φ r.2 xs).bind fun s => R.ok (r.1 :: s.1, s.2)).Sat _
    refine R.Sat.bind.mpr (R.Sat.bind.mpr (s.mono fun d q => ?_))
    have q := R.Sat.bind.mp (show ((evXs G Φ ρ xs).bind fun s => R.ok (d :: s.1, s.2)).Sat T from q)
    show ((evXs G Φ ρ xs).bind fun s => R.ok (d :: s.1, s.2)).Sat _
    exact R.Sat.bind.mpr (evXs_same hx _ q)
  | .mv _ :: _, _, h, _, _ => by simp [isE] at h
  | .pop _ _ :: _, _, h, _, _ => by simp [isE] at h
  | .io _ _ _ :: _, _, h, _, _ => by simp [isE] at h
  | .idx _ _ :: _, _, h, _, _ => by simp [isE] at h
/-- what is behind the values -/
theorem par_sat {is : List Nat} {D : Ends} {σ : St} {H : Hp} {Q : List V → Hp → Prop} (s : tsD X io br (fun ρ => exS G Φ n (.par is xs) ρ) (fl F) (fl Fn) (fl Fb) (fl Fc) D σ H)
    (hQ : ∀ vs H1 W1, W1.In H1 → vs.length = bs.length → (∀ H2 W2, Grow W1 H1 W2 H2 → D.nx (setS σ is vs) H2) → Q vs H1) (hl : is.length = bs.length) (hi : ∀ i ∈ is, i < σ.length ∧ i < F'.length) (hio : ∀ p ∈ io, p.1 ∉ is) (hF : setF F' is bs = Fn) (hx : xs.all isE = true) :
    toL X io bs (fun ρ => evXs G Φ ρ xs) (fl F) (fl F') σ H Q := by
  obtain ⟨G', W, ρ, E, s⟩ := s
  refine ⟨G', W, ρ, E, (sat_same (evXs_same hx) (R.Sat.bind.mp (show ((evXs G Φ ρ xs).bind fun r => R.ok (Fl.nx ((is.zip r.1).foldl (fun ρ o => setV ρ o.1 o.2) r.2))).Sat _ from s))).mono fun r ⟨hr, q⟩ => ⟨hr, fun vs H' W' Ss l E' x' n' => hQ vs H' W' E'.wh x'.len fun H2 W2 g => ?_⟩⟩
  have q : ∀ σ' H' W', W.le W' → EnvOk (cOf X) G' io W' H' σ' ((is.zip r.1).foldl (fun ρ o => setV ρ o.1 o.2) r.2) (fl Fn) → D.nx σ' H' := q
  rw [foldl_set, hr] at q
  have kp : ∀ a ∈ Ss.flatten, ∀ o, H' a = some o → H2 a = some o ∧ W2.no a := fun a ha o ho => g.kp a o ho (x'.at a ha).1
  have E2 := E'.grow g
  rw [addG_agree (H1 := H') (H2 := H2) (fun a ha => by
    obtain ⟨_, o, ho⟩ := x'.at a ha
    rw [ho, (kp a ha o ho).1])] at E2
  have E3 := E2.storeL (is := is) (x'.keep kp g.le) n' hl (fun i hh => ⟨by rw [E.len]; exact (hi i hh).1, (hi i hh).2⟩) hio
  rw [hF] at E3
  exact q _ _ _ (l.trans g.le) E3
theorem s_par3 {a1 a2 a3 : Expr} {y z : Str} {i2 i3 : Nat} {px py pz pt pt2 : Pos} {kt k2 : Nat} (S : Sx c B N sc fb j X) (ha : EOw X io G Φ bs [a1, a2, a3] xs F F') (hb : bs.length = 3) (hN : N[i]? = some x) (hN2 : N[i2]? = some y) (hN3 : N[i3]? = some z) (hij : decide (i ≠ i2 ∧ i ≠ i3 ∧ i2 ≠ i3) = true)
    (hx : sc.names.lookup x = some .local) (hy : sc.names.lookup y = some .local) (hz : sc.names.lookup z = some .local) (hio : ∀ p ∈ io, p.1 ∉ [i, i2, i3]) (hFl : ([i, i2, i3].all fun k => decide (k < F'.length)) = true) (hF : setF F' [i, i2, i3] bs = Fn) (hE : xs.all isE = true)
    (hk : sc.kind = .function) (hxy : ((x == y) || (x == z) || (y == z)) = false) (hl : (py.line == px.line && pz.line == px.line) = true) (hst : ([a1, a2, a3].all notStar) = true) (h1 : ([a1, a2, a3].all (foldedForSure 8)) = false) (h2 : ([a1, a2, a3].all (constantsAlone 8)) = false)
    (hs : swapsWithSole [.Tuple [.Name x px, .Name y py, .Name z pz] kt pt] (.Tuple [a1, a2, a3] k2 pt2) pos.line X.env = pure false := by rfl) :
    ES X io G Φ n br (.Assign [.Tuple [.Name x px, .Name y py, .Name z pz] kt pt] (.Tuple [a1, a2, a3] k2 pt2) pos) (.par [i, i2, i3] xs) F Fn Fb Fc := by
  obtain ⟨n1, n2, n3⟩ := of_decide_eq_true hij
  refine (ps_par3 S.calm (by rw [S.nN]; exact S.nd) (by rw [S.nN]; exact hN) (by rw [S.nN]; exact hN2) (by rw [S.nN]; exact hN3) n1 n2 n3 (by rw [S.sc]; exact hx) (by rw [S.sc]; exact hy) (by rw [S.sc]; exact hz) ha (sw_par3 S.sc hk hx hy hz hxy hl hst h1 h2) hs).imp fun D σ H hl s => ?_
  have hi : ∀ k ∈ [i, i2, i3], k < σ.length ∧ k < F'.length := fun k hk => by
    refine ⟨?_, of_decide_eq_true (List.all_eq_true.mp hFl k hk)⟩
    rw [hl, S.nN]
    simp only [List.mem_cons, List.not_mem_nil, or_false] at hk
    rcases hk with rfl | rfl | rfl
    · exact (List.getElem?_eq_some_iff.mp hN).1
    · exact (List.getElem?_eq_some_iff.mp hN2).1
    · exact (List.getElem?_eq_some_iff.mp hN3).1
  refine par_sat s (fun vs H1 W1 wh hv q => ?_) (by rw [hb]; rfl) hi hio hF hE
  rw [hb] at hv
  match vs, hv with
  | [u, v, w], _ => exact ⟨u, v, w, rfl, q H1 W1 (.refl wh)⟩
/-- names as targets -/
def tgN (is : List Nat) : TGs := fun vs σ H Q => vs.length = is.length ∧ Q (setS σ is vs) H
theorem n_nil : PGs X [] (tgN []) := pgs_nil.imp fun vs σ H Q ⟨h, q⟩ => by
  have : vs = [] := List.eq_nil_of_length_eq_zero (by simpa using h)
  subst this
  exact ⟨rfl, q⟩
theorem n_cons {is : List Nat} (S : Sx c B N sc fb j X) (hN : N[i]? = some x) (hx : locC sc x = true) (hf : (fb x || decide (sc.names.lookup x = some .local)) = true) (h : PGs X es (tgN is)) (hs : (assignEach (.Name x p :: es) X.env).map (·.2) = assign (.Name x p) X.env :: (assignEach es X.env).map (·.2) := by rfl) : PGs X (.Name x p :: es) (tgN (i :: is)) := by
  refine (pgs_cons (pg_name (by rw [S.nN]; exact S.nd) (by rw [S.nN]; exact hN) (S.loc hx) ?_) h hs).imp fun vs σ H Q ⟨hl, q⟩ => ?_
  · rw [Bool.or_eq_true, decide_eq_true_eq] at hf
    rcases hf with h | h
    · exact .inl (S.fn x h)
    · exact .inr (by rw [S.sc]; exact h)
  · cases vs with
    | nil => simp at hl
    | cons v vs => exact ⟨v, vs, rfl, by simpa using hl, q⟩
theorem s_parT {es tes : List Expr} {is : List Nat} {pt pt2 : Pos} {kt k2 : Nat} (S : Sx c B N sc fb j X) (ha : EOw X io G Φ bs es xs F F') (ht : PGs X tes (tgN is)) (hl : is.length = bs.length) (hbz : decide (bs.length ≤ 100) = true) (hFl : (is.all fun k => decide (k < N.length) && decide (k < F'.length)) = true) (hio : ∀ p ∈ io, p.1 ∉ is) (hF : setF F' is bs = Fn) (hE : xs.all isE = true)
    (hk : sc.kind = .function) (hw : (!(tes.length == 2 || tes.length == 3) || tes.any (nl sc)) = true) (hst : (es.all notStar) = true) (hn : (assignEach tes X.env).length = bs.length := by rfl) (hst2 : (assignEach tes X.env).findIdx? (·.1) = none := by rfl)
    (hs : swapsWithSole [.Tuple tes kt pt] (.Tuple es k2 pt2) pos.line X.env = pure false := by rfl) (h1 : (assignEach [.Tuple tes kt pt] X.env).map (·.2) = [assign (.Tuple tes kt pt) X.env] := by rfl) :
    ES X io G Φ n br (.Assign [.Tuple tes kt pt] (.Tuple es k2 pt2) pos) (.par is xs) F Fn Fb Fc := by
  refine (ps_asg (pe_tup ha) (pg_tup S.calm ht hn hst2) hs (sw_none S.sc hk hw hst) h1).imp fun D σ H hsl s => ?_
  have hi : ∀ k ∈ is, k < σ.length ∧ k < F'.length := fun k hk => by
    have := List.all_eq_true.mp hFl k hk
    rw [Bool.and_eq_true, decide_eq_true_eq, decide_eq_true_eq] at this
    exact ⟨by rw [hsl, S.nN]; exact this.1, this.2⟩
  refine par_sat s (fun vs H1 W1 wh hv q => ⟨?_, fun p hp => ⟨p, vs, rfl, .inl (.inl upd_same), hv, by rw [hv, hl], ?_⟩⟩) hl hi hio hF hE
  · rw [hv]
    exact Nat.le_trans (of_decide_eq_true hbz) (by rw [sizeLine_eq]; omega)
  · exact q _ W1 (.new wh hp)
/-! ### xs.extend(fresh list) -/
theorem s_extend (S : Sx c B N sc fb j X) (hN : N[i]? = some x) (hv : visC sc x = true) (hd : ((x == ("__debug__" : Str)) || (x == ("__classdict__" : Str))) = false) (he : EE X io G Φ true e ie F F1) (hF : fl F1 i = true) (hFl : decide (i < F1.length) = true)
    (hfew : ((backTo cpos (starEach [e] X.env)).all (fun x => !x.1) && (backToKw cpos (keywordEach [] X.env)).all (fun x => x.1.isSome) && decide (([e] : List Expr).length + ([] : List Keyword).length + (if ([] : List Keyword).isEmpty then 0 else 1) < 30)) = true := by rfl)
    (hline : (apos.endLine == cpos.line) = true := by rfl) (hse : starEach [e] X.env = (false, eval e X.env) :: starEach [] X.env := by rfl) (hpl : (backTo cpos (starEach [] X.env)).any (·.1) = false := by rfl)
    (hs : swapsWith (.Call (.Attribute (.Name x xp) "extend" apos) [e] [] cpos) none pos.line X.env = pure false := by rfl) :
    ES X io G Φ n br (.Expr (.Call (.Attribute (.Name x xp) "extend" apos) [e] [] cpos) pos) (.mt .extend i (.e ie)) F F1 Fb Fc := by
  rw [Bool.or_eq_false_iff] at hd
  refine (ps_expr (pe_bm PySem.F.plainAttrs_list PySem.F.slot_list_extend PySem.F.type_list_extend mt_extend (pe_var (i := i) (by rw [S.nN]; exact hN) (S.vis hv) hd.1 hd.2) (pa_cons he pa_nil hse) (by rfl) hfew hline hse hpl) hs).imp fun D σ H _ ⟨G', W, ρ, E, s⟩ => ?_
  have s := (R.Sat.bind.mp (R.Sat.bind.mp (show (((evE G Φ ρ ie).bind fun d => R.ok (d, ρ)).bind fun r => (getV r.2 i).bind fun d => (mtD .extend d r.1).bind fun d => R.ok (Fl.nx (setV r.2 i d))).Sat _ from s)))
  by_cases hl : ∃ l, ρ[i]? = some (some (.lst l))
  · obtain ⟨l, hi⟩ := hl
    obtain ⟨v, h1, h2⟩ := E.get hi
    obtain ⟨q, vs, rfl, h3, h4⟩ := h2
    refine ⟨.ref q, h1, .inl ⟨rfl, vs, .inl h3⟩, G', W, ρ, E, R.Sat.mono (fun d0 q0 xv H1 W1 S' l1 E1 xx nn => ?_) s⟩
    have q0 : ((getV ρ i).bind fun d => (mtD .extend d d0).bind fun d => R.ok (Fl.nx (setV ρ i d))).Sat _ := q0
    have eg : getV ρ i = .ok (.lst l) := by unfold getV; rw [hi]
    rw [eg] at q0
    cases d0 with
    | lst r =>
      have q0 : ((if l.length + r.length ≤ big then R.ok (Pv.D.lst (l ++ r)) else .bad).bind fun d => R.ok (Fl.nx (setV ρ i d))).Sat _ := q0
      obtain ⟨hz, q0⟩ := sat_ifp (R.Sat.bind.mp q0)
      obtain ⟨a2, o2, rfl, no2, ho2, ⟨vs2, rfl, rv2⟩, rfl⟩ := (show Own (cOf X) W1 H1 (.lst r) xv S' from xx)
      obtain ⟨v', S2, k1, k2, k3, E2⟩ := E1.take hi hF
      rw [h1] at k1; cases k1
      obtain ⟨a', o, e1, no, ho, ⟨vs', rfl, rv⟩, rfl⟩ := k2
      cases e1
      refine ⟨q, a2, vs', vs2, rfl, rfl, ho, ho2, by rw [← rv.length, ← rv2.length]; rw [big_eq] at hz; exact hz, ?_⟩
      have E3 := E2.putOwn (o := .lst (vs' ++ vs2)) (by simp) no ho
      have E4 := E3.putBack (b := true) (d := .lst (l ++ r)) (v := .ref q) k3 ⟨q, _, rfl, no, upd_same, ⟨_, rfl, rv.append rv2⟩, rfl⟩ (List.getElem?_eq_some_iff.mp hi).1 h1
      rw [fl_keep hFl hF] at E4
      exact (show ∀ σ' H' W', W.le W' → EnvOk (cOf X) G' io W' H' σ' (setV ρ i (.lst (l ++ r))) (fl F1) → D.nx σ' H' from q0) σ _ W1 l1 (E4.less nn)
    | _ => exact (R.Sat.bind.mp q0).elim
  · refine (R.Sat.no (s.mono fun d0 q0 => ?_)).elim
    have q0 := R.Sat.bind.mp (show ((getV ρ i).bind fun d => (mtD .extend d d0).bind fun d => R.ok (Fl.nx (setV ρ i d))).Sat _ from q0)
    obtain ⟨d, hi, q0⟩ := getV_of q0
    cases d with
    | lst l => exact hl ⟨l, hi⟩
    | _ => exact (R.Sat.bind.mp q0)
/-! ### displays of dicts with texts as keys -/
theorem disp_into {W : Wd} {P : Pv.D → Prop} : ∀ {sk : List Str} {ds : List Pv.D} {vs : List V} {kvs : List (Key × V)} {ds0 : List Pv.D}, (kvs.map (·.1)).Nodup → RepL c W ds0 (kvs.map (·.2)) → RepL c W ds vs → sk.length = ds.length →
    (pairsInto (pairUp (sk.map Pv.D.str) ds) (kvs.map fun p => kD p.1) ds0).Sat P → ∃ ds', P (.dic ((mergeK kvs ((sk.map Sum.inr).zip vs)).map fun p => kD p.1) ds') ∧ RepL c W ds' ((mergeK kvs ((sk.map Sum.inr).zip vs)).map (·.2))
  | [], [], vs, kvs, ds0, nd, r0, r, hl, s => ⟨ds0, s, r0⟩
  | [], _ :: _, _, _, _, _, _, _, hl, _ => by simp at hl
  | _ :: _, [], _, _, _, _, _, _, hl, _ => by simp at hl
  | k :: sk, d :: ds, vs, kvs, ds0, nd, r0, r, hl, s => by
    obtain ⟨v, vr, rfl, r1, r2⟩ := (show ∃ v r, vs = v :: r ∧ Rep c W d v ∧ RepL c W ds r by simpa only [RepL] using r)
    have s : (if keyFits (kvs.map fun p => kD p.1) (.str k) then pairsInto (pairUp (sk.map Pv.D.str) ds) (dput (kvs.map fun p => kD p.1) ds0 (.str k) d).1 (dput (kvs.map fun p => kD p.1) ds0 (.str k) d).2 else .bad).Sat P := s
    obtain ⟨_, s⟩ := sat_if s
    obtain ⟨e1, e2⟩ := dput_kvs (k := Sum.inr k) r1 nd r0
    have e1 : (dput (kvs.map fun p => kD p.1) ds0 (.str k) d).1 = (putK kvs (Sum.inr k) v).map fun p => kD p.1 := e1
    have e2 : RepL c W (dput (kvs.map fun p => kD p.1) ds0 (.str k) d).2 ((putK kvs (Sum.inr k) v).map (·.2)) := e2
    rw [e1] at s
    exact disp_into (kvs := putK kvs (Sum.inr k) v) (putK_nd nd) e2 r2 (by simpa using hl) s
def tpR (X : Cx) (io : Io) (sk : List Str) (m : Env → R (List Pv.D)) (F F' : Nat → Bool) : St → Hp → (List (V × V) → Hp → Prop) → Prop := fun σ H Q =>
  ∃ G W ρ, EnvOk (cOf X) G io W H σ ρ F ∧ (m ρ).Sat fun ds => ∀ vs H' W', W.le W' → EnvOk (cOf X) G io W' H' σ ρ F' → RepL (cOf X) W' ds vs → Q ((sk.map V.str).zip vs) H'
abbrev EPs (X : Cx) (io : Io) (G : Glo) (Φ : Phi) (pos : Pos) (keys : List (Option Expr)) (vals : List Expr) (sk : List Str) (il : IE) (F F' : List Bool) : Prop :=
  ∃ trs, PPs X pos keys vals trs ∧ ∀ σ H Q, tpR X io sk (fun ρ => evL G Φ ρ il) (fl F) (fl F') σ H Q → tPairs trs σ H Q
theorem p_nil : EPs X io G Φ pos [] [] [] .enil F F := ⟨[], pps_nil, fun σ H Q ⟨G', W, ρ, E, s⟩ => (show ∀ vs H' W', W.le W' → EnvOk (cOf X) G' io W' H' σ ρ (fl F) → RepL (cOf X) W' [] vs → Q (([] : List V).zip vs) H' from s) [] H W (.refl W) E .nil⟩
theorem p_cons {s : Str} {b : Bool} {jj : Nat} {kp : Pos} {keys : List (Option Expr)} {vals : List Expr} {sk : List Str} (hb : EE X io G Φ b a ia F F1) (hr : EPs X io G Φ pos keys vals sk il F1 F') : EPs X io G Φ pos (some (.Constant (.str s) jj kp) :: keys) (a :: vals) (s :: sk) (.econs ia il) F F' := by
  have ha := hb.any
  obtain ⟨trs, h1, h2⟩ := hr
  refine ⟨_, pps_cons pe_str ha h1, fun σ H Q ⟨G', W, ρ, E, s0⟩ => ?_⟩
  refine ⟨G', W, ρ, E, (R.Sat.bind.mp (show ((evE G Φ ρ ia).bind fun x => (evL G Φ ρ il).bind fun xs => .ok (x :: xs)).Sat _ from s0)).mono fun d hd v H1 W1 S l1 E1 x n => ?_⟩
  obtain ⟨r, rfl⟩ := x
  rw [addG_nil] at E1
  exact h2 σ H1 _ ⟨G', W1, ρ, E1, (R.Sat.bind.mp hd).mono fun ds f vs H' W' l' E' r' => (show ∀ vs H' W', W.le W' → EnvOk (cOf X) G' io W' H' σ ρ (fl F') → RepL (cOf X) W' (d :: ds) vs → Q (((s :: sk).map V.str).zip vs) H' from f) (v :: vs) H' W' (l1.trans l') E' (.cons (r.mono _ l') r')⟩
theorem r_disp {keys : List (Option Expr)} {vals : List Expr} {sk : List Str} {ik : IE} (S : Sx c B N sc fb j X) (h : EPs X io G Φ pos keys vals sk il F F') (hk : ∀ ρ, evL G Φ ρ ik = .ok (sk.map Pv.D.str)) (hall : keys.all (·.isSome) = true) (hl : keys.length = vals.length) (h0 : (!keys.isEmpty) = true) (h15 : decide (keys.length ≤ 15) = true) (hsk : sk.length = keys.length) (hil : lenIE il = sk.length) :
    EE X io G Φ true (.Dict keys vals pos) (.dic ik il) F F' := by
  obtain ⟨trs, h1, h2⟩ := h
  refine (pe_disp h1 hall hl (fun z => by rw [z] at h0; cases h0) (of_decide_eq_true h15)).imp fun σ H Q ⟨G', W, ρ, E, s⟩ p hp => ?_
  have s : ((evL G Φ ρ ik).bind fun k => (evL G Φ ρ il).bind fun v => pairsInto (pairUp k v) [] []).Sat fun d => Fin (cOf X) G' io σ ρ (fl F') W true d Q := s
  rw [hk ρ] at s
  have s := evL_len il ρ _ (R.Sat.bind.mp (show ((evL G Φ ρ il).bind fun v => pairsInto (pairUp (sk.map Pv.D.str) v) [] []).Sat _ from s))
  have E1 := E.growNew (Grow.new (o := .dK []) E.wh hp) (b := true) (d := .dic [] []) (v := .ref p) (S := [p]) ⟨p, _, rfl, E.wh.free hp, upd_same, .inl ⟨[], rfl, rfl, .nil⟩, rfl⟩ (by simpa using hp)
  refine h2 σ _ _ ⟨_, W, ρ, E1, s.mono fun ds ⟨hdl, q⟩ vs H2 W2 l2 E2 r2 => ?_⟩
  obtain ⟨e2, no2⟩ := E2.g p (.dK []) (by unfold addG; rw [if_pos (by simp), upd_same])
  refine ⟨e2, (sk.map Sum.inr).zip vs, ?_, ?_, ?_⟩
  · rw [List.zip_map_left, List.zip_map_left, List.map_map]
    rfl
  · rw [List.length_zip, List.length_map, hsk]
    exact Nat.le_trans (Nat.min_le_left _ _) (of_decide_eq_true h15)
  · obtain ⟨ds', q, r'⟩ := disp_into (kvs := []) (ds0 := []) (by simp) .nil r2 (by rw [hdl, hil]) q
    rw [addG_agree (H2 := H2) (fun a ha => by
      simp at ha
      rw [ha, upd_same, e2])] at E2
    have E3 := E2.putOwn (o := .dK (mergeK [] ((sk.map Sum.inr).zip vs))) (by simp) no2 e2
    exact (show Fin (cOf X) G' io σ ρ (fl F') W true _ Q from q) (.ref p) _ W2 [p] l2 E3 ⟨p, _, rfl, no2, upd_same, .inl ⟨_, rfl, rfl, r'⟩, rfl⟩ (fun a ha => by
      simp at ha
      rw [ha]
      cases e : G' p with
      | none => rfl
      | some o => have := (E.g p o e).1; rw [hp] at this; cases this)
end
end Pv

set_option autoImplicit false
set_option linter.all false
set_option maxRecDepth 100000
/-! Pv: the surroundings of a def's reading, level by level. -/
namespace Pv
open PySem L2
abbrev SigK := List ((Str × List Str) × (Nat × List Nat))
abbrev SigF := List ((Str × List Str) × (Nat × Bool × List Nat))
structure Fw (c : Cn) (B : Heap) (G : Glo) (Φ : Phi) (sig : List (Str × (Nat × Bool))) (sigc : List (Str × Nat)) (sigk : SigK) (sigf : SigF) (k : Nat) : Prop extends Fy c B G Φ sig sigc k where
  eqs : EqsOk c B Φ k
  mkn : ∀ cl ks n p, sigk.lookup (cl, ks) = some (n, p) → ∃ (C : Addr) (φ : List D → R D) (k' : Nat), MakN c B k' cl C (spI c cl φ n) ks p ∧ (∀ ds : List D, ds.length = ks.length → Φ cl ks ds = (φ (pick .non p ds)).bind fun o => .ok (o, [])) ∧ p.length = n ∧ k' + 1 ≤ k
  fnk : ∀ f ks n b p, sigf.lookup (f, ks) = some (n, b, p) → ∃ φ2 : List D → R (D × List D), CalN c B k f (spF c b (fun ds => φ2 ds) n) ks p ∧ (∀ ds : List D, ds.length = ks.length → Φ f ks ds = φ2 (pick .non p ds)) ∧ p.length = n
section
variable {c : Cn} {B : Heap} {N : List Str} {sc : Scope} {fb : Str → Bool} {j k : Nat} {X : Cx} {io : Io} {G : Glo} {Φ : Phi} {F F1 F2 F' : List Bool} {e a d : Expr} {ie ia id il : IE} {b : Bool} {pos p p2 : Pos} {kws : List Keyword} {n : Nat} {cl x : Str} {ks : List Str} {pl : List Nat}
theorem r_mkk (S : Sx c B N sc fb j X) (M : ∃ (C : Addr) (φ : List D → R D) (k' : Nat), MakN c B k' cl C (spI c cl φ n) ks pl ∧ (∀ ds : List D, ds.length = ks.length → Φ cl ks ds = (φ (pick .non pl ds)).bind fun o => .ok (o, [])) ∧ pl.length = n ∧ k' + 1 ≤ k) (hk : k ≤ j) (ha : EK X io G Φ kws il F F') (hg : glC sc cl = true) (hl : lenIE il = ks.length := by rfl)
    (hall : (backToKw pos (keywordEach kws X.env)).all (·.1.isSome) = true := by rfl) (hks : (backToKw pos (keywordEach kws X.env)).filterMap (·.1) = ks := by rfl) (hdb : (cl == ("__debug__" : Str)) = false := by decide)
    (hpl : ((backTo pos (starEach [] X.env)).any (·.1) || (backToKw pos (keywordEach kws X.env)).any (·.1.isNone)) = false := by rfl) :
    EE X io G Φ false (.Call (.Name cl p) [] kws pos) (.callk cl ks il) F F' := by
  obtain ⟨C, φ, k', M, h, hp, hk'⟩ := M
  exact r_makek S M h hp (Nat.le_trans hk' hk) ha hg hl hall hks hdb hpl
theorem r_fnk (S : Sx c B N sc fb j X) (M : ∃ φ2 : List D → R (D × List D), CalN c B k x (spF c b (fun ds => φ2 ds) n) ks pl ∧ (∀ ds : List D, ds.length = ks.length → Φ x ks ds = φ2 (pick .non pl ds)) ∧ pl.length = n) (hk : k ≤ j) (ha : EK X io G Φ kws il F F') (hg : glC sc x = true) (hl : lenIE il = ks.length := by rfl)
    (hall : (backToKw pos (keywordEach kws X.env)).all (·.1.isSome) = true := by rfl) (hks : (backToKw pos (keywordEach kws X.env)).filterMap (·.1) = ks := by rfl) (hdb : (x == ("__debug__" : Str)) = false := by decide)
    (hpl : ((backTo pos (starEach [] X.env)).any (·.1) || (backToKw pos (keywordEach kws X.env)).any (·.1.isNone)) = false := by rfl) :
    EE X io G Φ b (.Call (.Name x p) [] kws pos) (.callk x ks il) F F' := by
  obtain ⟨φ2, M, h, hp⟩ := M
  exact r_callk S M h hp hk ha hg hl hall hks hdb hpl
theorem r_isiC (S : Sx c B N sc fb j X) (hc : ClsOk c G.attrs) (hok : G.attrs x "__class__" = true) (hx : glC sc x = true) (hd : (x == ("__debug__" : Str)) = false) (ha : EB X io G Φ a ia F F') (hg : glC sc "isinstance" = true) (hm : c.mg "isinstance" = none)
    (he : starEach [a, .Name x p2] X.env = (false, eval a X.env) :: starEach [.Name x p2] X.env := by rfl) (he2 : starEach [.Name x p2] X.env = (false, eval (.Name x p2) X.env) :: starEach [] X.env := by rfl) (hpl : (backTo pos (starEach [.Name x p2] X.env)).any (·.1) = false := by rfl) :
    EE X io G Φ true (.Call (.Name "isinstance" p) [a, .Name x p2] [] pos) (.isi ia [.cls x]) F F' := by
  obtain ⟨C, hm', _⟩ := hc.ins x hok
  exact r_isi S hc (T := .cls x) ⟨hok, C, hm', rfl⟩ (pe_glob (S.gl hx) (by rw [S.mg]; exact hm') (v := .ref C) rfl hd) ha hg hm he he2 hpl
end
/-! ### one level -/
theorem lookup_mem {α β : Type} [BEq α] [LawfulBEq α] : ∀ {l : List (α × β)} {a : α} {b : β}, l.lookup a = some b → (a, b) ∈ l
  | (x, y) :: l, a, b, h => by
    rw [List.lookup_cons] at h
    by_cases e : a == x
    · rw [e] at h
      cases h
      rw [eq_of_beq e]
      simp
    · simp only [e] at h
      exact List.mem_cons_of_mem _ (lookup_mem h)
theorem fa_nil {α : Type} {P : α → Prop} : ∀ x ∈ ([] : List α), P x := fun x h => absurd h (by simp)
theorem fa_cons {α : Type} {P : α → Prop} {a : α} {l : List α} (h : P a) (t : ∀ x ∈ l, P x) : ∀ x ∈ a :: l, P x := fun x hx => by
  rcases List.mem_cons.mp hx with rfl | hx
  · exact h
  · exact t x hx
section
variable {c : Cn} {B : Heap} {k n : Nat} {f : Addr} {fd : FuncData} {ps : List Str} {sp : Sp}
theorem fn_bad (h : ∀ vs H Q E, ¬ sp vs H Q E) : FnOk c.P c.w c.K c.mg B C8.CX0 k f fd ps sp := ⟨fun vs H Q E q => absurd q (h vs H Q E), fun A outer s H args us vs Q E _ _ _ _ q => absurd q (h vs H Q E)⟩
theorem spF_bad {b : Bool} : ∀ vs H Q E, ¬ spF c b (fun _ => .bad) n vs H Q E := fun vs H Q E ⟨_, _, _, _, _, s⟩ => s
theorem spI_bad {cl : Str} : ∀ vs H Q E, ¬ spI c cl (fun _ => .bad) n vs H Q E := fun vs H Q E ⟨_, _, _, _, _, _, _, _, _, _, _, _, _, _, _, _, s⟩ => s
/-- what is known of a def of the module -/
structure DefF (c : Cn) (x : Str) (st : Stmt) (ps : List Str) : Prop where
  ex : ∃ (f : Addr) (fd : FuncData), C8.Def c.K c.mg x st f fd ∧ Binds c.K fd ps [] ∧ fd.defaults = .none
/-- .. of a class with its __init__ -/
structure ClsF (c : Cn) (cl qual : Str) (st : Stmt) (ps : List Str) : Prop where
  ex : ∃ (C f : Addr) (fd : FuncData), Mk c.K C f ∧ c.mg cl = some (.ref C) ∧ C8.Fun c.K "__init__" qual st f fd ∧ Binds c.K fd ps [] ∧ fd.defaults = .none
/-- .. of an own == -/
structure EqF (c : Cn) (cl qual : Str) (st : Stmt) (ps : List Str) : Prop where
  ex : ∃ (C f : Addr) (fd : FuncData), c.mg cl = some (.ref C) ∧ PySem.W.findIn c.K (.ref C) "__eq__" = some (some (.ref f)) ∧ PySem.W.isFn c.K (.ref f) = true ∧ C8.Fun c.K "__eq__" qual st f fd ∧ Binds c.K fd ps []
end
section
variable {c : Cn} {B : Heap} {G : Glo} {Γ : Str → Option Ent} {M k : Nat} {b : Bool} {x qual cl : Str} {st : Stmt} {N ps : List Str} {F Fn : List Bool} {d : Fd} {n : Nat} {ks : List Str} {p : List Nat}
theorem cal_bad {sp : Sp} (D0 : DefF c x st ps) (h : sp = fun vs H Q E => spF c b (fun _ => .bad) n vs H Q E) : C8.Cal c.P c.w c.K c.mg B k x sp [] := by
  obtain ⟨f, fd, D, bb, _⟩ := D0.ex
  exact ⟨f, fd, ps, [], fn_bad (by rw [h]; exact spF_bad), D.mgf, D.kp, bb, .nil⟩
/-- level 0 -/
theorem c_0 (D0 : DefF c x st ps) : C8.Cal c.P c.w c.K c.mg B k x (spF c b (run Γ G M 0 x []) n) [] := cal_bad D0 rfl
theorem run_F (h : Γ x = some (.fd d)) : run Γ G M (k + 1) x [] = fun ds => callFd G (run Γ G M k) M d ds := by
  funext ds
  exact (by simp [run, h])
/-- a def, one level up -/
theorem c_s {j : Nat} (D0 : DefF c x st ps) (h : Γ x = some (.fd d)) (S : FnScope N ps (C8.fnScope st)) (hdf : d.dflt = []) (hio : d.inout = []) (hps : ps.length = d.caps + d.params.length) (hsl : d.slots = N.length) (hn : ps.length = n) (hF : (F.all fun b => !b) = true)
    (body : ∀ X, Sx c B N (C8.fnScope st) (fun _ => true) j X → ESs X [] G (run Γ G M k) M b (C8.fnBody st) d.body F Fn [] []) : C8.Cal c.P c.w c.K c.mg B (j + 1) x (spF c b (run Γ G M (k + 1) x []) n) [] := by
  obtain ⟨f, fd, D, bb, _⟩ := D0.ex
  rw [run_F h, ← hn]
  exact fd_cal D bb S hdf hio hps hsl hF body
/-- .. called by name -/
theorem kbind (D0 : DefF c x st ps) (hb : ∀ (kV doc pm : Value) (an : Option Addr) (cdv ct : Value) (us ws : List Value), us.length = 0 → ws.length = ks.length → bindArgs (PySem.W.fnOf x x (C8.fnArgs st) (C8.fnBody st) (C8.fnScope st) .none kV doc pm an cdv ct) ⟨us, ks.zip ws⟩ = pure (ps.zip (us ++ pick .none p ws))) :
    ∃ (f : Addr) (fd : FuncData), C8.Def c.K c.mg x st f fd ∧ KBp c.K fd ps 0 ks p := by
  obtain ⟨f, fd, D, bb, hd⟩ := D0.ex
  exact ⟨f, fd, D, kbp D.fn hd hb⟩
theorem n_0 (D0 : ∃ (f : Addr) (fd : FuncData), C8.Def c.K c.mg x st f fd ∧ KBp c.K fd ps 0 ks p) (hp : p.length = n) : ∃ φ2 : List D → R (D × List D), CalN c B k x (spF c b (fun ds => φ2 ds) n) ks p ∧ (∀ ds : List D, ds.length = ks.length → run Γ G M 0 x ks ds = φ2 (pick .non p ds)) ∧ p.length = n := by
  obtain ⟨f, fd, D, kb⟩ := D0
  exact ⟨fun _ => .bad, ⟨f, fd, ps, fn_bad spF_bad, D.mgf, D.kp, kb⟩, fun _ _ => rfl, hp⟩
theorem n_s {j : Nat} (D0 : ∃ (f : Addr) (fd : FuncData), C8.Def c.K c.mg x st f fd ∧ KBp c.K fd ps 0 ks p) (h : Γ x = some (.fd d)) (hks : ks.isEmpty = false) (hby : ∀ ds : List D, ds.length = ks.length → byName d.params ks ds = some (pick .non p ds)) (hp : p.length = n) (S : FnScope N ps (C8.fnScope st)) (hdf : d.dflt = []) (hio : d.inout = []) (hps : ps.length = d.caps + d.params.length) (hsl : d.slots = N.length) (hn : ps.length = n) (hF : (F.all fun b => !b) = true)
    (body : ∀ X, Sx c B N (C8.fnScope st) (fun _ => true) j X → ESs X [] G (run Γ G M k) M b (C8.fnBody st) d.body F Fn [] []) :
    ∃ φ2 : List D → R (D × List D), CalN c B (j + 1) x (spF c b (fun ds => φ2 ds) n) ks p ∧ (∀ ds : List D, ds.length = ks.length → run Γ G M (k + 1) x ks ds = φ2 (pick .non p ds)) ∧ p.length = n := by
  obtain ⟨f, fd, D, kb⟩ := D0
  refine ⟨fun ds => callFd G (run Γ G M k) M d ds, ⟨f, fd, ps, ?_, D.mgf, D.kp, kb⟩, fun ds hl => ?_, hp⟩
  · rw [← hn]
    exact C8.fn0 D.fn S (fun vs H Q E h => h.1) fun cdv A outer s H vs Q E hr hsp => fd_body S hdf hio hps hsl hF body cdv A outer s H vs Q E hr hsp
  · simp only [run, h, hks, hby ds hl]
    rfl
/-! classes -/
theorem run_C (h : Γ cl = some (.cls d)) (ds : List D) : run Γ G M (k + 1) cl [] ds = (initF G (run Γ G M k) M d cl ds).bind fun o => .ok (o, []) := by
  unfold initF
  rw [bind_assoc]
  simp only [run, h]
  show R.bind _ _ = R.bind _ _
  congr 1
  funext r
  obtain ⟨v, os⟩ := r
  match os with
  | [] => rfl
  | [o] => rfl
  | _ :: _ :: _ => rfl
theorem run_Ck (h : Γ cl = some (.cls d)) (hks : ks.isEmpty = false) (ds ys : List D) (hy : byName (d.params.drop 1) ks ds = some ys) : run Γ G M (k + 1) cl ks ds = (initF G (run Γ G M k) M d cl ys).bind fun o => .ok (o, []) := by
  unfold initF
  rw [bind_assoc]
  simp only [run, h, hks, hy]
  show R.bind _ _ = R.bind _ _
  congr 1
  funext r
  obtain ⟨v, os⟩ := r
  match os with
  | [] => rfl
  | [o] => rfl
  | _ :: _ :: _ => rfl
abbrev MkE (c : Cn) (B : Heap) (Φ : Phi) (k n : Nat) (cl : Str) : Prop := ∃ (C : Addr) (φ : List D → R D) (k' : Nat), C8.Mak c.P c.w c.K c.mg B k' cl C (spI c cl φ n) [] ∧ (∀ ds, Φ cl [] ds = (φ ds).bind fun o => .ok (o, [])) ∧ k' + 1 ≤ k
abbrev MkK (c : Cn) (B : Heap) (Φ : Phi) (k n : Nat) (cl : Str) (ks : List Str) (p : List Nat) : Prop := ∃ (C : Addr) (φ : List D → R D) (k' : Nat), MakN c B k' cl C (spI c cl φ n) ks p ∧ (∀ ds : List D, ds.length = ks.length → Φ cl ks ds = (φ (pick .non p ds)).bind fun o => .ok (o, [])) ∧ p.length = n ∧ k' + 1 ≤ k
theorem m_0 (D0 : ClsF c cl qual st ps) : MkE c B (run Γ G M 0) 1 n cl := by
  obtain ⟨C, f, fd, M0, hm, F0, bb, _⟩ := D0.ex
  exact ⟨C, fun _ => .bad, 0, ⟨f, fd, ps, [], M0, fn_bad spI_bad, hm, bb, .nil⟩, fun _ => rfl, Nat.le_refl _⟩
theorem m_s {j : Nat} (D0 : ClsF c cl qual st ps) (h : Γ cl = some (.cls d)) (S : FnScope N ps (C8.fnScope st)) (hdf : d.dflt = []) (hio : d.inout = [0]) (hps : ps.length = d.caps + d.params.length) (hsl : d.slots = N.length) (hn : ps.length = n + 1) (hF : (fl F 0 && (F.drop 1).all fun b => !b) = true) (hFl : decide (0 < F.length) = true) (hnr : noRet d.body = true)
    (body : ∀ v X, Sx c B N (C8.fnScope st) (fun _ => true) j X → ESs X [(0, v, [])] G (run Γ G M k) M false (C8.fnBody st) d.body F Fn [] []) : MkE c B (run Γ G M (k + 1)) (j + 2) n cl := by
  obtain ⟨C, f, fd, M0, hm, F0, bb, _⟩ := D0.ex
  refine ⟨C, initF G (run Γ G M k) M d cl, j + 1, ?_, run_C h, Nat.le_refl _⟩
  have e : n = ps.length - 1 := by omega
  rw [e]
  exact init_mak M0 hm F0 bb S hdf hio hps hsl hF hFl hnr (by rw [hn]; simp) body
theorem cbind (D0 : ClsF c cl qual st ps) (hb : ∀ (kV doc pm : Value) (an : Option Addr) (cdv ct : Value) (us ws : List Value), us.length = 1 → ws.length = ks.length → bindArgs (PySem.W.fnOf "__init__" qual (C8.fnArgs st) (C8.fnBody st) (C8.fnScope st) .none kV doc pm an cdv ct) ⟨us, ks.zip ws⟩ = pure (ps.zip (us ++ pick .none p ws))) :
    ∃ (C f : Addr) (fd : FuncData), Mk c.K C f ∧ c.mg cl = some (.ref C) ∧ C8.Fun c.K "__init__" qual st f fd ∧ KBp c.K fd ps 1 ks p := by
  obtain ⟨C, f, fd, M0, hm, F0, bb, hd⟩ := D0.ex
  exact ⟨C, f, fd, M0, hm, F0, kbp F0 hd hb⟩
theorem k_0 (D0 : ∃ (C f : Addr) (fd : FuncData), Mk c.K C f ∧ c.mg cl = some (.ref C) ∧ C8.Fun c.K "__init__" qual st f fd ∧ KBp c.K fd ps 1 ks p) (hp : p.length = n) : MkK c B (run Γ G M 0) 1 n cl ks p := by
  obtain ⟨C, f, fd, M0, hm, F0, kb⟩ := D0
  exact ⟨C, fun _ => .bad, 0, ⟨f, fd, ps, M0, fn_bad spI_bad, hm, kb⟩, fun _ _ => rfl, hp, Nat.le_refl _⟩
theorem k_s {j : Nat} (D0 : ∃ (C f : Addr) (fd : FuncData), Mk c.K C f ∧ c.mg cl = some (.ref C) ∧ C8.Fun c.K "__init__" qual st f fd ∧ KBp c.K fd ps 1 ks p) (h : Γ cl = some (.cls d)) (hks : ks.isEmpty = false) (hby : ∀ ds : List D, ds.length = ks.length → byName (d.params.drop 1) ks ds = some (pick .non p ds)) (hp : p.length = n) (S : FnScope N ps (C8.fnScope st)) (hdf : d.dflt = []) (hio : d.inout = [0]) (hps : ps.length = d.caps + d.params.length) (hsl : d.slots = N.length) (hn : ps.length = n + 1) (hF : (fl F 0 && (F.drop 1).all fun b => !b) = true) (hFl : decide (0 < F.length) = true) (hnr : noRet d.body = true)
    (body : ∀ v X, Sx c B N (C8.fnScope st) (fun _ => true) j X → ESs X [(0, v, [])] G (run Γ G M k) M false (C8.fnBody st) d.body F Fn [] []) : MkK c B (run Γ G M (k + 1)) (j + 2) n cl ks p := by
  obtain ⟨C, f, fd, M0, hm, F0, kb⟩ := D0
  refine ⟨C, initF G (run Γ G M k) M d cl, j + 1, ⟨f, fd, ps, M0, ?_, hm, kb⟩, fun ds hl => run_Ck h hks ds _ (hby ds hl), hp, Nat.le_refl _⟩
  have e : n = ps.length - 1 := by omega
  rw [e]
  exact C8.fn0 F0 S (fun vs H Q E h => by have := h.1; omega) fun cdv A outer s H vs Q E hr hsp => init_body S hdf hio hps hsl hF hFl body (fun ρ P s => noRet_nx _ hnr ρ P s) cdv A outer s H vs Q E hr hsp (by omega)
/-! own == -/
def eqSuf : List Nat := (".__eq__" : Str).cps.toList
def endsEq (s : Str) : Bool := s.cps.toList.drop (s.cps.toList.length - 7) == eqSuf
def eqHead (s : Str) : List Nat := s.cps.toList.take (s.cps.toList.length - 7)
theorem eq_app (cl : Str) : (cl ++ ".__eq__").cps.toList = cl.cps.toList ++ eqSuf := by
  show (cl.cps ++ (".__eq__" : Str).cps).toList = _
  rw [Array.toList_append]
  rfl
theorem eqs_of {Φ : Phi} {tbl : List (Str × Ent)} {names : List Str} (hΦ : ∀ f ds P, (Φ f [] ds).Sat P → (tbl.lookup f).isSome = true) (hn : (tbl.all fun p => !endsEq p.1 || names.any fun n => n.cps.toList == eqHead p.1) = true)
    (h : ∀ n ∈ names, EqOk c B Φ k n) : EqsOk c B Φ k := fun cl xs P s => by
  obtain ⟨e, he⟩ := Option.isSome_iff_exists.mp (hΦ _ _ _ s)
  have := List.all_eq_true.mp hn _ (lookup_mem he)
  have l7 : eqSuf.length = 7 := by decide
  have h1 : endsEq (cl ++ ".__eq__") = true := by
    unfold endsEq
    rw [eq_app, List.length_append, l7, Nat.add_sub_cancel, List.drop_left]
    exact beq_self_eq_true _
  have h2 : eqHead (cl ++ ".__eq__") = cl.cps.toList := by
    unfold eqHead
    rw [eq_app, List.length_append, l7, Nat.add_sub_cancel, List.take_left]
  simp only [h1, h2, Bool.not_true, Bool.false_or] at this
  obtain ⟨n, hn1, hn2⟩ := List.any_eq_true.mp this
  have e2 : n = cl := by
    have e3 : n.cps.toList = cl.cps.toList := eq_of_beq hn2
    cases n; cases cl
    simp only at e3
    congr 1
    exact Array.toList_inj.mp e3
  exact e2 ▸ h n hn1
theorem e_0 (names : List Str) : EqsOk c B (run Γ G M 0) k := fun cl xs P s => s.elim
theorem run_some {tbl : List (Str × Ent)} (f : Str) (ds : List D) (P : D × List D → Prop) (s : (run (fun f => tbl.lookup f) G M (k + 1) f [] ds).Sat P) : (tbl.lookup f).isSome = true := by
  cases e : tbl.lookup f with
  | some _ => rfl
  | none =>
    simp only [run, e] at s
    exact s.elim
theorem e_s {j : Nat} (D0 : EqF c cl qual st ps) (hg : Γ (cl ++ ".__eq__") = some (.fd d)) (S : FnScope N ps (C8.fnScope st)) (hdf : d.dflt = []) (hio : d.inout = []) (hps : ps.length = d.caps + d.params.length) (hsl : d.slots = N.length) (hn : ps.length = 2) (hF : (F.all fun b => !b) = true)
    (body : ∀ X, Sx c B N (C8.fnScope st) (fun _ => true) j X → ESs X [] G (run Γ G M k) M b (C8.fnBody st) d.body F Fn [] []) : EqOk c B (run Γ G M (k + 1)) (j + 1) cl := by
  obtain ⟨C, f, fd, hm, hfi, hif, F0, bb⟩ := D0.ex
  refine ⟨C, f, fd, ps, b, hm, hfi, hif, ?_, bb⟩
  rw [run_F hg, ← hn]
  exact C8.fn0 F0 S (fun vs H Q E h => h.1) fun cdv A outer s H vs Q E hr hsp => fd_body S hdf hio hps hsl hF body cdv A outer s H vs Q E hr hsp
/-! defs as values -/
def isFnD : D → Bool
  | .fn _ => true
  | _ => false
theorem val_of {Φ : Phi} {cons : List (Str × D)} {names : List Str} (hG : ∀ x, G.con x = cons.lookup x) (hn : (cons.all fun p => !isFnD p.2 || names.contains p.1) = true) (h : ∀ g ∈ names, ∃ b n, C8.Cal c.P c.w c.K c.mg B k g (spF c b (Φ g []) n) [] ∧ ∀ xs P, (Φ g [] xs).Sat P → xs.length = n) : ValOk c B G Φ k := fun g hg => by
  unfold Glo.isFn at hg
  cases e : G.con g with
  | none => rw [e] at hg; cases hg
  | some d =>
    rw [e] at hg
    cases d with
    | fn f =>
      have := List.all_eq_true.mp hn _ (lookup_mem (by rw [← hG]; exact e))
      simp only [isFnD, Bool.not_true, Bool.false_or] at this
      exact h g (by simpa using this)
    | _ => cases hg
theorem len_s (h : Γ x = some (.fd d)) (hdf : d.dflt = []) (hio : d.inout = []) (hn : d.caps + d.params.length = n) : ∀ xs P, (run Γ G M (k + 1) x [] xs).Sat P → xs.length = n := fun xs P s => by
  rw [run_F h] at s
  rw [← hn]
  exact (callFd_sat hdf hio s).1
/-! makers of nested defs -/
structure DefM (c : Cn) (x : Str) (st : Stmt) (ps : List Str) (P : Addr) : Prop where
  ex : ∃ (f cc : Addr) (fd : FuncData), C8.Def c.K c.mg x st f fd ∧ Binds c.K fd ps [] ∧ fd.defaults = .none ∧ fd.code = .ref cc ∧ PySem.W.codeHdIn c.K cc P = true
theorem DefM.f {P : Addr} (D0 : DefM c x st ps P) : DefF c x st ps := let ⟨f, _, fd, D, bb, hd, _⟩ := D0.ex; ⟨f, fd, D, bb, hd⟩
/-- the tables are where the base says -/
structure TabK (c : Cn) (B : Heap) : Prop where
  K : c.K.In B
  bm : ∀ p ∈ tabL, B.BuiltinsAt c.mg p.1
  gP : ∀ p ∈ tabL, mainGlobals ≠ p.1
theorem fn0M {f cc : Addr} {fd : FuncData} {sp : Sp} (F : C8.Fun c.K x qual st f fd) (hcd : fd.code = .ref cc) (S : FnScope N ps (C8.fnScope st)) (len : ∀ vs H Q E, sp vs H Q E → vs.length = ps.length)
    (hbody : ∀ (A : Around) (outer : List PySem.Env) (s : Shared) (H : Hp) (vs : List V) (Q : VK) (E : XK), Room k (A.deeper (PyProof.Rows.envOfC qual (C8.fnScope st) s.heap.objs.size f (.ref cc))) → sp vs H Q E →
      ∃ t, PSs (cxOf C8.CX0 c.P c.w c.K c.mg B N qual (C8.fnScope st) f (.ref cc) A outer s H E).nox (C8.fnBody st) t ∧ t { nx := fun _ H' => Q .non H', rt := Q } (start N vs) H) : FnOk c.P c.w c.K c.mg B C8.CX0 (k + 1) f fd ps sp := by
  obtain ⟨oc, od, dV, kV, doc, pm, an, cdv, ct, osl, rfl, lk, hc⟩ := F.ex
  have e : cdv = .ref cc := hcd
  subst e
  refine fn_of lk hc S len fun A outer s H vs Q E hr hsp => ?_
  obtain ⟨t, h, q⟩ := hbody A outer s H vs Q E hr hsp
  exact ⟨t, h.nox, q⟩
theorem c_sM {j : Nat} {P : Addr} {tm : Nat → Nat → Str} (D0 : DefM c x st ps P) (HT : TabK c B) (hP : (P, tm) ∈ tabL) (h : Γ x = some (.fd d)) (S : FnScope N ps (C8.fnScope st)) (hdf : d.dflt = []) (hio : d.inout = []) (hps : ps.length = d.caps + d.params.length) (hsl : d.slots = N.length) (hn : ps.length = n) (hF : (F.all fun b => !b) = true)
    (body : ∀ X, Sx c B N (C8.fnScope st) (fun _ => true) j X → Mkr c B (x ++ ".<locals>.") P X → ESs X [] G (run Γ G M k) M b (C8.fnBody st) d.body F Fn [] []) : C8.Cal c.P c.w c.K c.mg B (j + 1) x (spF c b (run Γ G M (k + 1) x []) n) [] := by
  obtain ⟨f, cc, fd, D, bb, _, hcd, hH⟩ := D0.ex
  rw [run_F h, ← hn]
  exact ⟨f, fd, ps, [], fn0M D.fn hcd S (fun vs H Q E h => h.1) fun A outer s H vs Q E hr hsp => fd_bodyM S hdf hio hps hsl hF (.ref cc) (fun X SX hq hc => body X SX ⟨hq, cc, hc, PySem.W.codeHd_of_K HT.K hH, HT.bm _ hP, HT.gP _ hP⟩) A outer s H vs Q E hr hsp, D.mgf, D.kp, bb, .nil⟩
/-! nested defs -/
theorem startF_eq {vs ws : List V} : NdefX.startF N vs (ws.map some) = L2.start N (vs ++ ws) := by
  unfold NdefX.startF L2.start
  rw [List.map_append, List.append_assoc, List.length_map, List.length_append, Nat.sub_sub]
theorem nok_0 {g : Str} {nn : NSt} {ps : List Str} {fa cc : Addr} {cl : List (Str × Addr)} : NdefX.NOk c.P c.w c.K c.mg B C8.CX0 k fa (NdefX.NF.of nn.st nn.name nn.qual cl cc) ps nn.fr (spN c (run Γ G M 0 g []) ps.length) :=
  have h : ∀ ws vs H Q E, ¬ spN c (run Γ G M 0 g []) ps.length ws vs H Q E := fun ws vs H Q E ⟨_, _, _, _, _, _, _, _, _, s⟩ => s
  ⟨fun ws vs H Q E q => absurd q (h ws vs H Q E), fun A outer s H us vs ws Q E _ _ _ _ _ _ q => absurd q (h ws vs H Q E)⟩
theorem nok_s {j : Nat} {g : Str} {nn : NSt} {ps : List Str} (h : Γ g = some (.fd d)) (S : NdefX.NScope N ps nn.fr (C8.fnScope nn.st)) (hdf : d.dflt = []) (hio : d.inout = []) (hps : ps.length + nn.fr.length = d.caps + d.params.length) (hsl : d.slots = N.length) (hF : (F.all fun b => !b) = true)
    (hb : ∀ (cl : List (Str × Addr)) (cc : Addr) (doc pm ctv : Value) (us : List Value), us.length = ps.length → bindArgs ((NdefX.NF.of nn.st nn.name nn.qual cl cc).fd doc pm ctv) ⟨us, []⟩ = pure (ps.zip us))
    (body : ∀ X, Sx c B N (C8.fnScope nn.st) (fun _ => false) j X → ESs X [] G (run Γ G M k) M false (C8.fnBody nn.st) d.body F Fn [] []) (fa : Addr) (cl : List (Str × Addr)) (cc : Addr) :
    NdefX.NOk c.P c.w c.K c.mg B C8.CX0 (j + 1) fa (NdefX.NF.of nn.st nn.name nn.qual cl cc) ps nn.fr (spN c (run Γ G M (k + 1) g []) ps.length) := by
  refine NdefX.nok_of (N := N) S (hb cl cc) (fun ws vs H Q E q => q.1) fun A outer s H vs wo Q E hr _ _ hwl hsp => ?_
  obtain ⟨hl, W, ds, es, ws, wh, rfl, r1, r2, sat⟩ := hsp
  rw [run_F h] at sat
  obtain ⟨h1, sat⟩ := callFd_sat hdf hio sat
  rw [List.length_map] at hwl
  have r := r1.append r2
  have SX : Sx c B N (C8.fnScope nn.st) (fun _ => false) j (NdefX.ncx C8.CX0 c.P c.w c.K c.mg B N (NdefX.NF.of nn.st nn.name nn.qual cl cc) fa A outer s H E).nox := ⟨rfl, rfl, rfl, rfl, rfl, rfl, rfl, hr, rfl, S.nd, (fun _ h => nomatch h), rfl⟩
  have hpl : ps.length + nn.fr.length ≤ N.length := by
    have := congrArg List.length S.pre
    rw [List.length_take, List.length_append] at this
    omega
  have hdl : (ds ++ es).length ≤ N.length := by rw [h1, ← hps]; exact hpl
  refine ⟨_, (body _ SX).nox, ?_⟩
  rw [startF_eq]
  refine ⟨keepG W H, W, envOf N.length (ds ++ es), EnvOk.start wh r hdl (fun i => ?_), ?_⟩
  · unfold fl
    rw [List.getD_eq_getElem?_getD]
    cases e : F[i]? with
    | none => rfl
    | some q => have := List.all_eq_true.mp hF q (List.mem_of_getElem? e); simpa using this
  rw [← hsl]
  refine R.Sat.mono (fun r q => ?_) sat
  cases r with
  | nx ρ' =>
    intro σ' H' W' l E'
    have E2 : EnvOk c (addG (keepG W H) H' []) [] W' H' σ' ρ' (fl Fn) := by rw [addG_nil]; exact E'
    exact (show Res c false W H .non Q from q) .non H' W' [] (Grow.ofG l E2 (by simp)) ⟨by simp only [Rep], rfl⟩ (by simp)
  | rt dv ρ' =>
    intro v σ' H' W' S' F' l E' xx hn
    exact (show Res c false W H dv Q from q) v H' W' S' (Grow.ofG l E' hn) xx fun a ha => keepG_no l (xx.at a ha).1 (hn a ha)
  | bk _ => exact q.elim
  | ct _ => exact q.elim
theorem clo_of {Φ : Phi} (h : ∀ p ∈ nstL, ∃ ps : List Str, (∀ xs P, (Φ p.1 [] xs).Sat P → xs.length = ps.length + p.2.fr.length) ∧ ∀ fa cl cc, NdefX.NOk c.P c.w c.K c.mg B C8.CX0 k fa (NdefX.NF.of p.2.st p.2.name p.2.qual cl cc) ps p.2.fr (spN c (Φ p.1 []) ps.length)) : CloOk c B Φ k := fun g n e => h (g, n) (lookup_mem e)
end
end Pv

set_option autoImplicit false
set_option linter.all false
set_option maxRecDepth 100000
/-! Pv: what the top has written, as facts of a law's surroundings. -/
namespace Pv
open PySem L2
section
variable {P : Program} {w : World} {K : PySem.W.Frag} {h : Heap} {mg : Str → Option Value} {x qual cl : Str} {st : Stmt} {ps : List Str} {f C : Addr} {oc kV doc pm cdv ct : Value} {od an : Option Addr} {sl : Array (Option Value)}
theorem defF_of (X : K.In h) (G : h.Ns mainGlobals mg) (a : PySem.W.nsIn K mainGlobals x = some (some (.ref f))) (l : K.lookup f = some ⟨oc, od, .func (PySem.W.fnOf x x (C8.fnArgs st) (C8.fnBody st) (C8.fnScope st) .none kV doc pm an cdv ct), sl⟩) (cc : PySem.W.codeIn K cdv x = true) (kp : PySem.W.keepIn K (.ref f) = true)
    (hb : ∀ (kV doc pm : Value) (an : Option Addr) (cdv ct : Value) (us : List Value), us.length = ps.length → bindArgs (PySem.W.fnOf x x (C8.fnArgs st) (C8.fnBody st) (C8.fnScope st) .none kV doc pm an cdv ct) ⟨us, []⟩ = pure (ps.zip us)) : DefF ⟨P, w, K, mg⟩ x st ps := by
  have F : C8.Fun K x x st f (PySem.W.fnOf x x (C8.fnArgs st) (C8.fnBody st) (C8.fnScope st) .none kV doc pm an cdv ct) := ⟨oc, od, .none, kV, doc, pm, an, cdv, ct, sl, rfl, l, cc⟩
  exact ⟨f, _, ⟨F, PySem.W.mg_of X G a, kp⟩, F.binds rfl hb, rfl⟩
theorem defM_of {c0 P : Addr} {Pg : Program} (X : K.In h) (G : h.Ns mainGlobals mg) (a : PySem.W.nsIn K mainGlobals x = some (some (.ref f))) (l : K.lookup f = some ⟨oc, od, .func (PySem.W.fnOf x x (C8.fnArgs st) (C8.fnBody st) (C8.fnScope st) .none kV doc pm an (.ref c0) ct), sl⟩) (cc : PySem.W.codeIn K (.ref c0) x = true) (kp : PySem.W.keepIn K (.ref f) = true) (hd : PySem.W.codeHdIn K c0 P = true)
    (hb : ∀ (kV doc pm : Value) (an : Option Addr) (cdv ct : Value) (us : List Value), us.length = ps.length → bindArgs (PySem.W.fnOf x x (C8.fnArgs st) (C8.fnBody st) (C8.fnScope st) .none kV doc pm an cdv ct) ⟨us, []⟩ = pure (ps.zip us)) : DefM ⟨Pg, w, K, mg⟩ x st ps P := by
  have F : C8.Fun K x x st f (PySem.W.fnOf x x (C8.fnArgs st) (C8.fnBody st) (C8.fnScope st) .none kV doc pm an (.ref c0) ct) := ⟨oc, od, .none, kV, doc, pm, an, .ref c0, ct, sl, rfl, l, cc⟩
  exact ⟨f, c0, _, ⟨F, PySem.W.mg_of X G a, kp⟩, F.binds rfl hb, rfl, rfl, hd⟩
theorem clsF_of (X : K.In h) (G : h.Ns mainGlobals mg) (a : PySem.W.nsIn K mainGlobals cl = some (some (.ref C))) (a1 : PySem.W.findIn K (.ref C) "__init__" = some (some (.ref f))) (i1 : PySem.W.isFn K (.ref f) = true)
    (l : K.lookup f = some ⟨oc, od, .func (PySem.W.fnOf "__init__" qual (C8.fnArgs st) (C8.fnBody st) (C8.fnScope st) .none kV doc pm an cdv ct), sl⟩) (cc : PySem.W.codeIn K cdv qual = true) (mk : PySem.W.makesIn K C = true) (kc : PySem.W.keepIn K (.ref C) = true)
    (hb : ∀ (kV doc pm : Value) (an : Option Addr) (cdv ct : Value) (us : List Value), us.length = ps.length → bindArgs (PySem.W.fnOf "__init__" qual (C8.fnArgs st) (C8.fnBody st) (C8.fnScope st) .none kV doc pm an cdv ct) ⟨us, []⟩ = pure (ps.zip us)) : ClsF ⟨P, w, K, mg⟩ cl qual st ps := by
  have F : C8.Fun K "__init__" qual st f (PySem.W.fnOf "__init__" qual (C8.fnArgs st) (C8.fnBody st) (C8.fnScope st) .none kV doc pm an cdv ct) := ⟨oc, od, .none, kV, doc, pm, an, cdv, ct, sl, rfl, l, cc⟩
  exact ⟨C, f, _, ⟨mk, a1, i1, kc⟩, PySem.W.mg_of X G a, F, F.binds rfl hb, rfl⟩
theorem eqF_of (X : K.In h) (G : h.Ns mainGlobals mg) (a : PySem.W.nsIn K mainGlobals cl = some (some (.ref C))) (a1 : PySem.W.findIn K (.ref C) "__eq__" = some (some (.ref f))) (i1 : PySem.W.isFn K (.ref f) = true)
    (l : K.lookup f = some ⟨oc, od, .func (PySem.W.fnOf "__eq__" qual (C8.fnArgs st) (C8.fnBody st) (C8.fnScope st) .none kV doc pm an cdv ct), sl⟩) (cc : PySem.W.codeIn K cdv qual = true)
    (hb : ∀ (kV doc pm : Value) (an : Option Addr) (cdv ct : Value) (us : List Value), us.length = ps.length → bindArgs (PySem.W.fnOf "__eq__" qual (C8.fnArgs st) (C8.fnBody st) (C8.fnScope st) .none kV doc pm an cdv ct) ⟨us, []⟩ = pure (ps.zip us)) : EqF ⟨P, w, K, mg⟩ cl qual st ps := by
  have F : C8.Fun K "__eq__" qual st f (PySem.W.fnOf "__eq__" qual (C8.fnArgs st) (C8.fnBody st) (C8.fnScope st) .none kV doc pm an cdv ct) := ⟨oc, od, .none, kV, doc, pm, an, cdv, ct, sl, rfl, l, cc⟩
  exact ⟨C, f, _, PySem.W.mg_of X G a, a1, i1, F, F.binds rfl hb⟩
/-! constants -/
/-- a constant of the module -/
def GlOne (c : Cn) (x : Str) (d : D) : Prop := d ≠ .bowl ∧ ∃ u v, c.mg x = some u ∧ RelV v u ∧ ∀ W, Rep c W d v
theorem glo_int {i : Int} {t : Nat} (X : K.In h) (G : h.Ns mainGlobals mg) (a : PySem.W.nsIn K mainGlobals x = some (some (.int i t))) : GlOne ⟨P, w, K, mg⟩ x (.int i) := ⟨(fun z => nomatch z), _, .int i, PySem.W.mg_of X G a, ⟨t, rfl⟩, fun W => by simp only [Rep]⟩
theorem glo_bl {i : Bool} (X : K.In h) (G : h.Ns mainGlobals mg) (a : PySem.W.nsIn K mainGlobals x = some (some (.bool i))) : GlOne ⟨P, w, K, mg⟩ x (.bl i) := ⟨(fun z => nomatch z), _, .bl i, PySem.W.mg_of X G a, rfl, fun W => by simp only [Rep]⟩
theorem glo_str {i : Str} {t : Nat} (X : K.In h) (G : h.Ns mainGlobals mg) (a : PySem.W.nsIn K mainGlobals x = some (some (.str i t))) (hz : decide (i.length ≤ sizeLine) = true) : GlOne ⟨P, w, K, mg⟩ x (.str i) := ⟨(fun z => nomatch z), _, .str i, PySem.W.mg_of X G a, ⟨t, rfl⟩, fun W => by simp only [Rep]; exact ⟨trivial, of_decide_eq_true hz⟩⟩
theorem glo_fn (X : K.In h) (G : h.Ns mainGlobals mg) (a : PySem.W.nsIn K mainGlobals x = some (some (.ref f))) : GlOne ⟨P, w, K, mg⟩ x (.fn x) := ⟨(fun z => nomatch z), _, .ref f, PySem.W.mg_of X G a, rfl, fun W => by simp only [Rep]; exact ⟨f, rfl, PySem.W.mg_of X G a⟩⟩
/-- a tuple written at the top, with its items -/
inductive KVal (K : PySem.W.Frag) : D → Value → Prop
  | non : KVal K .non .none
  | bl (b : Bool) : KVal K (.bl b) (.bool b)
  | int (i : Int) (t : Nat) : KVal K (.int i) (.int i t)
  | str (s : Str) (t : Nat) (hz : decide (s.length ≤ sizeLine) = true) : KVal K (.str s) (.str s t)
  | tup {ds : List D} {a : Addr} {o : Obj} {its : List Value} {n : Nat} (l : K.lookup a = some o) (oc : o.cls = .type "tuple") (od : o.data = .seq its.toArray n) (hz : decide (its.length ≤ sizeLine) = true) (h0 : ds.length = its.length) (hs : ∀ (i : Nat) d u, ds[i]? = some d → its[i]? = some u → KVal K d u) : KVal K (.tup ds) (.ref a)
theorem kval_rep {d : D} {u : Value} (k : KVal K d u) : ∃ v, RelV v u ∧ ∀ W, Rep ⟨P, w, K, mg⟩ W d v := by
  induction k with
  | non => exact ⟨.non, rfl, fun W => by simp only [Rep]⟩
  | bl b => exact ⟨.bl b, rfl, fun W => by simp only [Rep]⟩
  | int i t => exact ⟨.int i, ⟨t, rfl⟩, fun W => by simp only [Rep]⟩
  | str s t hz => exact ⟨.str s, ⟨t, rfl⟩, fun W => by simp only [Rep]; exact ⟨trivial, of_decide_eq_true hz⟩⟩
  | @tup ds a o its n l oc od hz h0 hs ih =>
    have : ∃ vs, Vals vs its ∧ ∀ W, RepL ⟨P, w, K, mg⟩ W ds vs := by
      clear l hz hs od
      induction ds generalizing its with
      | nil =>
        have : its = [] := List.eq_nil_of_length_eq_zero (by simpa using h0.symm)
        subst this
        exact ⟨[], .nil, fun W => .nil⟩
      | cons d ds ihd =>
        cases its with
        | nil => simp at h0
        | cons u us =>
          obtain ⟨v, r, hr⟩ := ih 0 d u rfl rfl
          obtain ⟨vs, rs, hrs⟩ := ihd (its := us) (by simpa using h0) fun i d' u' h1 h2 => ih (i + 1) d' u' (by simpa using h1) (by simpa using h2)
          exact ⟨v :: vs, .cons r rs, fun W => .cons (hr W) (hrs W)⟩
    obtain ⟨vs, r, hr⟩ := this
    exact ⟨.ref a, rfl, fun W => by simp only [Rep]; exact ⟨a, vs, rfl, .inr ⟨o, its.toArray, n, l, oc, od, by rw [List.size_toArray]; exact of_decide_eq_true hz, by simpa using r⟩, hr W⟩⟩
theorem glo_k {d : D} {u : Value} (X : K.In h) (G : h.Ns mainGlobals mg) (a : PySem.W.nsIn K mainGlobals x = some (some u)) (k : KVal K d u) (hb : d ≠ .bowl) : GlOne ⟨P, w, K, mg⟩ x d := by
  obtain ⟨v, r, hr⟩ := kval_rep (P := P) (w := w) (mg := mg) k
  exact ⟨hb, u, v, PySem.W.mg_of X G a, r, hr⟩
def KVs (K : PySem.W.Frag) (ds : List D) (us : List Value) : Prop := ds.length = us.length ∧ ∀ (i : Nat) d u, ds[i]? = some d → us[i]? = some u → KVal K d u
theorem kvs_nil : KVs K [] [] := ⟨rfl, fun i d u h => by simp at h⟩
theorem kvs_cons {d : D} {u : Value} {ds : List D} {us : List Value} (k : KVal K d u) (t : KVs K ds us) : KVs K (d :: ds) (u :: us) := ⟨by simp [t.1], fun i d' u' h1 h2 => by
  cases i with
  | zero => simp at h1 h2; subst h1; subst h2; exact k
  | succ i => exact t.2 i d' u' (by simpa using h1) (by simpa using h2)⟩
theorem kv_tup {ds : List D} {a : Addr} {o : Obj} {its : List Value} {n : Nat} (l : K.lookup a = some o) (oc : o.cls = .type "tuple") (od : o.data = .seq its.toArray n) (h : KVs K ds its) (hz : decide (its.length ≤ sizeLine) = true) : KVal K (.tup ds) (.ref a) := .tup l oc od hz h.1 h.2
/-- the entries of a dict written at the top -/
def DEnt (K : PySem.W.Frag) (a : Addr) (ks vs : List D) : Prop := ∀ y d, dlook ks vs y = some d → ∃ z u, y = .str z ∧ PySem.W.nsIn K a z = some (some u) ∧ KVal K d u
theorem dent_nil {a : Addr} : DEnt K a [] [] := fun y d h => by simp [dlook] at h
theorem dent_cons {a : Addr} {z : Str} {u : Value} {d : D} {ks vs : List D} (h : PySem.W.nsIn K a z = some (some u)) (k : KVal K d u) (t : DEnt K a ks vs) : DEnt K a (.str z :: ks) (d :: vs) := fun y d' e => by
  rw [dlook] at e
  split at e
  · rename_i q
    cases e
    cases y with
    | str s =>
      have q : (s == z) = true := q
      rw [eq_of_beq q]
      exact ⟨z, u, rfl, h, k⟩
    | _ => cases q
  · exact t y d' e
theorem dic_of {es : Array DictEntry} {n : Nat} {a : Addr} {ks vs : List D} (X : K.In h) (G : h.Ns mainGlobals mg) (q : PySem.W.nsIn K mainGlobals x = some (some (.ref a))) (l : K.lookup a = some ⟨.type "dict", none, .dict es n, #[]⟩) (kl : PySem.W.KeysLit w.params es.toList) (e : DEnt K a ks vs) :
    ∃ a, (⟨P, w, K, mg⟩ : Cn).mg x = some (.ref a) ∧ ∀ y d, dlook ks vs y = some d → ∃ z v, y = .str z ∧ KDct K w a z v ∧ ∀ W, Rep ⟨P, w, K, mg⟩ W d v := by
  refine ⟨a, PySem.W.mg_of X G q, fun y d hd => ?_⟩
  obtain ⟨z, u, rfl, h1, k⟩ := e y d hd
  obtain ⟨v, r, hr⟩ := kval_rep (P := P) (w := w) (mg := mg) k
  exact ⟨z, v, rfl, ⟨es, n, u, l, kl, h1, r⟩, hr⟩
theorem noL_of (h : (K.all fun p => !(p.2.cls == .type "list")) = true) : ∀ (a : Addr) (o : Obj), K.lookup a = some o → o.cls ≠ .type "list" := fun a o e z => by
  have := List.all_eq_true.mp h _ (lookup_mem e)
  simp [z] at this
theorem glok_of {c : Cn} {G : Glo} {cons : List (Str × D)} (hG : ∀ x, G.con x = cons.lookup x) (h : ∀ p ∈ cons, GlOne c p.1 p.2) : GlOk c G := fun x d e => h _ (lookup_mem (by rw [← hG]; exact e))
/-! classes -/
/-- what is known of an own class's objects -/
structure ClsG (c : Cn) (cl : Str) (as : List Str) (C : Addr) : Prop where
  mg : c.mg cl = some (.ref C)
  ins : C8.InsC c.K C
  to : ∀ T ∈ ["int", "bool", "str", "tuple", "list", "dict"], PySem.W.kitOne c.K (.ref C) (.type T) = some false
  from_ : ∀ T ∈ ["NoneType", "int", "bool", "str", "tuple", "list", "dict"], PySem.W.kitOne c.K (.type T) (.ref C) = some false
  no : ∀ x ∈ as, NoAttr c.K C x
theorem clsG_of {as : List Str} (X : K.In h) (G : h.Ns mainGlobals mg) (a : PySem.W.nsIn K mainGlobals cl = some (some (.ref C))) (c1 : PySem.W.plainGet K C Str.empty = true) (c2 : PySem.W.hasDictIn K C = true) (c3 : PySem.W.plainOver K C = true) (c4 : PySem.W.findIn K (.ref C) "__setattr__" = some (some (.builtin "object.__setattr__")))
    (i1 : PySem.W.findIn K (.ref C) "__class__" = some (some (.builtin "object.__class__"))) (i2 : PySem.W.specialIn K (.builtin "object.__class__") "__get__" = some (some (.builtin "getset_descriptor.__get__"))) (i3 : PySem.W.takesIn K (.builtin "object.__class__") = some true) (i4 : PySem.W.mroIn K C (.type "object") = some true) (i5 : PySem.W.kitOne K (.ref C) (.ref C) = some true)
    (t : ∀ T ∈ ["int", "bool", "str", "tuple", "list", "dict"], PySem.W.kitOne K (.ref C) (.type T) = some false) (f : ∀ T ∈ ["NoneType", "int", "bool", "str", "tuple", "list", "dict"], PySem.W.kitOne K (.type T) (.ref C) = some false) (n : ∀ x ∈ as, PySem.W.findIn K (.ref C) x = some none) : ClsG ⟨P, w, K, mg⟩ cl as C :=
  ⟨PySem.W.mg_of X G a, ⟨⟨c1, c2, c3, c4⟩, i1, i2, i3, i4, i5⟩, t, f, n⟩
theorem cls_1 {c : Cn} {G : Glo} {cl : Str} {as : List Str} {C : Addr} (hG : ∀ cl' x, G.attrs cl' x = true → cl' = cl ∧ (x ∈ as ∨ x = "__class__")) (h : ClsG c cl as C) : ClsOk c G.attrs where
  ins := fun cl' e => by
    obtain ⟨rfl, _⟩ := hG _ _ e
    exact ⟨C, h.mg, h.ins, h.to, h.from_⟩
  two := fun c1 c2 C1 C2 e1 e2 m1 m2 => by
    obtain ⟨rfl, _⟩ := hG _ _ e1
    obtain ⟨rfl, _⟩ := hG _ _ e2
    rw [h.mg] at m1 m2
    cases m1; cases m2
    rw [beq_self_eq_true]
    exact h.ins.me
  attr := fun cl' x C' e hx m => by
    obtain ⟨rfl, e⟩ := hG _ _ e
    rw [h.mg] at m; cases m
    rcases e with e | e
    · exact ⟨h.ins.cl, h.no _ e⟩
    · exact absurd e hx
def attrOf (l : List (Str × List Str)) (cl x : Str) : Bool := match l.lookup cl with
  | some (l : List Str) => l.contains x
  | none => false
theorem attr_1 {cl : Str} {as : List Str} (cl' x : Str) (h : attrOf [(cl, as ++ [("__class__" : Str)])] cl' x = true) : cl' = cl ∧ (x ∈ as ∨ x = "__class__") := by
  unfold attrOf at h
  by_cases e : (cl' == cl) = true
  · have e2 : [(cl, as ++ [("__class__" : Str)])].lookup cl' = some (as ++ [("__class__" : Str)]) := by simp [List.lookup, e]
    rw [e2] at h
    have h : (as ++ [("__class__" : Str)]).contains x = true := h
    refine ⟨eq_of_beq e, ?_⟩
    have := List.contains_iff_mem.mp h
    simpa using this
  · have e2 : [(cl, as ++ [("__class__" : Str)])].lookup cl' = none := by simp [List.lookup, e]
    rw [e2] at h
    cases h
/-! the module's dicts keyed by texts -/
theorem dicok_of {c : Cn} {G : Glo} {gd : List (Str × (List D × List D))} (hG : ∀ x, G.gdic x = gd.lookup x) (h : ∀ p ∈ gd, ∃ a, c.mg p.1 = some (.ref a) ∧ ∀ y d, dlook p.2.1 p.2.2 y = some d → ∃ z v, y = .str z ∧ KDct c.K c.w a z v ∧ ∀ W, Rep c W d v) : DicOk c G := fun x ks vs e => h _ (lookup_mem (by rw [← hG]; exact e))
end
/-! the law's own head -/
/-- the list of seeds -/
def spLaw (K : PySem.W.Frag) : Sp := fun vs H Q _ => ∃ (a : Addr) (ns : List Int), vs = [.ref a] ∧ SqL K H a (ns.map V.int) ∧ ns.length ≤ 63 ∧ (∀ p ∈ tabL, H p.1 = some (.tbl #[])) ∧ ∀ H', Q (.bl true) H'
open Classical in
/-- the world at the start -/
noncomputable def Wd.first (H : Hp) : Wd := ⟨fun a => if ∃ ps, H a = some (.tbl ps) then none else H a, fun _ => False, tabL, fun a => (∃ ps, H a = some (.tbl ps)) ∧ ∀ p ∈ tabL, p.1 ≠ a⟩
theorem Wd.first_tbl {H : Hp} {a : Addr} (h : ∃ ps, H a = some (.tbl ps)) : (Wd.first H).fz a = none := if_pos h
theorem Wd.first_nt {H : Hp} {a : Addr} (h : ¬ ∃ ps, H a = some (.tbl ps)) : (Wd.first H).fz a = H a := if_neg h
theorem Wd.first_at {H : Hp} {a : Addr} {o : HO} (e : H a = some o) (h : ∀ ps, o ≠ .tbl ps) : (Wd.first H).fz a = some o := by
  rw [Wd.first_nt (fun ⟨ps, z⟩ => by rw [e] at z; exact h ps (Option.some.inj z))]
  exact e
theorem Wd.first_of {H : Hp} {a : Addr} {o : HO} (e : (Wd.first H).fz a = some o) : H a = some o ∧ ∀ ps, H a ≠ some (.tbl ps) := by
  by_cases z : ∃ ps, H a = some (.tbl ps)
  · rw [Wd.first_tbl z] at e; cases e
  · rw [Wd.first_nt z] at e; exact ⟨e, fun ps q => z ⟨ps, q⟩⟩
theorem Wd.first_in {H : Hp} (hT : ∀ p ∈ tabL, H p.1 = some (.tbl #[])) : (Wd.first H).In H := by
  have none_of : ∀ {a : Addr} {ps : Array Value}, H a = some (.tbl ps) → (Wd.first H).fz a = none := fun {a ps} e => by
    cases z : (Wd.first H).fz a with
    | none => rfl
    | some o => exact absurd e ((Wd.first_of z).2 ps)
  refine ⟨fun a o e => (Wd.first_of e).1, fun _ z => z.elim, fun p hp => NdefX.TabN.nil (hT p hp), fun a b q e => Wd.first_at e (fun _ z => by cases z), fun p hp => ⟨none_of (hT p hp), fun z => z⟩, rfl, fun a ps e => ?_, fun a ⟨⟨ps, e⟩, h⟩ => ⟨by rw [e]; simp, fun o z => (by rw [none_of e] at z; cases z), fun z => z⟩⟩
  by_cases z : ∃ p ∈ tabL, p.1 = a
  · exact .inl z
  · exact .inr ⟨⟨ps, e⟩, fun p hp q => z ⟨p, hp, q⟩⟩
theorem law_ok {c : Cn} {B : Heap} {k : Nat} {b : Bool} {φ : List D → R (D × List D)} {f : Addr} {fd : FuncData} {ps : List Str} (F : FnOk c.P c.w c.K c.mg B C8.CX0 k f fd ps (spF c b φ 1)) (noL : ∀ (a : Addr) (o : Obj), c.K.lookup a = some o → o.cls ≠ .type "list")
    (h : ∀ ns : List Int, ns.length ≤ 63 → (φ [.lst (ns.map D.int)]).Ev fun r => r.1 = .bl true) : FnOk c.P c.w c.K c.mg B C8.CX0 k f fd ps (spLaw c.K) := F.imp fun vs H Q E ⟨a, ns, e, hS, hl, hT, q⟩ => by
  subst e
  have hR : Rd H a (.lst (ns.map V.int)) := by
    rcases hS with hS | ⟨o, its, n, lk, oc, _⟩
    · exact hS
    · exact absurd oc (noL a o lk)
  refine ⟨rfl, Wd.first H, [.lst (ns.map D.int)], Wd.first_in hT, .cons ?_ .nil, (ev_sat.mp (h ns hl)).mono fun r e => ?_⟩
  · simp only [Rep]
    refine ⟨a, ns.map V.int, rfl, ?_, ?_⟩
    · rcases hR with hR | ⟨o, hR⟩
      · exact .inl (Wd.first_at hR (fun _ z => by cases z))
      · exact .inr ⟨o, Wd.first_at hR (fun _ z => by cases z)⟩
    · clear hS hR hl q
      induction ns with
      | nil => exact .nil
      | cons n ns ih => exact .cons (by simp only [Rep]) ih
  · rw [e]
    intro v H' W' S g o hn
    have : v = .bl true := by
      cases b with
      | true =>
        have o : Rep c W' (.bl true) v ∧ S = [] := o
        simpa only [Rep] using o.1
      | false =>
        have o : Rep c W' (.bl true) v ∧ S = [] := o
        simpa only [Rep] using o.1
    rw [this]
    exact q H'
theorem DefM.tab {c : Cn} {x : Str} {st : Stmt} {ps : List Str} {P : Addr} (D0 : DefM c x st ps P) : ∃ cc, PySem.W.codeHdIn c.K cc P = true := let ⟨_, cc, _, _, _, _, _, h⟩ := D0.ex; ⟨cc, h⟩
theorem codeL_of {K : PySem.W.Frag} : ∀ {T : List NdefX.NTab}, (∀ p ∈ T, ∃ cc, PySem.W.codeHdIn K cc p.1 = true) → ∃ cs : List (Addr × Addr), (∀ q ∈ cs, PySem.W.codeHdIn K q.1 q.2 = true ∧ ∃ p ∈ T, p.1 = q.2) ∧ ∀ p ∈ T, ∃ q ∈ cs, q.2 = p.1
  | [], _ => ⟨[], fun q h => absurd h (by simp), fun q h => absurd h (by simp)⟩
  | p :: T, h => by
    obtain ⟨cs, h1, h2⟩ := codeL_of (T := T) fun q hq => h q (List.mem_cons_of_mem _ hq)
    obtain ⟨cc, hc⟩ := h p (by simp)
    refine ⟨(cc, p.1) :: cs, fun q hq => ?_, fun q hq => ?_⟩
    · rcases List.mem_cons.mp hq with rfl | hq
      · exact ⟨hc, p, by simp, rfl⟩
      · obtain ⟨e, r, hr, z⟩ := h1 q hq
        exact ⟨e, r, List.mem_cons_of_mem _ hr, z⟩
    · rcases List.mem_cons.mp hq with rfl | hq
      · exact ⟨_, List.mem_cons_self, rfl⟩
      · obtain ⟨r, hr, z⟩ := h2 q hq
        exact ⟨r, List.mem_cons_of_mem _ hr, z⟩
theorem walk {l : PySem.W.OpenLaw} {q : Program} {loose : List Str} {XP : (Str → Option Value) → Heap → Prop} {YP : World → Heap → Prop} {d : DefRec} {K : Params → PySem.W.Frag} {k : Nat} (hn : l.most = some 63) (hdf : d.params.defaults = []) (hr : Room k callerA)
    (hY : ∀ (w : World) (h : Heap), YP w h → (K w.params).In h) (hT : ∀ (w : World) (h : Heap), YP w h → ∀ p ∈ tabL, h.get? p.1 = some { cls := .none, data := .fields #[] }) (nT : ∀ (w : World), ∀ p ∈ tabL, (K w.params).lookup p.1 = none)
    (F : ∀ (w : World) (mg : Str → Option Value) (fa : Addr) (h : Heap), (K w.params).In h → h.Ns mainGlobals mg → mg d.name = some (.ref fa) →
      ∃ fd : FuncData, (∀ (s : Shared) (u : Value), BindsTo s fd ⟨[u], []⟩ [("script", u)]) ∧ (∀ p ∈ tabL, ∃ cc, PySem.W.codeHdIn (K w.params) cc p.1 = true) ∧ ∀ base : Heap, TabK ⟨l.prog, w, K w.params, mg⟩ base → base.Ns mainGlobals mg → FnOk l.prog w (K w.params) mg base C8.CX0 k fa fd ["script"] (spLaw (K w.params))) :
    PySem.W.WalkO q loose XP YP l.row.toRowW d [] (fun f vs => PySem.call f vs) :=
  LamX.walk_ofTs (n := 63) (k := k) (K := K) (x := "script") (CX := fun _ => C8.CX0) hn (by decide) hdf hr hY (fun w mg fa h Y KX G hmg => by
    obtain ⟨fd, hb, hc, hF⟩ := F w mg fa h KX G hmg
    obtain ⟨cs, h1, h2⟩ := codeL_of hc
    refine ⟨fd, cs, spLaw (K w.params), fun q hq => ?_, fun q hq => ?_, fun q hq => PySem.W.codeHd_of_K KX (h1 q hq).1, hb, fun H a ns hl _ hTT hS => ⟨a, ns, rfl, hS, hl, fun p hp => ?_, fun _ => rfl⟩, fun base KB G' TB => hF base ⟨KB, fun p hp => ?_, fun p hp => ?_⟩ G'⟩
    · obtain ⟨_, p, hp, e⟩ := h1 q hq
      rw [← e]; exact hT w h Y p hp
    · obtain ⟨_, p, hp, e⟩ := h1 q hq
      rw [← e]; exact nT w p hp
    · obtain ⟨q, hq, e⟩ := h2 p hp
      rw [← e]; exact hTT q hq
    · obtain ⟨q, hq, e⟩ := h2 p hp
      rw [← e]; exact (TB q hq).bm
    · obtain ⟨q, hq, e⟩ := h2 p hp
      rw [← e]; exact (TB q hq).gP) fun _ _ _ _ _ z => z
/-! natives, one level up -/
section
variable {c : Cn} {B : Heap} {G : Glo} {Γ : Str → Option Ent} {M k j n : Nat} {b : Bool} {x : Str} {st : Stmt} {N ps : List Str} {F Fn : List Bool} {d : Fd}
def drawF : List D → R (D × List D)
  | [.bowl, .int n] => if 0 < n && n < 1073741824 then .draw n.toNat fun i => .ok (.int i, []) else .bad
  | _ => .bad
def bowlF : List D → R (D × List D)
  | [.lst l, .int i] => if (intsOf l).isSome && decide (0 ≤ i) then .ok (.bowl, []) else .bad
  | _ => .bad
theorem run_drawF (h : Γ x = some .draw) (ds : List D) : run Γ G M (k + 1) x [] ds = drawF ds := by
  simp only [run, h]
  unfold drawF
  rfl
theorem run_bowlF (h : Γ x = some .bowl) (ds : List D) : run Γ G M (k + 1) x [] ds = bowlF ds := by
  simp only [run, h]
  unfold bowlF
  rfl
theorem d_s (D0 : DefF c x st ps) (h : Γ x = some .draw) (S : FnScope N ps (C8.fnScope st)) (hps : ps.length = 2) (body : DrawBody c B N (C8.fnScope st) j (C8.fnBody st)) : C8.Cal c.P c.w c.K c.mg B (j + 1) x (spF c b (run Γ G M (k + 1) x []) 2) [] := by
  obtain ⟨f, fd, D, bb, _⟩ := D0.ex
  refine cal_draw D bb S hps body fun ds P s => ?_
  rw [run_drawF h] at s
  unfold drawF at s
  split at s
  · rename_i m
    obtain ⟨hc, s⟩ := sat_if s
    simp only [Bool.and_eq_true, decide_eq_true_eq] at hc
    refine ⟨m, rfl, hc.1, hc.2, fun i h0 h1 => ?_⟩
    have := s.2 i.toNat (by omega)
    have q : P (.int (i.toNat : Int), []) := this
    rw [Int.toNat_of_nonneg h0] at q
    exact q
  · exact s.elim
theorem b_s (D0 : DefF c x st ps) (h : Γ x = some .bowl) (S : FnScope N ps (C8.fnScope st)) (hdf : d.dflt = []) (hio : d.inout = []) (hps : ps.length = d.caps + d.params.length) (hsl : d.slots = N.length) (hn : ps.length = n) (hF : (F.all fun b => !b) = true)
    (hb : ∀ (Φ : Phi) (l : List D) (i : Int), (intsOf l).isSome = true → 0 ≤ i → (callFd G Φ M d [.lst l, .int i]).Ev fun r => ∃ i j l : Int, r.1 = .lst [.int i, .int j, .int l])
    (body : ∀ X, Sx c B N (C8.fnScope st) (fun _ => true) j X → ESs X [] G (run Γ G M k) M true (C8.fnBody st) d.body F Fn [] []) : C8.Cal c.P c.w c.K c.mg B (j + 1) x (spF c false (run Γ G M (k + 1) x []) n) [] := by
  obtain ⟨f, fd, D, bb, _⟩ := D0.ex
  rw [← hn]
  refine cal_bowl (fd_cal D bb S hdf hio hps hsl hF body) fun ds P s => ?_
  rw [run_bowlF h] at s
  unfold bowlF at s
  split at s
  · obtain ⟨hc, s⟩ := sat_if s
    simp only [Bool.and_eq_true, decide_eq_true_eq] at hc
    exact (ev_sat.mp (hb _ _ _ hc.1 hc.2)).mono fun r ⟨i, j, l, e⟩ => ⟨i, j, l, e, s⟩
  · exact s.elim
theorem f_s {f : Addr} {fd : FuncData} (D : C8.Def c.K c.mg x st f fd) (h : Γ x = some (.fd d)) (S : FnScope N ps (C8.fnScope st)) (hdf : d.dflt = []) (hio : d.inout = []) (hps : ps.length = d.caps + d.params.length) (hsl : d.slots = N.length) (hn : ps.length = n) (hF : (F.all fun b => !b) = true)
    (body : ∀ X, Sx c B N (C8.fnScope st) (fun _ => true) j X → ESs X [] G (run Γ G M k) M b (C8.fnBody st) d.body F Fn [] []) : FnOk c.P c.w c.K c.mg B C8.CX0 (j + 1) f fd ps (spF c b (run Γ G M (k + 1) x []) n) := by
  rw [run_F h, ← hn]
  exact C8.fn0 D.fn S (fun vs H Q E h => h.1) fun cdv A outer s H vs Q E hr hsp => fd_body S hdf hio hps hsl hF body cdv A outer s H vs Q E hr hsp
end
end Pv

set_option autoImplicit false
set_option linter.all false
set_option maxRecDepth 10000
/-! Pv: the evaluator as rules for simp; loops by what they keep. Plain Lean. -/
namespace Pv.Pl
open PySem (Str)

@[simp] theorem bind_ok {α β : Type} (a : α) (f : α → R β) : (R.ok a).bind f = f a := (rfl)
@[simp] theorem bind_bad {α β : Type} (f : α → R β) : (R.bad : R α).bind f = .bad := (rfl)
@[simp] theorem bind_exc {α β : Type} (c : Str) (d : D) (f : α → R β) : (R.exc c d : R α).bind f = .exc c d := (rfl)
@[simp] theorem bindR {α β γ : Type} (f : α → R β) (g : β → R γ) : ∀ m : R α, (m.bind f).bind g = m.bind fun x => (f x).bind g
  | .ok a => rfl
  | .exc c d => rfl
  | .bad => rfl
  | .draw n k => congrArg (R.draw n) (funext fun i => bindR f g (k i))
@[simp] theorem sat_ok {α : Type} (a : α) (P : α → Prop) : (R.ok a).Ev P ↔ P a := ev_sat
theorem ev {α : Type} {a : α} {P : α → Prop} (h : P a) : (R.ok a).Ev P := ev_sat.mpr h
theorem _root_.Pv.R.Ev.mono {α : Type} {P Q : α → Prop} {m : R α} (s : m.Ev P) (h : ∀ a, P a → Q a) : m.Ev Q := ev_sat.mpr ((ev_sat.mp s).mono h)
theorem sat_bind {α β : Type} {m : R α} {f : α → R β} {P : β → Prop} (h : m.Ev fun a => (f a).Ev P) : (m.bind f).Ev P := ev_sat.mpr (R.Sat.bind.mpr ((ev_sat.mp h).mono fun a h => ev_sat.mp h))
theorem sat_unbind {α β : Type} {m : R α} {f : α → R β} {P : β → Prop} (h : (m.bind f).Ev P) : m.Ev fun a => (f a).Ev P := ev_sat.mpr ((R.Sat.bind.mp (ev_sat.mp h)).mono fun a h => ev_sat.mpr h)
/-- from what m keeps to what comes behind -/
theorem sat_then {α β : Type} {m : R α} {f : α → R β} {Q : α → Prop} {P : β → Prop} (h : m.Ev Q) (g : ∀ a, Q a → (f a).Ev P) : (m.bind f).Ev P := sat_bind (h.mono g)
theorem sat_eq {α : Type} {m : R α} {a : α} {P : α → Prop} (h : m = .ok a) (p : P a) : m.Ev P := by rw [h]; exact ev p

section
variable (G : Glo) (Φ : Phi) (ρ : Env) (N : Nat)
@[simp] theorem evE_var (i : Nat) : evE G Φ ρ (.var i) = getV ρ i := (rfl)
@[simp] theorem evE_non : evE G Φ ρ .non = .ok .non := (rfl)
@[simp] theorem evE_bl (b : Bool) : evE G Φ ρ (.bl b) = .ok (.bl b) := (rfl)
@[simp] theorem evE_int (b : Int) : evE G Φ ρ (.int b) = .ok (.int b) := (rfl)
@[simp] theorem evE_str (b : Str) : evE G Φ ρ (.str b) = .ok (.str b) := (rfl)
theorem evE_glob {x : Str} {d : D} (h : G.con x = some d) : evE G Φ ρ (.glob x) = .ok d := by
  show (match G.con x with | some d => R.ok d | none => .bad) = _
  rw [h]
@[simp] theorem evE_tup (es : IE) : evE G Φ ρ (.tup es) = (evL G Φ ρ es).bind fun l => .ok (.tup l) := (rfl)
@[simp] theorem evE_lst (es : IE) : evE G Φ ρ (.lst es) = (evL G Φ ρ es).bind fun l => .ok (.lst l) := (rfl)
@[simp] theorem evE_dic0 : evE G Φ ρ (.dic .enil .enil) = .ok (.dic [] []) := (rfl)
@[simp] theorem evE_op (o : Op) (a b : IE) : evE G Φ ρ (.op o a b) = (evE G Φ ρ a).bind fun x => (evE G Φ ρ b).bind fun y => opE Φ o x y := (rfl)
@[simp] theorem evE_chain (o o' : Op) (a b c : IE) : evE G Φ ρ (.chain o o' a b c) = (evE G Φ ρ a).bind fun x => (evE G Φ ρ b).bind fun y => (opE Φ o x y).bind fun z => match z with
    | .bl true => (evE G Φ ρ c).bind fun w => opE Φ o' y w
    | .bl false => .ok (.bl false)
    | _ => .bad := (rfl)
@[simp] theorem evE_neg (a : IE) : evE G Φ ρ (.neg a) = (evE G Φ ρ a).bind fun x => match x with | .int i => .ok (.int (-i)) | _ => .bad := (rfl)
@[simp] theorem evE_nott (a : IE) : evE G Φ ρ (.nott a) = (evE G Φ ρ a).bind fun x => x.truthy.bind fun b => .ok (.bl (!b)) := (rfl)
@[simp] theorem evE_and (a b : IE) : evE G Φ ρ (.and a b) = (evE G Φ ρ a).bind fun x => x.truthy.bind fun t => if t then evE G Φ ρ b else .ok x := (rfl)
@[simp] theorem evE_or (a b : IE) : evE G Φ ρ (.or a b) = (evE G Φ ρ a).bind fun x => x.truthy.bind fun t => if t then .ok x else evE G Φ ρ b := (rfl)
@[simp] theorem evE_iteP (t a b : IE) : evE G Φ ρ (.ite t a b) = (evE G Φ ρ t).bind fun x => x.truthy.bind fun t => if t then evE G Φ ρ a else evE G Φ ρ b := (rfl)
@[simp] theorem evE_call (f : Str) (es : IE) : evE G Φ ρ (.call f es) = (evL G Φ ρ es).bind fun xs => (Φ f [] xs).bind fun r => .ok r.1 := (rfl)
@[simp] theorem evE_callk (f : Str) (ks : List Str) (es : IE) : evE G Φ ρ (.callk f ks es) = (evL G Φ ρ es).bind fun xs => (Φ f ks xs).bind fun r => .ok r.1 := (rfl)
@[simp] theorem evE_bf (b : Bf) (es : IE) : evE G Φ ρ (.bf b es) = (evL G Φ ρ es).bind fun xs => bfD b xs := (rfl)
@[simp] theorem evE_isi (a : IE) (ts : List Ty) : evE G Φ ρ (.isi a ts) = (evE G Φ ρ a).bind fun x => if isiOk G.attrs x then .ok (.bl (ts.any (tyIs x))) else .bad := (rfl)
@[simp] theorem evE_mf (m : Mf) (a es : IE) : evE G Φ ρ (.mf m a es) = (evE G Φ ρ a).bind fun x => (evL G Φ ρ es).bind fun xs => mfD m x xs := (rfl)
@[simp] theorem evE_sub (a i : IE) : evE G Φ ρ (.sub a i) = (evE G Φ ρ a).bind fun x => (evE G Φ ρ i).bind fun y => subD x y := (rfl)
@[simp] theorem evE_slice (a lo hi : IE) : evE G Φ ρ (.slice a lo hi) = (evE G Φ ρ a).bind fun x => (partO lo (evE G Φ ρ lo)).bind fun l => (partO hi (evE G Φ ρ hi)).bind fun h => cutD x l h := (rfl)
@[simp] theorem evE_attr (a : IE) (f : Str) : evE G Φ ρ (.attr a f) = (evE G Φ ρ a).bind fun x => attrD G.attrs x f := (rfl)
theorem evE_gsub {x : Str} (i : IE) {ks vs : List D} (h : G.gdic x = some (ks, vs)) : evE G Φ ρ (.gsub x i) = (evE G Φ ρ i).bind fun y => match dlook ks vs y with | some d => .ok d | none => .bad := by
  show ((evE G Φ ρ i).bind fun y => match G.gdic x with | some (ks, vs) => (match dlook ks vs y with | some d => R.ok d | none => .bad) | none => .bad) = _
  rw [h]
theorem evE_comp (elt : IE) (t : Tg) (it c : IE) (own : List Nat) : evE G Φ ρ (.comp elt t it c own) = (evI G Φ ρ it).bind fun l => (gather (fun x => (asgT t x (wipe ρ own)).bind fun ρ => (evE G Φ ρ c).bind fun y => y.truthy.bind fun b =>
      if b then (evE G Φ ρ elt).bind fun z => .ok (some z) else .ok none) l).bind fun r => .ok (.lst r) := (rfl)
@[simp] theorem evL_nil : evL G Φ ρ .enil = .ok [] := (rfl)
@[simp] theorem evL_cons (e es : IE) : evL G Φ ρ (.econs e es) = (evE G Φ ρ e).bind fun x => (evL G Φ ρ es).bind fun xs => .ok (x :: xs) := (rfl)
theorem evI_range1 (a : IE) : evI G Φ ρ (.range1 a) = (evE G Φ ρ a).bind fun x => match x with | .int n => if mid n && decide (n ≤ big) then .ok ((List.range n.toNat).map fun (i : Nat) => D.int (i : Int)) else .bad | _ => .bad := (rfl)
@[simp] theorem evI_enum (a : IE) : evI G Φ ρ (.enum a) = (evE G Φ ρ a).bind fun x => (itemsD x).bind fun l => .ok (enumL 0 l) := (rfl)
@[simp] theorem evI_over (a : IE) : evI G Φ ρ (.over a) = (evE G Φ ρ a).bind itemsD := (rfl)
@[simp] theorem evX_e (a : IE) : evX G Φ ρ (.e a) = (evE G Φ ρ a).bind fun d => .ok (d, ρ) := (rfl)
@[simp] theorem evX_mv (i : Nat) : evX G Φ ρ (.mv i) = (getV ρ i).bind fun d => .ok (d, ρ.set i none) := (rfl)
theorem exS_skip : exS G Φ N .skip ρ = .ok (.nx ρ) := (rfl)
theorem exS_seq (s r : IS) : exS G Φ N (.seq s r) ρ = (exS G Φ N s ρ).bind fun f => match f with
    | .nx ρ => exS G Φ N r ρ
    | f => .ok f := (rfl)
theorem exS_asg (t : Tg) (x : IX) : exS G Φ N (.asg t x) ρ = (evX G Φ ρ x).bind fun r => (asgT t r.1 r.2).bind fun ρ => .ok (.nx ρ) := (rfl)
theorem exS_par (ts : List Nat) (xs : List IX) : exS G Φ N (.par ts xs) ρ = (evXs G Φ ρ xs).bind fun r => .ok (.nx ((ts.zip r.1).foldl (fun ρ o => setV ρ o.1 o.2) r.2)) := (rfl)
theorem exS_setItem (i : Nat) (k v : IE) : exS G Φ N (.setItem i k v) ρ = (evE G Φ ρ v).bind fun v => (getV ρ i).bind fun d => (evE G Φ ρ k).bind fun k => (setAt d k v).bind fun d => .ok (.nx (setV ρ i d)) := (rfl)
theorem exS_setAttr (i : Nat) (f : Str) (v : IX) : exS G Φ N (.setAttr i f v) ρ = (evX G Φ ρ v).bind fun r => (getV r.2 i).bind fun d => (putAttr G.attrs d f r.1).bind fun d => .ok (.nx (setV r.2 i d)) := (rfl)
theorem exS_expr (x : IX) : exS G Φ N (.expr x) ρ = (evX G Φ ρ x).bind fun r => .ok (.nx r.2) := (rfl)
theorem exS_mt (m : Mt) (i : Nat) (x : IX) : exS G Φ N (.mt m i x) ρ = (evX G Φ ρ x).bind fun r => (getV r.2 i).bind fun d => (mtD m d r.1).bind fun d => .ok (.nx (setV r.2 i d)) := (rfl)
theorem exS_ret (x : IX) : exS G Φ N (.ret x) ρ = (evX G Φ ρ x).bind fun r => .ok (.rt r.1 r.2) := (rfl)
theorem exS_iff (t : IE) (a b : IS) : exS G Φ N (.iff t a b) ρ = (testE G Φ ρ t).bind fun c => if c then exS G Φ N a ρ else exS G Φ N b ρ := (rfl)
@[simp] theorem testE_def (t : IE) : testE G Φ ρ t = (evE G Φ ρ t).bind D.truthy := (rfl)
theorem exS_whil (t : IE) (b : IS) : exS G Φ N (.whil t b) ρ = whileN (fun ρ => testE G Φ ρ t) (exS G Φ N b) N ρ := (rfl)
theorem exS_forr (t : Tg) (a : IE) (b : IS) : exS G Φ N (.forr t (.e a) b) ρ = (evI G Φ ρ a).bind fun l => forL t (exS G Φ N b) l ρ := (rfl)
theorem exS_brk : exS G Φ N .brk ρ = .ok (.bk ρ) := (rfl)
theorem exS_cont : exS G Φ N .cont ρ = .ok (.ct ρ) := (rfl)
@[simp] theorem evXs_nil : evXs G Φ ρ [] = .ok ([], ρ) := (rfl)
@[simp] theorem evXs_cons (x : IX) (l : List IX) : evXs G Φ ρ (x :: l) = (evX G Φ ρ x).bind fun r => (evXs G Φ r.2 l).bind fun s => .ok (r.1 :: s.1, s.2) := (rfl)
end
@[simp] theorem asgT_var (i : Nat) (d : D) (ρ : Env) : asgT (.var i) d ρ = .ok (setV ρ i d) := (rfl)
@[simp] theorem asgT_pair (i j : Nat) (a b : D) (ρ : Env) : asgT (.cons (.var i) (.cons (.var j) .nil)) (.tup [a, b]) ρ = .ok (setV (setV ρ i a) j b) := (rfl)
@[simp] theorem getV_some {ρ : Env} {i : Nat} {d : D} (h : ρ[i]? = some (some d)) : getV ρ i = .ok d := by unfold getV; rw [h]
@[simp] theorem getV_zero (d : D) (ρ : Env) : getV (some d :: ρ) 0 = .ok d := (rfl)
@[simp] theorem getV_succ (o : Option D) (ρ : Env) (i : Nat) : getV (o :: ρ) (i + 1) = getV ρ i := (rfl)
@[simp] theorem setV_zero (o : Option D) (d : D) (ρ : Env) : setV (o :: ρ) 0 d = some d :: ρ := (rfl)
@[simp] theorem setV_succ (o : Option D) (d : D) (ρ : Env) (i : Nat) : setV (o :: ρ) (i + 1) d = o :: setV ρ i d := (rfl)
@[simp] theorem truthy_bl (b : Bool) : (D.bl b).truthy = .ok b := (rfl)
@[simp] theorem truthy_non : D.non.truthy = .ok false := (rfl)
/-! operators -/
section
variable (Φ : Phi)
@[simp] theorem opE_add (x y : D) : opE Φ .add x y = binD .add x y := (rfl)
@[simp] theorem opE_sub (x y : D) : opE Φ .sub x y = binD .sub x y := (rfl)
@[simp] theorem opE_lt (x y : D) : opE Φ .lt x y = binD .lt x y := (rfl)
@[simp] theorem opE_le (x y : D) : opE Φ .le x y = binD .le x y := (rfl)
@[simp] theorem opE_gt (x y : D) : opE Φ .gt x y = binD .gt x y := (rfl)
@[simp] theorem opE_ge (x y : D) : opE Φ .ge x y = binD .ge x y := (rfl)
@[simp] theorem opE_eq (x y : D) : opE Φ .eq x y = eqD x y := by cases x <;> cases y <;> rfl
@[simp] theorem opE_ne (x y : D) : opE Φ .ne x y = neD x y := by cases x <;> cases y <;> rfl
@[simp] theorem opE_is (x y : D) : opE Φ .is x y = isD false x y := by cases x <;> cases y <;> rfl
@[simp] theorem opE_isnot (x y : D) : opE Φ .isnot x y = isD true x y := by cases x <;> cases y <;> rfl
@[simp] theorem opE_inn (x y : D) : opE Φ .inn x y = (inD x y).bind fun b => .ok (.bl b) := by cases x <;> cases y <;> rfl
@[simp] theorem opE_notin (x y : D) : opE Φ .notin x y = (inD x y).bind fun b => .ok (.bl (!b)) := by cases x <;> cases y <;> rfl
@[simp] theorem opE_eqo (c : Str) (ns : List Str) (vs : List D) (y : D) : opE Φ .eqo (.obj c ns vs) y = if eqRight c y then (Φ (c ++ ".__eq__") [] [.obj c ns vs, y]).bind fun r => .ok r.1 else .bad := (rfl)
@[simp] theorem add_int (a b : Int) : binD .add (.int a) (.int b) = .ok (.int (a + b)) := (rfl)
@[simp] theorem sub_int (a b : Int) : binD .sub (.int a) (.int b) = .ok (.int (a - b)) := (rfl)
@[simp] theorem lt_int (a b : Int) : binD .lt (.int a) (.int b) = .ok (.bl (decide (a < b))) := (rfl)
@[simp] theorem gt_int (a b : Int) : binD .gt (.int a) (.int b) = .ok (.bl (decide (b < a))) := (rfl)
@[simp] theorem le_int (a b : Int) : binD .le (.int a) (.int b) = .ok (.bl (decide (a ≤ b))) := by
  show R.ok (D.bl (!decide (b < a))) = _
  congr 2
  by_cases h : a ≤ b
  · simp [h, Int.not_lt.mpr h]
  · simp [h, Int.not_le.mp h]
@[simp] theorem ge_int (a b : Int) : binD .ge (.int a) (.int b) = .ok (.bl (decide (b ≤ a))) := by
  show R.ok (D.bl (!decide (a < b))) = _
  congr 2
  by_cases h : b ≤ a
  · simp [h, Int.not_lt.mpr h]
  · simp [h, Int.not_le.mp h]
@[simp] theorem eq_int (a b : Int) : eqD (.int a) (.int b) = .ok (.bl (a == b)) := (rfl)
@[simp] theorem ne_int (a b : Int) : neD (.int a) (.int b) = .ok (.bl (!(a == b))) := (rfl)
@[simp] theorem add_lst (a b : List D) : binD .add (.lst a) (.lst b) = if a.length + b.length ≤ big then .ok (.lst (a ++ b)) else .bad := (rfl)
@[simp] theorem is_non (x : D) : isD false x .non = .ok (.bl x.isNon) := by cases x <;> rfl
end
@[simp] theorem isNon_tup (l : List D) : (D.tup l).isNon = false := (rfl)
@[simp] theorem isNon_int (l : Int) : (D.int l).isNon = false := (rfl)
@[simp] theorem isNon_str (l : Str) : (D.str l).isNon = false := (rfl)
@[simp] theorem isNon_bl (l : Bool) : (D.bl l).isNon = false := (rfl)
@[simp] theorem isNon_lst (l : List D) : (D.lst l).isNon = false := (rfl)
@[simp] theorem isNon_obj (c : Str) (ns : List Str) (l : List D) : (D.obj c ns l).isNon = false := (rfl)
@[simp] theorem tyIs_tup (l : List D) (t : Ty) : tyIs (.tup l) t = (t == .tuple) := by cases t <;> rfl
@[simp] theorem tyIs_int (i : Int) (t : Ty) : tyIs (.int i) t = (t == .int) := by cases t <;> rfl
@[simp] theorem tyIs_str (i : Str) (t : Ty) : tyIs (.str i) t = (t == .str) := by cases t <;> rfl
@[simp] theorem isiOk_tup (ok : Str → Str → Bool) (l : List D) : isiOk ok (.tup l) = true := (rfl)
@[simp] theorem isiOk_int (ok : Str → Str → Bool) (l : Int) : isiOk ok (.int l) = true := (rfl)
@[simp] theorem isiOk_str (ok : Str → Str → Bool) (l : Str) : isiOk ok (.str l) = true := (rfl)
@[simp] theorem isiOk_bl (ok : Str → Str → Bool) (l : Bool) : isiOk ok (.bl l) = true := (rfl)
@[simp] theorem isiOk_non (ok : Str → Str → Bool) : isiOk ok .non = true := (rfl)
@[simp] theorem bf_len (xs : List D) : bfD .len xs = oneD lenF xs := (rfl)
@[simp] theorem bf_tuple (xs : List D) : bfD .tuple xs = oneD tupleF xs := (rfl)
@[simp] theorem bf_list (xs : List D) : bfD .list xs = oneD listF xs := (rfl)
@[simp] theorem bf_abs (xs : List D) : bfD .abs xs = oneD absF xs := (rfl)
@[simp] theorem bf_all (xs : List D) : bfD .all xs = oneD allF xs := (rfl)
@[simp] theorem bf_any (xs : List D) : bfD .any xs = oneD anyF xs := (rfl)
@[simp] theorem bf_sum (xs : List D) : bfD .sum xs = oneD sumF xs := (rfl)
@[simp] theorem bf_min2 (xs : List D) : bfD .min2 xs = min2F xs := (rfl)
@[simp] theorem bf_max2 (xs : List D) : bfD .max2 xs = max2F xs := (rfl)
@[simp] theorem bf_sorted (xs : List D) : bfD .sorted xs = oneD sortF xs := (rfl)
@[simp] theorem bf_dict (xs : List D) : bfD .dict xs = oneD dictF xs := (rfl)
@[simp] theorem oneD_one (f : D → R D) (d : D) : oneD f [d] = f d := (rfl)
@[simp] theorem lenF_tup (l : List D) : lenF (.tup l) = .ok (.int l.length) := (rfl)
@[simp] theorem lenF_lst (l : List D) : lenF (.lst l) = .ok (.int l.length) := (rfl)
@[simp] theorem lenF_str (l : Str) : lenF (.str l) = .ok (.int l.length) := (rfl)
@[simp] theorem tupleF_lst (l : List D) : tupleF (.lst l) = .ok (.tup l) := (rfl)
@[simp] theorem tupleF_tup (l : List D) : tupleF (.tup l) = .ok (.tup l) := (rfl)
@[simp] theorem min2_int (a b : Int) : min2F [.int a, .int b] = .ok (.int (if b < a then b else a)) := (rfl)
@[simp] theorem max2_int (a b : Int) : max2F [.int a, .int b] = .ok (.int (if b > a then b else a)) := (rfl)
@[simp] theorem absF_int (i : Int) : absF (.int i) = .ok (.int (if i < 0 then -i else i)) := (rfl)
@[simp] theorem dictF_lst (l : List D) : dictF (.lst l) = pairsInto l [] [] := (rfl)
@[simp] theorem itemsD_lst (l : List D) : itemsD (.lst l) = .ok l := (rfl)
@[simp] theorem itemsD_tup (l : List D) : itemsD (.tup l) = .ok l := (rfl)
@[simp] theorem itemsD_str (l : Str) : itemsD (.str l) = .ok (chars l) := (rfl)
theorem boolsOf_map {α : Type} (f : α → Bool) : ∀ l : List α, boolsOf (l.map fun x => D.bl (f x)) = some (l.map f)
  | [] => rfl
  | a :: l => by simp [boolsOf, boolsOf_map f l]
theorem all_map {α : Type} (f : α → Bool) (l : List α) : allF (.lst (l.map fun x => D.bl (f x))) = .ok (.bl (l.all f)) := by
  simp [allF, boolsOf_map, List.all_map]
/-! calls -/
section
variable {Γ : Str → Option Ent} {G : Glo} {N k : Nat} {f : Str} {xs : List D} {d : Fd}
theorem run_fd (h : Γ f = some (.fd d)) : run Γ G N (k + 1) f [] xs = callFd G (run Γ G N k) N d xs := by
  simp [run, h]
theorem run_cls (h : Γ f = some (.cls d)) : run Γ G N (k + 1) f [] xs = (callFd G (run Γ G N k) N d (.obj f [] [] :: xs)).bind fun r => match r.2 with
          | [o] => R.ok (o, [])
          | _ => .bad := by
  simp only [run, h]
  rfl
theorem run_clsk {ks : List Str} {ys : List D} (h : Γ f = some (.cls d)) (hk : ks ≠ []) (hy : byName (d.params.drop 1) ks xs = some ys) : run Γ G N (k + 1) f ks xs = (callFd G (run Γ G N k) N d (.obj f [] [] :: ys)).bind fun r => match r.2 with
          | [o] => R.ok (o, [])
          | _ => .bad := by
  have hk : ks.isEmpty = false := by cases ks with | nil => exact absurd rfl hk | cons a l => rfl
  simp only [run, h, hk, hy]
  rfl
theorem run_draw {n : Int} (h : Γ f = some .draw) (hn : 0 < n) (hn2 : n < 1073741824) : (run Γ G N (k + 1) f [] [.bowl, .int n]).Ev fun r => ∃ i : Nat, (i : Int) < n ∧ r = (.int i, []) := by
  have e : run Γ G N (k + 1) f [] [.bowl, .int n] = .draw n.toNat fun i => .ok (.int i, []) := by simp [run, h, hn, hn2]
  rw [e]
  exact ev_sat.mpr ⟨by omega, fun i hi => ⟨i, by omega, rfl⟩⟩
/-- a call's answer by its body (no defaults, nothing changed in place) -/
theorem callFd_eq {Φ : Phi} (hd : d.dflt = []) (hl : xs.length = d.caps + d.params.length) (hi : d.inout = []) :
    callFd G Φ N d xs = (exS G Φ N d.body (xs.map some ++ List.replicate (d.slots - xs.length) none)).bind fun f => match f with
      | .nx _ => .ok (.non, [])
      | .rt r _ => .ok (r, [])
      | _ => .bad := by
  unfold callFd
  simp only [hd, hi, List.drop_nil, List.append_nil, hl, if_true]
  rfl
end
/-! loops -/
theorem gather_ok {f : D → R (Option D)} {g : D → Option D} : ∀ {l : List D}, (∀ x ∈ l, f x = .ok (g x)) → gather f l = .ok (l.filterMap g)
  | [], _ => rfl
  | x :: l, h => by
    have e : gather f (x :: l) = (f x).bind fun r => (gather f l).bind fun rs => .ok (match r with | some d => d :: rs | none => rs) := rfl
    rw [e, h x (by simp), gather_ok (g := g) (fun y hy => h y (by simp [hy]))]
    cases hg : g x with
    | none => simp [List.filterMap_cons, hg]
    | some d => simp [List.filterMap_cons, hg]
theorem gather_sat {f : D → R (Option D)} {Q : Option D → Prop} : ∀ {l : List D}, (∀ x ∈ l, (f x).Ev Q) → (gather f l).Ev fun rs => ∀ r ∈ rs, Q (some r)
  | [], _ => ev (by intro r hr; simp at hr)
  | x :: l, h => by
    show ((f x).bind fun r => (gather f l).bind fun rs => R.ok (match r with | some d => d :: rs | none => rs)).Ev _
    refine sat_then (h x (by simp)) fun r hr => sat_then (gather_sat (Q := Q) (fun y hy => h y (by simp [hy]))) fun rs hrs => ev ?_
    cases r with
    | none => exact hrs
    | some d => intro z hz; rcases List.mem_cons.mp hz with rfl | hz; exact hr; exact hrs z hz
theorem forL_sat {t : Tg} {f : Env → R Fl} {Q : Fl → Prop} (I : List D → Env → Prop) : ∀ {l pre : List D} {ρ : Env}, I pre ρ →
    (∀ p x s, pre ++ l = p ++ x :: s → ∀ ρ, I p ρ → ((asgT t x ρ).bind f).Ev fun r => match r with
      | .nx ρ' => I (p ++ [x]) ρ'
      | .ct ρ' => I (p ++ [x]) ρ'
      | .bk ρ' => Q (.nx ρ')
      | .rt d ρ' => Q (.rt d ρ')) → (∀ ρ, I (pre ++ l) ρ → Q (.nx ρ)) → (forL t f l ρ).Ev Q
  | [], pre, ρ, h, _, q => ev (q ρ (by simpa using h))
  | x :: l, pre, ρ, h, st, q => by
    have h1 := st pre x l rfl ρ h
    show ((asgT t x ρ).bind fun ρ => (f ρ).bind fun r => match r with
      | .nx ρ => forL t f l ρ
      | .ct ρ => forL t f l ρ
      | .bk ρ => .ok (.nx ρ)
      | .rt d ρ => .ok (.rt d ρ)).Ev Q
    refine sat_bind ((sat_unbind h1).mono fun ρ1 h2 => sat_bind (h2.mono fun r h3 => ?_))
    have go : ∀ ρ', I (pre ++ [x]) ρ' → (forL t f l ρ').Ev Q := fun ρ' hI => forL_sat I (pre := pre ++ [x]) hI (fun p y s e => st p y s (by simpa using e)) (fun ρ hI => q ρ (by simpa using hI))
    cases r with
    | nx ρ' => exact go ρ' h3
    | ct ρ' => exact go ρ' h3
    | bk ρ' => exact ev h3
    | rt d ρ' => exact ev h3
theorem whileN_sat {c : Env → R Bool} {f : Env → R Fl} {Q : Fl → Prop} (I : Env → Prop) (μ : Env → Nat)
    (st : ∀ ρ, I ρ → (c ρ).Ev fun b => if b then (f ρ).Ev fun r => match r with
      | .nx ρ' => I ρ' ∧ μ ρ' < μ ρ
      | .ct ρ' => I ρ' ∧ μ ρ' < μ ρ
      | .bk ρ' => Q (.nx ρ')
      | .rt d ρ' => Q (.rt d ρ') else Q (.nx ρ)) : ∀ {n : Nat} {ρ : Env}, I ρ → μ ρ < n → (whileN c f n ρ).Ev Q
  | 0, _, _, h => absurd h (by omega)
  | n + 1, ρ, hI, hm => by
    show ((c ρ).bind fun b => if b then (f ρ).bind fun r => match r with
      | .nx ρ => whileN c f n ρ
      | .ct ρ => whileN c f n ρ
      | .bk ρ => .ok (.nx ρ)
      | .rt d ρ => .ok (.rt d ρ)
      else .ok (.nx ρ)).Ev Q
    refine sat_then (st ρ hI) fun b hb => ?_
    cases b with
    | false => exact ev hb
    | true =>
      refine sat_then hb fun r h3 => ?_
      cases r with
      | nx ρ' => exact whileN_sat I μ st h3.1 (by omega)
      | ct ρ' => exact whileN_sat I μ st h3.1 (by omega)
      | bk ρ' => exact ev h3
      | rt d ρ' => exact ev h3

/-! more operators -/
section
variable (Φ : Phi)
@[simp] theorem opE_mul (x y : D) : opE Φ .mul x y = mulD x y := by cases x <;> cases y <;> rfl
@[simp] theorem opE_mod (x y : D) : opE Φ .mod x y = binD .mod x y := (rfl)
@[simp] theorem opE_pow (x y : D) : opE Φ .pow x y = binD .pow x y := (rfl)
@[simp] theorem opE_fdiv (x y : D) : opE Φ .fdiv x y = binD .fdiv x y := (rfl)
@[simp] theorem mul_int (a b : Int) : mulD (.int a) (.int b) = if small a || small b then .ok (.int (a * b)) else .bad := (rfl)
theorem mul_str {a : Str} {b : Int} (h1 : 1 ≤ b) (h2 : b ≤ 1000) (h3 : a.length ≤ 1000) : mulD (.str a) (.int b) = .ok (.str (strOf (List.replicate b.toNat a.cps.toList).flatten)) := by
  have e : mulD (.str a) (.int b) = if decide (1 ≤ b) && decide (b ≤ 1000) && decide (a.length ≤ 1000) then .ok (.str (strOf (List.replicate b.toNat a.cps.toList).flatten)) else .bad := (rfl)
  rw [e, decide_eq_true h1, decide_eq_true h2, decide_eq_true h3]; rfl
@[simp] theorem mod_int (a b : Int) : binD .mod (.int a) (.int b) = if 0 < b then .ok (.int (a % b)) else .bad := (rfl)
@[simp] theorem fdiv_int (a b : Int) : binD .fdiv (.int a) (.int b) = if 0 < b && b < 1073741824 then .ok (.int (a / b)) else .bad := (rfl)
@[simp] theorem pow_int (a b : Int) : binD .pow (.int a) (.int b) = if 0 ≤ b && b ≤ 100 && small a then .ok (.int (a ^ b.toNat)) else .bad := (rfl)
@[simp] theorem bf_int (xs : List D) : bfD .int xs = oneD intF xs := (rfl)
@[simp] theorem intF_int (i : Int) : intF (.int i) = .ok (.int i) := (rfl)
@[simp] theorem partO_non (m : R D) : partO .non m = .ok none := (rfl)
@[simp] theorem partO_int (i : Int) (m : R D) : partO (.int i) m = m.bind partS := (rfl)
@[simp] theorem partO_var (i : Nat) (m : R D) : partO (.var i) m = m.bind partS := (rfl)
@[simp] theorem partO_op (o : Op) (a b : IE) (m : R D) : partO (.op o a b) m = m.bind partS := (rfl)
@[simp] theorem partO_bf (o : Bf) (a : IE) (m : R D) : partO (.bf o a) m = m.bind partS := (rfl)
@[simp] theorem partS_int (i : Int) : partS (.int i) = .ok (some i) := (rfl)
@[simp] theorem cutD_lst (l : List D) (a b : Option Int) : cutD (.lst l) a b = .ok (.lst (cut l a b)) := (rfl)
@[simp] theorem cutD_tup (l : List D) (a b : Option Int) : cutD (.tup l) a b = .ok (.tup (cut l a b)) := (rfl)
theorem subD_lst {l : List D} {i : Nat} {d : D} (h : l[i]? = some d) : subD (.lst l) (.int (i : Int)) = .ok d := by
  have : atIx l (i : Int) = some d := by unfold atIx; rw [if_pos (by omega), Int.toNat_natCast]; exact h
  show (match atIx l (i : Int) with | some d => R.ok d | none => .bad) = _
  rw [this]
theorem subD_tup {l : List D} {i : Nat} {d : D} (h : l[i]? = some d) : subD (.tup l) (.int (i : Int)) = .ok d := by
  have : atIx l (i : Int) = some d := by unfold atIx; rw [if_pos (by omega), Int.toNat_natCast]; exact h
  show (match atIx l (i : Int) with | some d => R.ok d | none => .bad) = _
  rw [this]
@[simp] theorem subD_tup0 (a : D) (l : List D) : subD (.tup (a :: l)) (.int 0) = .ok a := (rfl)
@[simp] theorem subD_tup1 (a b : D) (l : List D) : subD (.tup (a :: b :: l)) (.int 1) = .ok b := (rfl)
@[simp] theorem subD_lst0 (a : D) (l : List D) : subD (.lst (a :: l)) (.int 0) = .ok a := (rfl)
end
/-! statement by statement -/
section
variable {G : Glo} {Φ : Phi} {N : Nat} {ρ : Env} {P : Fl → Prop}
theorem sat_seq {s r : IS} (h : (exS G Φ N s ρ).Ev fun f => match f with | .nx ρ => (exS G Φ N r ρ).Ev P | f => P f) : (exS G Φ N (.seq s r) ρ).Ev P := by
  refine sat_bind (f := fun f => match f with | .nx ρ => exS G Φ N r ρ | f => .ok f) (h.mono fun f q => ?_)
  cases f <;> first | exact q | exact ev q | exact q.elim
theorem sat_asg {t : Tg} {x : IX} (h : (evX G Φ ρ x).Ev fun r => (asgT t r.1 r.2).Ev fun ρ => P (.nx ρ)) : (exS G Φ N (.asg t x) ρ).Ev P :=
  sat_bind (h.mono fun r q => sat_bind (q.mono fun _ q => ev q))
theorem sat_set {i : Nat} {a : IE} (h : (evE G Φ ρ a).Ev fun d => P (.nx (setV ρ i d))) : (exS G Φ N (.asg (.var i) (.e a)) ρ).Ev P :=
  sat_bind (sat_bind (h.mono fun d q => ev (sat_bind (ev (ev q)))))
theorem sat_iff {t : IE} {a b : IS} (h : (evE G Φ ρ t).Ev fun d => d.truthy.Ev fun c => if c then (exS G Φ N a ρ).Ev P else (exS G Φ N b ρ).Ev P) : (exS G Φ N (.iff t a b) ρ).Ev P :=
  sat_bind (sat_bind (h.mono fun d q => q.mono fun c q => by cases c <;> exact q))
theorem sat_forr {t : Tg} {a : IE} {b : IS} (h : (evI G Φ ρ a).Ev fun l => (forL t (exS G Φ N b) l ρ).Ev P) : (exS G Φ N (.forr t (.e a) b) ρ).Ev P := by rw [exS_forr]; exact sat_bind h
theorem sat_ret {a : IE} (h : (evE G Φ ρ a).Ev fun d => P (.rt d ρ)) : (exS G Φ N (.ret (.e a)) ρ).Ev P := sat_bind (sat_bind (h.mono fun d q => ev (ev q)))
theorem sat_expr {a : IE} (h : (evE G Φ ρ a).Ev fun _ => P (.nx ρ)) : (exS G Φ N (.expr (.e a)) ρ).Ev P := sat_bind (sat_bind (h.mono fun d q => ev (ev q)))
theorem sat_body {d : Fd} {xs : List D} {P : D × List D → Prop} (hd : d.dflt = []) (hl : xs.length = d.caps + d.params.length) (hi : d.inout = [])
    (h : (exS G Φ N d.body (xs.map some ++ List.replicate (d.slots - xs.length) none)).Ev fun f => match f with | .nx _ => P (.non, []) | .rt r _ => P (r, []) | _ => False) : (callFd G Φ N d xs).Ev P := by
  rw [callFd_eq hd hl hi]
  refine sat_bind (h.mono fun f q => ?_)
  cases f <;> first | exact q | exact ev q | exact q.elim
theorem sat_bodyE {d : Fd} {xs : List D} {P : D × List D → Prop} (env : Env) (hd : d.dflt = []) (hl : xs.length = d.caps + d.params.length) (hi : d.inout = []) (he : xs.map some ++ List.replicate (d.slots - xs.length) none = env)
    (h : (exS G Φ N d.body env).Ev fun f => match f with | .nx _ => P (.non, []) | .rt r _ => P (r, []) | _ => False) : (callFd G Φ N d xs).Ev P := sat_body hd hl hi (by rw [he]; exact h)
end
theorem intsOf_mem : ∀ {l : List D}, (intsOf l).isSome = true → ∀ d ∈ l, ∃ i : Int, d = .int i
  | [], _, d, h => by simp at h
  | .int i :: l, hs, d, h => by
    rcases List.mem_cons.mp h with rfl | h
    · exact ⟨i, rfl⟩
    · refine intsOf_mem (l := l) ?_ d h
      simp only [intsOf] at hs
      cases e : intsOf l with
      | none => rw [e] at hs; cases hs
      | some _ => rfl
  | .non :: l, hs, _, _ => by simp [intsOf] at hs
  | .bl _ :: l, hs, _, _ => by simp [intsOf] at hs
  | .str _ :: l, hs, _, _ => by simp [intsOf] at hs
  | .tup _ :: l, hs, _, _ => by simp [intsOf] at hs
  | .lst _ :: l, hs, _, _ => by simp [intsOf] at hs
  | .dic _ _ :: l, hs, _, _ => by simp [intsOf] at hs
  | .obj _ _ _ :: l, hs, _, _ => by simp [intsOf] at hs
  | .fn _ :: l, hs, _, _ => by simp [intsOf] at hs
  | .clo _ _ :: l, hs, _, _ => by simp [intsOf] at hs
  | .bowl :: l, hs, _, _ => by simp [intsOf] at hs
theorem cut_mem {α : Type} {l : List α} {a b : Option Int} {x : α} (h : x ∈ cut l a b) : x ∈ l := by
  unfold cut at h
  exact List.mem_of_mem_drop (List.mem_of_mem_take h)

@[simp] theorem wipe_nil (ρ : Env) : wipe ρ [] = ρ := (rfl)
@[simp] theorem wipe_cons (ρ : Env) (i : Nat) (l : List Nat) : wipe ρ (i :: l) = (wipe ρ l).set i none := (rfl)
section
variable {G : Glo} {Φ : Phi} {N : Nat} {ρ : Env} {P : Fl → Prop} {elt it c : IE} {t : Tg} {own : List Nat} {α : Type} {xs : List α} {e g : α → D} {p : α → Bool}
theorem gather_map {f : D → R (Option D)} (h : ∀ a ∈ xs, f (e a) = .ok (some (g a))) : gather f (xs.map e) = .ok (xs.map g) := by
  induction xs with
  | nil => rfl
  | cons x xs ih =>
    show ((f (e x)).bind fun r => (gather f (xs.map e)).bind fun rs => R.ok (match r with | some d => d :: rs | none => rs)) = _
    rw [h x (by simp), ih fun a ha => h a (by simp [ha])]
    rfl
theorem gather_filter {f : D → R (Option D)} (h : ∀ a ∈ xs, f (e a) = .ok (if p a then some (g a) else none)) : gather f (xs.map e) = .ok ((xs.filter p).map g) := by
  induction xs with
  | nil => rfl
  | cons x xs ih =>
    show ((f (e x)).bind fun r => (gather f (xs.map e)).bind fun rs => R.ok (match r with | some d => d :: rs | none => rs)) = _
    rw [h x (by simp), ih fun a ha => h a (by simp [ha])]
    cases hp : p x <;> simp [hp, List.filter_cons]
/-- [elt for t in it] -/
theorem comp_true (hi : evI G Φ ρ it = .ok (xs.map e)) (h : ∀ a ∈ xs, (asgT t (e a) (wipe ρ own)).bind (fun ρ => evE G Φ ρ elt) = .ok (g a)) : evE G Φ ρ (.comp elt t it (.bl true) own) = .ok (.lst (xs.map g)) := by
  rw [evE_comp, hi]
  simp only [bind_ok]
  rw [gather_map (g := g) fun a ha => ?_]
  · rfl
  · simp only [evE_bl, bind_ok, truthy_bl, if_true]
    rw [← bindR, h a ha]
    rfl
/-- [elt for t in it if c] -/
theorem comp_if (hi : evI G Φ ρ it = .ok (xs.map e)) (h : ∀ a ∈ xs, ∃ ρ', asgT t (e a) (wipe ρ own) = .ok ρ' ∧ (evE G Φ ρ' c).bind D.truthy = .ok (p a) ∧ (p a = true → evE G Φ ρ' elt = .ok (g a))) : evE G Φ ρ (.comp elt t it c own) = .ok (.lst ((xs.filter p).map g)) := by
  rw [evE_comp, hi]
  simp only [bind_ok]
  rw [gather_filter (g := g) (p := p) fun a ha => ?_]
  · rfl
  · obtain ⟨ρ', h1, h2, h3⟩ := h a ha
    rw [h1]
    simp only [bind_ok]
    rw [← bindR, h2]
    simp only [bind_ok]
    cases hp : p a with
    | true => simp [h3 hp]
    | false => rfl
theorem sat_retMv {i : Nat} (h : (getV ρ i).Ev fun d => P (.rt d (ρ.set i none))) : (exS G Φ N (.ret (.mv i)) ρ).Ev P := sat_bind (sat_bind (h.mono fun d q => ev (ev q)))
theorem sat_par2 {i j : Nat} {a b : IE} (h : (evE G Φ ρ a).Ev fun x => (evE G Φ ρ b).Ev fun y => P (.nx (setV (setV ρ i x) j y))) : (exS G Φ N (.par [i, j] [.e a, .e b]) ρ).Ev P := by
  have e : exS G Φ N (.par [i, j] [.e a, .e b]) ρ = (evE G Φ ρ a).bind fun x => (evE G Φ ρ b).bind fun y => .ok (Fl.nx (setV (setV ρ i x) j y)) := by
    rw [exS_par]
    simp
  rw [e]
  exact sat_bind (h.mono fun x hx => sat_bind (hx.mono fun y hy => ev hy))
theorem sat_mt {m : Mt} {i : Nat} {a : IE} (h : (evE G Φ ρ a).Ev fun x => (getV ρ i).Ev fun d => (mtD m d x).Ev fun d => P (.nx (setV ρ i d))) : (exS G Φ N (.mt m i (.e a)) ρ).Ev P :=
  sat_bind (sat_bind (h.mono fun x hx => ev (sat_bind (hx.mono fun d hd => sat_bind (hd.mono fun _ q => ev q)))))
theorem sat_whil {a : IE} {b : IS} {P : Fl → Prop} (I : Env → Prop) (μ : Env → Nat) (h0 : I ρ) (hm : μ ρ < N)
    (st : ∀ ρ, I ρ → ((evE G Φ ρ a).bind D.truthy).Ev fun c => if c then (exS G Φ N b ρ).Ev fun r => match r with
      | .nx ρ' => I ρ' ∧ μ ρ' < μ ρ
      | .ct ρ' => I ρ' ∧ μ ρ' < μ ρ
      | .bk ρ' => P (.nx ρ')
      | .rt d ρ' => P (.rt d ρ') else P (.nx ρ)) : (exS G Φ N (.whil a b) ρ).Ev P := whileN_sat I μ st h0 hm
end
@[simp] theorem append_lst (l : List D) (x : D) : mtD .append (.lst l) x = if l.length < big then .ok (.lst (l ++ [x])) else .bad := (rfl)
def iD (i : Nat) : D := .int i
theorem mid_nat {n : Nat} (h : n ≤ 1000) : (mid (n : Int) && decide ((n : Int) ≤ (big : Int))) = true := by
  unfold mid big
  simp only [Bool.and_eq_true, decide_eq_true_eq]
  omega
theorem range_ok {G : Glo} {Φ : Phi} {ρ : Env} {a : IE} {n : Nat} (h : evE G Φ ρ a = .ok (.int n)) (hn : n ≤ 1000) : evI G Φ ρ (.range1 a) = .ok ((List.range n).map iD) := by
  have e := mid_nat hn
  rw [Bool.and_eq_true] at e
  rw [evI_range1, h, bind_ok]
  exact (if_pos (by rw [e.1, e.2]; rfl)).trans rfl
theorem sat_range {G : Glo} {Φ : Phi} {N : Nat} {ρ : Env} {P : Fl → Prop} {t : Tg} {a : IE} {b : IS} {n : Nat} (h : evE G Φ ρ a = .ok (.int n)) (hn : n ≤ 1000) (q : (forL t (exS G Φ N b) ((List.range n).map iD) ρ).Ev P) : (exS G Φ N (.forr t (.e (.range1 a)) b) ρ).Ev P := by
  refine sat_forr ?_
  rw [range_ok h hn]
  exact ev q
theorem range_split {α : Type} {n : Nat} {f : Nat → α} {p s : List α} {x : α} (h : (List.range n).map f = p ++ x :: s) : x = f p.length ∧ p.length < n := by
  have h1 := congrArg (·[p.length]?) h
  simp at h1
  have h2 := congrArg List.length h
  simp at h2
  have h3 : p.length < n := by omega
  simp [h3] at h1
  exact ⟨h1.symm, h3⟩
/-- for i in range(n) -/
theorem sat_rangeI {G : Glo} {Φ : Phi} {N : Nat} {ρ : Env} {P : Fl → Prop} {t : Tg} {a : IE} {b : IS} {n : Nat} (I : Nat → Env → Prop) (h : evE G Φ ρ a = .ok (.int n)) (hn : n ≤ 1000) (h0 : I 0 ρ)
    (st : ∀ i ρ, i < n → I i ρ → ((asgT t (iD i) ρ).bind fun ρ => exS G Φ N b ρ).Ev fun r => match r with
      | .nx ρ' => I (i + 1) ρ'
      | .ct ρ' => I (i + 1) ρ'
      | .bk ρ' => P (.nx ρ')
      | .rt d ρ' => P (.rt d ρ')) (q : ∀ ρ, I n ρ → P (.nx ρ)) : (exS G Φ N (.forr t (.e (.range1 a)) b) ρ).Ev P := by
  refine sat_range h hn (forL_sat (fun p ρ => I p.length ρ) (pre := []) h0 (fun p x s e ρ hI => ?_) fun ρ hI => q ρ (by simpa using hI))
  obtain ⟨rfl, hp⟩ := range_split e
  refine (st p.length ρ hp hI).mono fun r hr => ?_
  cases r <;> simpa using hr
section
variable {G : Glo} {Φ : Phi} {ρ : Env} {P : D → Prop} {a b es : IE} {xs : List D} {f : Str} {o : Op}
theorem sat_call {Q : D × List D → Prop} (he : evL G Φ ρ es = .ok xs) (h : (Φ f [] xs).Ev Q) (g : ∀ r, Q r → P r.1) : (evE G Φ ρ (.call f es)).Ev P := by
  rw [evE_call, he, bind_ok]
  exact sat_then h fun r hr => ev (g r hr)
theorem sat_op (h : (evE G Φ ρ a).Ev fun x => (evE G Φ ρ b).Ev fun y => (opE Φ o x y).Ev P) : (evE G Φ ρ (.op o a b)).Ev P := by
  rw [evE_op]
  exact sat_bind (h.mono fun x hx => sat_bind hx)
theorem sat_ite {t : IE} (h : (evE G Φ ρ t).Ev fun x => x.truthy.Ev fun k => if k then (evE G Φ ρ a).Ev P else (evE G Φ ρ b).Ev P) : (evE G Φ ρ (.ite t a b)).Ev P := by
  rw [evE_iteP]
  refine sat_bind (h.mono fun x hx => sat_bind (hx.mono fun k hk => ?_))
  cases k <;> exact hk
theorem sat_and (h : (evE G Φ ρ a).Ev fun x => x.truthy.Ev fun k => if k then (evE G Φ ρ b).Ev P else P x) : (evE G Φ ρ (.and a b)).Ev P := by
  rw [evE_and]
  refine sat_bind (h.mono fun x hx => sat_bind (hx.mono fun k hk => ?_))
  cases k <;> first | exact hk | exact ev hk
theorem sat_nott (h : (evE G Φ ρ a).Ev fun x => x.truthy.Ev fun k => P (.bl (!k))) : (evE G Φ ρ (.nott a)).Ev P := by
  rw [evE_nott]
  exact sat_bind (h.mono fun x hx => sat_bind (hx.mono fun k hk => ev hk))
theorem sat_lst1 (h : (evE G Φ ρ a).Ev fun x => P (.lst [x])) : (evE G Φ ρ (.lst (.econs a .enil))).Ev P := by
  rw [evE_lst, evL_cons, evL_nil]
  exact sat_bind (sat_bind (h.mono fun x hx => ev (ev hx)))
end
section
variable {G : Glo} {Φ : Phi} {N : Nat} {ρ : Env} {P : Fl → Prop}
theorem sat_rangeE {t : Tg} {a : IE} {b : IS} (h : (evE G Φ ρ a).Ev fun x => ∃ n : Nat, x = .int n ∧ n ≤ 1000 ∧ (forL t (exS G Φ N b) ((List.range n).map iD) ρ).Ev P) : (exS G Φ N (.forr t (.e (.range1 a)) b) ρ).Ev P := by
  refine sat_forr ?_
  rw [evI_range1]
  refine sat_bind (h.mono fun x hx => ?_)
  obtain ⟨n, rfl, hn, q⟩ := hx
  have e := range_ok (G := G) (Φ := Φ) (ρ := ρ) (a := .int n) (n := n) (evE_int G Φ ρ n) hn
  rw [evI_range1, evE_int, bind_ok] at e
  exact sat_eq e q
theorem forL_rangeF {t : Tg} {f : Env → R Fl} {n : Nat} {e : Nat → D} (I : Nat → Env → Prop) (h0 : I 0 ρ)
    (st : ∀ i ρ, i < n → I i ρ → ((asgT t (e i) ρ).bind f).Ev fun r => match r with
      | .nx ρ' => I (i + 1) ρ'
      | .ct ρ' => I (i + 1) ρ'
      | .bk ρ' => P (.nx ρ')
      | .rt d ρ' => P (.rt d ρ')) (q : ∀ ρ, I n ρ → P (.nx ρ)) : (forL t f ((List.range n).map e) ρ).Ev P := by
  refine forL_sat (fun p ρ => I p.length ρ) (pre := []) h0 (fun p x s e ρ hI => ?_) fun ρ hI => q ρ (by simpa using hI)
  obtain ⟨rfl, hp⟩ := range_split e
  refine (st p.length ρ hp hI).mono fun r hr => ?_
  cases r <;> simpa using hr
theorem forL_range {t : Tg} {f : Env → R Fl} {n : Nat} (I : Nat → Env → Prop) (h0 : I 0 ρ)
    (st : ∀ i ρ, i < n → I i ρ → ((asgT t (iD i) ρ).bind f).Ev fun r => match r with
      | .nx ρ' => I (i + 1) ρ'
      | .ct ρ' => I (i + 1) ρ'
      | .bk ρ' => P (.nx ρ')
      | .rt d ρ' => P (.rt d ρ')) (q : ∀ ρ, I n ρ → P (.nx ρ)) : (forL t f ((List.range n).map iD) ρ).Ev P := forL_rangeF I h0 st q
def popM (ρ : Env) (i : Nat) (d : D) (xs : List D) : R (D × Env) := match d, xs with
    | .lst l, [] => match l.getLast? with
      | some x => .ok (x, setV ρ i (.lst l.dropLast))
      | none => .bad
    | .lst l, [.int k] => match (if mid k then atIx l k else none) with
      | some x => .ok (x, setV ρ i (.lst (l.eraseIdx (if 0 ≤ k then k.toNat else (k + l.length).toNat))))
      | none => .bad
    | _, _ => .bad
theorem popM_ok {ρ : Env} {i : Nat} {l : List D} {k : Int} {d : D} (hm : mid k = true) (h0 : 0 ≤ k) (ha : atIx l k = some d) : popM ρ i (.lst l) [.int k] = .ok (d, setV ρ i (.lst (l.eraseIdx k.toNat))) := by
  have e : popM ρ i (.lst l) [.int k] = match (if mid k then atIx l k else none) with
      | some x => .ok (x, setV ρ i (.lst (l.eraseIdx (if 0 ≤ k then k.toNat else (k + l.length).toNat))))
      | none => .bad := (rfl)
  rw [e]
  generalize mid k = u at hm
  subst hm
  rw [if_pos rfl, ha, if_pos h0]
theorem evX_pop (i : Nat) (es : IE) : evX G Φ ρ (.pop i es) = (evL G Φ ρ es).bind fun xs => (getV ρ i).bind fun d => popM ρ i d xs := (rfl)
theorem exS_mtX (m : Mt) (j : Nat) (x : IX) : exS G Φ N (.mt m j x) ρ = (evX G Φ ρ x).bind fun r => (getV r.2 j).bind fun d => (mtD m d r.1).bind fun d => .ok (.nx (setV r.2 j d)) := (rfl)
theorem sat_popApp {i j : Nat} {a : IE} (h : (evE G Φ ρ a).Ev fun x => ∃ (k : Nat) (l r : List D) (d : D), x = .int k ∧ getV ρ i = .ok (.lst l) ∧ l[k]? = some d ∧ k ≤ 1000 ∧ getV (setV ρ i (.lst (l.eraseIdx k))) j = .ok (.lst r) ∧ r.length < big ∧ P (.nx (setV (setV ρ i (.lst (l.eraseIdx k))) j (.lst (r ++ [d]))))) :
    (exS G Φ N (.mt .append j (.pop i (.econs a .enil))) ρ).Ev P := by
  rw [exS_mtX, evX_pop, evL_cons]
  refine sat_bind (sat_bind (sat_bind (h.mono fun x hx => ?_)))
  obtain ⟨k, l, r, d, rfl, h1, h2, h3, h4, h5, q⟩ := hx
  have hm : mid (k : Int) = true := by
    have := mid_nat h3
    rw [Bool.and_eq_true] at this
    exact this.1
  have ha : atIx l (k : Int) = some d := by unfold atIx; rw [if_pos (by omega), Int.toNat_natCast]; exact h2
  rw [evL_nil, bind_ok]
  refine ev ?_
  rw [h1, bind_ok, popM_ok hm (by omega) ha]
  refine ev ?_
  show ((getV (setV ρ i (.lst (l.eraseIdx (k : Int).toNat))) j).bind fun d' => (mtD .append d' d).bind fun d => R.ok (Fl.nx (setV (setV ρ i (.lst (l.eraseIdx (k : Int).toNat))) j d))).Ev P
  rw [Int.toNat_natCast, h4, bind_ok, append_lst, if_pos h5, bind_ok]
  exact ev q
end
theorem joinL_chars : ∀ cs : List Nat, joinL [] (cs.map fun c => [c]) = cs
  | [] => rfl
  | [c] => rfl
  | c :: d :: cs => by
    have := joinL_chars (d :: cs)
    show [c] ++ [] ++ joinL [] ((d :: cs).map fun c => [c]) = _
    rw [this]; rfl
theorem strsOf_chars : ∀ cs : List Nat, strsOf (cs.map fun c => D.str (strOf [c])) = some (cs.map fun c => [c])
  | [] => rfl
  | c :: cs => by
    show (strsOf (cs.map fun c => D.str (strOf [c]))).map ([c] :: ·) = _
    rw [strsOf_chars cs]; rfl
theorem join_chars {s : Str} {cs : List Nat} (hs : s.cps.toList = []) (hl : s.length = 0) (h : cs.length ≤ 1000) : joinF (.str s) (.lst (cs.map fun c => D.str (strOf [c]))) = .ok (.str (strOf cs)) := by
  have e : joinF (.str s) (.lst (cs.map fun c => D.str (strOf [c]))) = match strsOf (cs.map fun c => D.str (strOf [c])) with
    | some ts => if (ts.map (·.length)).sum + ts.length * s.length ≤ big then .ok (.str (strOf (joinL s.cps.toList ts))) else .bad
    | none => .bad := rfl
  rw [e, strsOf_chars]
  clear e
  have h2 : ((cs.map fun c => [c]).map (·.length)).sum = cs.length := by
    clear h
    induction cs with
    | nil => rfl
    | cons c cs ih => rw [List.map_cons, List.map_cons, List.sum_cons, ih, List.length_cons, List.length_cons, List.length_nil]; omega
  have hb : ((cs.map fun c => [c]).map (·.length)).sum + (cs.map fun c => [c]).length * s.length ≤ big := by rw [h2, hl, Nat.mul_zero]; unfold big; omega
  refine (if_pos hb).trans ?_
  rw [hs, joinL_chars]
@[simp] theorem mf_join (a x : D) : mfD .join a [x] = joinF a x := by cases a <;> cases x <;> rfl
/-! lists by place -/
theorem map_range {α β : Type} (f : α → β) (d : α) : ∀ xs : List α, xs.map f = (List.range xs.length).map fun i => f (xs.getD i d)
  | [] => rfl
  | a :: xs => by
    rw [List.length_cons, List.range_succ_eq_map, List.map_cons, List.map_cons, List.map_map, map_range f d xs]
    rfl
theorem enumL_map {α : Type} (f : α → D) (d : α) : ∀ (xs : List α) (n : Nat), enumL n (xs.map f) = (List.range xs.length).map fun i => .tup [.int ((n + i : Nat) : Int), f (xs.getD i d)]
  | [], n => rfl
  | a :: xs, n => by
    rw [List.length_cons, List.range_succ_eq_map, List.map_cons, List.map_cons, List.map_map]
    show D.tup [.int n, f a] :: enumL (n + 1) (xs.map f) = _
    rw [enumL_map f d xs (n + 1)]
    congr 1
    apply List.map_congr_left
    intro i _
    show D.tup [.int ((n + 1 + i : Nat) : Int), _] = D.tup [.int ((n + (i + 1) : Nat) : Int), _]
    rw [show n + 1 + i = n + (i + 1) by omega]
    rfl
theorem enumL0 {α : Type} (f : α → D) (d : α) (xs : List α) : enumL 0 (xs.map f) = (List.range xs.length).map fun i => .tup [.int (i : Int), f (xs.getD i d)] := by
  rw [enumL_map f d]
  simp
theorem sat_forE {G : Glo} {Φ : Phi} {N : Nat} {ρ : Env} {P : Fl → Prop} {t : Tg} {a : IE} {b : IS} {l : List D} (h : evI G Φ ρ a = .ok l) (q : (forL t (exS G Φ N b) l ρ).Ev P) : (exS G Φ N (.forr t (.e a) b) ρ).Ev P := sat_forr (sat_eq h q)
/-- [elt for t in it], each the same -/
theorem comp_rep {G : Glo} {Φ : Phi} {ρ : Env} {elt it : IE} {t : Tg} {own : List Nat} {l : List D} {g : D} (hi : evI G Φ ρ it = .ok l) (h : ∀ x ∈ l, ((asgT t x (wipe ρ own)).bind fun ρ => evE G Φ ρ elt).Ev fun d => d = g) : (evE G Φ ρ (.comp elt t it (.bl true) own)).Ev fun d => d = .lst (List.replicate l.length g) := by
  rw [evE_comp, hi, bind_ok]
  refine sat_bind ?_
  have : (gather (fun x => (asgT t x (wipe ρ own)).bind fun ρ => (evE G Φ ρ (.bl true)).bind fun y => y.truthy.bind fun b => if b then (evE G Φ ρ elt).bind fun z => .ok (some z) else .ok none) l).Ev fun r => r = List.replicate l.length g := by
    clear hi
    induction l with
    | nil => exact ev rfl
    | cons x l ih =>
      show (((asgT t x (wipe ρ own)).bind fun ρ => (evE G Φ ρ (.bl true)).bind fun y => y.truthy.bind fun b => if b then (evE G Φ ρ elt).bind fun z => .ok (some z) else .ok none).bind fun r => (gather _ l).bind fun rs => R.ok (match r with | some d => d :: rs | none => rs)).Ev _
      have h1 := sat_unbind (h x (by simp))
      refine sat_bind (sat_bind (h1.mono fun ρ' h2 => ?_))
      rw [evE_bl, bind_ok, truthy_bl, bind_ok, if_pos rfl]
      refine sat_bind (h2.mono fun d hd => ev ?_)
      subst hd
      exact sat_then (ih fun y hy => h y (by simp [hy])) fun rs hrs => ev (by rw [hrs]; rfl)
  exact this.mono fun r hr => ev (by rw [hr])
theorem all_rep (n : Nat) : allF (.lst (List.replicate n (.bl true))) = .ok (.bl true) := by
  have e : List.replicate n (D.bl true) = (List.replicate n ()).map fun _ => D.bl true := by simp
  rw [e, all_map (fun _ => true)]
  simp
section
variable {G : Glo} {Φ : Phi} {ρ : Env} {P : D → Prop} {a b es : IE} {xs : List D} {f : Str} {o : Op}
theorem sat_or (h : (evE G Φ ρ a).Ev fun x => x.truthy.Ev fun k => if k then P x else (evE G Φ ρ b).Ev P) : (evE G Φ ρ (.or a b)).Ev P := by
  rw [evE_or]
  refine sat_bind (h.mono fun x hx => sat_bind (hx.mono fun k hk => ?_))
  cases k <;> first | exact hk | exact ev hk
theorem sat_callv {Q : D × List D → Prop} {i : Nat} {g : Str} (hv : getV ρ i = .ok (.fn g)) (hg : G.isFn g = true) (he : evL G Φ ρ es = .ok xs) (h : (Φ g [] xs).Ev Q) (k : ∀ r, Q r → P r.1) : (evE G Φ ρ (.callv i es)).Ev P := by
  have e : evE G Φ ρ (.callv i es) = (getV ρ i).bind fun f => match f with
    | .fn g => if G.isFn g then (evL G Φ ρ es).bind fun xs => (Φ g [] xs).bind fun r => .ok r.1 else .bad
    | .clo g caps => (evL G Φ ρ es).bind fun xs => if D.noCloL xs && D.noCloL caps then (Φ g [] (xs ++ caps)).bind fun r => .ok r.1 else .bad
    | _ => .bad := (rfl)
  rw [e, hv, bind_ok]
  show (if G.isFn g then (evL G Φ ρ es).bind fun xs => (Φ g [] xs).bind fun r => R.ok r.1 else .bad).Ev P
  rw [if_pos hg, he, bind_ok]
  exact sat_then h fun r hr => ev (k r hr)
theorem sat_bf {bf : Bf} (h : (evE G Φ ρ a).Ev fun x => (bfD bf [x]).Ev P) : (evE G Φ ρ (.bf bf (.econs a .enil))).Ev P := by
  rw [evE_bf, evL_cons, evL_nil]
  exact sat_bind (sat_bind (h.mono fun x hx => ev hx))
theorem cut_take {α : Type} (l : List α) (i : Nat) : cut l none (some (i : Int)) = l.take i := by
  unfold cut ixC
  simp only [List.drop_zero, Nat.sub_zero]
  rw [if_neg (by omega), Int.toNat_natCast]
  by_cases h : i ≤ l.length
  · rw [Nat.min_eq_left h]
  · rw [Nat.min_eq_right (by omega), List.take_of_length_le (Nat.le_refl _), List.take_of_length_le (by omega)]
end
section
variable {G : Glo} {Φ : Phi} {N : Nat} {ρ : Env} {a b t : IE}
theorem sat_orF {P : D → Prop} (h : evE G Φ ρ a = .ok (.bl false)) (q : (evE G Φ ρ b).Ev P) : (evE G Φ ρ (.or a b)).Ev P := sat_or (sat_eq h (ev (by rw [if_neg Bool.false_ne_true]; exact q)))
theorem sat_orT {P : D → Prop} (h : evE G Φ ρ a = .ok (.bl true)) (q : P (.bl true)) : (evE G Φ ρ (.or a b)).Ev P := sat_or (sat_eq h (ev (by rw [if_pos rfl]; exact q)))
theorem sat_andT {P : D → Prop} (h : evE G Φ ρ a = .ok (.bl true)) (q : (evE G Φ ρ b).Ev P) : (evE G Φ ρ (.and a b)).Ev P := sat_and (sat_eq h (ev (by rw [if_pos rfl]; exact q)))
theorem sat_andF {P : D → Prop} (h : evE G Φ ρ a = .ok (.bl false)) (q : P (.bl false)) : (evE G Φ ρ (.and a b)).Ev P := sat_and (sat_eq h (ev (by rw [if_neg Bool.false_ne_true]; exact q)))
theorem sat_ifF {P : Fl → Prop} {s r : IS} (h : (evE G Φ ρ t).Ev fun d => d = .bl false) (q : (exS G Φ N r ρ).Ev P) : (exS G Φ N (.iff t s r) ρ).Ev P := sat_iff (h.mono fun d e => by subst e; exact ev (by rw [if_neg Bool.false_ne_true]; exact q))
theorem sat_ifT {P : Fl → Prop} {s r : IS} (h : (evE G Φ ρ t).Ev fun d => d = .bl true) (q : (exS G Φ N s ρ).Ev P) : (exS G Φ N (.iff t s r) ρ).Ev P := sat_iff (h.mono fun d e => by subst e; exact ev (by rw [if_pos rfl]; exact q))
theorem sat_skip {P : Fl → Prop} (q : P (.nx ρ)) : (exS G Φ N .skip ρ).Ev P := by rw [exS_skip]; exact ev q
/-- not e, e true -/
theorem sat_notT {P : D → Prop} (h : (evE G Φ ρ a).Ev fun d => d = .bl true) (q : P (.bl false)) : (evE G Φ ρ (.nott a)).Ev P := sat_nott (h.mono fun d e => by subst e; exact ev q)
theorem sat_notF {P : D → Prop} (h : (evE G Φ ρ a).Ev fun d => d = .bl false) (q : P (.bl true)) : (evE G Φ ρ (.nott a)).Ev P := sat_nott (h.mono fun d e => by subst e; exact ev q)
/-- a statement, then the next -/
theorem sat_seqN {P : Fl → Prop} {s r : IS} (h : (exS G Φ N s ρ).Ev fun f => f = .nx ρ) (q : (exS G Φ N r ρ).Ev P) : (exS G Φ N (.seq s r) ρ).Ev P := sat_seq (h.mono fun f e => by subst e; exact q)
end
section
variable {G : Glo} {Φ : Phi} {N k : Nat} {ρ : Env} {a : IE} {Γ : Str → Option Ent}
theorem sat_setAttr {P : Fl → Prop} {i : Nat} {f : Str} (h : (evE G Φ ρ a).Ev fun v => (getV ρ i).Ev fun d => (putAttr G.attrs d f v).Ev fun d => P (.nx (setV ρ i d))) : (exS G Φ N (.setAttr i f (.e a)) ρ).Ev P := by
  rw [exS_setAttr]
  exact sat_bind (sat_bind (h.mono fun v hv => ev (sat_bind (hv.mono fun d hd => sat_bind (hd.mono fun d q => ev q)))))
/-- the call of a class, by its __init__ -/
theorem sat_cls {cl : Str} {d : Fd} {xs : List D} {P : D × List D → Prop} (env : Env) (hg : Γ cl = some (.cls d)) (hd : d.dflt = []) (hl : (D.obj cl [] [] :: xs).length = d.caps + d.params.length) (hi : d.inout = [0]) (he : (D.obj cl [] [] :: xs).map some ++ List.replicate (d.slots - (D.obj cl [] [] :: xs).length) none = env)
    (h : (exS G (run Γ G N k) N d.body env).Ev fun f => match f with | .nx ρ => (getV ρ 0).Ev fun o => P (o, []) | _ => False) : (run Γ G N (k + 1) cl [] xs).Ev P := by
  rw [run_cls hg]
  unfold callFd
  simp only [hd, hi, List.drop_nil, List.append_nil]
  rw [if_pos hl, he]
  refine sat_bind (sat_bind (h.mono fun f q => ?_))
  cases f with
  | nx ρ =>
    show ((outsOf ρ [0]).bind fun os => R.ok (D.non, os)).Ev _
    have e : outsOf ρ [0] = (getV ρ 0).bind fun d => .ok [d] := rfl
    rw [e]
    exact sat_bind (sat_bind (q.mono fun o ho => ev (ev (ev ho))))
  | rt d ρ => exact q.elim
  | bk ρ => exact q.elim
  | ct ρ => exact q.elim
theorem sat_clsk {cl : Str} {d : Fd} {xs ys : List D} {ks : List Str} {P : D × List D → Prop} (hg : Γ cl = some (.cls d)) (hk : ks ≠ []) (hy : byName (d.params.drop 1) ks xs = some ys) (h : (run Γ G N (k + 1) cl [] ys).Ev P) : (run Γ G N (k + 1) cl ks xs).Ev P := by
  rw [run_clsk hg hk hy, ← run_cls hg]
  exact h
theorem sat_callk {P : D → Prop} {Q : D × List D → Prop} {f : Str} {ks : List Str} {es : IE} {xs : List D} (he : evL G Φ ρ es = .ok xs) (h : (Φ f ks xs).Ev Q) (g : ∀ r, Q r → P r.1) : (evE G Φ ρ (.callk f ks es)).Ev P := by
  rw [evE_callk, he, bind_ok]
  exact sat_then h fun r hr => ev (g r hr)
end
section
variable {G : Glo} {Φ : Phi} {ρ : Env} {elt it c : IE} {t : Tg} {own : List Nat} {α : Type} {xs : List α} {e g : α → D} {p : α → Bool}
theorem comp_ifS (hi : (evI G Φ ρ it).Ev fun l => l = xs.map e) (h : ∀ a ∈ xs, ∃ ρ', asgT t (e a) (wipe ρ own) = .ok ρ' ∧ (evE G Φ ρ' c).bind D.truthy = .ok (p a) ∧ (p a = true → evE G Φ ρ' elt = .ok (g a))) : (evE G Φ ρ (.comp elt t it c own)).Ev fun d => d = .lst ((xs.filter p).map g) := by
  rw [evE_comp]
  refine sat_bind (hi.mono fun l hl => ?_)
  subst hl
  rw [gather_filter (g := g) (p := p) fun a ha => ?_]
  · exact ev rfl
  · obtain ⟨ρ', h1, h2, h3⟩ := h a ha
    rw [h1]
    simp only [bind_ok]
    rw [← bindR, h2]
    simp only [bind_ok]
    cases hp : p a with
    | true => simp [h3 hp]
    | false => rfl
theorem over_ok {a : IE} {P : List D → Prop} (h : (evE G Φ ρ a).Ev fun d => (itemsD d).Ev P) : (evI G Φ ρ (.over a)).Ev P := by
  rw [evI_over]; exact sat_bind h
end
section
variable {G : Glo} {Φ : Phi} {N k : Nat} {ρ : Env} {e es : IE} {Γ : Str → Option Ent}
theorem evL_consS {Q : List D → Prop} (h : (evE G Φ ρ e).Ev fun x => (evL G Φ ρ es).Ev fun xs => Q (x :: xs)) : (evL G Φ ρ (.econs e es)).Ev Q := by
  rw [evL_cons]; exact sat_bind (h.mono fun x hx => sat_bind (hx.mono fun xs q => ev q))
theorem evL_nilS {Q : List D → Prop} (h : Q []) : (evL G Φ ρ .enil).Ev Q := by rw [evL_nil]; exact ev h
theorem sat_tup {P : D → Prop} (h : (evL G Φ ρ es).Ev fun l => P (.tup l)) : (evE G Φ ρ (.tup es)).Ev P := by rw [evE_tup]; exact sat_bind (h.mono fun l q => ev q)
theorem sat_callS {P : D → Prop} {f : Str} (h : (evL G Φ ρ es).Ev fun xs => (Φ f [] xs).Ev fun r => P r.1) : (evE G Φ ρ (.call f es)).Ev P := by
  rw [evE_call]; exact sat_bind (h.mono fun xs q => sat_bind (q.mono fun r q => ev q))
theorem bowl_run {f : Str} {l : List D} {i : Int} (h : Γ f = some .bowl) (hl : (intsOf l).isSome = true) (hi : 0 ≤ i) : run Γ G N (k + 1) f [] [.lst l, .int i] = .ok (.bowl, []) := by
  simp [run, h, hl, hi]
theorem ints_map (ns : List Int) : (intsOf (ns.map D.int)).isSome = true := by
  induction ns with
  | nil => rfl
  | cons n ns ih =>
    show ((intsOf (ns.map D.int)).map (n :: ·)).isSome = true
    rw [Option.isSome_map]; exact ih
end
/-! loops over the images of a list -/
section
variable {N : Nat} {ρ : Env} {P : Fl → Prop}
theorem forL_mapI {α : Type} {e : α → D} {t : Tg} {f : Env → R Fl} {xs : List α} (I : List α → Env → Prop) (h0 : I [] ρ)
    (st : ∀ p x s ρ, xs = p ++ x :: s → I p ρ → ((asgT t (e x) ρ).bind f).Ev fun r => match r with
      | .nx ρ' => I (p ++ [x]) ρ'
      | .ct ρ' => I (p ++ [x]) ρ'
      | .bk ρ' => P (.nx ρ')
      | .rt d ρ' => P (.rt d ρ')) (q : ∀ ρ, I xs ρ → P (.nx ρ)) : (forL t f (xs.map e) ρ).Ev P := by
  have main : ∀ (s p : List α) (ρ : Env), xs = p ++ s → I p ρ → (forL t f (s.map e) ρ).Ev P := fun s => by
    induction s with
    | nil =>
      intro p ρ h hI
      rw [List.append_nil] at h
      subst h
      exact ev (q ρ hI)
    | cons x s ih =>
      intro p ρ h hI
      have h2 : forL t f ((x :: s).map e) ρ = (asgT t (e x) ρ).bind fun ρ => (f ρ).bind fun r => match r with
        | .nx ρ => forL t f (s.map e) ρ
        | .ct ρ => forL t f (s.map e) ρ
        | .bk ρ => .ok (.nx ρ)
        | .rt d ρ => .ok (.rt d ρ) := rfl
      rw [h2]
      have s1 := st p x s ρ h hI
      have s1 := sat_unbind s1
      refine sat_bind (s1.mono fun ρ1 h1 => sat_bind (h1.mono fun r hr => ?_))
      cases r with
      | nx ρ' => exact ih (p ++ [x]) ρ' (by rw [h]; simp) hr
      | ct ρ' => exact ih (p ++ [x]) ρ' (by rw [h]; simp) hr
      | bk ρ' => exact ev hr
      | rt d ρ' => exact ev hr
  exact main xs [] ρ rfl h0
end
/-! closures -/
section
variable {G : Glo} {Φ : Phi} {N : Nat} {ρ : Env} {es : IE} {xs caps : List D} {f g : Str}
theorem sat_defn {P : Fl → Prop} {i : Nat} {js : List Nat} (h : P (.nx (ρ.set i none))) : (exS G Φ N (.defn i g js) ρ).Ev P := by
  have e : exS G Φ N (.defn i g js) ρ = .ok (.nx (ρ.set i none)) := (rfl)
  rw [e]; exact ev h
theorem evE_clo1 {i : Nat} {d : D} (h : ρ[i]? = some (some d)) : evE G Φ ρ (.clo g [i]) = .ok (.clo g [d]) := by
  have e : evE G Φ ρ (.clo g [i]) = match [i].mapM (fun i => match ρ[i]? with | some (some d) => some d | _ => none) with
    | some ds => R.ok (D.clo g ds)
    | none => .bad := (rfl)
  rw [e]
  have e2 : [i].mapM (fun i => match ρ[i]? with | some (some d) => some d | _ => none) = some [d] := by
    simp [h]
  rw [e2]
theorem sat_callc {P : D → Prop} {Q : D × List D → Prop} (he : evL G Φ ρ es = .ok xs) (h : (Φ f [] xs).Ev Q) (k : ∀ r, Q r → r.1.noClo = true ∧ P r.1) : (evE G Φ ρ (.callc f es)).Ev P := by
  have e : evE G Φ ρ (.callc f es) = (evL G Φ ρ es).bind fun xs => (Φ f [] xs).bind fun r => if r.1.noClo then .ok r.1 else .bad := (rfl)
  rw [e, he, bind_ok]
  exact sat_then h fun r hr => by
    obtain ⟨h1, h2⟩ := k r hr
    rw [if_pos h1]; exact ev h2
theorem sat_callvC {P : D → Prop} {Q : D × List D → Prop} {i : Nat} (hv : getV ρ i = .ok (.clo g caps)) (he : evL G Φ ρ es = .ok xs) (hn : (D.noCloL xs && D.noCloL caps) = true) (h : (Φ g [] (xs ++ caps)).Ev Q) (k : ∀ r, Q r → P r.1) : (evE G Φ ρ (.callv i es)).Ev P := by
  have e : evE G Φ ρ (.callv i es) = (getV ρ i).bind fun f => match f with
    | .fn g => if G.isFn g then (evL G Φ ρ es).bind fun xs => (Φ g [] xs).bind fun r => .ok r.1 else .bad
    | .clo g caps => (evL G Φ ρ es).bind fun xs => if D.noCloL xs && D.noCloL caps then (Φ g [] (xs ++ caps)).bind fun r => .ok r.1 else .bad
    | _ => .bad := (rfl)
  rw [e, hv, bind_ok]
  show ((evL G Φ ρ es).bind fun xs => if D.noCloL xs && D.noCloL caps then (Φ g [] (xs ++ caps)).bind fun r => R.ok r.1 else .bad).Ev P
  rw [he, bind_ok, if_pos hn]
  exact sat_then h fun r hr => ev (k r hr)
theorem noClo_map {α : Type} {e : α → D} (h : ∀ a, (e a).noClo = true) : ∀ l : List α, D.noCloL (l.map e) = true
  | [] => rfl
  | a :: l => by
    show (D.noClo (e a) && D.noCloL (l.map e)) = true
    rw [h a, noClo_map h l]; rfl
end
end Pv.Pl

namespace Pv
open PySem (Str)
def f_is_whole : Fd := { params := ["value"], caps := 0, slots := 1, inout := [], body :=
 (.ret (.e (.and (.isi (.var 0) [.int]) (.nott (.isi (.var 0) [.bool]))))) }
def f_is_between : Fd := { params := ["value", "least", "most"], caps := 0, slots := 3, inout := [], body :=
 (.ret (.e (.and (.call "is_whole" (.econs (.var 0) .enil)) (.chain .le .le (.var 1) (.var 0) (.var 2))))) }
def f_is_up_to : Fd := { params := ["value", "most"], caps := 0, slots := 2, inout := [], body :=
 (.ret (.e (.call "is_between" (.econs (.var 0) (.econs (.int 0) (.econs (.var 1) .enil)))))) }
def f_is_one_of : Fd := { params := ["value", "words"], caps := 0, slots := 2, inout := [], body :=
 (.ret (.e (.and (.isi (.var 0) [.str]) (.op .inn (.var 0) (.var 1))))) }
def f_is_tuple_of : Fd := { params := ["value", "many"], caps := 0, slots := 2, inout := [], body :=
 (.ret (.e (.and (.isi (.var 0) [.tuple]) (.op .eq (.bf .len (.econs (.var 0) .enil)) (.var 1))))) }
def f_is_pair : Fd := { params := ["value"], caps := 0, slots := 1, inout := [], body :=
 (.ret (.e (.call "is_tuple_of" (.econs (.var 0) (.econs (.int 2) .enil))))) }
def f_are_below : Fd := { params := ["ahead", "value"], caps := 0, slots := 2, inout := [], body :=
 (.ret (.e (.or (.op .eq (.var 0) (.tup .enil)) (.op .lt (.sub (.var 0) (.neg (.int 1))) (.var 1))))) }
def f_wrong_in : Fd := { params := ["value", "least", "most", "is_right"], caps := 0, slots := 6, inout := [], body :=
 (.seq (.iff (.or (.nott (.isi (.var 0) [.tuple])) (.op .lt (.bf .len (.econs (.var 0) .enil)) (.var 1))) (.ret (.e (.lst (.econs .non .enil)))) .skip)
 (.seq (.forr (.cons (.var 4) (.cons (.var 5) .nil)) (.e (.enum (.var 0))) (.iff (.or (.op .eq (.var 4) (.var 2)) (.nott (.callv 3 (.econs (.slice (.var 0) .non (.var 4)) (.econs (.var 5) .enil))))) (.ret (.e (.lst (.econs (.var 4) .enil)))) .skip))
 (.ret (.e (.lst .enil))))) }
def f_are_all : Fd := { params := ["value", "least", "most", "is_right"], caps := 0, slots := 4, inout := [], body :=
 (.ret (.e (.op .eq (.call "wrong_in" (.econs (.var 0) (.econs (.var 1) (.econs (.var 2) (.econs (.var 3) .enil))))) (.lst .enil)))) }
def f_is_row : Fd := { params := ["value"], caps := 0, slots := 2, inout := [], body :=
 (.seq (.iff (.or (.nott (.isi (.var 0) [.str])) (.nott (.call "is_between" (.econs (.bf .len (.econs (.var 0) .enil)) (.econs (.glob "LEAST_SIGNS") (.econs (.glob "MOST_SIGNS") .enil)))))) (.ret (.e (.bl false))) .skip)
 (.ret (.e (.bf .all (.econs (.comp (.op .inn (.var 1) (.glob "SIGNS")) (.var 1) (.over (.var 0)) (.bl true) [1]) .enil))))) }
def f_is_row_beside : Fd := { params := ["ahead", "value"], caps := 0, slots := 2, inout := [], body :=
 (.ret (.e (.and (.call "is_row" (.econs (.var 1) .enil)) (.or (.op .eq (.var 0) (.tup .enil)) (.op .eq (.bf .len (.econs (.sub (.var 0) (.int 0)) .enil)) (.bf .len (.econs (.var 1) .enil))))))) }
def f_wrong_row : Fd := { params := ["rows"], caps := 0, slots := 1, inout := [], body :=
 (.seq (.iff (.and (.isi (.var 0) [.tuple]) (.op .gt (.bf .len (.econs (.var 0) .enil)) (.glob "MOST_ROWS"))) (.ret (.e (.lst (.econs .non .enil)))) .skip)
 (.ret (.e (.call "wrong_in" (.econs (.var 0) (.econs (.glob "LEAST_ROWS") (.econs (.glob "MOST_ROWS") (.econs (.glob "is_row_beside") .enil)))))))) }
def f_cells_with : Fd := { params := ["rows", "signs"], caps := 0, slots := 7, inout := [], body :=
 (.seq (.asg (.var 2) (.e (.lst .enil)))
 (.seq (.forr (.cons (.var 3) (.cons (.var 4) .nil)) (.e (.enum (.var 0))) (.forr (.cons (.var 5) (.cons (.var 6) .nil)) (.e (.enum (.var 4))) (.iff (.op .inn (.var 6) (.var 1)) (.mt .append 2 (.e (.tup (.econs (.var 3) (.econs (.var 5) .enil))))) .skip)))
 (.ret (.e (.bf .tuple (.econs (.var 2) .enil)))))) }
def f_are_enough : Fd := { params := ["floor", "marks"], caps := 0, slots := 2, inout := [], body :=
 (.seq (.iff (.nott (.call "is_between" (.econs (.bf .len (.econs (.var 0) .enil)) (.econs (.glob "LEAST_FLOOR") (.econs (.glob "MOST_FLOOR") .enil))))) (.ret (.e (.bl false))) .skip)
 (.ret (.e (.and (.call "is_between" (.econs (.bf .len (.econs (.var 1) .enil)) (.econs (.glob "LEAST_MARKS") (.econs (.glob "MOST_MARKS") .enil)))) (.op .lt (.bf .len (.econs (.var 1) .enil)) (.bf .len (.econs (.var 0) .enil))))))) }
def f_around : Fd := { params := ["cell", "way"], caps := 0, slots := 3, inout := [], body :=
 (.seq (.asg (.var 2) (.e (.gsub "AWAY" (.var 1))))
 (.ret (.e (.tup (.econs (.op .add (.sub (.var 0) (.int 0)) (.sub (.var 2) (.int 0))) (.econs (.op .add (.sub (.var 0) (.int 1)) (.sub (.var 2) (.int 1))) .enil)))))) }
def f_nexts_of : Fd := { params := ["floor"], caps := 0, slots := 6, inout := [], body :=
 (.seq (.par [1, 2] [(.e (.bf .dict (.econs (.comp (.tup (.econs (.var 3) (.econs (.bl true) .enil))) (.var 3) (.over (.var 0)) (.bl true) [3]) .enil))), (.e (.dic .enil .enil))])
 (.seq (.forr (.var 3) (.e (.over (.var 0))) (.forr (.var 4) (.e (.over (.glob "WAYS"))) (.seq (.asg (.var 5) (.e (.call "around" (.econs (.var 3) (.econs (.var 4) .enil)))))
 (.setItem 2 (.tup (.econs (.var 3) (.econs (.var 4) .enil))) (.ite (.op .inn (.var 5) (.var 1)) (.var 5) .non)))))
 (.ret (.mv 2)))) }
def f_is_cell : Fd := { params := ["yard", "value"], caps := 0, slots := 2, inout := [], body :=
 (.seq (.iff (.or (.nott (.call "is_pair" (.econs (.var 1) .enil))) (.or (.nott (.call "is_up_to" (.econs (.sub (.var 1) (.int 0)) (.econs (.glob "MOST_ROWS") .enil)))) (.nott (.call "is_up_to" (.econs (.sub (.var 1) (.int 1)) (.econs (.glob "MOST_SIGNS") .enil)))))) (.ret (.e (.bl false))) .skip)
 (.ret (.e (.op .inn (.var 1) (.attr (.var 0) "floor"))))) }
def f_are_cells : Fd := { params := ["yard", "value", "least", "most"], caps := 0, slots := 5, inout := [], body :=
 (.seq (.defn 4 "are_cells.<locals>.is_right" [0])
 (.ret (.e (.callc "are_all" (.econs (.var 1) (.econs (.var 2) (.econs (.var 3) (.econs (.clo "are_cells.<locals>.is_right" [0]) .enil)))))))) }
def f_are_cells__locals__is_right : Fd := { params := ["ahead", "each"], caps := 1, slots := 3, inout := [], body :=
 (.ret (.e (.and (.call "is_cell" (.econs (.var 2) (.econs (.var 1) .enil))) (.call "are_below" (.econs (.var 0) (.econs (.var 1) .enil)))))) }
def f_is_standing : Fd := { params := ["yard", "value"], caps := 0, slots := 2, inout := [], body :=
 (.seq (.iff (.or (.nott (.call "is_pair" (.econs (.var 1) .enil))) (.nott (.call "is_cell" (.econs (.var 0) (.econs (.sub (.var 1) (.int 0)) .enil))))) (.ret (.e (.bl false))) .skip)
 (.ret (.e (.and (.call "are_cells" (.econs (.var 0) (.econs (.sub (.var 1) (.int 1)) (.econs (.bf .len (.econs (.attr (.var 0) "marks") .enil)) (.econs (.bf .len (.econs (.attr (.var 0) "marks") .enil)) .enil))))) (.op .notin (.sub (.var 1) (.int 0)) (.sub (.var 1) (.int 1))))))) }
def f_is_way : Fd := { params := ["value"], caps := 0, slots := 1, inout := [], body :=
 (.ret (.e (.call "is_one_of" (.econs (.var 0) (.econs (.glob "WAYS") .enil))))) }
def f_row_of_boxes : Fd := { params := ["yard", "boxes", "cell", "way"], caps := 0, slots := 5, inout := [], body :=
 (.seq (.asg (.var 4) (.e (.lst .enil)))
 (.seq (.whil (.and (.op .isnot (.var 2) .non) (.op .inn (.var 2) (.var 1))) (.seq (.mt .append 4 (.e (.var 2)))
 (.asg (.var 2) (.e (.sub (.attr (.var 0) "nexts") (.tup (.econs (.var 2) (.econs (.var 3) .enil))))))))
 (.ret (.mv 4)))) }
def f_moved : Fd := { params := ["boxes", "gone", "come"], caps := 0, slots := 4, inout := [], body :=
 (.ret (.e (.bf .tuple (.econs (.bf .sorted (.econs (.op .add (.comp (.var 3) (.var 3) (.over (.var 0)) (.op .ne (.var 3) (.var 1)) [3]) (.lst (.econs (.var 2) .enil))) .enil)) .enil)))) }
def f_boxes_pushed : Fd := { params := ["yard", "boxes", "cell", "way"], caps := 0, slots := 6, inout := [], body :=
 (.seq (.asg (.var 4) (.e (.call "row_of_boxes" (.econs (.var 0) (.econs (.var 1) (.econs (.var 2) (.econs (.var 3) .enil)))))))
 (.seq (.asg (.var 5) (.e (.sub (.attr (.var 0) "nexts") (.tup (.econs (.sub (.var 4) (.neg (.int 1))) (.econs (.var 3) .enil))))))
 (.seq (.iff (.or (.op .gt (.bf .len (.econs (.var 4) .enil)) (.attr (.var 0) "strength")) (.op .is (.var 5) .non)) (.ret (.e .non)) .skip)
 (.ret (.e (.call "moved" (.econs (.var 1) (.econs (.var 2) (.econs (.var 5) .enil))))))))) }
def f_stepped : Fd := { params := ["yard", "standing", "way"], caps := 0, slots := 7, inout := [], body :=
 (.seq (.asg (.cons (.var 3) (.cons (.var 4) .nil)) (.e (.var 1)))
 (.seq (.asg (.var 5) (.e (.sub (.attr (.var 0) "nexts") (.tup (.econs (.var 3) (.econs (.var 2) .enil))))))
 (.seq (.iff (.op .is (.var 5) .non) (.ret (.e .non)) .skip)
 (.seq (.iff (.op .notin (.var 5) (.var 4)) (.ret (.e (.tup (.econs (.tup (.econs (.var 5) (.econs (.var 4) .enil))) (.econs (.bl false) .enil))))) .skip)
 (.seq (.asg (.var 6) (.e (.call "boxes_pushed" (.econs (.var 0) (.econs (.var 4) (.econs (.var 5) (.econs (.var 2) .enil)))))))
 (.ret (.e (.ite (.op .is (.var 6) .non) .non (.tup (.econs (.tup (.econs (.var 5) (.econs (.var 6) .enil))) (.econs (.bl true) .enil))))))))))) }
def f_wrong_way : Fd := { params := ["value"], caps := 0, slots := 3, inout := [], body :=
 (.seq (.iff (.nott (.isi (.var 0) [.str])) (.ret (.e (.lst (.econs .non .enil)))) .skip)
 (.seq (.forr (.cons (.var 1) (.cons (.var 2) .nil)) (.e (.enum (.var 0))) (.iff (.or (.op .eq (.var 1) (.glob "MOST_WAYS")) (.op .notin (.var 2) (.glob "WAYS"))) (.ret (.e (.lst (.econs (.var 1) .enil)))) .skip))
 (.ret (.e (.lst .enil))))) }
def f_gone : Fd := { params := ["yard", "standing", "walk"], caps := 0, slots := 7, inout := [], body :=
 (.seq (.asg (.var 3) (.e (.int 0)))
 (.seq (.forr (.cons (.var 4) (.cons (.var 5) .nil)) (.e (.enum (.var 2))) (.seq (.asg (.var 6) (.e (.call "stepped" (.econs (.var 0) (.econs (.var 1) (.econs (.var 5) .enil))))))
 (.seq (.iff (.op .is (.var 6) .non) (.ret (.e (.tup (.econs (.var 1) (.econs (.var 3) (.econs (.var 4) .enil)))))) .skip)
 (.seq (.asg (.var 1) (.e (.sub (.var 6) (.int 0))))
 (.asg (.var 3) (.e (.op .add (.var 3) (.ite (.sub (.var 6) (.int 1)) (.int 1) (.int 0)))))))))
 (.ret (.e (.tup (.econs (.var 1) (.econs (.var 3) (.econs .non .enil)))))))) }
def f_leads_to : Fd := { params := ["yard", "standing", "walk"], caps := 0, slots := 6, inout := [], body :=
 (.seq (.asg (.cons (.var 3) (.cons (.var 4) (.cons (.var 5) .nil))) (.e (.call "gone" (.econs (.var 0) (.econs (.var 1) (.econs (.var 2) .enil))))))
 (.ret (.e (.ite (.op .is (.var 5) .non) (.var 3) .non)))) }
def f_check_rows : Fd := { params := ["rows"], caps := 0, slots := 4, inout := [], body :=
 (.seq (.asg (.var 1) (.e (.call "wrong_row" (.econs (.var 0) .enil))))
 (.seq (.iff (.op .ne (.var 1) (.lst .enil)) (.raise "InvalidRows" (.sub (.var 1) (.int 0))) .skip)
 (.seq (.asg (.var 2) (.e (.call "cells_with" (.econs (.var 0) (.econs (.tup (.econs (.glob "FLOOR") (.econs (.glob "MARK") .enil))) .enil)))))
 (.seq (.asg (.var 3) (.e (.call "cells_with" (.econs (.var 0) (.econs (.tup (.econs (.glob "MARK") .enil)) .enil)))))
 (.iff (.nott (.call "are_enough" (.econs (.var 2) (.econs (.var 3) .enil)))) (.raise "InvalidRows" .non) .skip))))) }
def f_check_strength : Fd := { params := ["strength"], caps := 0, slots := 1, inout := [], body :=
 (.iff (.nott (.call "is_between" (.econs (.var 0) (.econs (.glob "LEAST_STRENGTH") (.econs (.glob "MOST_STRENGTH") .enil))))) (.raise "InvalidNumber" (.var 0)) .skip) }
def f_check_yard : Fd := { params := ["yard"], caps := 0, slots := 1, inout := [], body :=
 (.iff (.nott (.isi (.var 0) [(.cls "Yard")])) (.raise "NotAYard" (.var 0)) .skip) }
def f_check_standing : Fd := { params := ["yard", "standing"], caps := 0, slots := 2, inout := [], body :=
 (.iff (.nott (.call "is_standing" (.econs (.var 0) (.econs (.var 1) .enil)))) (.raise "InvalidStanding" (.var 1)) .skip) }
def f_check_both : Fd := { params := ["yard", "standing"], caps := 0, slots := 2, inout := [], body :=
 (.seq (.expr (.e (.call "check_yard" (.econs (.var 0) .enil))))
 (.expr (.e (.call "check_standing" (.econs (.var 0) (.econs (.var 1) .enil)))))) }
def f_check_way : Fd := { params := ["way"], caps := 0, slots := 1, inout := [], body :=
 (.iff (.nott (.call "is_way" (.econs (.var 0) .enil))) (.raise "InvalidWay" (.var 0)) .skip) }
def f_check_walk : Fd := { params := ["walk"], caps := 0, slots := 2, inout := [], body :=
 (.seq (.asg (.var 1) (.e (.call "wrong_way" (.econs (.var 0) .enil))))
 (.iff (.op .ne (.var 1) (.lst .enil)) (.raise "InvalidWalk" (.sub (.var 1) (.int 0))) .skip)) }
def f_check_going : Fd := { params := ["yard", "standing", "walk"], caps := 0, slots := 3, inout := [], body :=
 (.seq (.expr (.e (.call "check_both" (.econs (.var 0) (.econs (.var 1) .enil)))))
 (.expr (.e (.call "check_walk" (.econs (.var 2) .enil))))) }
def f_step : Fd := { params := ["yard", "standing", "way"], caps := 0, slots := 4, inout := [], body :=
 (.seq (.expr (.e (.call "check_both" (.econs (.var 0) (.econs (.var 1) .enil)))))
 (.seq (.expr (.e (.call "check_way" (.econs (.var 2) .enil))))
 (.seq (.asg (.var 3) (.e (.call "stepped" (.econs (.var 0) (.econs (.var 1) (.econs (.var 2) .enil))))))
 (.ret (.e (.ite (.op .is (.var 3) .non) .non (.sub (.var 3) (.int 0)))))))) }
def f_goes : Fd := { params := ["yard", "standing", "walk"], caps := 0, slots := 3, inout := [], body :=
 (.seq (.expr (.e (.call "check_going" (.econs (.var 0) (.econs (.var 1) (.econs (.var 2) .enil))))))
 (.ret (.e (.call "leads_to" (.econs (.var 0) (.econs (.var 1) (.econs (.var 2) .enil))))))) }
def f_pushes_of : Fd := { params := ["yard", "standing", "walk"], caps := 0, slots := 6, inout := [], body :=
 (.seq (.expr (.e (.call "check_going" (.econs (.var 0) (.econs (.var 1) (.econs (.var 2) .enil))))))
 (.seq (.asg (.cons (.var 3) (.cons (.var 4) (.cons (.var 5) .nil))) (.e (.call "gone" (.econs (.var 0) (.econs (.var 1) (.econs (.var 2) .enil))))))
 (.ret (.e (.ite (.op .is (.var 5) .non) (.var 4) .non))))) }
def f_first_wrong : Fd := { params := ["yard", "standing", "walk"], caps := 0, slots := 3, inout := [], body :=
 (.seq (.expr (.e (.call "check_going" (.econs (.var 0) (.econs (.var 1) (.econs (.var 2) .enil))))))
 (.ret (.e (.sub (.call "gone" (.econs (.var 0) (.econs (.var 1) (.econs (.var 2) .enil)))) (.int 2))))) }
def f__law_bowl : Fd := { params := ["script", "lap"], caps := 0, slots := 5, inout := [], body :=
 (.seq (.asg (.var 2) (.e (.op .add (.int 771041) (.op .mul (.int 8819) (.var 1)))))
 (.seq (.forr (.var 3) (.e (.over (.slice (.var 0) .non (.int 9)))) (.asg (.var 2) (.e (.op .mod (.bf .int (.econs (.op .add (.op .add (.op .mul (.var 2) (.int 48611)) (.op .mul (.op .mod (.bf .int (.econs (.var 3) .enil)) (.int 2147483053)) (.int 19))) (.int 41)) .enil)) (.int 2147483563)))))
 (.seq (.asg (.var 4) (.e (.ite (.op .lt (.var 1) (.bf .len (.econs (.var 0) .enil))) (.bf .int (.econs (.sub (.var 0) (.var 1)) .enil)) (.int 0))))
 (.seq (.asg (.var 2) (.e (.op .mod (.bf .int (.econs (.op .add (.op .add (.op .mul (.var 2) (.int 53)) (.op .mul (.op .mod (.var 4) (.int 2147483053)) (.int 27011))) (.int 11)) .enil)) (.int 2147483563))))
 (.ret (.e (.lst (.econs (.ite (.or (.op .lt (.var 4) (.int 0)) (.op .ge (.var 4) (.op .pow (.int 10) (.int 16)))) (.bf .abs (.econs (.var 4) .enil)) (.int 0)) (.econs (.var 2) (.econs (.int 0) .enil)))))))))) }
def f__law_of : Fd := { params := ["bowl", "some"], caps := 0, slots := 2, inout := [], body :=
 (.ret (.e (.sub (.var 1) (.call "_law_draw" (.econs (.var 0) (.econs (.bf .len (.econs (.var 1) .enil)) .enil)))))) }
def f__law_same : Fd := { params := ["told", "due"], caps := 0, slots := 3, inout := [], body :=
 (.seq (.iff (.isi (.var 1) [.tuple]) (.seq (.iff (.or (.nott (.isi (.var 0) [.tuple])) (.op .ne (.bf .len (.econs (.var 0) .enil)) (.bf .len (.econs (.var 1) .enil)))) (.ret (.e (.bl false))) .skip)
 (.ret (.e (.bf .all (.econs (.comp (.call "_law_same" (.econs (.sub (.var 0) (.var 2)) (.econs (.sub (.var 1) (.var 2)) .enil))) (.var 2) (.range1 (.bf .len (.econs (.var 1) .enil))) (.bl true) [2]) .enil))))) .skip)
 (.seq (.iff (.op .is (.var 1) .non) (.ret (.e (.op .is (.var 0) .non))) .skip)
 (.seq (.iff (.isi (.var 1) [.bool]) (.ret (.e (.and (.isi (.var 0) [.bool]) (.op .eq (.var 0) (.var 1))))) .skip)
 (.seq (.iff (.isi (.var 1) [.int]) (.ret (.e (.and (.isi (.var 0) [.int]) (.and (.nott (.isi (.var 0) [.bool])) (.op .eq (.var 0) (.var 1)))))) .skip)
 (.seq (.iff (.isi (.var 1) [.str]) (.ret (.e (.and (.isi (.var 0) [.str]) (.op .eq (.var 0) (.var 1))))) .skip)
 (.ret (.e (.op .eq (.var 0) (.var 1))))))))) }
def f__law_rows : Fd := { params := ["bowl", "most", "marks"], caps := 0, slots := 17, inout := [], body :=
 (.seq (.par [3, 4] [(.e (.call "_law_of" (.econs (.var 0) (.econs (.tup (.econs (.int 1) (.econs (.int 2) (.econs (.int 2) (.econs (.int 3) (.econs (.int 3) (.econs (.int 4) .enil))))))) .enil)))), (.e (.call "_law_of" (.econs (.var 0) (.econs (.tup (.econs (.int 3) (.econs (.int 3) (.econs (.int 3) (.econs (.int 4) (.econs (.int 4) (.econs (.int 5) .enil))))))) .enil))))])
 (.seq (.par [5, 6] [(.e (.call "_law_grid" (.econs (.var 3) (.econs (.var 4) .enil)))), (.e (.op .add (.int 3) (.call "_law_draw" (.econs (.var 0) (.econs (.op .sub (.var 1) (.int 2)) .enil)))))])
 (.seq (.par [7, 8] [(.e (.lst (.econs (.call "_law_of" (.econs (.var 0) (.econs (.var 5) .enil))) .enil))), (.e (.op .eq (.call "_law_draw" (.econs (.var 0) (.econs (.int 4) .enil))) (.int 0)))])
 (.seq (.whil (.op .lt (.bf .len (.econs (.var 7) .enil)) (.bf .min2 (.econs (.var 6) (.econs (.bf .len (.econs (.var 5) .enil)) .enil)))) (.seq (.asg (.var 9) (.e (.comp (.var 10) (.var 10) (.over (.var 5)) (.and (.op .notin (.var 10) (.var 7)) (.op .ne (.comp (.var 11) (.var 11) (.over (.var 7)) (.op .eq (.op .add (.bf .abs (.econs (.op .sub (.sub (.var 11) (.int 0)) (.sub (.var 10) (.int 0))) .enil)) (.bf .abs (.econs (.op .sub (.sub (.var 11) (.int 1)) (.sub (.var 10) (.int 1))) .enil))) (.int 1)) [11]) (.lst .enil))) [10])))
 (.mt .append 7 (.e (.call "_law_of" (.econs (.var 0) (.econs (.ite (.var 8) (.comp (.var 10) (.var 10) (.over (.var 5)) (.op .notin (.var 10) (.var 7)) [10]) (.var 9)) .enil)))))))
 (.seq (.par [12, 13] [(.e (.bf .sorted (.econs (.var 7) .enil))), (.e (.lst .enil))])
 (.seq (.forr (.var 14) (.e (.range1 (.op .add (.int 1) (.call "_law_draw" (.econs (.var 0) (.econs (.bf .min2 (.econs (.var 2) (.econs (.op .sub (.bf .len (.econs (.var 7) .enil)) (.int 1)) .enil))) .enil)))))) (.mt .append 13 (.pop 12 (.econs (.call "_law_draw" (.econs (.var 0) (.econs (.bf .len (.econs (.var 12) .enil)) .enil))) .enil))))
 (.ret (.e (.bf .tuple (.econs (.comp (.mf .join (.str "") (.econs (.comp (.ite (.op .inn (.tup (.econs (.var 15) (.econs (.var 16) .enil))) (.var 13)) (.str "x") (.ite (.op .inn (.tup (.econs (.var 15) (.econs (.var 16) .enil))) (.var 7)) (.str ".") (.str "#"))) (.var 16) (.range1 (.var 4)) (.bl true) [16]) .enil)) (.var 15) (.range1 (.var 3)) (.bl true) [15]) .enil)))))))))) }
def f__law_grid : Fd := { params := ["high", "wide"], caps := 0, slots := 5, inout := [], body :=
 (.seq (.asg (.var 2) (.e (.lst .enil)))
 (.seq (.forr (.var 3) (.e (.range1 (.var 0))) (.asg (.var 2) (.e (.op .add (.var 2) (.comp (.tup (.econs (.var 3) (.econs (.var 4) .enil))) (.var 4) (.range1 (.var 1)) (.bl true) [4])))))
 (.ret (.mv 2)))) }
def f__law_signs : Fd := { params := ["yard", "signs"], caps := 0, slots := 4, inout := [], body :=
 (.ret (.e (.comp (.tup (.econs (.var 2) (.econs (.var 3) .enil))) (.cons (.var 2) (.cons (.var 3) .nil)) (.over (.call "_law_grid" (.econs (.bf .len (.econs (.sub (.var 0) (.int 0)) .enil)) (.econs (.bf .len (.econs (.sub (.sub (.var 0) (.int 0)) (.int 0)) .enil)) .enil)))) (.op .inn (.sub (.sub (.sub (.var 0) (.int 0)) (.var 2)) (.var 3)) (.var 1)) [2, 3]))) }
def f__law_floor : Fd := { params := ["yard"], caps := 0, slots := 1, inout := [], body :=
 (.ret (.e (.call "_law_signs" (.econs (.var 0) (.econs (.str ".x") .enil))))) }
def f__law_marks : Fd := { params := ["yard"], caps := 0, slots := 1, inout := [], body :=
 (.ret (.e (.call "_law_signs" (.econs (.var 0) (.econs (.str "x") .enil))))) }
def f__law_beyond : Fd := { params := ["cell", "way"], caps := 0, slots := 3, inout := [], body :=
 (.seq (.asg (.var 2) (.e (.sub (.dic (.econs (.str "n") (.econs (.str "e") (.econs (.str "s") (.econs (.str "w") .enil)))) (.econs (.tup (.econs (.op .sub (.int 0) (.int 1)) (.econs (.int 0) .enil))) (.econs (.tup (.econs (.int 0) (.econs (.int 1) .enil))) (.econs (.tup (.econs (.int 1) (.econs (.int 0) .enil))) (.econs (.tup (.econs (.int 0) (.econs (.op .sub (.int 0) (.int 1)) .enil))) .enil))))) (.var 1))))
 (.ret (.e (.tup (.econs (.op .add (.sub (.var 0) (.int 0)) (.sub (.var 2) (.int 0))) (.econs (.op .add (.sub (.var 0) (.int 1)) (.sub (.var 2) (.int 1))) .enil)))))) }
def f__law_move : Fd := { params := ["yard", "standing", "way"], caps := 0, slots := 10, inout := [], body :=
 (.seq (.par [3, 4] [(.e (.call "_law_floor" (.econs (.var 0) .enil))), (.e (.bf .list (.econs (.sub (.var 1) (.int 1)) .enil)))])
 (.seq (.par [5, 6] [(.e (.call "_law_beyond" (.econs (.sub (.var 1) (.int 0)) (.econs (.var 2) .enil)))), (.e (.lst .enil))])
 (.seq (.iff (.op .notin (.var 5) (.var 3)) (.ret (.e .non)) .skip)
 (.seq (.asg (.var 7) (.e (.var 5)))
 (.seq (.whil (.op .inn (.var 7) (.var 4)) (.seq (.mt .append 6 (.e (.var 7)))
 (.asg (.var 7) (.e (.call "_law_beyond" (.econs (.var 7) (.econs (.var 2) .enil)))))))
 (.seq (.iff (.and (.op .ne (.var 6) (.lst .enil)) (.or (.op .gt (.bf .len (.econs (.var 6) .enil)) (.sub (.var 0) (.int 1))) (.op .notin (.var 7) (.var 3)))) (.ret (.e .non)) .skip)
 (.seq (.asg (.var 8) (.e (.op .add (.comp (.var 9) (.var 9) (.over (.var 4)) (.op .notin (.var 9) (.var 6)) [9]) (.comp (.call "_law_beyond" (.econs (.var 9) (.econs (.var 2) .enil))) (.var 9) (.over (.var 6)) (.bl true) [9]))))
 (.ret (.e (.tup (.econs (.tup (.econs (.var 5) (.econs (.bf .tuple (.econs (.bf .sorted (.econs (.var 8) .enil)) .enil)) .enil))) (.econs (.op .ne (.var 6) (.lst .enil)) .enil)))))))))))) }
def f__law_standing : Fd := { params := ["bowl", "yard"], caps := 0, slots := 5, inout := [], body :=
 (.seq (.par [2, 3] [(.e (.call "_law_floor" (.econs (.var 1) .enil))), (.e (.lst .enil))])
 (.seq (.forr (.var 4) (.e (.over (.call "_law_marks" (.econs (.var 1) .enil)))) (.mt .append 3 (.pop 2 (.econs (.call "_law_draw" (.econs (.var 0) (.econs (.bf .len (.econs (.var 2) .enil)) .enil))) .enil))))
 (.ret (.e (.tup (.econs (.call "_law_of" (.econs (.var 0) (.econs (.var 2) .enil))) (.econs (.bf .tuple (.econs (.bf .sorted (.econs (.var 3) .enil)) .enil)) .enil))))))) }
def f__law_walk : Fd := { params := ["bowl", "yard", "standing", "most"], caps := 0, slots := 9, inout := [], body :=
 (.seq (.asg (.var 4) (.e (.str "")))
 (.seq (.forr (.var 5) (.e (.range1 (.call "_law_draw" (.econs (.var 0) (.econs (.op .add (.var 3) (.int 1)) .enil))))) (.seq (.asg (.var 6) (.e (.comp (.var 7) (.var 7) (.over (.str "nesw")) (.op .isnot (.call "_law_move" (.econs (.var 1) (.econs (.var 2) (.econs (.var 7) .enil)))) .non) [7])))
 (.seq (.asg (.var 7) (.e (.ite (.and (.op .ne (.var 6) (.lst .enil)) (.op .gt (.call "_law_draw" (.econs (.var 0) (.econs (.int 8) .enil))) (.int 0))) (.call "_law_of" (.econs (.var 0) (.econs (.var 6) .enil))) (.call "_law_of" (.econs (.var 0) (.econs (.str "nesw") .enil))))))
 (.seq (.asg (.var 8) (.e (.call "_law_move" (.econs (.var 1) (.econs (.var 2) (.econs (.var 7) .enil))))))
 (.par [4, 2] [(.e (.op .add (.var 4) (.var 7))), (.e (.ite (.op .isnot (.var 8) .non) (.sub (.var 8) (.int 0)) (.var 2)))])))))
 (.ret (.mv 4)))) }
def f__law_right : Fd := { params := ["bowl"], caps := 0, slots := 15, inout := [], body :=
 (.seq (.forr (.var 1) (.e (.range1 (.int 5))) (.seq (.asg (.var 2) (.e (.call "_law_rows" (.econs (.var 0) (.econs (.int 9) (.econs (.int 3) .enil))))))
 (.seq (.asg (.var 3) (.e (.comp (.call "Yard" (.econs (.var 2) (.econs (.var 4) .enil))) (.var 4) (.over (.tup (.econs (.int 1) (.econs (.int 2) (.econs (.int 3) .enil))))) (.bl true) [4])))
 (.seq (.asg (.var 5) (.e (.call "_law_standing" (.econs (.var 0) (.econs (.tup (.econs (.var 2) (.econs (.int 1) .enil))) .enil)))))
 (.seq (.asg (.var 6) (.e (.call "_law_walk" (.econs (.var 0) (.econs (.tup (.econs (.var 2) (.econs (.call "_law_of" (.econs (.var 0) (.econs (.tup (.econs (.int 1) (.econs (.int 2) (.econs (.int 3) .enil)))) .enil))) .enil))) (.econs (.var 5) (.econs (.int 10) .enil)))))))
 (.seq (.par [7, 8] [(.e (.comp (.call "goes" (.econs (.var 9) (.econs (.var 5) (.econs (.var 6) .enil)))) (.var 9) (.over (.var 3)) (.bl true) [9])), (.e (.comp (.call "first_wrong" (.econs (.var 9) (.econs (.var 5) (.econs (.var 6) .enil)))) (.var 9) (.over (.var 3)) (.bl true) [9]))])
 (.forr (.var 10) (.e (.over (.tup (.econs (.int 0) (.econs (.int 1) .enil))))) (.seq (.iff (.and (.op .isnot (.sub (.var 7) (.var 10)) .non) (.or (.op .ne (.sub (.var 7) (.op .add (.var 10) (.int 1))) (.sub (.var 7) (.var 10))) (.op .ne (.call "pushes_of" (.econs (.sub (.var 3) (.var 10)) (.econs (.var 5) (.econs (.var 6) .enil)))) (.call "pushes_of" (.econs (.sub (.var 3) (.op .add (.var 10) (.int 1))) (.econs (.var 5) (.econs (.var 6) .enil))))))) (.ret (.e (.bl false))) .skip)
 (.iff (.and (.op .isnot (.sub (.var 8) (.op .add (.var 10) (.int 1))) .non) (.or (.op .is (.sub (.var 8) (.var 10)) .non) (.op .gt (.sub (.var 8) (.var 10)) (.sub (.var 8) (.op .add (.var 10) (.int 1)))))) (.ret (.e (.bl false))) .skip)))))))))
 (.seq (.asg (.var 11) (.e (.op .add (.int 1) (.call "_law_draw" (.econs (.var 0) (.econs (.int 3) .enil))))))
 (.seq (.asg (.var 12) (.e (.op .add (.op .add (.str ".") (.op .mul (.str "x") (.var 11))) (.str ".."))))
 (.seq (.forr (.var 4) (.e (.over (.tup (.econs (.int 1) (.econs (.int 2) (.econs (.int 3) .enil)))))) (.seq (.asg (.var 13) (.e (.bf .tuple (.econs (.comp (.tup (.econs (.int 0) (.econs (.op .add (.int 1) (.var 10)) .enil))) (.var 10) (.range1 (.var 11)) (.bl true) [10]) .enil))))
 (.seq (.asg (.var 14) (.e (.ite (.op .le (.var 11) (.var 4)) (.tup (.econs (.tup (.econs (.int 0) (.econs (.int 1) .enil))) (.econs (.bf .tuple (.econs (.comp (.tup (.econs (.int 0) (.econs (.op .add (.int 2) (.var 10)) .enil))) (.var 10) (.range1 (.var 11)) (.bl true) [10]) .enil)) .enil))) .non)))
 (.iff (.nott (.call "_law_same" (.econs (.call "step" (.econs (.call "Yard" (.econs (.tup (.econs (.var 12) .enil)) (.econs (.var 4) .enil))) (.econs (.tup (.econs (.tup (.econs (.int 0) (.econs (.int 0) .enil))) (.econs (.var 13) .enil))) (.econs (.str "e") .enil)))) (.econs (.var 14) .enil)))) (.ret (.e (.bl false))) .skip))))
 (.ret (.e (.bl true))))))) }
def f_law : Fd := { params := ["script"], caps := 0, slots := 2, inout := [], body :=
 (.ret (.e (.bf .all (.econs (.comp (.call "_law_right" (.econs (.call "_law_bowl" (.econs (.var 0) (.econs (.var 1) .enil))) .enil)) (.var 1) (.range1 (.bf .max2 (.econs (.int 1) (.econs (.bf .min2 (.econs (.bf .len (.econs (.var 0) .enil)) (.econs (.int 3) .enil))) .enil)))) (.bl true) [1]) .enil)))) }
def f_Yard___init__ : Fd := { params := ["self", "rows", "strength"], caps := 0, slots := 3, inout := [0], body :=
 (.seq (.expr (.e (.call "check_rows" (.econs (.var 1) .enil))))
 (.seq (.expr (.e (.call "check_strength" (.econs (.var 2) .enil))))
 (.seq (.setAttr 0 "rows" (.e (.var 1)))
 (.seq (.setAttr 0 "strength" (.e (.var 2)))
 (.seq (.setAttr 0 "parts" (.e (.tup (.econs (.var 1) (.econs (.var 2) .enil)))))
 (.seq (.setAttr 0 "floor" (.e (.call "cells_with" (.econs (.var 1) (.econs (.tup (.econs (.glob "FLOOR") (.econs (.glob "MARK") .enil))) .enil)))))
 (.seq (.setAttr 0 "marks" (.e (.call "cells_with" (.econs (.var 1) (.econs (.tup (.econs (.glob "MARK") .enil)) .enil)))))
 (.setAttr 0 "nexts" (.e (.call "nexts_of" (.econs (.attr (.var 0) "floor") .enil))))))))))) }
def f_Yard___eq__ : Fd := { params := ["self", "other"], caps := 0, slots := 2, inout := [], body :=
 (.ret (.e (.and (.isi (.var 1) [(.cls "Yard")]) (.op .eq (.attr (.var 0) "parts") (.attr (.var 1) "parts"))))) }
def tbl : List (Str × Ent) := [
((Str.ofString "is_whole"), .fd f_is_whole),
 ((Str.ofString "is_between"), .fd f_is_between),
 ((Str.ofString "is_up_to"), .fd f_is_up_to),
 ((Str.ofString "is_one_of"), .fd f_is_one_of),
 ((Str.ofString "is_tuple_of"), .fd f_is_tuple_of),
 ((Str.ofString "is_pair"), .fd f_is_pair),
 ((Str.ofString "are_below"), .fd f_are_below),
 ((Str.ofString "wrong_in"), .fd f_wrong_in),
 ((Str.ofString "are_all"), .fd f_are_all),
 ((Str.ofString "is_row"), .fd f_is_row),
 ((Str.ofString "is_row_beside"), .fd f_is_row_beside),
 ((Str.ofString "wrong_row"), .fd f_wrong_row),
 ((Str.ofString "cells_with"), .fd f_cells_with),
 ((Str.ofString "are_enough"), .fd f_are_enough),
 ((Str.ofString "around"), .fd f_around),
 ((Str.ofString "nexts_of"), .fd f_nexts_of),
 ((Str.ofString "is_cell"), .fd f_is_cell),
 ((Str.ofString "are_cells"), .fd f_are_cells),
 ((Str.ofString "are_cells.<locals>.is_right"), .fd f_are_cells__locals__is_right),
 ((Str.ofString "is_standing"), .fd f_is_standing),
 ((Str.ofString "is_way"), .fd f_is_way),
 ((Str.ofString "row_of_boxes"), .fd f_row_of_boxes),
 ((Str.ofString "moved"), .fd f_moved),
 ((Str.ofString "boxes_pushed"), .fd f_boxes_pushed),
 ((Str.ofString "stepped"), .fd f_stepped),
 ((Str.ofString "wrong_way"), .fd f_wrong_way),
 ((Str.ofString "gone"), .fd f_gone),
 ((Str.ofString "leads_to"), .fd f_leads_to),
 ((Str.ofString "check_rows"), .fd f_check_rows),
 ((Str.ofString "check_strength"), .fd f_check_strength),
 ((Str.ofString "check_yard"), .fd f_check_yard),
 ((Str.ofString "check_standing"), .fd f_check_standing),
 ((Str.ofString "check_both"), .fd f_check_both),
 ((Str.ofString "check_way"), .fd f_check_way),
 ((Str.ofString "check_walk"), .fd f_check_walk),
 ((Str.ofString "check_going"), .fd f_check_going),
 ((Str.ofString "step"), .fd f_step),
 ((Str.ofString "goes"), .fd f_goes),
 ((Str.ofString "pushes_of"), .fd f_pushes_of),
 ((Str.ofString "first_wrong"), .fd f_first_wrong),
 ((Str.ofString "_law_of"), .fd f__law_of),
 ((Str.ofString "_law_same"), .fd f__law_same),
 ((Str.ofString "_law_rows"), .fd f__law_rows),
 ((Str.ofString "_law_grid"), .fd f__law_grid),
 ((Str.ofString "_law_signs"), .fd f__law_signs),
 ((Str.ofString "_law_floor"), .fd f__law_floor),
 ((Str.ofString "_law_marks"), .fd f__law_marks),
 ((Str.ofString "_law_beyond"), .fd f__law_beyond),
 ((Str.ofString "_law_move"), .fd f__law_move),
 ((Str.ofString "_law_standing"), .fd f__law_standing),
 ((Str.ofString "_law_walk"), .fd f__law_walk),
 ((Str.ofString "_law_right"), .fd f__law_right),
 ((Str.ofString "law"), .fd f_law),
 ((Str.ofString "Yard"), .cls f_Yard___init__),
 ((Str.ofString "Yard.__eq__"), .fd f_Yard___eq__),
 ((Str.ofString "_law_bowl"), .bowl),
 ((Str.ofString "_law_draw"), .draw),
 ((Str.ofString "PushError"), (.exc [])),
 ((Str.ofString "InvalidNumber"), (.exc [])),
 ((Str.ofString "InvalidStanding"), (.exc [])),
 ((Str.ofString "InvalidWay"), (.exc [])),
 ((Str.ofString "NotAYard"), (.exc [])),
 ((Str.ofString "InvalidRows"), (.exc [])),
 ((Str.ofString "InvalidWalk"), (.exc []))]
def cons : List (Str × D) := [((Str.ofString "WALL"), ((.str "#") : D)),
 ((Str.ofString "FLOOR"), ((.str ".") : D)),
 ((Str.ofString "MARK"), ((.str "x") : D)),
 ((Str.ofString "SIGNS"), ((.tup [(.str "#"), (.str "."), (.str "x")]) : D)),
 ((Str.ofString "LEAST_ROWS"), ((.int 1) : D)),
 ((Str.ofString "MOST_ROWS"), ((.int 6) : D)),
 ((Str.ofString "LEAST_SIGNS"), ((.int 1) : D)),
 ((Str.ofString "MOST_SIGNS"), ((.int 6) : D)),
 ((Str.ofString "LEAST_FLOOR"), ((.int 2) : D)),
 ((Str.ofString "MOST_FLOOR"), ((.int 14) : D)),
 ((Str.ofString "LEAST_MARKS"), ((.int 1) : D)),
 ((Str.ofString "MOST_MARKS"), ((.int 3) : D)),
 ((Str.ofString "LEAST_STRENGTH"), ((.int 1) : D)),
 ((Str.ofString "MOST_STRENGTH"), ((.int 3) : D)),
 ((Str.ofString "WAYS"), ((.tup [(.str "e"), (.str "n"), (.str "s"), (.str "w")]) : D)),
 ((Str.ofString "MOST_WAYS"), ((.int 200) : D)),
 ((Str.ofString "is_row_beside"), (.fn (Str.ofString "is_row_beside") : D)),
 ((Str.ofString "gone"), (.fn (Str.ofString "gone") : D))]
def gdics : List (Str × (List D × List D)) := [((Str.ofString "AWAY"), ([(.str "e"), (.str "n"), (.str "s"), (.str "w")], [(.tup [(.int 0), (.int 1)]), (.tup [(.int (-1)), (.int 0)]), (.tup [(.int 1), (.int 0)]), (.tup [(.int 0), (.int (-1))])]))]
def attrL : List (Str × List Str) := [((Str.ofString "Yard"), [(Str.ofString "rows"), (Str.ofString "strength"), (Str.ofString "parts"), (Str.ofString "floor"), (Str.ofString "marks"), (Str.ofString "nexts"), (Str.ofString "__class__")])]
def glo : Glo := ⟨fun x => cons.lookup x, fun x => gdics.lookup x, fun cl x => match attrL.lookup cl with | some l => l.contains x | none => false⟩
def gam : Str → Option Ent := fun f => tbl.lookup f
end Pv

set_option autoImplicit false
set_option linter.all false
namespace Pv
open Pl
theorem bowl_ok (Φ : Phi) (M : Nat) (l : List D) (i : Int) (hl : (intsOf l).isSome = true) (hi : 0 ≤ i) : (callFd glo Φ M f__law_bowl [.lst l, .int i]).Ev fun r => ∃ i j l : Int, r.1 = .lst [.int i, .int j, .int l] := by
  refine sat_body rfl rfl rfl ?_
  show (exS glo Φ M f__law_bowl.body [some (.lst l), some (.int i), none, none, none]).Ev _
  unfold f__law_bowl
  refine sat_seq (sat_set ?_)
  simp [small]
  refine sat_seq (sat_forr ?_)
  simp
  refine forL_sat (fun _ ρ => ∃ (s : Int) (o : Option D), ρ = [some (.lst l), some (.int i), some (.int s), o, none]) (pre := []) ⟨_, none, rfl⟩ ?_ ?_
  · rintro p x s e ρ ⟨st, o, rfl⟩
    obtain ⟨j, rfl⟩ := intsOf_mem hl x (cut_mem (a := none) (b := some 9) (by rw [show cut l none (some 9) = p ++ x :: s from e]; simp))
    simp
    refine sat_set ?_
    simp [small]
  · rintro ρ ⟨s, o, rfl⟩
    refine sat_seq (sat_set ?_)
    have hget : ∃ j : Int, ((if i < (l.length : Int) then (subD (.lst l) (.int i)).bind (fun x => intF x) else R.ok (.int 0)) : R D) = .ok (.int j) := by
      by_cases h : i < (l.length : Int)
      · have hn : i.toNat < l.length := by omega
        obtain ⟨j, hj⟩ := intsOf_mem hl _ (List.getElem_mem hn)
        refine ⟨j, ?_⟩
        rw [if_pos h]
        have : subD (.lst l) (.int i) = .ok (.int j) := by
          have := subD_lst (l := l) (i := i.toNat) (d := .int j) (by rw [List.getElem?_eq_getElem hn, hj])
          rwa [Int.toNat_of_nonneg hi] at this
        rw [this]; rfl
      · exact ⟨0, by rw [if_neg h]⟩
    obtain ⟨j, hj⟩ := hget
    have e1 : evE glo Φ [some (.lst l), some (.int i), some (.int s), o, none] (.ite (.op .lt (.var 1) (.bf .len (.econs (.var 0) .enil))) (.bf .int (.econs (.sub (.var 0) (.var 1)) .enil)) (.int 0)) = .ok (.int j) := by
      rw [← hj]
      simp
    rw [e1]
    simp
    refine sat_seq (sat_set ?_)
    simp [small]
    refine sat_ret ?_
    simp [small]
    by_cases h : j < 0
    · simp [h]
    · simp [h]
      split <;> simp
end Pv

set_option autoImplicit false
set_option linter.all false
set_option maxRecDepth 10000
namespace Pv
open Pl
abbrev Cell := Nat × Nat
def cD (c : Cell) : D := .tup [.int c.1, .int c.2]
def grid (h w : Nat) : List Cell := (List.range h).flatMap fun i => (List.range w).map fun j => (i, j)
theorem grid_succ (h w : Nat) : grid (h + 1) w = grid h w ++ (List.range w).map fun j => (h, j) := by
  unfold grid; rw [List.range_succ, List.flatMap_append]; simp
theorem grid_len (h w : Nat) : (grid h w).length = h * w := by
  induction h with
  | zero => simp [grid]
  | succ h ih => rw [grid_succ, List.length_append, ih, List.length_map, List.length_range, Nat.succ_mul]
theorem mem_grid {h w : Nat} {c : Cell} : c ∈ grid h w ↔ c.1 < h ∧ c.2 < w := by
  unfold grid
  obtain ⟨i, j⟩ := c
  simp [List.mem_flatMap]
theorem grid_nodup (h w : Nat) : (grid h w).Nodup := by
  induction h with
  | zero => simp [grid]
  | succ h ih =>
    rw [grid_succ, List.nodup_append]
    refine ⟨ih, ?_, ?_⟩
    · rw [List.nodup_iff_pairwise_ne, List.pairwise_map]
      exact (List.nodup_range (n := w)).imp fun h e => h (by simpa using e)
    · intro a ha b hb e
      subst e
      rw [mem_grid] at ha
      simp at hb
      obtain ⟨j, _, rfl⟩ := hb
      exact absurd ha.1 (Nat.lt_irrefl _)
section
variable {N k : Nat}
theorem r_of : run gam glo N (k + 1) "_law_of" [] = fun ds => callFd glo (run gam glo N k) N f__law_of ds := by funext ds; exact run_fd rfl
theorem r_grid : run gam glo N (k + 1) "_law_grid" [] = fun ds => callFd glo (run gam glo N k) N f__law_grid ds := by funext ds; exact run_fd rfl
theorem grid_ok {h w : Nat} (hh : h ≤ 10) (hw : w ≤ 10) : (run gam glo N (k + 1) "_law_grid" [] [.int h, .int w]).Ev fun r => r = (.lst ((grid h w).map cD), []) := by
  rw [r_grid]
  refine sat_body rfl rfl rfl ?_
  refine sat_seq (sat_set ?_)
  simp
  refine sat_seq (sat_rangeI (n := h) (fun i ρ => ∃ o, ρ = [some (.int h), some (.int w), some (.lst ((grid i w).map cD)), o, none]) (by simp) (by omega) ⟨none, rfl⟩ ?_ ?_)
  · rintro i ρ hi ⟨o, rfl⟩
    simp
    refine sat_set ?_
    have e1 : evE glo (run gam glo N k) [some (.int h), some (.int w), some (.lst ((grid i w).map cD)), some (iD i), none] (.comp (.tup (.econs (.var 3) (.econs (.var 4) .enil))) (.var 4) (.range1 (.var 1)) (.bl true) [4]) = .ok (.lst ((List.range w).map fun j => cD (i, j))) := by
      refine comp_true (e := iD) (range_ok (by simp) (by omega)) ?_
      intro j hj
      simp [iD, cD]
    simp only [evE_op, evE_var, getV_succ, getV_zero, bind_ok, e1, opE_add, add_lst]
    have hb : ((grid i w).map cD).length + ((List.range w).map fun j => cD (i, j)).length ≤ big := by
      have : i * w ≤ 10 * 10 := Nat.mul_le_mul (by omega) hw
      simp [grid_len, big]; omega
    rw [if_pos hb]
    simp [grid_succ]
  · rintro ρ ⟨o, rfl⟩
    refine sat_retMv ?_
    simp
/-- one of some things -/
theorem of_tup {l : List D} (h0 : 0 < l.length) (h1 : l.length < 1073741824) : (run gam glo N (k + 2) "_law_of" [] [.bowl, .tup l]).Ev fun r => ∃ d ∈ l, r = (d, []) := by
  rw [r_of]
  refine sat_body rfl rfl rfl ?_
  refine sat_ret ?_
  simp
  refine sat_then (run_draw (Γ := gam) (G := glo) (N := N) (k := k) (f := "_law_draw") rfl (n := (l.length : Int)) (by omega) (by omega)) ?_
  rintro r ⟨i, hi, rfl⟩
  have hi : i < l.length := by omega
  simp [subD_tup (List.getElem?_eq_getElem hi)]
theorem of_lst {l : List D} (h0 : 0 < l.length) (h1 : l.length < 1073741824) : (run gam glo N (k + 2) "_law_of" [] [.bowl, .lst l]).Ev fun r => ∃ d ∈ l, r = (d, []) := by
  rw [r_of]
  refine sat_body rfl rfl rfl ?_
  refine sat_ret ?_
  simp
  refine sat_then (run_draw (Γ := gam) (G := glo) (N := N) (k := k) (f := "_law_draw") rfl (n := (l.length : Int)) (by omega) (by omega)) ?_
  rintro r ⟨i, hi, rfl⟩
  have hi : i < l.length := by omega
  simp [subD_lst (List.getElem?_eq_getElem hi)]
end
end Pv

set_option autoImplicit false
set_option linter.all false
set_option maxRecDepth 10000
namespace Pv
open Pl
/-! cells as data -/
theorem eqv_cD (a b : Cell) : D.eqv (cD a) (cD b) = decide (a = b) := by
  obtain ⟨i, j⟩ := a; obtain ⟨k, l⟩ := b
  show (((i : Int) == (k : Int)) && (((j : Int) == (l : Int)) && true)) = _
  rw [Bool.eq_iff_iff]
  simp [Prod.ext_iff]
  omega
theorem plain_cD (n : Nat) (a : Cell) : D.plain (n + 1) (cD a) = true := (rfl)
theorem plainL_map {α : Type} {n : Nat} {f : α → D} (h : ∀ a, D.plain n (f a) = true) : ∀ l : List α, D.plainL n (l.map f) = true
  | [] => by cases n <;> rfl
  | a :: l => by
    have e : D.plainL n (f a :: l.map f) = (D.plain n (f a) && D.plainL n (l.map f)) := by cases n <;> rfl
    rw [List.map_cons, e, h a, plainL_map h l]; rfl
theorem any_cD (c : Cell) (l : List Cell) : ((l.map cD).any fun z => D.eqv z (cD c)) = decide (c ∈ l) := by
  induction l with
  | nil => rfl
  | cons a l ih =>
    rw [List.map_cons, List.any_cons, ih, eqv_cD]
    rw [Bool.eq_iff_iff]
    simp only [Bool.or_eq_true, decide_eq_true_eq, List.mem_cons]
    exact or_congr_left ⟨Eq.symm, Eq.symm⟩
theorem in_lst (c : Cell) (l : List Cell) : inD (cD c) (.lst (l.map cD)) = .ok (decide (c ∈ l)) := by
  show (if D.plain 32 (cD c) && D.plainL 32 (l.map cD) then R.ok ((l.map cD).any fun z => D.eqv z (cD c)) else .bad) = _
  rw [plain_cD 31, plainL_map (plain_cD 31), any_cD]; rfl
theorem ne_nil {l : List D} (h : D.plainL 31 l = true) : neD (.lst l) (.lst []) = .ok (.bl (!l.isEmpty)) := by
  show (if D.plainL 31 l && true then R.ok (D.bl (!D.eqv (.lst l) (.lst []))) else .bad) = _
  rw [h]
  cases l <;> rfl
theorem eq_nil {l : List D} (h : D.plainL 31 l = true) : eqD (.lst l) (.lst []) = .ok (.bl l.isEmpty) := by
  show (if D.plainL 31 l && true then R.ok (D.bl (D.eqv (.lst l) (.lst []))) else .bad) = _
  rw [h]
  cases l <;> rfl
/-! a grid is in one piece -/
def adj (e c : Cell) : Bool := (if (e.1 : Int) - c.1 < 0 then -((e.1 : Int) - c.1) else (e.1 : Int) - c.1) + (if (e.2 : Int) - c.2 < 0 then -((e.2 : Int) - c.2) else (e.2 : Int) - c.2) == 1
theorem line {S : Nat → Prop} {n b : Nat} (hb : b < n) (h0 : S b) (up : ∀ i, i + 1 < n → S i → S (i + 1)) (dn : ∀ i, i + 1 < n → S (i + 1) → S i) : ∀ j, j < n → S j := by
  have h1 : ∀ k, b + k < n → S (b + k) := fun k => by
    induction k with
    | zero => exact fun _ => h0
    | succ k ih => exact fun h => up (b + k) h (ih (by omega))
  have h2 : ∀ k, k ≤ b → S (b - k) := fun k => by
    induction k with
    | zero => exact fun _ => h0
    | succ k ih =>
      intro h
      refine dn (b - (k + 1)) (by omega) ?_
      have e : b - (k + 1) + 1 = b - k := by omega
      rw [e]; exact ih (by omega)
  intro j hj
  by_cases h : b ≤ j
  · have := h1 (j - b) (by omega); rwa [show b + (j - b) = j by omega] at this
  · have := h2 (b - j) (by omega); rwa [show b - (b - j) = j by omega] at this
theorem piece {h w : Nat} {fl : List Cell} {f g : Cell} (hf : f ∈ fl) (hs : ∀ c ∈ fl, c ∈ grid h w) (hg : g ∈ grid h w) (hn : g ∉ fl) : ∃ c ∈ grid h w, c ∉ fl ∧ ∃ e ∈ fl, adj e c = true := by
  apply Classical.byContradiction
  intro no
  have cl : ∀ e ∈ fl, ∀ c, c.1 < h → c.2 < w → adj e c = true → c ∈ fl := fun e he c h1 h2 ha => by
    apply Classical.byContradiction
    exact fun z => no ⟨c, mem_grid.mpr ⟨h1, h2⟩, z, e, he, ha⟩
  obtain ⟨f1, f2⟩ := mem_grid.mp (hs f hf)
  obtain ⟨g1, g2⟩ := mem_grid.mp hg
  have r1 : ∀ j, j < w → (f.1, j) ∈ fl := line (S := fun j => (f.1, j) ∈ fl) f2 hf (fun i hi hS => cl _ hS _ f1 hi (by unfold adj; simp only [beq_iff_eq]; omega)) fun i hi hS => cl _ hS _ f1 (by omega) (by unfold adj; simp only [beq_iff_eq]; omega)
  have r2 : ∀ i, i < h → (i, g.2) ∈ fl := line (S := fun i => (i, g.2) ∈ fl) f1 (r1 g.2 g2) (fun i hi hS => cl _ hS _ hi g2 (by unfold adj; simp only [beq_iff_eq]; omega)) fun i hi hS => cl _ hS _ (by omega) g2 (by unfold adj; simp only [beq_iff_eq]; omega)
  exact hn (r2 g.1 g1)
end Pv

set_option autoImplicit false
set_option linter.all false
set_option maxRecDepth 10000
namespace Pv
open Pl
def rowsOf (h w : Nat) (fl gs : List Cell) : List (List Nat) := (List.range h).map fun i => (List.range w).map fun j => if (i, j) ∈ gs then 120 else if (i, j) ∈ fl then 46 else 35
def rowsD (rows : List (List Nat)) : D := .tup (rows.map fun l => .str (strOf l))
structure Drawn (h w : Nat) (fl gs : List Cell) (m q : Nat) : Prop where
  h1 : 1 ≤ h
  h4 : h ≤ 4
  w3 : 3 ≤ w
  w5 : w ≤ 5
  nf : fl.Nodup
  ng : gs.Nodup
  fg : ∀ c ∈ fl, c ∈ grid h w
  gf : ∀ c ∈ gs, c ∈ fl
  f3 : 3 ≤ fl.length
  fm : fl.length ≤ m
  g1 : 1 ≤ gs.length
  gq : gs.length ≤ q
  lt : gs.length < fl.length
theorem eraseIdx_map {α β : Type} (f : α → β) : ∀ (l : List α) (k : Nat), (l.map f).eraseIdx k = (l.eraseIdx k).map f
  | [], k => by simp
  | a :: l, 0 => rfl
  | a :: l, k + 1 => by simp [eraseIdx_map f l k]
theorem erase_perm {α : Type} : ∀ (l : List α) (k : Nat) (h : k < l.length), (l[k] :: l.eraseIdx k).Perm l
  | a :: l, 0, _ => .refl _
  | a :: l, k + 1, h => by
    have := erase_perm l k (by simpa using h)
    simp only [List.getElem_cons_succ, List.eraseIdx_cons_succ]
    exact (List.Perm.swap a (l[k]'(by simpa using h)) (l.eraseIdx k)).trans (this.cons a)
def lenAt (ρ : Env) (i : Nat) : Nat := match ρ[i]? with
  | some (some (.lst l)) => l.length
  | _ => 0
structure Fl1 (h w many : Nat) (fl : List Cell) : Prop where
  nd : fl.Nodup
  sub : ∀ c ∈ fl, c ∈ grid h w
  l1 : 1 ≤ fl.length
  lm : fl.length ≤ many
  lg : fl.length ≤ h * w
def cand (h w : Nat) (fl : List Cell) : List Cell := (grid h w).filter fun c => !decide (c ∈ fl) && !((fl.filter fun e => adj e c).isEmpty)
def rest (h w : Nat) (fl : List Cell) : List Cell := (grid h w).filter fun c => !decide (c ∈ fl)
theorem nodup_sub_len {a b : List Cell} (ha : a.Nodup) (h : ∀ c ∈ a, c ∈ b) : a.length ≤ b.length := by
  induction a generalizing b with
  | nil => simp
  | cons x a ih =>
    have hx : x ∈ b := h x (by simp)
    have := ih (b := b.erase x) (List.nodup_cons.mp ha).2 (fun c hc => by
      have hne : c ≠ x := fun e => by subst e; exact (List.nodup_cons.mp ha).1 hc
      rw [List.mem_erase_of_ne hne]
      exact h c (by simp [hc]))
    rw [List.length_erase_of_mem hx] at this
    have := List.length_pos_of_mem hx
    simp only [List.length_cons]; omega
theorem Fl1.more {h w many : Nat} {fl : List Cell} (F : Fl1 h w many fl) (hlt : fl.length < h * w) : ∃ c ∈ grid h w, c ∉ fl := by
  apply Classical.byContradiction
  intro no
  have : ∀ c ∈ grid h w, c ∈ fl := fun c hc => Classical.byContradiction fun z => no ⟨c, hc, z⟩
  have := nodup_sub_len (grid_nodup h w) this
  rw [grid_len] at this
  omega
theorem Fl1.cand {h w many : Nat} {fl : List Cell} (F : Fl1 h w many fl) (hlt : fl.length < h * w) : 0 < (cand h w fl).length := by
  obtain ⟨g, hg, hn⟩ := F.more hlt
  have h1 := F.l1
  obtain ⟨f, hf⟩ := List.exists_mem_of_length_pos (l := fl) (by omega)
  obtain ⟨c, hc, hcn, e, he, ha⟩ := piece hf F.sub hg hn
  refine List.length_pos_of_mem (a := c) ?_
  unfold Pv.cand
  rw [List.mem_filter]
  refine ⟨hc, ?_⟩
  have : e ∈ fl.filter fun e => adj e c := List.mem_filter.mpr ⟨he, ha⟩
  cases hq : fl.filter (fun e => adj e c) with
  | nil => rw [hq] at this; simp at this
  | cons _ _ => simp [hcn]
theorem Fl1.rest {h w many : Nat} {fl : List Cell} (F : Fl1 h w many fl) (hlt : fl.length < h * w) : 0 < (rest h w fl).length := by
  obtain ⟨g, hg, hn⟩ := F.more hlt
  refine List.length_pos_of_mem (a := g) ?_
  unfold Pv.rest
  rw [List.mem_filter]
  exact ⟨hg, by simp [hn]⟩
theorem Fl1.add {h w many : Nat} {fl : List Cell} {c : Cell} (F : Fl1 h w many fl) (hc : c ∈ grid h w) (hn : c ∉ fl) (h1 : fl.length < many) (h2 : fl.length < h * w) : Fl1 h w many (fl ++ [c]) where
  nd := by
    rw [List.nodup_append]
    exact ⟨F.nd, by simp, fun a ha b hb e => by simp at hb; subst hb; subst e; exact hn ha⟩
  sub := fun d hd => by
    rcases List.mem_append.mp hd with hd | hd
    · exact F.sub d hd
    · simp at hd; subst hd; exact hc
  l1 := by simp
  lm := by simp; omega
  lg := by simp; omega
/-- sorted keeps the cells -/
theorem sort_cells (fl : List Cell) : ∃ ls : List Cell, ls.Perm fl ∧ sortF (.lst (fl.map cD)) = .ok (.lst (ls.map cD)) := by
  have hp : (sortD (fl.map cD)).Perm (fl.map cD) := List.mergeSort_perm _ _
  have ex : ∀ l : List D, (∀ d ∈ l, ∃ c : Cell, d = cD c) → ∃ ls : List Cell, l = ls.map cD := fun l => by
    induction l with
    | nil => exact fun _ => ⟨[], rfl⟩
    | cons d l ih =>
      intro h
      obtain ⟨c, rfl⟩ := h d (by simp)
      obtain ⟨ls, rfl⟩ := ih fun d hd => h d (by simp [hd])
      exact ⟨c :: ls, rfl⟩
  obtain ⟨ls, hls⟩ := ex _ fun d hd => by
    obtain ⟨c, _, rfl⟩ := List.mem_map.mp (hp.subset hd)
    exact ⟨c, rfl⟩
  have un : ∃ u : D → Cell, ∀ c, u (cD c) = c := ⟨fun d => match d with | .tup [.int i, .int j] => (i.toNat, j.toNat) | _ => (0, 0), fun c => by simp [cD]⟩
  obtain ⟨u, hu⟩ := un
  refine ⟨ls, ?_, ?_⟩
  · rw [hls] at hp
    have := hp.map u
    simpa [List.map_map, Function.comp_def, hu] using this
  · rw [← hls]
    have h1 : comparable (fl.map cD) = true := by
      unfold comparable
      simp [cD, D.alike, D.alikeL]
    have h2 : sortable (fl.map cD) = true := by
      unfold sortable
      simp [cD, isTup1]
    show (if comparable (fl.map cD) && sortable (fl.map cD) && D.plainL 32 (fl.map cD) then R.ok (D.lst (sortD (fl.map cD))) else .bad) = _
    rw [h1, h2, plainL_map (plain_cD 31)]
    rfl
section
variable {N k : Nat}
theorem r_rows : run gam glo N (k + 1) "_law_rows" [] = fun ds => callFd glo (run gam glo N k) N f__law_rows ds := by funext ds; exact run_fd rfl
theorem draw_ok {n : Int} (hn : 0 < n) (hn2 : n < 1073741824) : (run gam glo N (k + 1) "_law_draw" [] [.bowl, .int n]).Ev fun r => ∃ i : Nat, (i : Int) < n ∧ r = (.int i, []) := run_draw rfl hn hn2
theorem rows_ok {m q : Nat} (hm : 3 ≤ m) (hm2 : m ≤ 20) (hq : 1 ≤ q) (hq3 : q ≤ 3) (hN : 200 < N) : (run gam glo N (k + 3) "_law_rows" [] [.bowl, .int m, .int q]).Ev fun r => ∃ h w fl gs, Drawn h w fl gs m q ∧ r = (rowsD (rowsOf h w fl gs), []) := by
  rw [r_rows]
  refine sat_bodyE [some .bowl, some (.int m), some (.int q), none, none, none, none, none, none, none, none, none, none, none, none, none, none] rfl rfl rfl rfl ?_
  refine sat_seq (sat_par2 ?_)
  refine sat_call (xs := [.bowl, .tup [.int 1, .int 2, .int 2, .int 3, .int 3, .int 4]]) (by simp) (of_tup (by simp) (by simp)) ?_
  rintro _ ⟨d, hd, rfl⟩
  obtain ⟨h, h1, h4, rfl⟩ : ∃ h : Nat, 1 ≤ h ∧ h ≤ 4 ∧ d = .int h := by
    simp at hd
    rcases hd with rfl | rfl | rfl | rfl
    · exact ⟨1, by omega, by omega, rfl⟩
    · exact ⟨2, by omega, by omega, rfl⟩
    · exact ⟨3, by omega, by omega, rfl⟩
    · exact ⟨4, by omega, by omega, rfl⟩
  clear hd
  refine sat_call (xs := [.bowl, .tup [.int 3, .int 3, .int 3, .int 4, .int 4, .int 5]]) (by simp) (of_tup (by simp) (by simp)) ?_
  rintro _ ⟨d, hd, rfl⟩
  obtain ⟨w, w3, w5, rfl⟩ : ∃ w : Nat, 3 ≤ w ∧ w ≤ 5 ∧ d = .int w := by
    simp at hd
    rcases hd with rfl | rfl | rfl
    · exact ⟨3, by omega, by omega, rfl⟩
    · exact ⟨4, by omega, by omega, rfl⟩
    · exact ⟨5, by omega, by omega, rfl⟩
  clear hd
  simp
  refine sat_seq (sat_par2 ?_)
  refine sat_call (xs := [.int h, .int w]) (by simp) (grid_ok (by omega) (by omega)) ?_
  rintro _ rfl
  refine sat_op ?_
  simp
  refine sat_then (draw_ok (by omega) (by omega)) ?_
  rintro _ ⟨d, hd, rfl⟩
  simp
  obtain ⟨many, hmany, m3, mm⟩ : ∃ many : Nat, (3 : Int) + d = many ∧ 3 ≤ many ∧ many ≤ m := ⟨3 + d, by omega, by omega, by omega⟩
  rw [hmany]
  clear hmany hd
  refine sat_seq (sat_par2 (sat_lst1 ?_))
  have gl : 0 < ((grid h w).map cD).length ∧ ((grid h w).map cD).length < 1073741824 := by
    rw [List.length_map, grid_len]
    have : h * w ≤ 4 * 5 := Nat.mul_le_mul h4 w5
    have : 1 * 3 ≤ h * w := Nat.mul_le_mul h1 w3
    omega
  refine sat_call (xs := [.bowl, .lst ((grid h w).map cD)]) (by simp) (of_lst gl.1 gl.2) ?_
  rintro _ ⟨d, hd, rfl⟩
  obtain ⟨c0, hc0, rfl⟩ := List.mem_map.mp hd
  clear hd
  refine sat_op ?_
  simp
  refine sat_then (draw_ok (by omega) (by omega)) ?_
  rintro _ ⟨d, _, rfl⟩
  simp
  generalize ((d : Int) == 0) = loose
  have hg20 : h * w ≤ 20 := Nat.le_trans (Nat.mul_le_mul h4 w5) (by omega)
  have hg3 : 3 ≤ h * w := Nat.le_trans (show 3 ≤ 1 * 3 by omega) (Nat.mul_le_mul h1 w3)
  refine sat_seq (sat_whil (fun ρ => ∃ fl o, ρ = [some .bowl, some (.int m), some (.int q), some (.int h), some (.int w), some (.lst ((grid h w).map cD)), some (.int many), some (.lst (fl.map cD)), some (.bl loose), o, none, none, none, none, none, none, none] ∧ Fl1 h w many fl) (fun ρ => 100 - lenAt ρ 7) ⟨[c0], none, rfl, ⟨by simp, by simpa using hc0, by simp, by simp; omega, by simp; omega⟩⟩ (by omega) ?_)
  rintro ρ ⟨fl, o, rfl, F⟩
  have et : (evE glo (run gam glo N (k + 2)) [some .bowl, some (.int m), some (.int q), some (.int h), some (.int w), some (.lst ((grid h w).map cD)), some (.int many), some (.lst (fl.map cD)), some (.bl loose), o, none, none, none, none, none, none, none] (.op .lt (.bf .len (.econs (.var 7) .enil)) (.bf .min2 (.econs (.var 6) (.econs (.bf .len (.econs (.var 5) .enil)) .enil))))).bind D.truthy = .ok (decide (fl.length < min many (h * w))) := by
    simp [grid_len]
    split <;> omega
  rw [et]
  refine ev ?_
  by_cases hlt : fl.length < min many (h * w)
  · rw [if_pos (by simpa using hlt)]
    have hm1 : fl.length < many := by omega
    have hm2 : fl.length < h * w := by omega
    have ec : evE glo (run gam glo N (k + 2)) [some .bowl, some (.int m), some (.int q), some (.int h), some (.int w), some (.lst ((grid h w).map cD)), some (.int many), some (.lst (fl.map cD)), some (.bl loose), o, none, none, none, none, none, none, none] (.comp (.var 10) (.var 10) (.over (.var 5)) (.and (.op .notin (.var 10) (.var 7)) (.op .ne (.comp (.var 11) (.var 11) (.over (.var 7)) (.op .eq (.op .add (.bf .abs (.econs (.op .sub (.sub (.var 11) (.int 0)) (.sub (.var 10) (.int 0))) .enil)) (.bf .abs (.econs (.op .sub (.sub (.var 11) (.int 1)) (.sub (.var 10) (.int 1))) .enil))) (.int 1)) [11]) (.lst .enil))) [10]) = .ok (.lst ((cand h w fl).map cD)) := by
      refine comp_if (e := cD) (by simp) ?_
      intro c hc
      refine ⟨[some .bowl, some (.int m), some (.int q), some (.int h), some (.int w), some (.lst ((grid h w).map cD)), some (.int many), some (.lst (fl.map cD)), some (.bl loose), o, some (cD c), none, none, none, none, none, none], by simp, ?_, by simp⟩
      have ei : evE glo (run gam glo N (k + 2)) [some .bowl, some (.int m), some (.int q), some (.int h), some (.int w), some (.lst ((grid h w).map cD)), some (.int many), some (.lst (fl.map cD)), some (.bl loose), o, some (cD c), none, none, none, none, none, none] (.comp (.var 11) (.var 11) (.over (.var 7)) (.op .eq (.op .add (.bf .abs (.econs (.op .sub (.sub (.var 11) (.int 0)) (.sub (.var 10) (.int 0))) .enil)) (.bf .abs (.econs (.op .sub (.sub (.var 11) (.int 1)) (.sub (.var 10) (.int 1))) .enil))) (.int 1)) [11]) = .ok (.lst ((fl.filter fun e => adj e c).map cD)) := by
        refine comp_if (e := cD) (by simp) ?_
        intro e he
        refine ⟨[some .bowl, some (.int m), some (.int q), some (.int h), some (.int w), some (.lst ((grid h w).map cD)), some (.int many), some (.lst (fl.map cD)), some (.bl loose), o, some (cD c), some (cD e), none, none, none, none, none], by simp, ?_, by simp⟩
        simp [cD, adj]
      rw [evE_and, evE_op, evE_op, ei]
      simp only [evE_var, getV_succ, getV_zero, bind_ok, opE_notin, in_lst, truthy_bl, evE_lst, evL_nil, opE_ne, ne_nil (plainL_map (plain_cD 30) _), List.isEmpty_map]
      by_cases z : c ∈ fl
      · simp [z]
      · simp [z]
    refine sat_seq (sat_set ?_)
    rw [ec]
    simp
    have er : evE glo (run gam glo N (k + 2)) [some .bowl, some (.int m), some (.int q), some (.int h), some (.int w), some (.lst ((grid h w).map cD)), some (.int many), some (.lst (fl.map cD)), some (.bl loose), some (.lst ((cand h w fl).map cD)), none, none, none, none, none, none, none] (.comp (.var 10) (.var 10) (.over (.var 5)) (.op .notin (.var 10) (.var 7)) [10]) = .ok (.lst ((rest h w fl).map cD)) := by
      refine comp_if (e := cD) (by simp) ?_
      intro c hc
      refine ⟨[some .bowl, some (.int m), some (.int q), some (.int h), some (.int w), some (.lst ((grid h w).map cD)), some (.int many), some (.lst (fl.map cD)), some (.bl loose), some (.lst ((cand h w fl).map cD)), some (cD c), none, none, none, none, none, none], by simp, ?_, by simp⟩
      simp [in_lst]
    have hcd : ∃ cl : List Cell, 0 < cl.length ∧ cl.length ≤ 20 ∧ (∀ c ∈ cl, c ∈ grid h w ∧ c ∉ fl) ∧ evE glo (run gam glo N (k + 2)) [some .bowl, some (.int m), some (.int q), some (.int h), some (.int w), some (.lst ((grid h w).map cD)), some (.int many), some (.lst (fl.map cD)), some (.bl loose), some (.lst ((cand h w fl).map cD)), none, none, none, none, none, none, none] (.ite (.var 8) (.comp (.var 10) (.var 10) (.over (.var 5)) (.op .notin (.var 10) (.var 7)) [10]) (.var 9)) = .ok (.lst (cl.map cD)) := by
      have l20 : ∀ p : Cell → Bool, ((grid h w).filter p).length ≤ 20 := fun p => Nat.le_trans (List.length_filter_le _ _) (by rw [grid_len]; exact hg20)
      cases loose with
      | true =>
        refine ⟨rest h w fl, F.rest hm2, l20 _, fun c hc => ?_, ?_⟩
        · unfold Pv.rest at hc
          rw [List.mem_filter] at hc
          exact ⟨hc.1, by simpa using hc.2⟩
        · rw [evE_iteP]
          simp only [evE_var, getV_succ, getV_zero, bind_ok, truthy_bl, if_true]
          exact er
      | false =>
        refine ⟨cand h w fl, F.cand hm2, l20 _, fun c hc => ?_, ?_⟩
        · unfold Pv.cand at hc
          rw [List.mem_filter, Bool.and_eq_true] at hc
          exact ⟨hc.1, by simpa using hc.2.1⟩
        · rw [evE_iteP]
          simp
    obtain ⟨cl, c1, c2, c3, e4⟩ := hcd
    refine sat_mt (sat_call (xs := [.bowl, .lst (cl.map cD)]) ?_ (of_lst (by simpa using c1) (by rw [List.length_map]; omega)) ?_)
    · rw [evL_cons, evL_cons, e4]
      simp
    rintro _ ⟨d, hd, rfl⟩
    obtain ⟨c, hc, rfl⟩ := List.mem_map.mp hd
    simp
    have hbig : fl.length < big := by unfold big; omega
    rw [if_pos hbig]
    refine ev ⟨⟨fl ++ [c], by simp, F.add (c3 c hc).1 (c3 c hc).2 hm1 hm2⟩, ?_⟩
    simp [lenAt]
    omega
  · rw [if_neg (by simpa using hlt)]
    have hlen : fl.length = min many (h * w) := by have := F.lm; have := F.lg; omega
    refine sat_seq (sat_par2 ?_)
    obtain ⟨ls, hls, es⟩ := sort_cells fl
    rw [show evE glo (run gam glo N (k + 2)) [some .bowl, some (.int m), some (.int q), some (.int h), some (.int w), some (.lst ((grid h w).map cD)), some (.int many), some (.lst (fl.map cD)), some (.bl loose), o, none, none, none, none, none, none, none] (.bf .sorted (.econs (.var 7) .enil)) = .ok (.lst (ls.map cD)) by simp [es]]
    simp
    refine sat_seq (sat_rangeE (sat_op ?_))
    simp
    rw [show (if (fl.length : Int) - 1 < (q : Int) then (fl.length : Int) - 1 else (q : Int)) = ((min q (fl.length - 1) : Nat) : Int) by split <;> omega]
    refine sat_then (draw_ok (by omega) (by omega)) ?_
    rintro _ ⟨d, hd, rfl⟩
    simp
    refine ⟨1 + d, by omega, by omega, ?_⟩
    refine forL_range (fun i ρ => ∃ ls gs o2, ρ = [some .bowl, some (.int m), some (.int q), some (.int h), some (.int w), some (.lst ((grid h w).map cD)), some (.int many), some (.lst (fl.map cD)), some (.bl loose), o, none, none, some (.lst (ls.map cD)), some (.lst (gs.map cD)), o2, none, none] ∧ (ls ++ gs).Perm fl ∧ gs.length = i) ⟨ls, [], none, by simp, by simpa using hls, rfl⟩ ?_ ?_
    · rintro i ρ hi ⟨ls, gs, o2, rfl, hp, hg⟩
      simp only [asgT_var, bind_ok, setV_succ, setV_zero]
      have hl := hp.length_eq
      rw [List.length_append] at hl
      refine sat_popApp (sat_call (xs := [.bowl, .int ls.length]) (by simp) (draw_ok (by omega) (by omega)) ?_)
      rintro _ ⟨j, hj, rfl⟩
      have hjl : j < ls.length := by omega
      refine ⟨j, ls.map cD, gs.map cD, cD ls[j], rfl, by simp, by simp [hjl], by omega, by simp, by rw [List.length_map]; unfold big; omega, ?_⟩
      refine ⟨ls.eraseIdx j, gs ++ [ls[j]], some (iD i), ?_, ?_, by simp [hg]⟩
      · simp [eraseIdx_map]
      · refine List.Perm.trans ?_ hp
        rw [← List.append_assoc]
        refine List.Perm.trans List.perm_append_comm ?_
        rw [← List.append_assoc]
        refine List.Perm.append_right gs ?_
        have := erase_perm ls j hjl
        simpa using this
    · rintro ρ ⟨ls, gs, o2, rfl, hp, hg⟩
      refine sat_ret ?_
      have ei : ∀ i, evE glo (run gam glo N (k + 2)) [some .bowl, some (.int m), some (.int q), some (.int h), some (.int w), some (.lst ((grid h w).map cD)), some (.int many), some (.lst (fl.map cD)), some (.bl loose), o, none, none, some (.lst (ls.map cD)), some (.lst (gs.map cD)), o2, some (iD i), none] (.comp (.ite (.op .inn (.tup (.econs (.var 15) (.econs (.var 16) .enil))) (.var 13)) (.str "x") (.ite (.op .inn (.tup (.econs (.var 15) (.econs (.var 16) .enil))) (.var 7)) (.str ".") (.str "#"))) (.var 16) (.range1 (.var 4)) (.bl true) [16]) = .ok (.lst ((List.range w).map fun j => D.str (strOf [if (i, j) ∈ gs then 120 else if (i, j) ∈ fl then 46 else 35]))) := fun i => by
        refine comp_true (e := iD) (range_ok (by simp) (by omega)) ?_
        intro j hj
        have en : ∀ ls : List Cell, inD (.tup [iD i, iD j]) (.lst (ls.map cD)) = .ok (decide ((i, j) ∈ ls)) := fun ls => in_lst (i, j) ls
        simp [en]
        by_cases z1 : (i, j) ∈ gs
        · simp [z1]; rfl
        · by_cases z2 : (i, j) ∈ fl
          · simp [z1, z2]; rfl
          · simp [z1, z2]; rfl
      have eo : evE glo (run gam glo N (k + 2)) [some .bowl, some (.int m), some (.int q), some (.int h), some (.int w), some (.lst ((grid h w).map cD)), some (.int many), some (.lst (fl.map cD)), some (.bl loose), o, none, none, some (.lst (ls.map cD)), some (.lst (gs.map cD)), o2, none, none] (.comp (.mf .join (.str "") (.econs (.comp (.ite (.op .inn (.tup (.econs (.var 15) (.econs (.var 16) .enil))) (.var 13)) (.str "x") (.ite (.op .inn (.tup (.econs (.var 15) (.econs (.var 16) .enil))) (.var 7)) (.str ".") (.str "#"))) (.var 16) (.range1 (.var 4)) (.bl true) [16]) .enil)) (.var 15) (.range1 (.var 3)) (.bl true) [15]) = .ok (.lst ((List.range h).map fun i => D.str (strOf ((List.range w).map fun j => if (i, j) ∈ gs then 120 else if (i, j) ∈ fl then 46 else 35)))) := by
        refine comp_true (e := iD) (range_ok (by simp) (by omega)) ?_
        intro i hi
        have e6 := join_chars (s := "") (cs := (List.range w).map fun j => if (i, j) ∈ gs then 120 else if (i, j) ∈ fl then 46 else 35) rfl rfl (by simp; omega)
        rw [List.map_map] at e6
        simp [ei i]
        exact e6
      rw [evE_bf, evL_cons, eo]
      simp
      refine ⟨h, w, fl, gs, ?_, by simp [rowsD, rowsOf]⟩
      have hgf : ∀ c ∈ gs, c ∈ fl := fun c hc => hp.subset (by simp [hc])
      have hnd := (hp.nodup_iff.mpr F.nd)
      rw [List.nodup_append] at hnd
      exact ⟨h1, h4, w3, w5, F.nd, hnd.2.1, F.sub, hgf, by omega, by have := F.lm; omega, by omega, by omega, by omega⟩
end
end Pv

set_option autoImplicit false
set_option linter.all false
set_option maxRecDepth 10000
namespace Pv
open Pl
open PySem (Str)
/-! signs and cells -/
def cS (c : Nat) : D := .str (strOf [c])
def lS (l : List Nat) : D := .str (strOf l)
def sgn (R : List (List Nat)) (c : Cell) : Nat := (R.getD c.1 []).getD c.2 0
def cells (R : List (List Nat)) (w : Nat) (S : List Nat) : List Cell := (grid R.length w).filter fun c => decide (sgn R c ∈ S)
def upTo (R : List (List Nat)) (w : Nat) (S : List Nat) (i : Nat) : List Cell := (grid i w).filter fun c => decide (sgn R c ∈ S)
theorem upTo_le (R : List (List Nat)) (w : Nat) (S : List Nat) (i : Nat) : (upTo R w S i).length ≤ i * w := by
  unfold upTo; exact Nat.le_trans (List.length_filter_le _ _) (by rw [grid_len]; exact Nat.le_refl _)
def rowTo (R : List (List Nat)) (S : List Nat) (i j : Nat) : List Cell := ((List.range j).map fun j => (i, j)).filter fun c => decide (sgn R c ∈ S)
theorem rowTo_succ (R : List (List Nat)) (S : List Nat) (i j : Nat) : rowTo R S i (j + 1) = rowTo R S i j ++ if sgn R (i, j) ∈ S then [(i, j)] else [] := by
  unfold rowTo
  rw [List.range_succ, List.map_append, List.filter_append]
  congr 1
  by_cases h : sgn R (i, j) ∈ S <;> simp [h]
theorem rowTo_le (R : List (List Nat)) (S : List Nat) (i j : Nat) : (rowTo R S i j).length ≤ j := by
  unfold rowTo; exact Nat.le_trans (List.length_filter_le _ _) (by simp)
theorem upTo_succ (R : List (List Nat)) (w : Nat) (S : List Nat) (i : Nat) : upTo R w S (i + 1) = upTo R w S i ++ rowTo R S i w := by
  unfold upTo rowTo; rw [grid_succ, List.filter_append]
theorem strOf_eq {a b : Nat} : (strOf [a] == strOf [b]) = decide (a = b) := by
  rw [Bool.eq_iff_iff, beq_iff_eq, decide_eq_true_eq]
  constructor
  · intro h
    have := congrArg (fun s : Str => s.cps.toList) h
    simpa [strOf] using this
  · rintro rfl; rfl
theorem eqv_cS (a b : Nat) : D.eqv (cS a) (cS b) = decide (a = b) := strOf_eq
theorem in_signs (c : Nat) (S : List Nat) : inD (cS c) (.tup (S.map cS)) = .ok (decide (c ∈ S)) := by
  show (if D.plain 32 (cS c) && D.plainL 32 (S.map cS) then R.ok ((S.map cS).any fun z => D.eqv z (cS c)) else .bad) = _
  have h1 : D.plain 32 (cS c) = true := (rfl)
  rw [h1, plainL_map (fun _ => (rfl))]
  have : ((S.map cS).any fun z => D.eqv z (cS c)) = decide (c ∈ S) := by
    induction S with
    | nil => rfl
    | cons a l ih =>
      rw [List.map_cons, List.any_cons, ih, eqv_cS, Bool.eq_iff_iff]
      simp only [Bool.or_eq_true, decide_eq_true_eq, List.mem_cons]
      exact or_congr_left ⟨Eq.symm, Eq.symm⟩
  rw [this]
  rfl
theorem chars_lS (l : List Nat) : chars (strOf l) = l.map cS := by
  unfold chars strOf
  simp [cS, strOf]
theorem len_lS (l : List Nat) : (strOf l).length = l.length := by
  show (strOf l).cps.size = l.length
  simp [strOf]
/-- rows of a yard, w signs wide -/
structure Good (R : List (List Nat)) (w : Nat) : Prop where
  r1 : 1 ≤ R.length
  r6 : R.length ≤ 6
  w1 : 1 ≤ w
  w6 : w ≤ 6
  row : ∀ l ∈ R, l.length = w ∧ ∀ c ∈ l, c = 35 ∨ c = 46 ∨ c = 120
  f2 : 2 ≤ (cells R w [46, 120]).length
  f14 : (cells R w [46, 120]).length ≤ 14
  m1 : 1 ≤ (cells R w [120]).length
  m3 : (cells R w [120]).length ≤ 3
  lt : (cells R w [120]).length < (cells R w [46, 120]).length
theorem Good.get {R : List (List Nat)} {w i : Nat} (g : Good R w) (h : i < R.length) : (R.getD i []).length = w ∧ ∀ c ∈ R.getD i [], c = 35 ∨ c = 46 ∨ c = 120 := by
  have : R.getD i [] = R[i] := by rw [List.getD_eq_getElem?_getD, List.getElem?_eq_getElem h]; rfl
  rw [this]
  exact g.row _ (List.getElem_mem h)
section
variable {N k : Nat}
theorem r_is_whole : run gam glo N (k + 1) "is_whole" [] = fun ds => callFd glo (run gam glo N k) N f_is_whole ds := by funext ds; exact run_fd rfl
theorem r_is_between : run gam glo N (k + 1) "is_between" [] = fun ds => callFd glo (run gam glo N k) N f_is_between ds := by funext ds; exact run_fd rfl
theorem r_is_row : run gam glo N (k + 1) "is_row" [] = fun ds => callFd glo (run gam glo N k) N f_is_row ds := by funext ds; exact run_fd rfl
theorem r_beside : run gam glo N (k + 1) "is_row_beside" [] = fun ds => callFd glo (run gam glo N k) N f_is_row_beside ds := by funext ds; exact run_fd rfl
theorem r_wrong_in : run gam glo N (k + 1) "wrong_in" [] = fun ds => callFd glo (run gam glo N k) N f_wrong_in ds := by funext ds; exact run_fd rfl
theorem r_wrong_row : run gam glo N (k + 1) "wrong_row" [] = fun ds => callFd glo (run gam glo N k) N f_wrong_row ds := by funext ds; exact run_fd rfl
theorem r_cells_with : run gam glo N (k + 1) "cells_with" [] = fun ds => callFd glo (run gam glo N k) N f_cells_with ds := by funext ds; exact run_fd rfl
theorem r_are_enough : run gam glo N (k + 1) "are_enough" [] = fun ds => callFd glo (run gam glo N k) N f_are_enough ds := by funext ds; exact run_fd rfl
theorem is_whole_ok (a : Int) : (run gam glo N (k + 1) "is_whole" [] [.int a]).Ev fun r => r = (.bl true, []) := by
  rw [r_is_whole]
  refine sat_bodyE [some (.int a)] rfl rfl rfl rfl ?_
  refine sat_ret ?_
  simp
theorem is_between_ok (a l m : Int) : (run gam glo N (k + 2) "is_between" [] [.int a, .int l, .int m]).Ev fun r => r = (.bl (decide (l ≤ a ∧ a ≤ m)), []) := by
  rw [r_is_between]
  refine sat_bodyE [some (.int a), some (.int l), some (.int m)] rfl rfl rfl rfl ?_
  refine sat_ret (sat_and (sat_call (xs := [.int a]) (by simp) (is_whole_ok a) ?_))
  rintro _ rfl
  simp
  by_cases h : l ≤ a <;> simp [h]
theorem cells_with_ok {R : List (List Nat)} {w : Nat} {S : List Nat} (hr : R.length ≤ 10) (hw : w ≤ 10) (hR : ∀ l ∈ R, l.length = w) : (run gam glo N (k + 1) "cells_with" [] [rowsD R, .tup (S.map cS)]).Ev fun r => r = (.tup ((cells R w S).map cD), []) := by
  rw [r_cells_with]
  refine sat_bodyE [some (rowsD R), some (.tup (S.map cS)), none, none, none, none, none] rfl rfl rfl rfl ?_
  refine sat_seq (sat_set ?_)
  simp
  have e1 : evI glo (run gam glo N k) [some (rowsD R), some (.tup (S.map cS)), some (.lst []), none, none, none, none] (.enum (.var 0)) = .ok ((List.range R.length).map fun (i : Nat) => .tup [.int (i : Int), lS (R.getD i [])]) := by
    simp [rowsD]
    exact enumL0 lS [] R
  refine sat_seq (sat_forE e1 (forL_rangeF (fun i ρ => ∃ o3 o4 o5 o6, ρ = [some (rowsD R), some (.tup (S.map cS)), some (.lst ((upTo R w S i).map cD)), o3, o4, o5, o6]) ⟨none, none, none, none, rfl⟩ ?_ ?_))
  · rintro i ρ hi ⟨o3, o4, o5, o6, rfl⟩
    simp only [asgT_pair, bind_ok, setV_succ, setV_zero]
    have e2 : evI glo (run gam glo N k) [some (rowsD R), some (.tup (S.map cS)), some (.lst ((upTo R w S i).map cD)), some (.int (i : Int)), some (lS (R.getD i [])), o5, o6] (.enum (.var 4)) = .ok ((List.range w).map fun (j : Nat) => .tup [.int (j : Int), cS ((R.getD i []).getD j 0)]) := by
      have hl : (R.getD i []).length = w := by
        rw [List.getD_eq_getElem?_getD, List.getElem?_eq_getElem hi]
        exact hR _ (List.getElem_mem hi)
      simp only [evI_enum, evE_var, getV_succ, getV_zero, bind_ok, lS, itemsD_str, chars_lS, enumL0 cS 0, hl]
    refine sat_forE e2 (forL_rangeF (fun j ρ => ∃ o5 o6, ρ = [some (rowsD R), some (.tup (S.map cS)), some (.lst ((upTo R w S i ++ rowTo R S i j).map cD)), some (.int (i : Int)), some (lS (R.getD i [])), o5, o6]) ⟨o5, o6, by simp [rowTo]⟩ ?_ ?_)
    · rintro j ρ hj ⟨o5, o6, rfl⟩
      simp only [asgT_pair, bind_ok, setV_succ, setV_zero]
      refine sat_iff ?_
      simp only [evE_op, evE_var, getV_succ, getV_zero, bind_ok, opE_inn, in_signs, sat_ok, truthy_bl, decide_eq_true_eq]
      by_cases h : (R.getD i []).getD j 0 ∈ S
      · rw [if_pos h]
        refine sat_mt ?_
        simp only [evE_tup, evL_cons, evL_nil, evE_var, getV_succ, getV_zero, bind_ok, sat_ok, append_lst]
        have hb : ((upTo R w S i ++ rowTo R S i j).map cD).length < big := by
          rw [List.length_map, List.length_append]
          have := upTo_le R w S i
          have := rowTo_le R S i j
          have : i * w ≤ 10 * 10 := Nat.mul_le_mul (by omega) hw
          unfold big; omega
        rw [if_pos hb]
        refine ev ⟨some (.int (j : Int)), some (cS ((R.getD i []).getD j 0)), ?_⟩
        rw [rowTo_succ, if_pos (show sgn R (i, j) ∈ S from h)]
        simp [cD]
      · rw [if_neg h, exS_skip]
        refine ev ⟨some (.int (j : Int)), some (cS ((R.getD i []).getD j 0)), ?_⟩
        rw [rowTo_succ, if_neg (show ¬ sgn R (i, j) ∈ S from h), List.append_nil]
    · rintro ρ ⟨o5, o6, rfl⟩
      exact ⟨some (.int (i : Int)), some (lS (R.getD i [])), o5, o6, by rw [upTo_succ]⟩
  · rintro ρ ⟨o3, o4, o5, o6, rfl⟩
    refine sat_ret ?_
    simp
    rfl
end
end Pv

set_option autoImplicit false
set_option linter.all false
set_option maxRecDepth 10000
namespace Pv
open Pl
open PySem (Str)
section
variable (Φ : Phi) (ρ : Env)
@[simp] theorem g_LEAST_SIGNS : evE glo Φ ρ (.glob "LEAST_SIGNS") = .ok (.int 1) := evE_glob _ _ _ rfl
@[simp] theorem g_MOST_SIGNS : evE glo Φ ρ (.glob "MOST_SIGNS") = .ok (.int 6) := evE_glob _ _ _ rfl
@[simp] theorem g_LEAST_ROWS : evE glo Φ ρ (.glob "LEAST_ROWS") = .ok (.int 1) := evE_glob _ _ _ rfl
@[simp] theorem g_MOST_ROWS : evE glo Φ ρ (.glob "MOST_ROWS") = .ok (.int 6) := evE_glob _ _ _ rfl
@[simp] theorem g_LEAST_FLOOR : evE glo Φ ρ (.glob "LEAST_FLOOR") = .ok (.int 2) := evE_glob _ _ _ rfl
@[simp] theorem g_MOST_FLOOR : evE glo Φ ρ (.glob "MOST_FLOOR") = .ok (.int 14) := evE_glob _ _ _ rfl
@[simp] theorem g_LEAST_MARKS : evE glo Φ ρ (.glob "LEAST_MARKS") = .ok (.int 1) := evE_glob _ _ _ rfl
@[simp] theorem g_MOST_MARKS : evE glo Φ ρ (.glob "MOST_MARKS") = .ok (.int 3) := evE_glob _ _ _ rfl
@[simp] theorem g_LEAST_STRENGTH : evE glo Φ ρ (.glob "LEAST_STRENGTH") = .ok (.int 1) := evE_glob _ _ _ rfl
@[simp] theorem g_MOST_STRENGTH : evE glo Φ ρ (.glob "MOST_STRENGTH") = .ok (.int 3) := evE_glob _ _ _ rfl
@[simp] theorem g_FLOOR : evE glo Φ ρ (.glob "FLOOR") = .ok (cS 46) := evE_glob _ _ _ rfl
@[simp] theorem g_MARK : evE glo Φ ρ (.glob "MARK") = .ok (cS 120) := evE_glob _ _ _ rfl
@[simp] theorem g_SIGNS : evE glo Φ ρ (.glob "SIGNS") = .ok (.tup ([35, 46, 120].map cS)) := evE_glob _ _ _ rfl
@[simp] theorem g_WAYS : evE glo Φ ρ (.glob "WAYS") = .ok (.tup ([101, 110, 115, 119].map cS)) := evE_glob _ _ _ rfl
@[simp] theorem g_beside : evE glo Φ ρ (.glob "is_row_beside") = .ok (.fn "is_row_beside") := evE_glob _ _ _ rfl
end
section
variable {N k : Nat}
def okSign (c : Nat) : Prop := c = 35 ∨ c = 46 ∨ c = 120
theorem is_row_ok {l : List Nat} (h1 : 1 ≤ l.length) (h6 : l.length ≤ 6) (hs : ∀ c ∈ l, okSign c) : (run gam glo N (k + 3) "is_row" [] [lS l]).Ev fun r => r = (.bl true, []) := by
  rw [r_is_row]
  refine sat_bodyE [some (lS l), none] rfl rfl rfl rfl ?_
  have hb : decide ((1 : Int) ≤ (l.length : Int) ∧ (l.length : Int) ≤ 6) = true := by simp; omega
  refine sat_seqN (sat_ifF (sat_orF (by simp [lS]) (sat_notT (sat_call (xs := [.int l.length, .int 1, .int 6]) (by simp [len_lS, lS]) (is_between_ok _ _ _) ?_) rfl)) (sat_skip rfl)) ?_
  · rintro _ rfl
    rw [hb]
  refine sat_ret (sat_bf ?_)
  have e : evE glo (run gam glo N (k + 2)) [some (lS l), none] (.comp (.op .inn (.var 1) (.glob "SIGNS")) (.var 1) (.over (.var 0)) (.bl true) [1]) = .ok (.lst (l.map fun c => .bl (decide (c ∈ [35, 46, 120])))) := by
    refine comp_true (e := cS) (by simp [chars_lS, lS]) ?_
    intro c hc
    simp only [wipe_cons, wipe_nil, asgT_var, bind_ok, evE_op, evE_var, List.set_cons_succ, List.set_cons_zero, setV_succ, setV_zero, getV_succ, getV_zero, g_SIGNS, opE_inn, in_signs]
  rw [e]
  refine ev ?_
  rw [bf_all, oneD_one, all_map]
  refine ev ?_
  have : (l.all fun c => decide (c ∈ [35, 46, 120])) = true := by
    rw [List.all_eq_true]
    intro c hc
    have := hs c hc
    unfold okSign at this
    simpa using this
  rw [this]
theorem plain_rows (n : Nat) (R : List (List Nat)) : D.plain (n + 2) (rowsD R) = true := plainL_map (n := n + 1) (f := lS) (fun _ => (rfl)) R
theorem beside_ok {A : List (List Nat)} {l : List Nat} (h1 : 1 ≤ l.length) (h6 : l.length ≤ 6) (hs : ∀ c ∈ l, okSign c) (hA : ∀ a ∈ A, a.length = l.length) : (run gam glo N (k + 4) "is_row_beside" [] [rowsD A, lS l]).Ev fun r => r = (.bl true, []) := by
  rw [r_beside]
  refine sat_bodyE [some (rowsD A), some (lS l)] rfl rfl rfl rfl ?_
  refine sat_ret (sat_and (sat_call (xs := [lS l]) (by simp) (is_row_ok h1 h6 hs) ?_))
  rintro _ rfl
  simp only [sat_ok, truthy_bl, if_true]
  refine sat_or ?_
  have e : eqD (rowsD A) (.tup []) = .ok (.bl A.isEmpty) := by
    show (if D.plain 32 (rowsD A) && D.plain 32 (.tup []) then R.ok (D.bl (D.eqv (rowsD A) (.tup []))) else .bad) = _
    rw [plain_rows 30]
    cases A <;> rfl
  simp only [evE_op, evE_var, getV_zero, bind_ok, evE_tup, evL_nil, opE_eq, e, sat_ok, truthy_bl]
  cases A with
  | nil => rfl
  | cons a A =>
    have := hA a (by simp)
    simp [rowsD, lS, len_lS, this]
theorem wrong_in_ok {R : List (List Nat)} {w : Nat} (r1 : 1 ≤ R.length) (r6 : R.length ≤ 6) (w1 : 1 ≤ w) (w6 : w ≤ 6) (hR : ∀ l ∈ R, l.length = w ∧ ∀ c ∈ l, okSign c) : (run gam glo N (k + 5) "wrong_in" [] [rowsD R, .int 1, .int 6, .fn "is_row_beside"]).Ev fun r => r = (.lst [], []) := by
  rw [r_wrong_in]
  refine sat_bodyE [some (rowsD R), some (.int 1), some (.int 6), some (.fn "is_row_beside"), none, none] rfl rfl rfl rfl ?_
  refine sat_seqN (sat_ifF (sat_orF (by simp [rowsD]) (sat_eq (a := .bl false) (by simp [rowsD]; omega) rfl)) (sat_skip rfl)) ?_
  have e1 : evI glo (run gam glo N (k + 4)) [some (rowsD R), some (.int 1), some (.int 6), some (.fn "is_row_beside"), none, none] (.enum (.var 0)) = .ok ((List.range R.length).map fun (i : Nat) => .tup [.int (i : Int), lS (R.getD i [])]) := by
    simp [rowsD]
    exact enumL0 lS [] R
  refine sat_seq (sat_forE e1 (forL_rangeF (fun i ρ => ∃ o4 o5, ρ = [some (rowsD R), some (.int 1), some (.int 6), some (.fn "is_row_beside"), o4, o5]) ⟨none, none, rfl⟩ ?_ ?_))
  · rintro i ρ hi ⟨o4, o5, rfl⟩
    simp only [asgT_pair, bind_ok, setV_succ, setV_zero]
    have hl := hR (R.getD i []) (by rw [List.getD_eq_getElem?_getD, List.getElem?_eq_getElem hi]; exact List.getElem_mem hi)
    refine sat_ifF (sat_orF (by simp; omega) (sat_notT (sat_callv (xs := [rowsD (R.take i), lS (R.getD i [])]) (g := "is_row_beside") (by simp) rfl ?_ (beside_ok (by omega) (by omega) hl.2 fun a ha => ?_) ?_) rfl)) (sat_skip ⟨some (.int (i : Int)), some (lS (R.getD i [])), rfl⟩)
    · simp [rowsD, cut_take]
    · rw [(hR a (List.mem_of_mem_take ha)).1, hl.1]
    · rintro _ rfl
      rfl
  · rintro ρ ⟨o4, o5, rfl⟩
    refine sat_ret ?_
    simp
end
end Pv

set_option autoImplicit false
set_option linter.all false
set_option maxRecDepth 10000
namespace Pv
open Pl
open PySem (Str)
section
variable {N k : Nat}
theorem r_check_rows : run gam glo N (k + 1) "check_rows" [] = fun ds => callFd glo (run gam glo N k) N f_check_rows ds := by funext ds; exact run_fd rfl
theorem r_check_strength : run gam glo N (k + 1) "check_strength" [] = fun ds => callFd glo (run gam glo N k) N f_check_strength ds := by funext ds; exact run_fd rfl
theorem r_around : run gam glo N (k + 1) "around" [] = fun ds => callFd glo (run gam glo N k) N f_around ds := by funext ds; exact run_fd rfl
theorem r_nexts_of : run gam glo N (k + 1) "nexts_of" [] = fun ds => callFd glo (run gam glo N k) N f_nexts_of ds := by funext ds; exact run_fd rfl
theorem wrong_row_ok {R : List (List Nat)} {w : Nat} (r1 : 1 ≤ R.length) (r6 : R.length ≤ 6) (w1 : 1 ≤ w) (w6 : w ≤ 6) (hR : ∀ l ∈ R, l.length = w ∧ ∀ c ∈ l, okSign c) : (run gam glo N (k + 6) "wrong_row" [] [rowsD R]).Ev fun r => r = (.lst [], []) := by
  rw [r_wrong_row]
  refine sat_bodyE [some (rowsD R)] rfl rfl rfl rfl ?_
  refine sat_seqN (sat_ifF (sat_andT (by simp [rowsD]) (sat_eq (a := .bl false) (by simp [rowsD]; omega) rfl)) (sat_skip rfl)) ?_
  refine sat_ret (sat_call (xs := [rowsD R, .int 1, .int 6, .fn "is_row_beside"]) (by simp) (wrong_in_ok r1 r6 w1 w6 hR) ?_)
  rintro _ rfl
  rfl
theorem are_enough_ok {f m : List D} (h2 : 2 ≤ f.length) (h14 : f.length ≤ 14) (m1 : 1 ≤ m.length) (m3 : m.length ≤ 3) (lt : m.length < f.length) : (run gam glo N (k + 3) "are_enough" [] [.tup f, .tup m]).Ev fun r => r = (.bl true, []) := by
  rw [r_are_enough]
  refine sat_bodyE [some (.tup f), some (.tup m)] rfl rfl rfl rfl ?_
  have h1 : decide ((2 : Int) ≤ (f.length : Int) ∧ (f.length : Int) ≤ 14) = true := by simp; omega
  have h3 : decide ((1 : Int) ≤ (m.length : Int) ∧ (m.length : Int) ≤ 3) = true := by simp; omega
  refine sat_seqN (sat_ifF (sat_notT (sat_call (xs := [.int f.length, .int 2, .int 14]) (by simp) (is_between_ok _ _ _) ?_) rfl) (sat_skip rfl)) ?_
  · rintro _ rfl; rw [h1]
  refine sat_ret (sat_and (sat_call (xs := [.int m.length, .int 1, .int 3]) (by simp) (is_between_ok _ _ _) ?_))
  rintro _ rfl
  rw [h3]
  refine ev ?_
  rw [if_pos rfl]
  simp
  exact lt
theorem cells_ok {R : List (List Nat)} {w : Nat} {S : List Nat} (g : Good R w) : (run gam glo N (k + 1) "cells_with" [] [rowsD R, .tup (S.map cS)]).Ev fun r => r = (.tup ((cells R w S).map cD), []) := cells_with_ok (by have := g.r6; omega) (by have := g.w6; omega) fun l hl => (g.row l hl).1
theorem check_rows_ok {R : List (List Nat)} {w : Nat} (g : Good R w) : (run gam glo N (k + 7) "check_rows" [] [rowsD R]).Ev fun r => r = (.non, []) := by
  rw [r_check_rows]
  refine sat_bodyE [some (rowsD R), none, none, none] rfl rfl rfl rfl ?_
  refine sat_seq (sat_set (sat_call (xs := [rowsD R]) (by simp) (wrong_row_ok g.r1 g.r6 g.w1 g.w6 g.row) ?_))
  rintro _ rfl
  simp only [setV_succ, setV_zero]
  refine sat_seqN (sat_ifF (sat_eq (a := .bl false) (by simp [neD, D.plain, D.plainL, D.eqv, D.eqvL]) rfl) (sat_skip rfl)) ?_
  refine sat_seq (sat_set (sat_call (xs := [rowsD R, .tup ([46, 120].map cS)]) (by simp) (cells_ok g) ?_))
  rintro _ rfl
  simp only [setV_succ, setV_zero]
  refine sat_seq (sat_set (sat_call (xs := [rowsD R, .tup ([120].map cS)]) (by simp) (cells_ok g) ?_))
  rintro _ rfl
  simp only [setV_succ, setV_zero]
  refine sat_ifF (sat_notT (sat_call (xs := [.tup ((cells R w [46, 120]).map cD), .tup ((cells R w [120]).map cD)]) (by simp) (are_enough_ok (by simpa using g.f2) (by simpa using g.f14) (by simpa using g.m1) (by simpa using g.m3) (by simpa using g.lt)) ?_) rfl) (sat_skip (by simp))
  rintro _ rfl
  rfl
theorem check_strength_ok {s : Int} (h1 : 1 ≤ s) (h3 : s ≤ 3) : (run gam glo N (k + 3) "check_strength" [] [.int s]).Ev fun r => r = (.non, []) := by
  rw [r_check_strength]
  refine sat_bodyE [some (.int s)] rfl rfl rfl rfl ?_
  refine sat_ifF (sat_notT (sat_call (xs := [.int s, .int 1, .int 3]) (by simp) (is_between_ok _ _ _) ?_) rfl) (sat_skip rfl)
  rintro _ rfl
  have : decide ((1 : Int) ≤ s ∧ s ≤ 3) = true := by simp [h1, h3]
  rw [this]
theorem around_ok {i j : Int} {c : Nat} (hc : c ∈ [101, 110, 115, 119]) : (run gam glo N (k + 1) "around" [] [.tup [.int i, .int j], cS c]).Ev fun r => ∃ a b : Int, r = (.tup [.int a, .int b], []) := by
  rw [r_around]
  refine sat_bodyE [some (.tup [.int i, .int j]), some (cS c), none] rfl rfl rfl rfl ?_
  have e : ∃ a b : Int, evE glo (run gam glo N k) [some (.tup [.int i, .int j]), some (cS c), none] (.gsub "AWAY" (.var 1)) = .ok (.tup [.int a, .int b]) := by
    rw [evE_gsub _ _ _ _ (show glo.gdic "AWAY" = some _ from rfl)]
    simp only [evE_var, getV_succ, getV_zero, bind_ok]
    simp only [List.mem_cons, List.not_mem_nil, or_false] at hc
    rcases hc with rfl | rfl | rfl | rfl
    · exact ⟨0, 1, rfl⟩
    · exact ⟨-1, 0, rfl⟩
    · exact ⟨1, 0, rfl⟩
    · exact ⟨0, -1, rfl⟩
  obtain ⟨a, b, e⟩ := e
  refine sat_seq (sat_set (sat_eq e ?_))
  simp only [setV_succ, setV_zero]
  refine sat_ret ?_
  simp
/-- keys that are tuples -/
def TK (ks : List D) : Prop := ∀ k ∈ ks, sortOf k = 1
theorem dput_tk {k v : D} (hk : sortOf k = 1) : ∀ {ks vs : List D}, TK ks → TK (dput ks vs k v).1 ∧ (dput ks vs k v).1.length ≤ ks.length + 1
  | [], vs, h => by
    have e : (dput [] vs k v) = ([k], [v]) := by cases vs <;> rfl
    rw [e]
    exact ⟨fun x hx => by simp at hx; subst hx; exact hk, Nat.le_refl _⟩
  | k' :: ks, [], h => by
    have e : (dput (k' :: ks) [] k v) = ([k], [v]) := rfl
    rw [e]
    exact ⟨fun x hx => by simp at hx; subst hx; exact hk, by simp⟩
  | k' :: ks, v' :: vs, h => by
    have ih := dput_tk (v := v) hk (ks := ks) (vs := vs) fun x hx => h x (by simp [hx])
    rw [dput]
    split
    · exact ⟨h, Nat.le_succ _⟩
    · refine ⟨fun x hx => ?_, by simp only [List.length_cons]; omega⟩
      rcases List.mem_cons.mp hx with rfl | hx
      · exact h _ (by simp)
      · exact ih.1 x hx
theorem fits {ks : List D} {k : D} (h : TK ks) (hk : sortOf k = 1) (h8 : D.isKey 8 k = true) (ht : topKey k = true) : keyFits ks k = true := by
  unfold keyFits
  rw [h8, ht, Bool.true_and, Bool.true_and, List.all_eq_true]
  intro x hx
  rw [h x hx, hk]; rfl
theorem pairs_ok (f : Cell → D) : ∀ (l : List Cell) (ks vs : List D), TK ks → ∃ ks' vs', pairsInto (l.map fun c => .tup [cD c, f c]) ks vs = .ok (.dic ks' vs') ∧ TK ks'
  | [], ks, vs, h => ⟨ks, vs, rfl, h⟩
  | c :: l, ks, vs, h => by
    have e : pairsInto ((c :: l).map fun c => .tup [cD c, f c]) ks vs = if keyFits ks (cD c) then pairsInto (l.map fun c => .tup [cD c, f c]) (dput ks vs (cD c) (f c)).1 (dput ks vs (cD c) (f c)).2 else .bad := rfl
    rw [e, if_pos (fits h rfl rfl rfl)]
    exact pairs_ok f l _ _ (dput_tk rfl h).1
theorem nexts_ok {l : List Cell} (hl : l.length ≤ 20) : (run gam glo N (k + 2) "nexts_of" [] [.tup (l.map cD)]).Ev fun r => ∃ ks vs, r = (.dic ks vs, []) := by
  rw [r_nexts_of]
  refine sat_bodyE [some (.tup (l.map cD)), none, none, none, none, none] rfl rfl rfl rfl ?_
  obtain ⟨ks0, vs0, hk0, tk0⟩ := pairs_ok (fun _ => .bl true) l [] [] (fun x hx => by simp at hx)
  have e1 : evE glo (run gam glo N (k + 1)) [some (.tup (l.map cD)), none, none, none, none, none] (.bf .dict (.econs (.comp (.tup (.econs (.var 3) (.econs (.bl true) .enil))) (.var 3) (.over (.var 0)) (.bl true) [3]) .enil)) = .ok (.dic ks0 vs0) := by
    have e : evE glo (run gam glo N (k + 1)) [some (.tup (l.map cD)), none, none, none, none, none] (.comp (.tup (.econs (.var 3) (.econs (.bl true) .enil))) (.var 3) (.over (.var 0)) (.bl true) [3]) = .ok (.lst (l.map fun c => .tup [cD c, .bl true])) :=
      comp_true (e := cD) (by simp) fun c hc => by simp
    rw [evE_bf, evL_cons, e]
    simp [hk0]
  refine sat_seq (sat_par2 (sat_eq e1 ?_))
  simp
  have e2 : evI glo (run gam glo N (k + 1)) [some (.tup (l.map cD)), some (.dic ks0 vs0), some (.dic [] []), none, none, none] (.over (.var 0)) = .ok (l.map cD) := by simp
  refine sat_seq (sat_forE e2 (forL_sat (fun p ρ => ∃ ks vs o3 o4 o5, ρ = [some (.tup (l.map cD)), some (.dic ks0 vs0), some (.dic ks vs), o3, o4, o5] ∧ TK ks ∧ ks.length ≤ 4 * p.length) (pre := []) ⟨[], [], none, none, none, rfl, (fun x hx => by simp at hx), by simp⟩ ?_ ?_))
  · rintro p x s e ρ ⟨ks, vs, o3, o4, o5, rfl, tk, hlen⟩
    have e : l.map cD = p ++ x :: s := e
    have hp : p.length < 20 := by have := congrArg List.length e; simp at this; omega
    obtain ⟨c, hc, rfl⟩ := List.mem_map.mp (show x ∈ l.map cD by rw [e]; simp)
    simp only [asgT_var, bind_ok, setV_succ, setV_zero]
    have e3 : evI glo (run gam glo N (k + 1)) [some (.tup (l.map cD)), some (.dic ks0 vs0), some (.dic ks vs), some (cD c), o4, o5] (.over (.glob "WAYS")) = .ok ([101, 110, 115, 119].map cS) := by
      rw [evI_over, g_WAYS]; rfl
    refine sat_forE e3 (forL_sat (fun q ρ => ∃ ks vs o4 o5, ρ = [some (.tup (l.map cD)), some (.dic ks0 vs0), some (.dic ks vs), some (cD c), o4, o5] ∧ TK ks ∧ ks.length ≤ 4 * p.length + q.length) (pre := []) ⟨ks, vs, o4, o5, rfl, tk, by simpa using hlen⟩ ?_ ?_)
    · rintro q y s' e' ρ ⟨ks, vs, o4, o5, rfl, tk, hlen⟩
      have e' : [101, 110, 115, 119].map cS = q ++ y :: s' := e'
      have hq : q.length < 4 := by have := congrArg List.length e'; simp at this; omega
      obtain ⟨wy, hw, rfl⟩ := List.mem_map.mp (show y ∈ [101, 110, 115, 119].map cS by rw [e']; simp)
      simp only [asgT_var, bind_ok, setV_succ, setV_zero]
      refine sat_seq (sat_set (sat_call (xs := [cD c, cS wy]) (by simp) (around_ok hw) ?_))
      rintro _ ⟨a, b, rfl⟩
      simp only [setV_succ, setV_zero]
      have f1 : keyFits ks0 (.tup [.int a, .int b]) = true := fits tk0 rfl rfl rfl
      have f2 : keyFits ks (.tup [cD c, cS wy]) = true := fits tk rfl rfl rfl
      have ein : inD (.tup [.int a, .int b]) (.dic ks0 vs0) = .ok (ks0.any fun z => D.eqv (.tup [.int a, .int b]) z) := by
        show (if keyFits ks0 (.tup [.int a, .int b]) then R.ok (ks0.any fun z => D.eqv (.tup [.int a, .int b]) z) else .bad) = _
        rw [if_pos f1]
      have ev5 : ∃ v, evE glo (run gam glo N (k + 1)) [some (.tup (l.map cD)), some (.dic ks0 vs0), some (.dic ks vs), some (cD c), some (cS wy), some (.tup [.int a, .int b])] (.ite (.op .inn (.var 5) (.var 1)) (.var 5) .non) = .ok v := by
        rw [evE_iteP, evE_op]
        simp only [evE_var, getV_succ, getV_zero, bind_ok, opE_inn, ein, truthy_bl]
        generalize (ks0.any fun z => D.eqv (.tup [.int a, .int b]) z) = u
        cases u with
        | true => exact ⟨_, rfl⟩
        | false => exact ⟨_, rfl⟩
      obtain ⟨v, ev5⟩ := ev5
      have hbig : (keyFits ks (.tup [cD c, cS wy]) && decide (ks.length < big)) = true := by
        rw [f2, Bool.true_and, decide_eq_true_eq]; unfold big; omega
      have eset : setAt (.dic ks vs) (.tup [cD c, cS wy]) v = .ok (.dic (dput ks vs (.tup [cD c, cS wy]) v).1 (dput ks vs (.tup [cD c, cS wy]) v).2) := by
        show (if keyFits ks (.tup [cD c, cS wy]) && decide (ks.length < big) then R.ok (D.dic (dput ks vs (.tup [cD c, cS wy]) v).1 (dput ks vs (.tup [cD c, cS wy]) v).2) else .bad) = _
        rw [if_pos hbig]
      rw [exS_setItem, ev5]
      simp only [bind_ok, evE_tup, evL_cons, evL_nil, evE_var, getV_succ, getV_zero, eset, setV_succ, setV_zero]
      have := dput_tk (k := .tup [cD c, cS wy]) (v := v) rfl (vs := vs) tk
      exact ev ⟨_, _, _, _, rfl, this.1, by simp; omega⟩
    · rintro ρ ⟨ks, vs, o4, o5, rfl, tk, hlen⟩
      exact ⟨ks, vs, some (cD c), o4, o5, rfl, tk, by simp at hlen ⊢; omega⟩
  · rintro ρ ⟨ks, vs, o3, o4, o5, rfl, tk, hlen⟩
    refine sat_retMv ?_
    simp
end
end Pv

set_option autoImplicit false
set_option linter.all false
set_option maxRecDepth 10000
namespace Pv
open Pl
open PySem (Str)
def partsD (R : List (List Nat)) (s : Int) : D := .tup [rowsD R, .int s]
def yardD (R : List (List Nat)) (w : Nat) (s : Int) (nx : D) : D := .obj "Yard" ["rows", "strength", "parts", "floor", "marks", "nexts"] [rowsD R, .int s, partsD R s, .tup ((cells R w [46, 120]).map cD), .tup ((cells R w [120]).map cD), nx]
section
variable {N k : Nat}
theorem yard_ok {R : List (List Nat)} {w : Nat} {s : Int} (g : Good R w) (h1 : 1 ≤ s) (h3 : s ≤ 3) : (run gam glo N (k + 8) "Yard" [] [rowsD R, .int s]).Ev fun r => ∃ ks vs, r = (yardD R w s (.dic ks vs), []) := by
  refine sat_cls (d := f_Yard___init__) [some (.obj "Yard" [] []), some (rowsD R), some (.int s)] rfl rfl rfl rfl rfl ?_
  refine sat_seq (sat_expr (sat_call (xs := [rowsD R]) (by simp) (check_rows_ok g) ?_))
  rintro _ rfl
  refine sat_seq (sat_expr (sat_call (xs := [.int s]) (by simp) (check_strength_ok h1 h3) ?_))
  rintro _ rfl
  refine sat_seq (sat_setAttr (sat_eq (a := rowsD R) (by simp) (ev (sat_eq (a := .obj "Yard" ["rows"] [rowsD R]) rfl ?_))))
  refine sat_seq (sat_setAttr (sat_eq (a := .int s) (by simp) (sat_eq (a := .obj "Yard" ["rows"] [rowsD R]) (by simp) (sat_eq (a := .obj "Yard" ["rows", "strength"] [rowsD R, .int s]) rfl ?_))))
  refine sat_seq (sat_setAttr (sat_eq (a := partsD R s) (by simp [partsD]) (sat_eq (a := .obj "Yard" ["rows", "strength"] [rowsD R, .int s]) (by simp) (sat_eq (a := .obj "Yard" ["rows", "strength", "parts"] [rowsD R, .int s, partsD R s]) rfl ?_))))
  refine sat_seq (sat_setAttr (sat_call (xs := [rowsD R, .tup ([46, 120].map cS)]) (by simp) (cells_ok g) ?_))
  rintro _ rfl
  refine sat_eq (a := .obj "Yard" ["rows", "strength", "parts"] [rowsD R, .int s, partsD R s]) (by simp) (sat_eq (a := .obj "Yard" ["rows", "strength", "parts", "floor"] [rowsD R, .int s, partsD R s, .tup ((cells R w [46, 120]).map cD)]) rfl ?_)
  refine sat_seq (sat_setAttr (sat_call (xs := [rowsD R, .tup ([120].map cS)]) (by simp) (cells_ok g) ?_))
  rintro _ rfl
  refine sat_eq (a := .obj "Yard" ["rows", "strength", "parts", "floor"] [rowsD R, .int s, partsD R s, .tup ((cells R w [46, 120]).map cD)]) (by simp) (sat_eq (a := .obj "Yard" ["rows", "strength", "parts", "floor", "marks"] [rowsD R, .int s, partsD R s, .tup ((cells R w [46, 120]).map cD), .tup ((cells R w [120]).map cD)]) rfl ?_)
  refine sat_setAttr (sat_call (xs := [.tup ((cells R w [46, 120]).map cD)]) ?_ (nexts_ok (by have := g.f14; omega)) ?_)
  · simp
    rfl
  rintro _ ⟨ks, vs, rfl⟩
  refine sat_eq (a := .obj "Yard" ["rows", "strength", "parts", "floor", "marks"] [rowsD R, .int s, partsD R s, .tup ((cells R w [46, 120]).map cD), .tup ((cells R w [120]).map cD)]) (by simp) (sat_eq (a := yardD R w s (.dic ks vs)) rfl ?_)
  exact ev ⟨ks, vs, rfl⟩
theorem yardk_ok {R : List (List Nat)} {w : Nat} {s : Int} (g : Good R w) (h1 : 1 ≤ s) (h3 : s ≤ 3) : (run gam glo N (k + 8) "Yard" ["strength", "rows"] [.int s, rowsD R]).Ev fun r => ∃ ks vs, r = (yardD R w s (.dic ks vs), []) :=
  sat_clsk (d := f_Yard___init__) (ys := [rowsD R, .int s]) rfl (by simp) rfl (yard_ok g h1 h3)
theorem r_eq : run gam glo N (k + 1) "Yard.__eq__" [] = fun ds => callFd glo (run gam glo N k) N f_Yard___eq__ ds := by funext ds; exact run_fd rfl
theorem plain_parts (R : List (List Nat)) (s : Int) : D.plain 32 (partsD R s) = true := by
  show (D.plain 31 (rowsD R) && (D.plain 31 (.int s) && true)) = true
  rw [plain_rows 29]; rfl
theorem eq_yards {R R' : List (List Nat)} {w w' : Nat} {s s' : Int} {x x' : D} : (run gam glo N (k + 1) ("Yard" ++ ".__eq__") [] [yardD R w s x, yardD R' w' s' x']).Ev fun r => r = (.bl (D.eqv (partsD R s) (partsD R' s')), []) := by
  have e : (("Yard" : Str) ++ ".__eq__") = "Yard.__eq__" := rfl
  rw [e, r_eq]
  refine sat_bodyE [some (yardD R w s x), some (yardD R' w' s' x')] rfl rfl rfl rfl ?_
  refine sat_ret (sat_andT ?_ (sat_op ?_))
  · simp only [evE_isi, evE_var, getV_succ, getV_zero, bind_ok]
    exact (if_pos rfl).trans rfl
  · have a1 : evE glo (run gam glo N k) [some (yardD R w s x), some (yardD R' w' s' x')] (.attr (.var 0) "parts") = .ok (partsD R s) := by
      simp only [evE_attr, evE_var, getV_succ, getV_zero, bind_ok]
      rfl
    have a2 : evE glo (run gam glo N k) [some (yardD R w s x), some (yardD R' w' s' x')] (.attr (.var 1) "parts") = .ok (partsD R' s') := by
      simp only [evE_attr, evE_var, getV_succ, getV_zero, bind_ok]
      rfl
    refine sat_eq a1 (sat_eq a2 ?_)
    rw [opE_eq]
    have : eqD (partsD R s) (partsD R' s') = .ok (.bl (D.eqv (partsD R s) (partsD R' s'))) := by
      unfold eqD
      rw [plain_parts, plain_parts]; rfl
    rw [this]
    exact ev rfl
theorem eq_tup {R : List (List Nat)} {w : Nat} {s : Int} {x : D} {l : List D} : (run gam glo N (k + 1) ("Yard" ++ ".__eq__") [] [yardD R w s x, .tup l]).Ev fun r => r = (.bl false, []) := by
  have e : (("Yard" : Str) ++ ".__eq__") = "Yard.__eq__" := rfl
  rw [e, r_eq]
  refine sat_bodyE [some (yardD R w s x), some (.tup l)] rfl rfl rfl rfl ?_
  refine sat_ret (sat_andF ?_ rfl)
  simp only [evE_isi, evE_var, getV_succ, getV_zero, bind_ok]
  exact (if_pos rfl).trans rfl
end
end Pv

set_option autoImplicit false
set_option linter.all false
set_option maxRecDepth 10000
namespace Pv
open Pl
open PySem (Str)
section
variable {N k : Nat}
theorem r_same : run gam glo N (k + 1) "_law_same" [] = fun ds => callFd glo (run gam glo N k) N f__law_same ds := by funext ds; exact run_fd rfl
theorem r_signs : run gam glo N (k + 1) "_law_signs" [] = fun ds => callFd glo (run gam glo N k) N f__law_signs ds := by funext ds; exact run_fd rfl
theorem r_floor : run gam glo N (k + 1) "_law_floor" [] = fun ds => callFd glo (run gam glo N k) N f__law_floor ds := by funext ds; exact run_fd rfl
theorem r_marks : run gam glo N (k + 1) "_law_marks" [] = fun ds => callFd glo (run gam glo N k) N f__law_marks ds := by funext ds; exact run_fd rfl
theorem r_right : run gam glo N (k + 1) "_law_right" [] = fun ds => callFd glo (run gam glo N k) N f__law_right ds := by funext ds; exact run_fd rfl
theorem r_law : run gam glo N (k + 1) "law" [] = fun ds => callFd glo (run gam glo N k) N f_law ds := by funext ds; exact run_fd rfl
/-! kind by kind the same -/
def Same (N k : Nat) (d : D) : Prop := (run gam glo N k "_law_same" [] [d, d]).Ev fun r => r = (.bl true, [])
theorem same_int (i : Int) : Same N (k + 1) (.int i) := by
  unfold Same
  rw [r_same]
  refine sat_bodyE [some (.int i), some (.int i), none] rfl rfl rfl rfl ?_
  refine sat_seqN (sat_ifF (sat_eq (a := .bl false) (by simp) rfl) (sat_skip rfl)) ?_
  refine sat_seqN (sat_ifF (sat_eq (a := .bl false) (by simp) rfl) (sat_skip rfl)) ?_
  refine sat_seqN (sat_ifF (sat_eq (a := .bl false) (by simp) rfl) (sat_skip rfl)) ?_
  refine sat_seq (sat_ifT (sat_eq (a := .bl true) (by simp) rfl) (sat_ret (sat_andT (by simp) (sat_andT (by simp) ?_))))
  simp
theorem same_bl (i : Bool) : Same N (k + 1) (.bl i) := by
  unfold Same
  rw [r_same]
  refine sat_bodyE [some (.bl i), some (.bl i), none] rfl rfl rfl rfl ?_
  refine sat_seqN (sat_ifF (sat_eq (a := .bl false) (by simp [tyIs]) rfl) (sat_skip rfl)) ?_
  refine sat_seqN (sat_ifF (sat_eq (a := .bl false) (by simp) rfl) (sat_skip rfl)) ?_
  refine sat_seq (sat_ifT (sat_eq (a := .bl true) (by simp [tyIs]) rfl) (sat_ret (sat_andT (by simp [tyIs]) ?_)))
  cases i <;> exact sat_eq (a := .bl true) rfl rfl
theorem same_str (l : List Nat) : Same N (k + 1) (lS l) := by
  unfold Same
  rw [r_same]
  refine sat_bodyE [some (lS l), some (lS l), none] rfl rfl rfl rfl ?_
  refine sat_seqN (sat_ifF (sat_eq (a := .bl false) (by simp [lS]) rfl) (sat_skip rfl)) ?_
  refine sat_seqN (sat_ifF (sat_eq (a := .bl false) (by simp [lS]) rfl) (sat_skip rfl)) ?_
  refine sat_seqN (sat_ifF (sat_eq (a := .bl false) (by simp [lS]) rfl) (sat_skip rfl)) ?_
  refine sat_seqN (sat_ifF (sat_eq (a := .bl false) (by simp [lS]) rfl) (sat_skip rfl)) ?_
  refine sat_seq (sat_ifT (sat_eq (a := .bl true) (by simp [lS]) rfl) (sat_ret (sat_andT (by simp [lS]) (sat_op ?_))))
  have : eqD (lS l) (lS l) = .ok (.bl true) := by
    show R.ok (D.bl (strOf l == strOf l)) = _
    rw [beq_self_eq_true]
  simp [this]
theorem same_tup {l : List D} (hl : l.length ≤ 1000) (h : ∀ d ∈ l, Same N k d) : Same N (k + 1) (.tup l) := by
  unfold Same
  rw [r_same]
  refine sat_bodyE [some (.tup l), some (.tup l), none] rfl rfl rfl rfl ?_
  refine sat_seq (sat_ifT (sat_eq (a := .bl true) (by simp) rfl) ?_)
  refine sat_seqN (sat_ifF (sat_orF (by simp) (sat_eq (a := .bl false) (by simp) rfl)) (sat_skip rfl)) ?_
  refine sat_ret (sat_bf ?_)
  refine (comp_rep (g := .bl true) (range_ok (n := l.length) (by simp) hl) fun x hx => ?_).mono ?_
  · obtain ⟨i, hi, rfl⟩ := List.mem_map.mp hx
    have hi : i < l.length := by simpa using hi
    simp only [wipe_cons, wipe_nil, asgT_var, bind_ok, List.set_cons_succ, List.set_cons_zero, setV_succ, setV_zero]
    have hg := List.getElem?_eq_getElem hi
    refine sat_call (xs := [l[i], l[i]]) ?_ (h _ (List.getElem_mem hi)) ?_
    · simp only [evL_cons, evL_nil, evE_sub, evE_var, getV_zero, getV_succ, bind_ok, iD, subD_tup hg]
    · rintro _ rfl; rfl
  · rintro _ rfl
    rw [bf_all, oneD_one, all_rep]
    exact ev rfl
theorem same_cD (c : Cell) : Same N (k + 2) (cD c) := same_tup (by simp) fun d hd => by
  simp at hd
  rcases hd with rfl | rfl <;> exact same_int _
theorem same_cells (l : List Cell) (h : l.length ≤ 1000) : Same N (k + 3) (.tup (l.map cD)) := same_tup (by simpa using h) fun d hd => by
  obtain ⟨c, _, rfl⟩ := List.mem_map.mp hd
  exact same_cD c
theorem same_rows (R : List (List Nat)) (h : R.length ≤ 1000) : Same N (k + 2) (rowsD R) := same_tup (by simpa using h) fun d hd => by
  obtain ⟨c, _, rfl⟩ := List.mem_map.mp hd
  exact same_str c
/-! the law's own cells -/
theorem signs_ok {R : List (List Nat)} {w : Nat} {s : D} {S : List Nat} (g : Good R w) : (run gam glo N (k + 2) "_law_signs" [] [.tup [rowsD R, s], lS S]).Ev fun r => r = (.lst ((cells R w S).map cD), []) := by
  rw [r_signs]
  refine sat_bodyE [some (.tup [rowsD R, s]), some (lS S), none, none] rfl rfl rfl rfl ?_
  have hR : 0 < R.length := g.r1
  have h0 : R.getD 0 [] = R[0] := by rw [List.getD_eq_getElem?_getD, List.getElem?_eq_getElem hR]; rfl
  have hw := (g.get hR).1
  refine sat_ret ((comp_ifS (xs := grid R.length w) (e := cD) (g := cD) (p := fun c => decide (sgn R c ∈ S)) (over_ok (sat_call (xs := [.int R.length, .int w]) ?_ (grid_ok (by have := g.r6; omega) (by have := g.w6; omega)) ?_)) ?_).mono ?_)
  · have e1 : subD (rowsD R) (.int 0) = .ok (lS (R.getD 0 [])) := subD_tup (l := R.map lS) (i := 0) (by rw [List.getElem?_map, List.getElem?_eq_getElem hR, h0]; rfl)
    simp only [evL_cons, evL_nil, evE_bf, evE_sub, evE_var, evE_int, getV_zero, bind_ok, subD_tup0, e1, bf_len, oneD_one, lS, lenF_str, len_lS, hw]
    simp [rowsD]
  · rintro _ rfl
    exact ev rfl
  · rintro ⟨i, j⟩ hc
    have hc := mem_grid.mp hc
    have hi : i < R.length := hc.1
    have hg := g.get hi
    have hj : j < (R.getD i []).length := by rw [hg.1]; exact hc.2
    refine ⟨[some (.tup [rowsD R, s]), some (lS S), some (.int (i : Int)), some (.int (j : Int))], rfl, ?_, fun _ => by simp [cD]⟩
    have e1 : subD (rowsD R) (.int (i : Int)) = .ok (lS (R.getD i [])) := subD_tup (l := R.map lS) (i := i) (by rw [List.getElem?_map, List.getElem?_eq_getElem hi, List.getD_eq_getElem?_getD, List.getElem?_eq_getElem hi]; rfl)
    have e2 : subD (lS (R.getD i [])) (.int (j : Int)) = .ok (cS (sgn R (i, j))) := by
      have ha : atIx (strOf (R.getD i [])).cps.toList (j : Int) = some ((R.getD i [])[j]) := by
        unfold atIx
        rw [if_pos (by omega), Int.toNat_natCast]
        simp [strOf]
      show (match atIx (strOf (R.getD i [])).cps.toList (j : Int) with | some c => Pv.R.ok (D.str (strOf [c])) | none => Pv.R.bad) = _
      rw [ha]
      have : sgn R (i, j) = (R.getD i [])[j] := by
        unfold sgn
        rw [List.getD_eq_getElem?_getD, List.getElem?_eq_getElem hj]; rfl
      rw [this]; rfl
    have e3 : inD (cS (sgn R (i, j))) (lS S) = .ok (decide (sgn R (i, j) ∈ S)) := by
      have : (strOf S).cps.toList = S := by simp [strOf]
      show Pv.R.ok (decide (sgn R (i, j) ∈ (strOf S).cps.toList)) = _
      rw [this]
    simp only [evE_op, evE_sub, evE_var, evE_int, getV_zero, getV_succ, bind_ok, subD_tup0, e1, e2, opE_inn, e3, truthy_bl]
  · rintro _ rfl
    rfl
theorem floor_ok {R : List (List Nat)} {w : Nat} {s : D} (g : Good R w) : (run gam glo N (k + 3) "_law_floor" [] [.tup [rowsD R, s]]).Ev fun r => r = (.lst ((cells R w [46, 120]).map cD), []) := by
  rw [r_floor]
  refine sat_bodyE [some (.tup [rowsD R, s])] rfl rfl rfl rfl ?_
  refine sat_ret (sat_call (xs := [.tup [rowsD R, s], lS [46, 120]]) (by simp; rfl) (signs_ok g) ?_)
  rintro _ rfl
  rfl
theorem marks_ok {R : List (List Nat)} {w : Nat} {s : D} (g : Good R w) : (run gam glo N (k + 3) "_law_marks" [] [.tup [rowsD R, s]]).Ev fun r => r = (.lst ((cells R w [120]).map cD), []) := by
  rw [r_marks]
  refine sat_bodyE [some (.tup [rowsD R, s])] rfl rfl rfl rfl ?_
  refine sat_ret (sat_call (xs := [.tup [rowsD R, s], lS [120]]) (by simp; rfl) (signs_ok g) ?_)
  rintro _ rfl
  rfl
/-- drawn rows are good -/
theorem filter_len {h w : Nat} {l : List Cell} (hn : l.Nodup) (hs : ∀ c ∈ l, c ∈ grid h w) {p : Cell → Bool} (hp : ∀ c ∈ grid h w, p c = decide (c ∈ l)) : ((grid h w).filter p).length = l.length := by
  have e : (grid h w).filter p = (grid h w).filter fun c => decide (c ∈ l) := List.filter_congr hp
  rw [e]
  apply Nat.le_antisymm
  · refine nodup_sub_len ((grid_nodup h w).filter _) fun c hc => ?_
    have := (List.mem_filter.mp hc).2
    simpa using this
  · refine nodup_sub_len hn fun c hc => ?_
    rw [List.mem_filter]
    exact ⟨hs c hc, by simpa using hc⟩
theorem drawn_good {h w : Nat} {fl gs : List Cell} {m q : Nat} (d : Drawn h w fl gs m q) (hm : m ≤ 14) (hq : q ≤ 3) : Good (rowsOf h w fl gs) w := by
  have hl : (rowsOf h w fl gs).length = h := by simp [rowsOf]
  have hs : ∀ c ∈ grid h w, sgn (rowsOf h w fl gs) c = if c ∈ gs then 120 else if c ∈ fl then 46 else 35 := fun c hc => by
    have hc := mem_grid.mp hc
    obtain ⟨i, j⟩ := c
    unfold sgn rowsOf
    simp [hc.1, hc.2]
  have c1 : (cells (rowsOf h w fl gs) w [46, 120]).length = fl.length := by
    unfold cells
    rw [hl]
    refine filter_len d.nf d.fg fun c hc => ?_
    rw [hs c hc, Bool.eq_iff_iff, decide_eq_true_eq, decide_eq_true_eq]
    by_cases z1 : c ∈ gs
    · simp [z1, d.gf c z1]
    · by_cases z2 : c ∈ fl <;> simp [z1, z2]
  have c2 : (cells (rowsOf h w fl gs) w [120]).length = gs.length := by
    unfold cells
    rw [hl]
    refine filter_len d.ng (fun c hc => d.fg c (d.gf c hc)) fun c hc => ?_
    rw [hs c hc, Bool.eq_iff_iff, decide_eq_true_eq, decide_eq_true_eq]
    by_cases z1 : c ∈ gs
    · simp [z1]
    · by_cases z2 : c ∈ fl <;> simp [z1, z2]
  have := d.h1; have := d.h4; have := d.w3; have := d.w5; have := d.f3; have := d.fm; have := d.g1; have := d.gq; have := d.lt
  refine ⟨by omega, by omega, by omega, by omega, fun l hl => ?_, by omega, by omega, by omega, by omega, by omega⟩
  unfold rowsOf at hl
  obtain ⟨i, hi, rfl⟩ := List.mem_map.mp hl
  refine ⟨by simp, fun c hc => ?_⟩
  obtain ⟨j, hj, rfl⟩ := List.mem_map.mp hc
  by_cases z1 : (i, j) ∈ gs
  · simp [z1]
  · by_cases z2 : (i, j) ∈ fl <;> simp [z1, z2]
end
end Pv

set_option autoImplicit false
set_option linter.all false
set_option maxRecDepth 10000
namespace Pv
open Pl
open PySem (Str)
/-! the order of cells -/
def clt (a b : Cell) : Bool := decide (a.1 < b.1) || (decide (a.1 = b.1) && decide (a.2 < b.2))
theorem clt_iff {a b : Cell} : clt a b = true ↔ a.1 < b.1 ∨ (a.1 = b.1 ∧ a.2 < b.2) := by
  unfold clt
  simp
theorem lt_cD (a b : Cell) : D.lt (cD a) (cD b) = clt a b := by
  obtain ⟨i, j⟩ := a; obtain ⟨k, l⟩ := b
  show (if ((i : Int) == (k : Int)) then (if ((j : Int) == (l : Int)) then false else decide ((j : Int) < (l : Int))) else decide ((i : Int) < (k : Int))) = _
  rw [Bool.eq_iff_iff, clt_iff]
  by_cases h1 : i = k
  · subst h1
    rw [if_pos (by simp)]
    by_cases h2 : j = l
    · subst h2; simp
    · rw [if_neg (by simp only [beq_iff_eq]; omega)]; simp
  · rw [if_neg (by simp only [beq_iff_eq]; omega)]
    simp [h1]
theorem clt_irr (a : Cell) : clt a a = false := by
  rw [Bool.eq_false_iff]
  intro h
  rw [clt_iff] at h
  omega
theorem clt_tr {a b c : Cell} (h1 : clt a b = true) (h2 : clt b c = true) : clt a c = true := by
  rw [clt_iff] at *
  omega
theorem clt_tot {a b : Cell} (h : a ≠ b) : clt a b = true ∨ clt b a = true := by
  rw [clt_iff, clt_iff]
  by_cases h1 : a.1 = b.1
  · have : a.2 ≠ b.2 := fun h2 => h (Prod.ext h1 h2)
    omega
  · omega
/-- ascending -/
def Asc (l : List Cell) : Prop := l.Pairwise fun a b => clt a b = true
theorem Asc.nodup {l : List Cell} (h : Asc l) : l.Nodup := h.imp fun {a b} h e => by rw [e, clt_irr] at h; cases h
theorem asc_grid (h w : Nat) : Asc (grid h w) := by
  induction h with
  | zero => simp [grid, Asc]
  | succ h ih =>
    rw [grid_succ]
    unfold Asc
    rw [List.pairwise_append]
    refine ⟨ih, ?_, ?_⟩
    · rw [List.pairwise_map]
      exact (List.pairwise_lt_range (n := w)).imp fun h => by rw [clt_iff]; exact .inr ⟨rfl, h⟩
    · intro a ha b hb
      obtain ⟨j, _, rfl⟩ := List.mem_map.mp hb
      rw [clt_iff]
      exact .inl (mem_grid.mp ha).1
theorem asc_cells (R : List (List Nat)) (w : Nat) (S : List Nat) : Asc (cells R w S) := (asc_grid R.length w).filter _
/-- ascending lists of the same members are the same -/
theorem asc_ext : ∀ {l m : List Cell}, Asc l → Asc m → (∀ c, c ∈ l ↔ c ∈ m) → l = m
  | [], [], _, _, _ => rfl
  | [], b :: m, _, _, h => absurd ((h b).mpr (by simp)) (by simp)
  | a :: l, [], _, _, h => absurd ((h a).mp (by simp)) (by simp)
  | a :: l, b :: m, h1, h2, h => by
    unfold Asc at h1 h2
    rw [List.pairwise_cons] at h1 h2
    have e : a = b := by
      apply Classical.byContradiction
      intro ne
      have m1 : a ∈ m := ((List.mem_cons.mp ((h a).mp (by simp))).resolve_left ne)
      have m2 : b ∈ l := ((List.mem_cons.mp ((h b).mpr (by simp))).resolve_left (Ne.symm ne))
      have := clt_tr (h1.1 b m2) (h2.1 a m1)
      rw [clt_irr] at this; cases this
    subst e
    have n1 : a ∉ l := fun z => by have := h1.1 a z; rw [clt_irr] at this; cases this
    have n2 : a ∉ m := fun z => by have := h2.1 a z; rw [clt_irr] at this; cases this
    rw [asc_ext h1.2 h2.2 fun c => ⟨fun z => ((List.mem_cons.mp ((h c).mp (by simp [z]))).resolve_left fun e => n1 (e ▸ z)), fun z => ((List.mem_cons.mp ((h c).mpr (by simp [z]))).resolve_left fun e => n2 (e ▸ z))⟩]
/-- sorted cells -/
theorem sort_asc (fl : List Cell) : ∃ ls : List Cell, ls.Perm fl ∧ sortF (.lst (fl.map cD)) = .ok (.lst (ls.map cD)) ∧ (fl.Nodup → Asc ls) := by
  refine ⟨fl.mergeSort fun a b => !clt b a, List.mergeSort_perm _ _, ?_, fun nd => ?_⟩
  · have h1 : comparable (fl.map cD) = true := by
      unfold comparable
      simp [cD, D.alike, D.alikeL]
    have h2 : sortable (fl.map cD) = true := by
      unfold sortable
      simp [cD, isTup1]
    have h3 : sortD (fl.map cD) = (fl.mergeSort fun a b => !clt b a).map cD := by
      unfold sortD
      rw [List.map_mergeSort (s := fun a b => !D.lt b a) fun a _ b _ => by rw [lt_cD]]
    show (if comparable (fl.map cD) && sortable (fl.map cD) && D.plainL 32 (fl.map cD) then R.ok (D.lst (sortD (fl.map cD))) else .bad) = _
    rw [h1, h2, plainL_map (plain_cD 31), h3]
    rfl
  · have hs := List.pairwise_mergeSort (le := fun a b : Cell => !clt b a) (fun a b c h1 h2 => by
      simp only [Bool.not_eq_true', Bool.eq_false_iff, ne_eq, clt_iff] at h1 h2 ⊢
      omega) (fun a b => by
      simp only [Bool.or_eq_true, Bool.not_eq_true', Bool.eq_false_iff, ne_eq, clt_iff]
      omega) fl
    have nd2 := (List.mergeSort_perm fl fun a b => !clt b a).nodup_iff.mpr nd
    unfold Asc
    refine (hs.and nd2).imp fun {a b} ⟨h1, h2⟩ => ?_
    rcases clt_tot h2 with h | h
    · exact h
    · rw [h] at h1; cases h1
/-! standings -/
def standD (a : Cell) (bs : List Cell) : D := .tup [cD a, .tup (bs.map cD)]
def flo (R : List (List Nat)) (w : Nat) : List Cell := cells R w [46, 120]
def mks (R : List (List Nat)) (w : Nat) : List Cell := cells R w [120]
/-- boxes: a set of n cells of the floor -/
structure Boxes (R : List (List Nat)) (w : Nat) (n : Nat) (bs : List Cell) : Prop where
  asc : Asc bs
  fl : ∀ b ∈ bs, b ∈ flo R w
  len : bs.length = n
structure Stand (R : List (List Nat)) (w : Nat) (a : Cell) (bs : List Cell) : Prop where
  hand : a ∈ flo R w
  bx : Boxes R w (mks R w).length bs
  no : a ∉ bs
theorem flo_bd {R : List (List Nat)} {w : Nat} (g : Good R w) {c : Cell} (h : c ∈ flo R w) : c.1 ≤ 6 ∧ c.2 ≤ 6 := by
  have h := mem_grid.mp (List.mem_filter.mp h).1
  have := g.r6; have := g.w6
  omega
theorem in_tup (c : Cell) (l : List Cell) : inD (cD c) (.tup (l.map cD)) = .ok (decide (c ∈ l)) := by
  show (if D.plain 32 (cD c) && D.plainL 32 (l.map cD) then R.ok ((l.map cD).any fun z => D.eqv z (cD c)) else .bad) = _
  rw [plain_cD 31, plainL_map (plain_cD 31), any_cD]; rfl
section
variable {N k : Nat}
theorem r_is_up_to : run gam glo N (k + 1) "is_up_to" [] = fun ds => callFd glo (run gam glo N k) N f_is_up_to ds := by funext ds; exact run_fd rfl
theorem r_is_tuple_of : run gam glo N (k + 1) "is_tuple_of" [] = fun ds => callFd glo (run gam glo N k) N f_is_tuple_of ds := by funext ds; exact run_fd rfl
theorem r_is_pair : run gam glo N (k + 1) "is_pair" [] = fun ds => callFd glo (run gam glo N k) N f_is_pair ds := by funext ds; exact run_fd rfl
theorem r_are_below : run gam glo N (k + 1) "are_below" [] = fun ds => callFd glo (run gam glo N k) N f_are_below ds := by funext ds; exact run_fd rfl
theorem r_are_all : run gam glo N (k + 1) "are_all" [] = fun ds => callFd glo (run gam glo N k) N f_are_all ds := by funext ds; exact run_fd rfl
theorem r_is_cell : run gam glo N (k + 1) "is_cell" [] = fun ds => callFd glo (run gam glo N k) N f_is_cell ds := by funext ds; exact run_fd rfl
theorem r_are_cells : run gam glo N (k + 1) "are_cells" [] = fun ds => callFd glo (run gam glo N k) N f_are_cells ds := by funext ds; exact run_fd rfl
theorem r_is_right : run gam glo N (k + 1) "are_cells.<locals>.is_right" [] = fun ds => callFd glo (run gam glo N k) N f_are_cells__locals__is_right ds := by funext ds; exact run_fd rfl
theorem r_is_standing : run gam glo N (k + 1) "is_standing" [] = fun ds => callFd glo (run gam glo N k) N f_is_standing ds := by funext ds; exact run_fd rfl
theorem r_check_yard : run gam glo N (k + 1) "check_yard" [] = fun ds => callFd glo (run gam glo N k) N f_check_yard ds := by funext ds; exact run_fd rfl
theorem r_check_standing : run gam glo N (k + 1) "check_standing" [] = fun ds => callFd glo (run gam glo N k) N f_check_standing ds := by funext ds; exact run_fd rfl
theorem r_check_both : run gam glo N (k + 1) "check_both" [] = fun ds => callFd glo (run gam glo N k) N f_check_both ds := by funext ds; exact run_fd rfl
theorem is_up_to_ok (a m : Int) : (run gam glo N (k + 3) "is_up_to" [] [.int a, .int m]).Ev fun r => r = (.bl (decide (0 ≤ a ∧ a ≤ m)), []) := by
  rw [r_is_up_to]
  refine sat_bodyE [some (.int a), some (.int m)] rfl rfl rfl rfl ?_
  refine sat_ret (sat_call (xs := [.int a, .int 0, .int m]) (by simp) (is_between_ok _ _ _) ?_)
  rintro _ rfl
  rfl
theorem is_tuple_of_ok (l : List D) (m : Int) : (run gam glo N (k + 1) "is_tuple_of" [] [.tup l, .int m]).Ev fun r => r = (.bl ((l.length : Int) == m), []) := by
  rw [r_is_tuple_of]
  refine sat_bodyE [some (.tup l), some (.int m)] rfl rfl rfl rfl ?_
  refine sat_ret (sat_andT (by simp) (sat_op ?_))
  simp
theorem is_pair_ok (a b : D) : (run gam glo N (k + 2) "is_pair" [] [.tup [a, b]]).Ev fun r => r = (.bl true, []) := by
  rw [r_is_pair]
  refine sat_bodyE [some (.tup [a, b])] rfl rfl rfl rfl ?_
  refine sat_ret (sat_call (xs := [.tup [a, b], .int 2]) (by simp) (is_tuple_of_ok _ _) ?_)
  rintro _ rfl
  rfl
theorem at_floor (R : List (List Nat)) (w : Nat) (s : Int) (x : D) : attrD glo.attrs (yardD R w s x) "floor" = .ok (.tup ((flo R w).map cD)) := (rfl)
theorem at_marks (R : List (List Nat)) (w : Nat) (s : Int) (x : D) : attrD glo.attrs (yardD R w s x) "marks" = .ok (.tup ((mks R w).map cD)) := (rfl)
theorem at_strength (R : List (List Nat)) (w : Nat) (s : Int) (x : D) : attrD glo.attrs (yardD R w s x) "strength" = .ok (.int s) := (rfl)
theorem at_nexts (R : List (List Nat)) (w : Nat) (s : Int) (x : D) : attrD glo.attrs (yardD R w s x) "nexts" = .ok x := (rfl)
theorem is_cell_ok {R : List (List Nat)} {w : Nat} {s : Int} {x : D} (g : Good R w) (c : Cell) : (run gam glo N (k + 4) "is_cell" [] [yardD R w s x, cD c]).Ev fun r => r = (.bl (decide (c ∈ flo R w)), []) := by
  rw [r_is_cell]
  refine sat_bodyE [some (yardD R w s x), some (cD c)] rfl rfl rfl rfl ?_
  have sub0 : evE glo (run gam glo N (k + 3)) [some (yardD R w s x), some (cD c)] (.sub (.var 1) (.int 0)) = .ok (.int c.1) := rfl
  have sub1 : evE glo (run gam glo N (k + 3)) [some (yardD R w s x), some (cD c)] (.sub (.var 1) (.int 1)) = .ok (.int c.2) := rfl
  by_cases hb : c.1 ≤ 6 ∧ c.2 ≤ 6
  · refine sat_seqN (sat_ifF (sat_or (sat_notT (sat_call (xs := [cD c]) (by simp) (is_pair_ok _ _) ?_) (ev ?_))) (sat_skip rfl)) ?_
    · rintro _ rfl; rfl
    · rw [if_neg Bool.false_ne_true]
      refine sat_or (sat_notT (sat_call (xs := [.int c.1, .int 6]) (by rw [evL_cons, sub0]; simp) (is_up_to_ok _ _) ?_) (ev ?_))
      · rintro _ rfl
        congr 1
        simp; omega
      · rw [if_neg Bool.false_ne_true]
        refine sat_notT (sat_call (xs := [.int c.2, .int 6]) (by rw [evL_cons, sub1]; simp) (is_up_to_ok _ _) ?_) rfl
        rintro _ rfl
        congr 1
        simp; omega
    · refine sat_ret ?_
      simp only [evE_op, evE_var, evE_attr, getV_zero, getV_succ, bind_ok, at_floor, opE_inn, in_tup]
      exact ev rfl
  · have hf : decide (c ∈ flo R w) = false := by
      rw [decide_eq_false_iff_not]
      exact fun z => hb (flo_bd g z)
    rw [hf]
    refine sat_seq (sat_ifT (sat_or (sat_notT (sat_call (xs := [cD c]) (by simp) (is_pair_ok _ _) ?_) (ev ?_))) (sat_ret (by simp)))
    · rintro _ rfl; rfl
    · rw [if_neg Bool.false_ne_true]
      refine sat_or (sat_nott (sat_call (xs := [.int c.1, .int 6]) (by rw [evL_cons, sub0]; simp) (is_up_to_ok _ _) ?_))
      rintro _ rfl
      by_cases h1 : c.1 ≤ 6
      · rw [show decide ((0 : Int) ≤ (c.1 : Int) ∧ (c.1 : Int) ≤ 6) = true by simp; omega]
        refine ev (ev ?_)
        rw [if_neg (by simp)]
        refine sat_notF (sat_call (xs := [.int c.2, .int 6]) (by rw [evL_cons, sub1]; simp) (is_up_to_ok _ _) ?_) rfl
        rintro _ rfl
        congr 1
        simp; omega
      · rw [show decide ((0 : Int) ≤ (c.1 : Int) ∧ (c.1 : Int) ≤ 6) = false by simp; omega]
        exact ev (ev (by rw [if_pos (by simp)]; rfl))
theorem subD_last {l : List Cell} (h : l ≠ []) : subD (.tup (l.map cD)) (.int (-1)) = .ok (cD (l.getLast h)) := by
  have e : atIx (l.map cD) (-1) = some (cD (l.getLast h)) := by
    unfold atIx
    have hl : 0 < l.length := List.length_pos_iff.mpr h
    rw [if_neg (by omega), if_pos (by simp; omega)]
    rw [List.length_map, show ((-1 : Int) + (l.length : Int)).toNat = l.length - 1 by omega, List.getElem?_map, ← List.getLast?_eq_getElem?, List.getLast?_eq_some_getLast h]
    rfl
  show (match atIx (l.map cD) (-1) with | some d => Pv.R.ok d | none => .bad) = _
  rw [e]
theorem eq_nilT {l : List D} (h : D.plainL 31 l = true) : eqD (.tup l) (.tup []) = .ok (.bl l.isEmpty) := by
  show (if D.plainL 31 l && true then R.ok (D.bl (D.eqv (.tup l) (.tup []))) else .bad) = _
  rw [h]
  cases l <;> rfl
theorem are_below_ok (l : List Cell) (c : Cell) : (run gam glo N (k + 1) "are_below" [] [.tup (l.map cD), cD c]).Ev fun r => r = (.bl (match l.getLast? with | some a => clt a c | none => true), []) := by
  rw [r_are_below]
  refine sat_bodyE [some (.tup (l.map cD)), some (cD c)] rfl rfl rfl rfl ?_
  refine sat_ret (sat_or ?_)
  simp only [evE_op, evE_var, getV_zero, getV_succ, bind_ok, evE_tup, evL_nil, opE_eq, eq_nilT (plainL_map (plain_cD 30) l), sat_ok, truthy_bl]
  cases l with
  | nil => rfl
  | cons a l =>
    rw [if_neg (by simp)]
    rw [List.getLast?_eq_some_getLast (List.cons_ne_nil a l)]
    simp only [evE_sub, evE_neg, evE_int, evE_var, getV_zero, getV_succ, bind_ok, subD_last (List.cons_ne_nil a l), opE_lt]
    have : binD .lt (cD ((a :: l).getLast (List.cons_ne_nil a l))) (cD c) = .ok (.bl (D.lt (cD ((a :: l).getLast (List.cons_ne_nil a l))) (cD c))) := (rfl)
    rw [this, lt_cD]
    exact ev rfl
end
end Pv

set_option autoImplicit false
set_option linter.all false
set_option maxRecDepth 10000
namespace Pv
open Pl
open PySem (Str)
/-! the cells beside -/
def wayL : List Nat := [101, 110, 115, 119]
def stepI (y : Nat) : Int × Int := if y = 101 then (0, 1) else if y = 110 then (-1, 0) else if y = 115 then (1, 0) else (0, -1)
def isAt (c : Cell) (y : Nat) (e : Cell) : Bool := decide ((e.1 : Int) = (c.1 : Int) + (stepI y).1) && decide ((e.2 : Int) = (c.2 : Int) + (stepI y).2)
def nb (fl : List Cell) (c : Cell) (y : Nat) : Option Cell := fl.find? fun e => isAt c y e
def oD : Option Cell → D
  | none => .non
  | some c => cD c
def nxKey (c : Cell) (y : Nat) : D := .tup [cD c, cS y]
def nxK (fl : List Cell) : List D := fl.flatMap fun c => wayL.map fun y => nxKey c y
def nxV (gl fl : List Cell) : List D := fl.flatMap fun c => wayL.map fun y => oD (nb gl c y)
def nxD (fl : List Cell) : D := .dic (nxK fl) (nxV fl fl)
theorem isAt_eq {c e e' : Cell} {y : Nat} (h : isAt c y e = true) (h' : isAt c y e' = true) : e = e' := by
  unfold isAt at h h'
  simp only [Bool.and_eq_true, decide_eq_true_eq] at h h'
  exact Prod.ext (by omega) (by omega)
theorem nb_some {fl : List Cell} {c e : Cell} {y : Nat} : nb fl c y = some e ↔ e ∈ fl ∧ isAt c y e = true := by
  unfold nb
  constructor
  · intro h
    exact ⟨List.mem_of_find?_eq_some h, by simpa using List.find?_some h⟩
  · rintro ⟨h1, h2⟩
    cases h : fl.find? fun e => isAt c y e with
    | none =>
      have := List.find?_eq_none.mp h e h1
      exact absurd h2 this
    | some e' => rw [isAt_eq h2 (by simpa using List.find?_some h)]
theorem nb_none {fl : List Cell} {c : Cell} {y : Nat} : nb fl c y = none ↔ ∀ e ∈ fl, isAt c y e = false := by
  unfold nb
  rw [List.find?_eq_none]
  exact forall_congr' fun e => imp_congr_right fun _ => by simp
theorem eqv_key (c d : Cell) (y z : Nat) : D.eqv (nxKey c y) (nxKey d z) = (decide (c = d) && decide (y = z)) := by
  show (D.eqv (cD c) (cD d) && (D.eqv (cS y) (cS z) && true)) = _
  rw [eqv_cD, eqv_cS, Bool.and_true]
theorem dput_new {k v : D} : ∀ {ks vs : List D}, ks.length = vs.length → (∀ k' ∈ ks, D.eqv k k' = false) → dput ks vs k v = (ks ++ [k], vs ++ [v])
  | [], [], _, _ => rfl
  | [], _ :: _, h, _ => by simp at h
  | _ :: _, [], h, _ => by simp at h
  | k' :: ks, v' :: vs, h, hn => by
    rw [dput, hn k' (by simp), dput_new (ks := ks) (vs := vs) (by simpa using h) fun x hx => hn x (by simp [hx])]
    rfl
theorem dlook_none {k : D} : ∀ {ks vs : List D}, (∀ k' ∈ ks, D.eqv k k' = false) → dlook ks vs k = none
  | [], vs, _ => by cases vs <;> rfl
  | k' :: ks, [], _ => rfl
  | k' :: ks, v' :: vs, hn => by
    rw [dlook, hn k' (by simp)]
    exact dlook_none fun x hx => hn x (by simp [hx])
theorem dlook_app {k : D} : ∀ {ks vs ks' vs' : List D}, ks.length = vs.length → (∀ k' ∈ ks, D.eqv k k' = false) → dlook (ks ++ ks') (vs ++ vs') k = dlook ks' vs' k
  | [], [], _, _, _, _ => rfl
  | [], _ :: _, _, _, h, _ => by simp at h
  | _ :: _, [], _, _, h, _ => by simp at h
  | k' :: ks, v' :: vs, ks2, vs2, h, hn => by
    rw [List.cons_append, List.cons_append, dlook, hn k' (by simp)]
    exact dlook_app (by simpa using h) fun x hx => hn x (by simp [hx])
theorem nx_len (gl fl : List Cell) : (nxK fl).length = (nxV gl fl).length := by
  unfold nxK nxV
  induction fl with
  | nil => rfl
  | cons c fl ih => rw [List.flatMap_cons, List.flatMap_cons, List.length_append, List.length_append, ih]; simp
theorem nxK_len (fl : List Cell) : (nxK fl).length = 4 * fl.length := by
  unfold nxK wayL
  induction fl with
  | nil => rfl
  | cons a p ih => rw [List.flatMap_cons, List.length_append, ih]; simp; omega
theorem nxK_ne {fl : List Cell} {c : Cell} (h : c ∉ fl) (y : Nat) : ∀ k ∈ nxK fl, D.eqv (nxKey c y) k = false := fun k hk => by
  unfold nxK at hk
  obtain ⟨d, hd, hk⟩ := List.mem_flatMap.mp hk
  obtain ⟨z, _, rfl⟩ := List.mem_map.mp hk
  rw [eqv_key]
  have : c ≠ d := fun e => h (e ▸ hd)
  simp [this]
theorem nx_get {gl : List Cell} {c : Cell} {y : Nat} (hy : y ∈ wayL) : ∀ {fl : List Cell}, c ∈ fl → dlook (nxK fl) (nxV gl fl) (nxKey c y) = some (oD (nb gl c y))
  | d :: fl, hc => by
    unfold nxK nxV
    rw [List.flatMap_cons, List.flatMap_cons]
    by_cases e : c = d
    · subst e
      unfold wayL at *
      simp only [List.map_cons, List.map_nil, List.cons_append, List.nil_append, dlook, eqv_key, decide_true, Bool.true_and]
      simp only [List.mem_cons, List.not_mem_nil, or_false] at hy
      rcases hy with rfl | rfl | rfl | rfl <;> rfl
    · rw [dlook_app (by simp) fun k hk => ?_]
      · exact nx_get hy (fl := fl) ((List.mem_cons.mp hc).resolve_left e)
      · obtain ⟨z, _, rfl⟩ := List.mem_map.mp hk
        rw [eqv_key]; simp [e]
theorem nxK_tk (fl : List Cell) : TK (nxK fl) := fun k hk => by
  unfold nxK at hk
  obtain ⟨d, hd, hk⟩ := List.mem_flatMap.mp hk
  obtain ⟨z, _, rfl⟩ := List.mem_map.mp hk
  rfl
theorem nx_sub {fl : List Cell} {c : Cell} {y : Nat} (hc : c ∈ fl) (hy : y ∈ wayL) : subD (nxD fl) (nxKey c y) = .ok (oD (nb fl c y)) := by
  show (if keyFits (nxK fl) (nxKey c y) then match dlook (nxK fl) (nxV fl fl) (nxKey c y) with | some d => R.ok d | none => .bad else .bad) = _
  rw [if_pos (fits (nxK_tk fl) rfl rfl rfl), nx_get hy hc]
theorem noClo_nx (fl : List Cell) : (nxD fl).noClo = true := by
  show (D.noCloL (nxK fl) && D.noCloL (nxV fl fl)) = true
  have app : ∀ a b : List D, D.noCloL a = true → D.noCloL b = true → D.noCloL (a ++ b) = true := fun a b ha hb => by
    induction a with
    | nil => exact hb
    | cons x a ih =>
      rw [D.noCloL, Bool.and_eq_true] at ha
      show (D.noClo x && D.noCloL (a ++ b)) = true
      rw [ha.1, ih ha.2]; rfl
  have h1 : ∀ fl : List Cell, D.noCloL (nxK fl) = true := fun fl => by
    unfold nxK
    induction fl with
    | nil => rfl
    | cons c fl ih => rw [List.flatMap_cons]; exact app _ _ (noClo_map (fun _ => rfl) _) ih
  have h2 : ∀ gl fl : List Cell, D.noCloL (nxV gl fl) = true := fun gl fl => by
    unfold nxV
    induction fl with
    | nil => rfl
    | cons c fl ih =>
      rw [List.flatMap_cons]
      exact app _ _ (noClo_map (fun y => by cases nb gl c y <;> rfl) _) ih
  rw [h1, h2]; rfl
section
variable {N k : Nat}
theorem around_okX {c : Cell} {y : Nat} (hc : y ∈ wayL) : (run gam glo N (k + 1) "around" [] [cD c, cS y]).Ev fun r => r = (.tup [.int ((c.1 : Int) + (stepI y).1), .int ((c.2 : Int) + (stepI y).2)], []) := by
  rw [r_around]
  refine sat_bodyE [some (cD c), some (cS y), none] rfl rfl rfl rfl ?_
  have e : evE glo (run gam glo N k) [some (cD c), some (cS y), none] (.gsub "AWAY" (.var 1)) = .ok (.tup [.int (stepI y).1, .int (stepI y).2]) := by
    rw [evE_gsub _ _ _ _ (show glo.gdic "AWAY" = some _ from rfl)]
    simp only [evE_var, getV_succ, getV_zero, bind_ok]
    simp only [wayL, List.mem_cons, List.not_mem_nil, or_false] at hc
    rcases hc with rfl | rfl | rfl | rfl <;> rfl
  refine sat_seq (sat_set (sat_eq e ?_))
  simp only [setV_succ, setV_zero]
  refine sat_ret ?_
  simp [cD]
theorem pairs_new (f : Cell → D) : ∀ (l p : List Cell) (vs : List D), (p ++ l).Nodup → vs.length = p.length → ∃ vs', pairsInto (l.map fun c => .tup [cD c, f c]) (p.map cD) vs = .ok (.dic ((p ++ l).map cD) vs')
  | [], p, vs, _, _ => ⟨vs, by rw [List.append_nil]; rfl⟩
  | c :: l, p, vs, nd, hl => by
    have e : pairsInto ((c :: l).map fun c => .tup [cD c, f c]) (p.map cD) vs = if keyFits (p.map cD) (cD c) then pairsInto (l.map fun c => .tup [cD c, f c]) (dput (p.map cD) vs (cD c) (f c)).1 (dput (p.map cD) vs (cD c) (f c)).2 else .bad := rfl
    have tk : TK (p.map cD) := fun k hk => by obtain ⟨d, _, rfl⟩ := List.mem_map.mp hk; rfl
    have hn : c ∉ p := fun z => by
      rw [List.nodup_append] at nd
      exact nd.2.2 c z c (by simp) rfl
    rw [e, if_pos (fits tk rfl rfl rfl), dput_new (by simp [hl]) fun k hk => by
      obtain ⟨d, hd, rfl⟩ := List.mem_map.mp hk
      rw [eqv_cD, decide_eq_false_iff_not]
      exact fun z => hn (z ▸ hd)]
    have := pairs_new f l (p ++ [c]) (vs ++ [f c]) (by simpa using nd) (by simp [hl])
    rw [List.append_assoc, List.map_append] at this
    exact this
theorem any_at {fl : List Cell} {c : Cell} {y : Nat} : ((fl.map cD).any fun z => D.eqv (.tup [.int ((c.1 : Int) + (stepI y).1), .int ((c.2 : Int) + (stepI y).2)]) z) = (nb fl c y).isSome := by
  rw [Bool.eq_iff_iff, List.any_eq_true]
  have ee : ∀ e : Cell, D.eqv (.tup [.int ((c.1 : Int) + (stepI y).1), .int ((c.2 : Int) + (stepI y).2)]) (cD e) = isAt c y e := fun e => by
    show ((((c.1 : Int) + (stepI y).1) == (e.1 : Int)) && ((((c.2 : Int) + (stepI y).2) == (e.2 : Int)) && true)) = _
    unfold isAt
    rw [Bool.eq_iff_iff]
    simp only [Bool.and_eq_true, beq_iff_eq, and_true, decide_eq_true_eq]
    exact and_congr eq_comm eq_comm
  constructor
  · rintro ⟨z, hz, h⟩
    obtain ⟨e, he, rfl⟩ := List.mem_map.mp hz
    rw [ee] at h
    rw [nb_some.mpr ⟨he, h⟩]; rfl
  · intro h
    obtain ⟨e, h⟩ := Option.isSome_iff_exists.mp h
    obtain ⟨h1, h2⟩ := nb_some.mp h
    exact ⟨cD e, List.mem_map.mpr ⟨e, h1, rfl⟩, by rw [ee]; exact h2⟩
theorem nexts_okX {l : List Cell} (hl : l.length ≤ 20) (nd : l.Nodup) : (run gam glo N (k + 2) "nexts_of" [] [.tup (l.map cD)]).Ev fun r => r = (nxD l, []) := by
  rw [r_nexts_of]
  refine sat_bodyE [some (.tup (l.map cD)), none, none, none, none, none] rfl rfl rfl rfl ?_
  obtain ⟨vs0, hk0⟩ := pairs_new (fun _ => .bl true) l [] [] (by simpa using nd) rfl
  rw [List.nil_append] at hk0
  have hk0 : pairsInto (l.map fun c => .tup [cD c, .bl true]) [] [] = .ok (.dic (l.map cD) vs0) := hk0
  have tk0 : TK (l.map cD) := fun k hk => by obtain ⟨d, _, rfl⟩ := List.mem_map.mp hk; rfl
  have e1 : evE glo (run gam glo N (k + 1)) [some (.tup (l.map cD)), none, none, none, none, none] (.bf .dict (.econs (.comp (.tup (.econs (.var 3) (.econs (.bl true) .enil))) (.var 3) (.over (.var 0)) (.bl true) [3]) .enil)) = .ok (.dic (l.map cD) vs0) := by
    have e : evE glo (run gam glo N (k + 1)) [some (.tup (l.map cD)), none, none, none, none, none] (.comp (.tup (.econs (.var 3) (.econs (.bl true) .enil))) (.var 3) (.over (.var 0)) (.bl true) [3]) = .ok (.lst (l.map fun c => .tup [cD c, .bl true])) :=
      comp_true (e := cD) (by simp) fun c hc => by simp
    rw [evE_bf, evL_cons, e]
    simp [hk0]
  refine sat_seq (sat_par2 (sat_eq e1 ?_))
  simp
  have e2 : evI glo (run gam glo N (k + 1)) [some (.tup (l.map cD)), some (.dic (l.map cD) vs0), some (.dic [] []), none, none, none] (.over (.var 0)) = .ok (l.map cD) := by simp
  refine sat_seq (sat_forE e2 (forL_mapI (fun p ρ => ∃ o3 o4 o5, ρ = [some (.tup (l.map cD)), some (.dic (l.map cD) vs0), some (.dic (nxK p) (nxV l p)), o3, o4, o5]) ⟨none, none, none, rfl⟩ ?_ ?_))
  · rintro p c s ρ hp ⟨o3, o4, o5, rfl⟩
    simp only [asgT_var, bind_ok, setV_succ, setV_zero]
    have hpl : p.length < 20 := by have := congrArg List.length hp; simp at this; omega
    have hcp : c ∉ p := fun z => by
      rw [hp, List.nodup_append] at nd
      exact nd.2.2 c z c (by simp) rfl
    have e3 : evI glo (run gam glo N (k + 1)) [some (.tup (l.map cD)), some (.dic (l.map cD) vs0), some (.dic (nxK p) (nxV l p)), some (cD c), o4, o5] (.over (.glob "WAYS")) = .ok (wayL.map cS) := by
      rw [evI_over, g_WAYS]; rfl
    have lk := nxK_len p
    refine sat_forE e3 (forL_mapI (fun q ρ => ∃ o4 o5, ρ = [some (.tup (l.map cD)), some (.dic (l.map cD) vs0), some (.dic (nxK p ++ q.map fun y => nxKey c y) (nxV l p ++ q.map fun y => oD (nb l c y))), some (cD c), o4, o5]) ⟨o4, o5, by simp⟩ ?_ ?_)
    · rintro q y s' ρ hq ⟨o4, o5, rfl⟩
      have hy : y ∈ wayL := by rw [hq]; simp
      have hql : q.length < 4 := by have := congrArg List.length hq; simp [wayL] at this; omega
      have hyq : y ∉ q := fun z => by
        have nw : wayL.Nodup := by decide
        rw [hq, List.nodup_append] at nw
        exact nw.2.2 y z y (by simp) rfl
      simp only [asgT_var, bind_ok, setV_succ, setV_zero]
      refine sat_seq (sat_set (sat_call (xs := [cD c, cS y]) (by simp) (around_okX hy) ?_))
      rintro _ rfl
      simp only [setV_succ, setV_zero]
      have tk : TK (nxK p ++ q.map fun y => nxKey c y) := fun k hk => by
        rcases List.mem_append.mp hk with hk | hk
        · exact nxK_tk p k hk
        · obtain ⟨z, _, rfl⟩ := List.mem_map.mp hk; rfl
      have f1 : keyFits (l.map cD) (.tup [.int ((c.1 : Int) + (stepI y).1), .int ((c.2 : Int) + (stepI y).2)]) = true := fits tk0 rfl rfl rfl
      have f2 : keyFits (nxK p ++ q.map fun y => nxKey c y) (.tup [cD c, cS y]) = true := fits tk rfl rfl rfl
      have ein : inD (.tup [.int ((c.1 : Int) + (stepI y).1), .int ((c.2 : Int) + (stepI y).2)]) (.dic (l.map cD) vs0) = .ok (nb l c y).isSome := by
        show (if keyFits (l.map cD) (.tup [.int ((c.1 : Int) + (stepI y).1), .int ((c.2 : Int) + (stepI y).2)]) then R.ok ((l.map cD).any fun z => D.eqv (.tup [.int ((c.1 : Int) + (stepI y).1), .int ((c.2 : Int) + (stepI y).2)]) z) else .bad) = _
        rw [if_pos f1, any_at]
      have ev5 : evE glo (run gam glo N (k + 1)) [some (.tup (l.map cD)), some (.dic (l.map cD) vs0), some (.dic (nxK p ++ q.map fun y => nxKey c y) (nxV l p ++ q.map fun y => oD (nb l c y))), some (cD c), some (cS y), some (.tup [.int ((c.1 : Int) + (stepI y).1), .int ((c.2 : Int) + (stepI y).2)])] (.ite (.op .inn (.var 5) (.var 1)) (.var 5) .non) = .ok (oD (nb l c y)) := by
        rw [evE_iteP, evE_op]
        simp only [evE_var, getV_succ, getV_zero, bind_ok, opE_inn, ein, truthy_bl]
        cases hnb : nb l c y with
        | none => rfl
        | some e =>
          have := (nb_some.mp hnb).2
          unfold isAt at this
          simp only [Bool.and_eq_true, decide_eq_true_eq] at this
          show R.ok (D.tup [.int ((c.1 : Int) + (stepI y).1), .int ((c.2 : Int) + (stepI y).2)]) = .ok (cD e)
          rw [← this.1, ← this.2]; rfl
      have hbig : (keyFits (nxK p ++ q.map fun y => nxKey c y) (.tup [cD c, cS y]) && decide ((nxK p ++ q.map fun y => nxKey c y).length < big)) = true := by
        rw [f2, Bool.true_and, decide_eq_true_eq, List.length_append, lk, List.length_map]; unfold big; omega
      have eput : dput (nxK p ++ q.map fun y => nxKey c y) (nxV l p ++ q.map fun y => oD (nb l c y)) (.tup [cD c, cS y]) (oD (nb l c y)) = ((nxK p ++ q.map fun y => nxKey c y) ++ [nxKey c y], (nxV l p ++ q.map fun y => oD (nb l c y)) ++ [oD (nb l c y)]) := by
        refine dput_new (by rw [List.length_append, List.length_append, nx_len l p]; simp) fun k hk => ?_
        rcases List.mem_append.mp hk with hk | hk
        · exact nxK_ne hcp y k hk
        · obtain ⟨z, hz, rfl⟩ := List.mem_map.mp hk
          show D.eqv (nxKey c y) (nxKey c z) = false
          rw [eqv_key]
          have : y ≠ z := fun e => hyq (e ▸ hz)
          simp [this]
      have eset : setAt (.dic (nxK p ++ q.map fun y => nxKey c y) (nxV l p ++ q.map fun y => oD (nb l c y))) (.tup [cD c, cS y]) (oD (nb l c y)) = .ok (.dic ((nxK p ++ q.map fun y => nxKey c y) ++ [nxKey c y]) ((nxV l p ++ q.map fun y => oD (nb l c y)) ++ [oD (nb l c y)])) := by
        show (if keyFits (nxK p ++ q.map fun y => nxKey c y) (.tup [cD c, cS y]) && decide ((nxK p ++ q.map fun y => nxKey c y).length < big) then R.ok (D.dic (dput (nxK p ++ q.map fun y => nxKey c y) (nxV l p ++ q.map fun y => oD (nb l c y)) (.tup [cD c, cS y]) (oD (nb l c y))).1 (dput (nxK p ++ q.map fun y => nxKey c y) (nxV l p ++ q.map fun y => oD (nb l c y)) (.tup [cD c, cS y]) (oD (nb l c y))).2) else .bad) = _
        rw [if_pos hbig, eput]
      rw [exS_setItem, ev5]
      simp only [bind_ok, evE_tup, evL_cons, evL_nil, evE_var, getV_succ, getV_zero, eset, setV_succ, setV_zero]
      rw [List.map_append, List.map_append, ← List.append_assoc, ← List.append_assoc]
      exact ev ⟨_, _, rfl⟩
    · rintro ρ ⟨o4, o5, rfl⟩
      refine ⟨some (cD c), o4, o5, ?_⟩
      unfold nxK nxV
      rw [List.flatMap_append, List.flatMap_append]
      simp
  · rintro ρ ⟨o3, o4, o5, rfl⟩
    refine sat_retMv ?_
    simp [nxD]
end
end Pv

set_option autoImplicit false
set_option linter.all false
set_option maxRecDepth 10000
namespace Pv
open Pl
open PySem (Str)
/-- a yard, wholly -/
def yardX (R : List (List Nat)) (w : Nat) (s : Int) : D := yardD R w s (nxD (flo R w))
theorem noClo_rows (R : List (List Nat)) : (rowsD R).noClo = true := noClo_map (fun _ => rfl) R
theorem noClo_cells (l : List Cell) : D.noCloL (l.map cD) = true := noClo_map (fun _ => rfl) l
theorem noClo_yard (R : List (List Nat)) (w : Nat) (s : Int) : (yardX R w s).noClo = true := by
  show (D.noClo (rowsD R) && (true && ((D.noClo (rowsD R) && (true && true)) && (D.noCloL ((flo R w).map cD) && (D.noCloL ((mks R w).map cD) && (D.noClo (nxD (flo R w)) && true)))))) = true
  rw [noClo_rows, noClo_cells, noClo_cells, noClo_nx]; rfl
theorem flo_nodup (R : List (List Nat)) (w : Nat) : (flo R w).Nodup := (asc_cells R w _).nodup
section
variable {N k : Nat}
theorem yard_okX {R : List (List Nat)} {w : Nat} {s : Int} (g : Good R w) (h1 : 1 ≤ s) (h3 : s ≤ 3) : (run gam glo N (k + 8) "Yard" [] [rowsD R, .int s]).Ev fun r => r = (yardX R w s, []) := by
  refine sat_cls (d := f_Yard___init__) [some (.obj "Yard" [] []), some (rowsD R), some (.int s)] rfl rfl rfl rfl rfl ?_
  refine sat_seq (sat_expr (sat_call (xs := [rowsD R]) (by simp) (check_rows_ok g) ?_))
  rintro _ rfl
  refine sat_seq (sat_expr (sat_call (xs := [.int s]) (by simp) (check_strength_ok h1 h3) ?_))
  rintro _ rfl
  refine sat_seq (sat_setAttr (sat_eq (a := rowsD R) (by simp) (ev (sat_eq (a := .obj "Yard" ["rows"] [rowsD R]) rfl ?_))))
  refine sat_seq (sat_setAttr (sat_eq (a := .int s) (by simp) (sat_eq (a := .obj "Yard" ["rows"] [rowsD R]) (by simp) (sat_eq (a := .obj "Yard" ["rows", "strength"] [rowsD R, .int s]) rfl ?_))))
  refine sat_seq (sat_setAttr (sat_eq (a := partsD R s) (by simp [partsD]) (sat_eq (a := .obj "Yard" ["rows", "strength"] [rowsD R, .int s]) (by simp) (sat_eq (a := .obj "Yard" ["rows", "strength", "parts"] [rowsD R, .int s, partsD R s]) rfl ?_))))
  refine sat_seq (sat_setAttr (sat_call (xs := [rowsD R, .tup ([46, 120].map cS)]) (by simp) (cells_ok g) ?_))
  rintro _ rfl
  refine sat_eq (a := .obj "Yard" ["rows", "strength", "parts"] [rowsD R, .int s, partsD R s]) (by simp) (sat_eq (a := .obj "Yard" ["rows", "strength", "parts", "floor"] [rowsD R, .int s, partsD R s, .tup ((cells R w [46, 120]).map cD)]) rfl ?_)
  refine sat_seq (sat_setAttr (sat_call (xs := [rowsD R, .tup ([120].map cS)]) (by simp) (cells_ok g) ?_))
  rintro _ rfl
  refine sat_eq (a := .obj "Yard" ["rows", "strength", "parts", "floor"] [rowsD R, .int s, partsD R s, .tup ((cells R w [46, 120]).map cD)]) (by simp) (sat_eq (a := .obj "Yard" ["rows", "strength", "parts", "floor", "marks"] [rowsD R, .int s, partsD R s, .tup ((cells R w [46, 120]).map cD), .tup ((cells R w [120]).map cD)]) rfl ?_)
  refine sat_setAttr (sat_call (xs := [.tup ((cells R w [46, 120]).map cD)]) ?_ (nexts_okX (by have := g.f14; omega) (flo_nodup R w)) ?_)
  · simp
    rfl
  rintro _ rfl
  refine sat_eq (a := .obj "Yard" ["rows", "strength", "parts", "floor", "marks"] [rowsD R, .int s, partsD R s, .tup ((cells R w [46, 120]).map cD), .tup ((cells R w [120]).map cD)]) (by simp) (sat_eq (a := yardX R w s) rfl ?_)
  exact ev rfl
/-! the closure of are_cells -/
theorem is_right_ok {R : List (List Nat)} {w : Nat} {s : Int} {x : D} (g : Good R w) (l : List Cell) (c : Cell) : (run gam glo N (k + 5) "are_cells.<locals>.is_right" [] [.tup (l.map cD), cD c, yardD R w s x]).Ev fun r => r = (.bl (decide (c ∈ flo R w) && (match l.getLast? with | some a => clt a c | none => true)), []) := by
  rw [r_is_right]
  refine sat_bodyE [some (.tup (l.map cD)), some (cD c), some (yardD R w s x)] rfl rfl rfl rfl ?_
  refine sat_ret (sat_and (sat_call (xs := [yardD R w s x, cD c]) (by simp) (is_cell_ok g c) ?_))
  rintro _ rfl
  by_cases h : c ∈ flo R w
  · rw [decide_eq_true h]
    refine ev ?_
    rw [if_pos rfl]
    refine sat_call (xs := [.tup (l.map cD), cD c]) (by simp) (are_below_ok l c) ?_
    rintro _ rfl
    first | (simp; done) | (simp; rfl)
  · rw [decide_eq_false h]
    refine ev ?_
    rw [if_neg (by simp)]
    simp
theorem wrong_in_clo {R : List (List Nat)} {w n m : Nat} {s : Int} (g : Good R w) {bs : List Cell} (hb : Asc bs) (hf : ∀ b ∈ bs, b ∈ flo R w) (hn : n ≤ bs.length) (hm : bs.length ≤ m) :
    (run gam glo N (k + 6) "wrong_in" [] [.tup (bs.map cD), .int n, .int m, .clo "are_cells.<locals>.is_right" [yardX R w s]]).Ev fun r => r = (.lst [], []) := by
  rw [r_wrong_in]
  refine sat_bodyE [some (.tup (bs.map cD)), some (.int n), some (.int m), some (.clo "are_cells.<locals>.is_right" [yardX R w s]), none, none] rfl rfl rfl rfl ?_
  refine sat_seqN (sat_ifF (sat_orF (by simp) (sat_eq (a := .bl false) (by simp; omega) rfl)) (sat_skip rfl)) ?_
  have e1 : evI glo (run gam glo N (k + 5)) [some (.tup (bs.map cD)), some (.int n), some (.int m), some (.clo "are_cells.<locals>.is_right" [yardX R w s]), none, none] (.enum (.var 0)) = .ok ((List.range bs.length).map fun (i : Nat) => .tup [.int (i : Int), cD (bs.getD i (0, 0))]) := by
    simp
    exact enumL0 cD (0, 0) bs
  refine sat_seq (sat_forE e1 (forL_rangeF (fun i ρ => ∃ o4 o5, ρ = [some (.tup (bs.map cD)), some (.int n), some (.int m), some (.clo "are_cells.<locals>.is_right" [yardX R w s]), o4, o5]) ⟨none, none, rfl⟩ ?_ ?_))
  · rintro i ρ hi ⟨o4, o5, rfl⟩
    simp only [asgT_pair, bind_ok, setV_succ, setV_zero]
    have hg : bs.getD i (0, 0) = bs[i] := by rw [List.getD_eq_getElem?_getD, List.getElem?_eq_getElem hi]; rfl
    rw [hg]
    refine sat_ifF (sat_orF (by simp; omega) (sat_notT (sat_callvC (xs := [.tup ((bs.take i).map cD), cD bs[i]]) (caps := [yardX R w s]) (g := "are_cells.<locals>.is_right") (by simp) ?_ ?_ (is_right_ok g (bs.take i) bs[i]) ?_) rfl)) (sat_skip ⟨some (.int (i : Int)), some (cD bs[i]), rfl⟩)
    · simp [cut_take, List.map_take]
    · show ((D.noCloL ((bs.take i).map cD) && (true && true)) && (D.noClo (yardX R w s) && true)) = true
      rw [noClo_cells, noClo_yard]; rfl
    · rintro _ rfl
      have h1 := hf bs[i] (List.getElem_mem hi)
      rw [decide_eq_true h1]
      cases hl : (bs.take i).getLast? with
      | none => rfl
      | some a =>
        have ha : clt a bs[i] = true := by
          have hp := List.pairwise_iff_getElem.mp hb
          rw [List.getLast?_eq_getElem?] at hl
          have hl' := List.getElem?_eq_some_iff.mp hl
          obtain ⟨h2, h3⟩ := hl'
          rw [List.length_take] at h2
          rw [List.getElem_take] at h3
          rw [← h3]
          exact hp _ _ _ _ (by rw [List.length_take]; omega)
        rw [show (match some a with | some a => clt a bs[i] | none => true) = clt a bs[i] from rfl, ha]
        rfl
  · rintro ρ ⟨o4, o5, rfl⟩
    refine sat_ret ?_
    simp
theorem are_all_clo {R : List (List Nat)} {w n m : Nat} {s : Int} (g : Good R w) {bs : List Cell} (hb : Asc bs) (hf : ∀ b ∈ bs, b ∈ flo R w) (hn : n ≤ bs.length) (hm : bs.length ≤ m) :
    (run gam glo N (k + 7) "are_all" [] [.tup (bs.map cD), .int n, .int m, .clo "are_cells.<locals>.is_right" [yardX R w s]]).Ev fun r => r = (.bl true, []) := by
  rw [r_are_all]
  refine sat_bodyE [some (.tup (bs.map cD)), some (.int n), some (.int m), some (.clo "are_cells.<locals>.is_right" [yardX R w s])] rfl rfl rfl rfl ?_
  refine sat_ret (sat_op (sat_call (xs := [.tup (bs.map cD), .int n, .int m, .clo "are_cells.<locals>.is_right" [yardX R w s]]) (by simp) (wrong_in_clo g hb hf hn hm) ?_))
  rintro _ rfl
  simp [eq_nil (l := []) rfl]
theorem are_cells_ok {R : List (List Nat)} {w n m : Nat} {s : Int} (g : Good R w) {bs : List Cell} (hb : Asc bs) (hf : ∀ b ∈ bs, b ∈ flo R w) (hn : n ≤ bs.length) (hm : bs.length ≤ m) :
    (run gam glo N (k + 8) "are_cells" [] [yardX R w s, .tup (bs.map cD), .int n, .int m]).Ev fun r => r = (.bl true, []) := by
  rw [r_are_cells]
  refine sat_bodyE [some (yardX R w s), some (.tup (bs.map cD)), some (.int n), some (.int m), none] rfl rfl rfl rfl ?_
  refine sat_seq (sat_defn ?_)
  refine sat_ret (sat_callc (xs := [.tup (bs.map cD), .int n, .int m, .clo "are_cells.<locals>.is_right" [yardX R w s]]) ?_ (are_all_clo g hb hf hn hm) ?_)
  · simp [evE_clo1 (d := yardX R w s) (i := 0)]
  · rintro _ rfl
    exact ⟨rfl, rfl⟩
theorem is_standing_ok {R : List (List Nat)} {w : Nat} {s : Int} (g : Good R w) {a : Cell} {bs : List Cell} (S : Stand R w a bs) : (run gam glo N (k + 9) "is_standing" [] [yardX R w s, standD a bs]).Ev fun r => r = (.bl true, []) := by
  rw [r_is_standing]
  refine sat_bodyE [some (yardX R w s), some (standD a bs)] rfl rfl rfl rfl ?_
  have sub0 : evE glo (run gam glo N (k + 8)) [some (yardX R w s), some (standD a bs)] (.sub (.var 1) (.int 0)) = .ok (cD a) := rfl
  have sub1 : evE glo (run gam glo N (k + 8)) [some (yardX R w s), some (standD a bs)] (.sub (.var 1) (.int 1)) = .ok (.tup (bs.map cD)) := rfl
  have lm : evE glo (run gam glo N (k + 8)) [some (yardX R w s), some (standD a bs)] (.bf .len (.econs (.attr (.var 0) "marks") .enil)) = .ok (.int (mks R w).length) := by
    simp only [evE_bf, evL_cons, evL_nil, evE_attr, evE_var, getV_zero, bind_ok, yardX, at_marks, bf_len, oneD_one, lenF_tup, List.length_map]
  refine sat_seqN (sat_ifF (sat_or (sat_notT (sat_call (xs := [standD a bs]) (by simp) (is_pair_ok _ _) ?_) (ev ?_))) (sat_skip rfl)) ?_
  · rintro _ rfl; rfl
  · rw [if_neg Bool.false_ne_true]
    refine sat_notT (sat_call (xs := [yardX R w s, cD a]) (by rw [evL_cons, evL_cons, sub0]; simp) (is_cell_ok g a) ?_) rfl
    rintro _ rfl
    rw [decide_eq_true S.hand]
  refine sat_ret (sat_and (sat_call (xs := [yardX R w s, .tup (bs.map cD), .int (mks R w).length, .int (mks R w).length]) (by rw [evL_cons, evL_cons, sub1, evL_cons, lm, evL_cons, lm]; simp) (are_cells_ok g S.bx.asc S.bx.fl (by rw [S.bx.len]; exact Nat.le_refl _) (by rw [S.bx.len]; exact Nat.le_refl _)) ?_))
  rintro _ rfl
  refine ev ?_
  rw [if_pos rfl, evE_op, sub0, sub1]
  simp only [bind_ok, opE_notin, in_tup, decide_eq_false S.no]
  exact ev rfl
theorem check_yard_ok {R : List (List Nat)} {w : Nat} {s : Int} {x : D} : (run gam glo N (k + 1) "check_yard" [] [yardD R w s x]).Ev fun r => r = (.non, []) := by
  rw [r_check_yard]
  refine sat_bodyE [some (yardD R w s x)] rfl rfl rfl rfl ?_
  refine sat_ifF (sat_notT (sat_eq (a := .bl true) ?_ rfl) rfl) (sat_skip rfl)
  simp only [evE_isi, evE_var, getV_zero, bind_ok]
  exact (if_pos rfl).trans rfl
theorem check_standing_ok {R : List (List Nat)} {w : Nat} {s : Int} (g : Good R w) {a : Cell} {bs : List Cell} (S : Stand R w a bs) : (run gam glo N (k + 10) "check_standing" [] [yardX R w s, standD a bs]).Ev fun r => r = (.non, []) := by
  rw [r_check_standing]
  refine sat_bodyE [some (yardX R w s), some (standD a bs)] rfl rfl rfl rfl ?_
  refine sat_ifF (sat_notT (sat_call (xs := [yardX R w s, standD a bs]) (by simp) (is_standing_ok g S) ?_) rfl) (sat_skip rfl)
  rintro _ rfl
  rfl
theorem check_both_ok {R : List (List Nat)} {w : Nat} {s : Int} (g : Good R w) {a : Cell} {bs : List Cell} (S : Stand R w a bs) : (run gam glo N (k + 11) "check_both" [] [yardX R w s, standD a bs]).Ev fun r => r = (.non, []) := by
  rw [r_check_both]
  refine sat_bodyE [some (yardX R w s), some (standD a bs)] rfl rfl rfl rfl ?_
  refine sat_seq (sat_expr (sat_call (xs := [yardX R w s]) (by simp) check_yard_ok ?_))
  rintro _ rfl
  refine sat_expr (sat_call (xs := [yardX R w s, standD a bs]) (by simp) (check_standing_ok g S) ?_)
  rintro _ rfl
  rfl
end
end Pv

set_option autoImplicit false
set_option linter.all false
set_option maxRecDepth 10000
namespace Pv
open Pl
open PySem (Str)
@[simp] theorem isNon_non : D.non.isNon = true := (rfl)
@[simp] theorem isnot_non (x : D) : isD true x .non = .ok (.bl (!x.isNon)) := by cases x <;> rfl
@[simp] theorem isNon_cD (c : Cell) : (cD c).isNon = false := (rfl)
theorem eqvL_cells : ∀ a b : List Cell, D.eqvL (a.map cD) (b.map cD) = decide (a = b)
  | [], [] => rfl
  | [], _ :: _ => by simp [D.eqvL]
  | _ :: _, [] => by simp [D.eqvL]
  | x :: a, y :: b => by
    show (D.eqv (cD x) (cD y) && D.eqvL (a.map cD) (b.map cD)) = _
    rw [eqv_cD, eqvL_cells a b, Bool.eq_iff_iff]
    simp
theorem eq_cellsT (a b : List Cell) : eqD (.tup (a.map cD)) (.tup (b.map cD)) = .ok (.bl (decide (a = b))) := by
  show (if D.plainL 31 (a.map cD) && D.plainL 31 (b.map cD) then R.ok (D.bl (D.eqvL (a.map cD) (b.map cD))) else .bad) = _
  rw [plainL_map (plain_cD 30), plainL_map (plain_cD 30), eqvL_cells]
  rfl
end Pv

set_option autoImplicit false
set_option linter.all false
set_option maxRecDepth 10000
namespace Pv
open Pl
open PySem (Str)
section
variable {G : Glo} {Φ : Phi} {ρ : Env} {elt it : IE} {t : Tg} {own : List Nat} {α : Type} {xs : List α} {e g : α → D}
theorem comp_mapE (hi : (evI G Φ ρ it).Ev fun l => l = xs.map e) (h : ∀ a ∈ xs, ((asgT t (e a) (wipe ρ own)).bind fun ρ => evE G Φ ρ elt).Ev fun d => d = g a) : (evE G Φ ρ (.comp elt t it (.bl true) own)).Ev fun d => d = .lst (xs.map g) := by
  rw [evE_comp]
  refine sat_bind (hi.mono fun l hl => ?_)
  subst hl
  clear hi
  have : (gather (fun x => (asgT t x (wipe ρ own)).bind fun ρ => (evE G Φ ρ (.bl true)).bind fun y => y.truthy.bind fun b => if b then (evE G Φ ρ elt).bind fun z => .ok (some z) else .ok none) (xs.map e)).Ev fun r => r = xs.map g := by
    induction xs with
    | nil => exact ev rfl
    | cons x l ih =>
      show (((asgT t (e x) (wipe ρ own)).bind fun ρ => (evE G Φ ρ (.bl true)).bind fun y => y.truthy.bind fun b => if b then (evE G Φ ρ elt).bind fun z => .ok (some z) else .ok none).bind fun r => (gather _ (l.map e)).bind fun rs => R.ok (match r with | some d => d :: rs | none => rs)).Ev _
      have h1 := sat_unbind (h x (by simp))
      refine sat_bind (sat_bind (h1.mono fun ρ' h2 => ?_))
      rw [evE_bl, bind_ok, truthy_bl, bind_ok, if_pos rfl]
      refine sat_bind (h2.mono fun d hd => ev ?_)
      subst hd
      exact sat_then (ih fun y hy => h y (by simp [hy])) fun rs hrs => ev (by rw [hrs]; rfl)
  exact sat_bind (this.mono fun r hr => ev (by rw [hr]))
end
section
variable {G : Glo} {Φ : Phi} {ρ : Env} {elt it c : IE} {t : Tg} {own : List Nat} {α : Type} {xs : List α} {e g : α → D} {p : α → Bool}
theorem comp_ifE (hi : (evI G Φ ρ it).Ev fun l => l = xs.map e) (h : ∀ a ∈ xs, ∃ ρ', asgT t (e a) (wipe ρ own) = .ok ρ' ∧ ((evE G Φ ρ' c).Ev fun y => y.truthy = .ok (p a)) ∧ (p a = true → (evE G Φ ρ' elt).Ev fun d => d = g a)) : (evE G Φ ρ (.comp elt t it c own)).Ev fun d => d = .lst ((xs.filter p).map g) := by
  rw [evE_comp]
  refine sat_bind (hi.mono fun l hl => ?_)
  subst hl
  clear hi
  have : (gather (fun x => (asgT t x (wipe ρ own)).bind fun ρ => (evE G Φ ρ c).bind fun y => y.truthy.bind fun b => if b then (evE G Φ ρ elt).bind fun z => .ok (some z) else .ok none) (xs.map e)).Ev fun r => r = (xs.filter p).map g := by
    induction xs with
    | nil => exact ev rfl
    | cons x l ih =>
      show (((asgT t (e x) (wipe ρ own)).bind fun ρ => (evE G Φ ρ c).bind fun y => y.truthy.bind fun b => if b then (evE G Φ ρ elt).bind fun z => .ok (some z) else .ok none).bind fun r => (gather _ (l.map e)).bind fun rs => R.ok (match r with | some d => d :: rs | none => rs)).Ev _
      obtain ⟨ρ', h1, h2, h3⟩ := h x (by simp)
      have ih := ih fun y hy => h y (by simp [hy])
      rw [h1, bind_ok]
      refine sat_bind (sat_bind (h2.mono fun y hy => ?_))
      rw [hy, bind_ok]
      cases hp : p x with
      | false =>
        rw [if_neg Bool.false_ne_true]
        refine ev (sat_then ih fun rs hrs => ev ?_)
        simp [hp, hrs]
      | true =>
        rw [if_pos rfl]
        refine sat_bind ((h3 hp).mono fun d hd => ev (sat_then ih fun rs hrs => ev ?_))
        simp [hp, hrs, hd]
  exact sat_bind (this.mono fun r hr => ev (by rw [hr]))
end
end Pv

set_option autoImplicit false
set_option linter.all false
set_option maxRecDepth 10000
namespace Pv
open Pl
open PySem (Str)
theorem law_of {N K : Nat} (hr : (run gam glo N (K + 1) "_law_right" [] [.bowl]).Ev fun r => r = (.bl true, [])) (ns : List Int) : (run gam glo N (K + 2) "law" [] [.lst (ns.map D.int)]).Ev fun r => r.1 = .bl true := by
  rw [r_law]
  refine sat_bodyE [some (.lst (ns.map D.int)), none] rfl rfl rfl rfl ?_
  refine sat_ret (sat_bf ((comp_rep (g := .bl true) (range_ok (n := max 1 (min ns.length 3)) ?_ (by omega)) fun x hx => ?_).mono ?_))
  · simp
    split <;> split <;> omega
  · obtain ⟨i, hi, rfl⟩ := List.mem_map.mp hx
    simp only [wipe_cons, wipe_nil, asgT_var, bind_ok, List.set_cons_succ, List.set_cons_zero, setV_succ, setV_zero]
    refine sat_callS (evL_consS (sat_callS (evL_consS (sat_eq (a := .lst (ns.map D.int)) (by simp) (evL_consS (sat_eq (a := iD i) (by simp) (evL_nilS ?_)))))))
    have hb : run gam glo N (K + 1) "_law_bowl" [] [.lst (ns.map D.int), iD i] = .ok (.bowl, []) := bowl_run (Γ := gam) (G := glo) (N := N) (k := K) rfl (ints_map ns) (by omega)
    rw [hb]
    refine ev (evL_nilS ?_)
    exact hr.mono fun r e => by rw [e]
  · rintro _ rfl
    rw [bf_all, oneD_one, all_rep]
    exact ev rfl
end Pv

set_option autoImplicit false
set_option linter.all false
set_option maxRecDepth 10000
namespace Pv
open Pl
open PySem (Str)
theorem same_stand {N k : Nat} {a : Cell} {bs : List Cell} (h : bs.length ≤ 1000) : Same N (k + 4) (standD a bs) := same_tup (by simp) fun d hd => by
  simp only [List.mem_cons, List.not_mem_nil, or_false] at hd
  rcases hd with rfl | rfl
  · exact same_cD (k := k + 1) _
  · exact same_cells _ h
theorem same_non {N k : Nat} : Same N (k + 1) .non := by
  unfold Same
  rw [r_same]
  refine sat_bodyE [some .non, some .non, none] rfl rfl rfl rfl ?_
  refine sat_seqN (sat_ifF (sat_eq (a := .bl false) (by simp [tyIs]) rfl) (sat_skip rfl)) ?_
  refine sat_seq (sat_ifT (sat_eq (a := .bl true) (by simp) rfl) (sat_ret ?_))
  simp
theorem Stand.len14 {R : List (List Nat)} {w : Nat} (g : Good R w) {a : Cell} {bs : List Cell} (S : Stand R w a bs) : bs.length ≤ 14 := by
  have h1 := nodup_sub_len S.bx.asc.nodup S.bx.fl
  have h2 := g.f14
  have h3 : (flo R w).length = (cells R w [46, 120]).length := rfl
  omega
theorem same_lst {N k : Nat} {l : List D} (hp : D.plainL 31 l = true) (he : D.eqvL l l = true) : Same N (k + 1) (.lst l) := by
  unfold Same
  rw [r_same]
  refine sat_bodyE [some (.lst l), some (.lst l), none] rfl rfl rfl rfl ?_
  refine sat_seqN (sat_ifF (sat_eq (a := .bl false) rfl rfl) (sat_skip rfl)) ?_
  refine sat_seqN (sat_ifF (sat_eq (a := .bl false) (by simp) rfl) (sat_skip rfl)) ?_
  refine sat_seqN (sat_ifF (sat_eq (a := .bl false) rfl rfl) (sat_skip rfl)) ?_
  refine sat_seqN (sat_ifF (sat_eq (a := .bl false) rfl rfl) (sat_skip rfl)) ?_
  refine sat_seqN (sat_ifF (sat_eq (a := .bl false) rfl rfl) (sat_skip rfl)) ?_
  refine sat_ret (sat_op ?_)
  have : eqD (.lst l) (.lst l) = .ok (.bl true) := by
    show (if D.plainL 31 l && D.plainL 31 l then R.ok (D.bl (D.eqvL l l)) else .bad) = _
    rw [hp, he]; rfl
  simp [this]
theorem eqv_stand (a b : Cell) (bs cs : List Cell) : D.eqv (standD a bs) (standD b cs) = (decide (a = b) && decide (bs = cs)) := by
  show (D.eqv (cD a) (cD b) && (D.eqvL (bs.map cD) (cs.map cD) && true)) = _
  rw [eqv_cD, eqvL_cells, Bool.and_true]
theorem plain_stand (a : Cell) (bs : List Cell) (n : Nat) : D.plain (n + 3) (standD a bs) = true := by
  show (D.plain (n + 2) (cD a) && (D.plainL (n + 1) (bs.map cD) && true)) = true
  rw [plain_cD (n + 1), plainL_map (plain_cD n)]; rfl
theorem eqvL_map {α : Type} {e : α → D} (h : ∀ a, D.eqv (e a) (e a) = true) : ∀ l : List α, D.eqvL (l.map e) (l.map e) = true
  | [] => rfl
  | a :: l => by
    show (D.eqv (e a) (e a) && D.eqvL (l.map e) (l.map e)) = true
    rw [h, eqvL_map h l]; rfl
end Pv

set_option autoImplicit false
set_option linter.all false
set_option maxRecDepth 10000
namespace Pv
open Pl
open PySem (Str)
section
variable {N k : Nat}
theorem r_standing : run gam glo N (k + 1) "_law_standing" [] = fun ds => callFd glo (run gam glo N k) N f__law_standing ds := by funext ds; exact run_fd rfl
theorem standing_ok {R : List (List Nat)} {w : Nat} {s : D} (g : Good R w) : (run gam glo N (k + 4) "_law_standing" [] [.bowl, .tup [rowsD R, s]]).Ev fun r => ∃ a bs, Stand R w a bs ∧ r = (standD a bs, []) := by
  rw [r_standing]
  refine sat_bodyE [some .bowl, some (.tup [rowsD R, s]), none, none, none] rfl rfl rfl rfl ?_
  refine sat_seq (sat_par2 (sat_call (xs := [.tup [rowsD R, s]]) (by simp) (floor_ok g) ?_))
  rintro _ rfl
  refine sat_eq (a := .lst []) (by simp) ?_
  simp only [setV_succ, setV_zero]
  have lt := g.lt
  have f14 := g.f14
  refine sat_seq (sat_forr (over_ok (sat_call (xs := [.tup [rowsD R, s]]) (by simp) (marks_ok g) ?_)))
  rintro _ rfl
  refine ev ?_
  refine forL_mapI (fun p ρ => ∃ (left bx : List Cell) (o : Option D), ρ = [some .bowl, some (.tup [rowsD R, s]), some (.lst (left.map cD)), some (.lst (bx.map cD)), o] ∧ (left ++ bx).Perm (flo R w) ∧ bx.length = p.length) ⟨flo R w, [], none, rfl, by simp, rfl⟩ ?_ ?_
  · rintro p c sf ρ hp ⟨left, bx, o, rfl, hpm, hl⟩
    simp only [asgT_var, bind_ok, setV_succ, setV_zero]
    have l1 := hpm.length_eq
    rw [List.length_append] at l1
    have l2 := congrArg List.length hp
    rw [List.length_append, List.length_cons] at l2
    have lf : (flo R w).length = (cells R w [46, 120]).length := rfl
    refine sat_popApp (sat_call (xs := [.bowl, .int left.length]) (by simp) (draw_ok (by omega) (by omega)) ?_)
    rintro _ ⟨j, hj, rfl⟩
    have hjl : j < left.length := by omega
    refine ⟨j, left.map cD, bx.map cD, cD left[j], rfl, by simp, by simp [hjl], by omega, by simp, by rw [List.length_map]; unfold big; omega, ?_⟩
    refine ⟨left.eraseIdx j, bx ++ [left[j]], some (cD c), ?_, ?_, by simp [hl]⟩
    · simp [eraseIdx_map]
    · refine List.Perm.trans ?_ hpm
      rw [← List.append_assoc]
      refine List.Perm.trans List.perm_append_comm ?_
      rw [← List.append_assoc]
      refine List.Perm.append_right bx ?_
      have := erase_perm left j hjl
      simpa using this
  · rintro ρ ⟨left, bx, o, rfl, hpm, hl⟩
    have l1 := hpm.length_eq
    rw [List.length_append] at l1
    have lf : (flo R w).length = (cells R w [46, 120]).length := rfl
    refine sat_ret (sat_tup (evL_consS (sat_call (xs := [.bowl, .lst (left.map cD)]) (by simp) (of_lst (by rw [List.length_map]; omega) (by rw [List.length_map]; omega)) ?_)))
    rintro _ ⟨d, hd, rfl⟩
    obtain ⟨a, ha, rfl⟩ := List.mem_map.mp hd
    obtain ⟨ls, hls, es, has⟩ := sort_asc bx
    have nd := hpm.nodup_iff.mpr (flo_nodup R w)
    rw [List.nodup_append] at nd
    refine evL_consS (sat_bf (sat_bf ?_))
    simp only [evE_var, getV_succ, getV_zero, bf_sorted, oneD_one, bf_tuple]
    refine ev (sat_eq es (sat_eq (tupleF_lst _) (evL_nilS ⟨a, ls, ⟨?_, ⟨has nd.2.1, fun b hb => ?_, ?_⟩, fun z => ?_⟩, rfl⟩)))
    · exact hpm.subset (by simp [ha])
    · exact hpm.subset (by simp [hls.subset hb])
    · rw [hls.length_eq, hl]; rfl
    · exact nd.2.2 a ha a (hls.subset z) rfl
end
end Pv

set_option autoImplicit false
set_option linter.all false
set_option maxRecDepth 10000
namespace Pv
open Pl
open PySem (Str)
/-! boxes in a row -/
inductive Row (fl bs : List Cell) (y : Nat) : Cell → List Cell → Option Cell → Prop
  | free {c : Cell} : c ∉ bs → Row fl bs y c [] (some c)
  | wall {c : Cell} : c ∈ bs → nb fl c y = none → Row fl bs y c [c] none
  | more {c e : Cell} {r : List Cell} {o : Option Cell} : c ∈ bs → nb fl c y = some e → Row fl bs y e r o → Row fl bs y c (c :: r) o
def rowF (fl bs : List Cell) (y : Nat) : Nat → Cell → List Cell × Option Cell
  | 0, c => ([], some c)
  | n + 1, c => if c ∈ bs then match nb fl c y with
    | none => ([c], none)
    | some e => (c :: (rowF fl bs y n e).1, (rowF fl bs y n e).2) else ([], some c)
def posn (y : Nat) (c : Cell) : Int := (stepI y).1 * c.1 + (stepI y).2 * c.2
theorem posn_nb {fl : List Cell} {c e : Cell} {y : Nat} (hy : y ∈ wayL) (h : nb fl c y = some e) : posn y e = posn y c + 1 := by
  have h := (nb_some.mp h).2
  unfold isAt at h
  simp only [Bool.and_eq_true, decide_eq_true_eq] at h
  simp only [wayL, List.mem_cons, List.not_mem_nil, or_false] at hy
  unfold posn
  rcases hy with rfl | rfl | rfl | rfl <;> (simp [stepI] at h ⊢; omega)
theorem posn_le {R : List (List Nat)} {w : Nat} (g : Good R w) {c : Cell} {y : Nat} (hy : y ∈ wayL) (h : c ∈ flo R w) : -6 ≤ posn y c ∧ posn y c ≤ 6 := by
  have := flo_bd g h
  simp only [wayL, List.mem_cons, List.not_mem_nil, or_false] at hy
  unfold posn
  rcases hy with rfl | rfl | rfl | rfl <;> (simp [stepI]; omega)
theorem row_F {R : List (List Nat)} {w : Nat} (g : Good R w) {bs : List Cell} {y : Nat} (hy : y ∈ wayL) : ∀ (n : Nat) (c : Cell), c ∈ flo R w → 6 < posn y c + n → Row (flo R w) bs y c (rowF (flo R w) bs y n c).1 (rowF (flo R w) bs y n c).2
  | 0, c, hc, hn => absurd (posn_le g hy hc) (by omega)
  | n + 1, c, hc, hn => by
    unfold rowF
    by_cases h : c ∈ bs
    · rw [if_pos h]
      cases hb : nb (flo R w) c y with
      | none => exact .wall h hb
      | some e => exact .more h hb (row_F g hy n e (nb_some.mp hb).1 (by have := posn_nb hy hb; omega))
    · rw [if_neg h]
      exact .free h
section
variable {fl bs : List Cell} {y : Nat} {c : Cell} {r : List Cell} {o : Option Cell}
theorem Row.sub (h : Row fl bs y c r o) : ∀ x ∈ r, x ∈ bs := by
  induction h with
  | free _ => simp
  | wall h _ => simpa using h
  | more h _ _ ih =>
    intro x hx
    rcases List.mem_cons.mp hx with rfl | hx
    · exact h
    · exact ih x hx
theorem Row.far (hy : y ∈ wayL) (h : Row fl bs y c r o) : ∀ x ∈ r, posn y c ≤ posn y x := by
  induction h with
  | free _ => simp
  | wall _ _ => simp
  | more _ hb _ ih =>
    intro x hx
    rcases List.mem_cons.mp hx with rfl | hx
    · exact Int.le_refl _
    · have := ih x hx
      have := posn_nb hy hb
      omega
theorem Row.nodup (hy : y ∈ wayL) (h : Row fl bs y c r o) : r.Nodup := by
  induction h with
  | free _ => simp
  | wall _ _ => simp
  | more _ hb hr ih =>
    refine List.nodup_cons.mpr ⟨fun z => ?_, ih⟩
    have := hr.far hy _ z
    have := posn_nb hy hb
    omega
theorem Row.len {R : List (List Nat)} {w : Nat} (g : Good R w) (hy : y ∈ wayL) (h : Row (flo R w) bs y c r o) : c ∈ flo R w → (r.length : Int) ≤ 7 - posn y c := by
  induction h with
  | free _ => intro hc; have := posn_le g hy hc; simp; omega
  | wall _ _ => intro hc; have := posn_le g hy hc; simp; omega
  | more _ hb hr ih =>
    intro hc
    have := ih (nb_some.mp hb).1
    have := posn_nb hy hb
    simp; omega
theorem Row.endNot (h : Row fl bs y c r o) : ∀ b, o = some b → b ∉ bs := by
  induction h with
  | free h => rintro b ⟨⟩; exact h
  | wall _ _ => intro b hb; cases hb
  | more _ _ _ ih => exact ih
theorem Row.endIn (h : Row fl bs y c r o) : c ∈ fl → ∀ b, o = some b → b ∈ fl := by
  induction h with
  | free h => rintro hc b ⟨⟩; exact hc
  | wall _ _ => intro _ b hb; cases hb
  | more _ hb _ ih => exact fun _ => ih (nb_some.mp hb).1
/-- the last one's next -/
theorem Row.last (h : Row fl bs y c r o) : ∀ x, r.getLast? = some x → nb fl x y = o ∧ x ∈ r := by
  induction h with
  | free _ => simp
  | wall _ hb => rintro x ⟨⟩; exact ⟨hb, by simp⟩
  | @more c e r o hc hb hr ih =>
    intro x hx
    cases hr with
    | free _ =>
      simp at hx; subst hx
      exact ⟨hb, by simp⟩
    | wall _ _ =>
      have := ih x (by simpa using hx)
      exact ⟨this.1, by simp at this ⊢; exact .inr this.2⟩
    | more _ _ _ =>
      have := ih x (by simpa using hx)
      exact ⟨this.1, List.mem_cons_of_mem _ this.2⟩
end
/-! sorted -/
def sortC (l : List Cell) : List Cell := l.mergeSort fun a b => !clt b a
theorem sortC_perm (l : List Cell) : (sortC l).Perm l := List.mergeSort_perm _ _
theorem asc_sortC {l : List Cell} (nd : l.Nodup) : Asc (sortC l) := by
  have hs := List.pairwise_mergeSort (le := fun a b : Cell => !clt b a) (fun a b c h1 h2 => by
      simp only [Bool.not_eq_true', Bool.eq_false_iff, ne_eq, clt_iff] at h1 h2 ⊢
      omega) (fun a b => by
      simp only [Bool.or_eq_true, Bool.not_eq_true', Bool.eq_false_iff, ne_eq, clt_iff]
      omega) l
  have nd2 := (sortC_perm l).nodup_iff.mpr nd
  unfold Asc
  refine (hs.and nd2).imp fun {a b} ⟨h1, h2⟩ => ?_
  rcases clt_tot h2 with h | h
  · exact h
  · rw [h] at h1; cases h1
theorem sortF_cells (l : List Cell) : sortF (.lst (l.map cD)) = .ok (.lst ((sortC l).map cD)) := by
  have h1 : comparable (l.map cD) = true := by
    unfold comparable
    simp [cD, D.alike, D.alikeL]
  have h2 : sortable (l.map cD) = true := by
    unfold sortable
    simp [cD, isTup1]
  have h3 : sortD (l.map cD) = (sortC l).map cD := by
    unfold sortD sortC
    rw [List.map_mergeSort (s := fun a b => !D.lt b a) fun a _ b _ => by rw [lt_cD]]
  show (if comparable (l.map cD) && sortable (l.map cD) && D.plainL 32 (l.map cD) then R.ok (D.lst (sortD (l.map cD))) else .bad) = _
  rw [h1, h2, plainL_map (plain_cD 31), h3]
  rfl
/-! a step -/
def movedM (bs : List Cell) (c b : Cell) : List Cell := sortC ((bs.filter fun x => !decide (x = c)) ++ [b])
abbrev Stp := Option (Cell × List Cell × Bool)
def mvS (fl : List Cell) (s : Int) (bs : List Cell) (a : Cell) (y : Nat) : Stp := match nb fl a y with
  | none => none
  | some t => if t ∈ bs then match (rowF fl bs y 14 t).2 with
      | none => none
      | some b => if ((rowF fl bs y 14 t).1.length : Int) ≤ s then some (t, movedM bs t b, true) else none
    else some (t, bs, false)
def stpD : Stp → D
  | none => .non
  | some (a, bs, p) => .tup [standD a bs, .bl p]
theorem row14 {R : List (List Nat)} {w : Nat} (g : Good R w) {bs : List Cell} {y : Nat} (hy : y ∈ wayL) {c : Cell} (hc : c ∈ flo R w) : Row (flo R w) bs y c (rowF (flo R w) bs y 14 c).1 (rowF (flo R w) bs y 14 c).2 :=
  row_F g hy 14 c hc (by have := posn_le g hy hc; omega)
theorem filter_ne_len {l : List Cell} (nd : l.Nodup) {c : Cell} (h : c ∈ l) : (l.filter fun x => !decide (x = c)).length + 1 = l.length := by
  induction l with
  | nil => simp at h
  | cons a l ih =>
    rw [List.nodup_cons] at nd
    by_cases e : a = c
    · subst e
      have : (l.filter fun x => !decide (x = a)) = l := List.filter_eq_self.mpr fun x hx => by
        have : x ≠ a := fun z => nd.1 (z ▸ hx)
        simp [this]
      simp [this]
    · have hm : c ∈ l := (List.mem_cons.mp h).resolve_left (Ne.symm e)
      simp [e]
      have := ih nd.2 hm
      simpa using this
/-- a box goes to a free cell -/
theorem boxes_moved {R : List (List Nat)} {w n : Nat} {bs : List Cell} {c b : Cell} (B : Boxes R w n bs) (hc : c ∈ bs) (hb : b ∈ flo R w) (hn : b ∉ bs) : Boxes R w n (movedM bs c b) where
  asc := asc_sortC (by
    rw [List.nodup_append]
    refine ⟨B.asc.nodup.filter _, by simp, ?_⟩
    intro x hx z hz
    simp at hz; subst hz
    rintro rfl
    exact hn (List.mem_filter.mp hx).1)
  fl := fun x hx => by
    have hx := (sortC_perm _).subset hx
    rcases List.mem_append.mp hx with hx | hx
    · exact B.fl x (List.mem_filter.mp hx).1
    · simp at hx; subst hx; exact hb
  len := by
    unfold movedM
    rw [(sortC_perm _).length_eq, List.length_append, ← B.len, ← filter_ne_len B.asc.nodup hc]
    rfl
theorem mem_moved {bs : List Cell} {c b x : Cell} : x ∈ movedM bs c b ↔ (x ∈ bs ∧ x ≠ c) ∨ x = b := by
  unfold movedM
  rw [(sortC_perm _).mem_iff]
  simp
/-- a step leads to a standing -/
theorem stand_mv {R : List (List Nat)} {w : Nat} {s : Int} (g : Good R w) {bs : List Cell} {y : Nat} (hy : y ∈ wayL) {a : Cell} (S : Stand R w a bs) {t : Cell} {cs : List Cell} {p : Bool} (h : mvS (flo R w) s bs a y = some (t, cs, p)) : Stand R w t cs := by
  unfold mvS at h
  cases hb : nb (flo R w) a y with
  | none => rw [hb] at h; cases h
  | some e =>
    rw [hb] at h
    have he := (nb_some.mp hb).1
    have hr := row14 g (bs := bs) hy he
    by_cases hm : e ∈ bs
    · simp only [if_pos hm] at h
      cases ho : (rowF (flo R w) bs y 14 e).2 with
      | none => rw [ho] at h; cases h
      | some b =>
        rw [ho] at h hr
        by_cases hl : ((rowF (flo R w) bs y 14 e).1.length : Int) ≤ s
        · simp only [if_pos hl, Option.some.injEq, Prod.mk.injEq] at h
          obtain ⟨rfl, rfl, rfl⟩ := h
          have hb1 := hr.endIn he b rfl
          have hb2 := hr.endNot b rfl
          refine ⟨he, boxes_moved S.bx hm hb1 hb2, fun z => ?_⟩
          rcases mem_moved.mp z with z | z
          · exact z.2 rfl
          · exact hb2 (z ▸ hm)
        · simp only [if_neg hl] at h; cases h
    · simp only [if_neg hm, Option.some.injEq, Prod.mk.injEq] at h
      obtain ⟨rfl, rfl, rfl⟩ := h
      exact ⟨he, S.bx, hm⟩
end Pv

set_option autoImplicit false
set_option linter.all false
set_option maxRecDepth 10000
namespace Pv
open Pl
open PySem (Str)
theorem while_go {c : Env → R Bool} {f : Env → R Fl} {n : Nat} {ρ : Env} {P : Fl → Prop} (h : (c ρ).Ev fun b => b = true) (q : (f ρ).Ev fun r => match r with | .nx ρ' => (whileN c f n ρ').Ev P | _ => False) : (whileN c f (n + 1) ρ).Ev P := by
  show ((c ρ).bind fun b => if b then (f ρ).bind fun r => match r with
      | .nx ρ => whileN c f n ρ
      | .ct ρ => whileN c f n ρ
      | .bk ρ => .ok (.nx ρ)
      | .rt d ρ => .ok (.rt d ρ)
      else .ok (.nx ρ)).Ev P
  refine sat_then h fun b hb => ?_
  subst hb
  rw [if_pos rfl]
  refine sat_then q fun r hr => ?_
  cases r with
  | nx ρ' => exact hr
  | ct _ => exact hr.elim
  | bk _ => exact hr.elim
  | rt _ _ => exact hr.elim
theorem while_end {c : Env → R Bool} {f : Env → R Fl} {n : Nat} {ρ : Env} {P : Fl → Prop} (h : (c ρ).Ev fun b => b = false) (q : P (.nx ρ)) : (whileN c f (n + 1) ρ).Ev P := by
  show ((c ρ).bind fun b => if b then (f ρ).bind fun r => match r with
      | .nx ρ => whileN c f n ρ
      | .ct ρ => whileN c f n ρ
      | .bk ρ => .ok (.nx ρ)
      | .rt d ρ => .ok (.rt d ρ)
      else .ok (.nx ρ)).Ev P
  refine sat_then h fun b hb => ?_
  subst hb
  rw [if_neg Bool.false_ne_true]
  exact ev q
@[simp] theorem oD_some (c : Cell) : oD (some c) = cD c := (rfl)
@[simp] theorem oD_none : oD none = .non := (rfl)
theorem getLast_map {l : List Cell} {x : Cell} (h : l.getLast? = some x) : subD (.lst (l.map cD)) (.int (-1)) = .ok (cD x) := by
  have hne : l ≠ [] := by rintro rfl; simp at h
  have e : atIx (l.map cD) (-1) = some (cD x) := by
    unfold atIx
    have hl : 0 < l.length := List.length_pos_iff.mpr hne
    rw [if_neg (by omega), if_pos (by simp; omega)]
    rw [List.length_map, show ((-1 : Int) + (l.length : Int)).toNat = l.length - 1 by omega, List.getElem?_map, ← List.getLast?_eq_getElem?, h]
    rfl
  show (match atIx (l.map cD) (-1) with | some d => Pv.R.ok d | none => .bad) = _
  rw [e]
theorem app_ok {l : List D} {x : D} (h : l.length ≤ 1000) : mtD .append (.lst l) x = .ok (.lst (l ++ [x])) := by
  rw [append_lst, if_pos (by unfold big; omega)]
section
variable {N k : Nat}
theorem r_row_of_boxes : run gam glo N (k + 1) "row_of_boxes" [] = fun ds => callFd glo (run gam glo N k) N f_row_of_boxes ds := by funext ds; exact run_fd rfl
theorem r_boxes_pushed : run gam glo N (k + 1) "boxes_pushed" [] = fun ds => callFd glo (run gam glo N k) N f_boxes_pushed ds := by funext ds; exact run_fd rfl
theorem r_moved : run gam glo N (k + 1) "moved" [] = fun ds => callFd glo (run gam glo N k) N f_moved ds := by funext ds; exact run_fd rfl
theorem r_stepped : run gam glo N (k + 1) "stepped" [] = fun ds => callFd glo (run gam glo N k) N f_stepped ds := by funext ds; exact run_fd rfl
theorem at_nextsX (R : List (List Nat)) (w : Nat) (s : Int) : attrD glo.attrs (yardX R w s) "nexts" = .ok (nxD (flo R w)) := (rfl)
theorem at_strengthX (R : List (List Nat)) (w : Nat) (s : Int) : attrD glo.attrs (yardX R w s) "strength" = .ok (.int s) := (rfl)
theorem at_floorX (R : List (List Nat)) (w : Nat) (s : Int) : attrD glo.attrs (yardX R w s) "floor" = .ok (.tup ((flo R w).map cD)) := (rfl)
theorem at_marksX (R : List (List Nat)) (w : Nat) (s : Int) : attrD glo.attrs (yardX R w s) "marks" = .ok (.tup ((mks R w).map cD)) := (rfl)
theorem nx_subX {fl : List Cell} {c : Cell} {y : Nat} (hc : c ∈ fl) (hy : y ∈ wayL) : subD (nxD fl) (.tup [cD c, cS y]) = .ok (oD (nb fl c y)) := nx_sub hc hy
theorem row_loop {R : List (List Nat)} {w : Nat} {s : Int} {bs : List Cell} {y : Nat} (hy : y ∈ wayL) {c : Cell} {r : List Cell} {o : Option Cell} (h : Row (flo R w) bs y c r o) : c ∈ flo R w → ∀ (acc : List Cell) (n : Nat), r.length < n → acc.length + r.length ≤ 100 →
    (whileN (fun ρ => testE glo (run gam glo N k) ρ (.and (.op .isnot (.var 2) .non) (.op .inn (.var 2) (.var 1)))) (exS glo (run gam glo N k) N (.seq (.mt .append 4 (.e (.var 2))) (.asg (.var 2) (.e (.sub (.attr (.var 0) "nexts") (.tup (.econs (.var 2) (.econs (.var 3) .enil)))))))) n [some (yardX R w s), some (.tup (bs.map cD)), some (cD c), some (cS y), some (.lst (acc.map cD))]).Ev fun f => f = .nx [some (yardX R w s), some (.tup (bs.map cD)), some (oD o), some (cS y), some (.lst ((acc ++ r).map cD))] := by
  induction h with
  | @free c h =>
    intro hc acc n hn ha
    obtain ⟨n, rfl⟩ : ∃ m, n = m + 1 := ⟨n - 1, by simp at hn; omega⟩
    refine while_end ?_ (by simp)
    simp [in_tup, h]
  | @wall c h hb =>
    intro hc acc n hn ha
    obtain ⟨n, rfl⟩ : ∃ m, n = m + 1 + 1 := ⟨n - 2, by simp at hn; omega⟩
    refine while_go (by simp [in_tup, h]) ?_
    refine sat_seq (sat_mt (sat_eq (a := cD c) (by simp) (sat_eq (a := .lst (acc.map cD)) (by simp) (sat_eq (app_ok (by simp at ha ⊢; omega)) ?_))))
    simp only [setV_succ, setV_zero]
    refine sat_set (sat_eq (a := .non) ?_ ?_)
    · simp only [evE_sub, evE_attr, evE_tup, evL_cons, evL_nil, evE_var, getV_zero, getV_succ, bind_ok, at_nextsX, nx_subX hc hy, hb, oD_none]
    · refine while_end ?_ ?_
      · simp
      · simp
  | @more c e r o h hb hr ih =>
    intro hc acc n hn ha
    obtain ⟨n, rfl⟩ : ∃ m, n = m + 1 := ⟨n - 1, by simp at hn; omega⟩
    refine while_go (by simp [in_tup, h]) ?_
    refine sat_seq (sat_mt (sat_eq (a := cD c) (by simp) (sat_eq (a := .lst (acc.map cD)) (by simp) (sat_eq (app_ok (by simp at ha ⊢; omega)) ?_))))
    simp only [setV_succ, setV_zero]
    refine sat_set (sat_eq (a := cD e) ?_ ?_)
    · simp only [evE_sub, evE_attr, evE_tup, evL_cons, evL_nil, evE_var, getV_zero, getV_succ, bind_ok, at_nextsX, nx_subX hc hy, hb, oD_some]
    · have := ih (nb_some.mp hb).1 (acc ++ [c]) n (by simp at hn; omega) (by simp at ha ⊢; omega)
      rw [List.append_assoc, List.map_append] at this
      exact this
theorem row_ok {R : List (List Nat)} {w : Nat} {s : Int} (g : Good R w) (hN : 20 < N) {bs : List Cell} {y : Nat} (hy : y ∈ wayL) {c : Cell} {r : List Cell} {o : Option Cell} (h : Row (flo R w) bs y c r o) (hc : c ∈ flo R w) :
    (run gam glo N (k + 1) "row_of_boxes" [] [yardX R w s, .tup (bs.map cD), cD c, cS y]).Ev fun f => f = (.lst (r.map cD), []) := by
  rw [r_row_of_boxes]
  refine sat_bodyE [some (yardX R w s), some (.tup (bs.map cD)), some (cD c), some (cS y), none] rfl rfl rfl rfl ?_
  refine sat_seq (sat_set (sat_eq (a := .lst []) (by simp) ?_))
  simp only [setV_succ, setV_zero]
  have hl := h.len g hy hc
  have := posn_le g hy hc
  refine sat_seq ?_
  rw [exS_whil]
  refine (row_loop hy h hc [] N (by omega) (by simp; omega)).mono ?_
  rintro _ rfl
  refine sat_retMv ?_
  simp
theorem rowNone_ok {R : List (List Nat)} {w : Nat} {s : Int} (hN : 20 < N) {bs : List Cell} {y : Nat} :
    (run gam glo N (k + 1) "row_of_boxes" [] [yardX R w s, .tup (bs.map cD), .non, cS y]).Ev fun f => f = (.lst [], []) := by
  rw [r_row_of_boxes]
  refine sat_bodyE [some (yardX R w s), some (.tup (bs.map cD)), some .non, some (cS y), none] rfl rfl rfl rfl ?_
  refine sat_seq (sat_set (sat_eq (a := .lst []) (by simp) ?_))
  simp only [setV_succ, setV_zero]
  refine sat_seq ?_
  rw [exS_whil]
  obtain ⟨n, rfl⟩ : ∃ m, N = m + 1 := ⟨N - 1, by omega⟩
  refine while_end ?_ ?_
  · simp
  · refine sat_retMv ?_
    simp
theorem ne_cD (a b : Cell) : neD (cD a) (cD b) = .ok (.bl (!decide (a = b))) := by
  rw [← eqv_cD]; rfl
theorem moved_ok {bs : List Cell} {c b : Cell} (hl : bs.length ≤ 100) :
    (run gam glo N (k + 1) "moved" [] [.tup (bs.map cD), cD c, cD b]).Ev fun f => f = (.tup ((movedM bs c b).map cD), []) := by
  rw [r_moved]
  refine sat_bodyE [some (.tup (bs.map cD)), some (cD c), some (cD b), none] rfl rfl rfl rfl ?_
  refine sat_ret (sat_bf (sat_bf (sat_op ((comp_ifS (xs := bs) (e := cD) (g := cD) (p := fun x => !decide (x = c)) (over_ok (sat_eq (a := .tup (bs.map cD)) (by simp) (by simp))) ?_).mono ?_))))
  · intro x hx
    refine ⟨[some (.tup (bs.map cD)), some (cD c), some (cD b), some (cD x)], rfl, ?_, fun _ => by simp⟩
    simp only [evE_op, evE_var, getV_zero, getV_succ, bind_ok, opE_ne, ne_cD, truthy_bl]
  · rintro _ rfl
    refine sat_eq (a := .lst [cD b]) (by simp) ?_
    have hle : (bs.filter fun x => !decide (x = c)).length ≤ bs.length := List.length_filter_le _ _
    rw [opE_add, add_lst, if_pos (by simp; unfold big; omega)]
    refine ev ?_
    have e : (bs.filter fun x => !decide (x = c)).map cD ++ [cD b] = ((bs.filter fun x => !decide (x = c)) ++ [b]).map cD := by simp
    rw [e, bf_sorted, oneD_one, sortF_cells]
    refine ev ?_
    rw [bf_tuple, oneD_one, tupleF_lst]
    exact ev rfl
def oB : Option (List Cell) → D
  | none => .non
  | some bs => .tup (bs.map cD)
def pushM (fl : List Cell) (s : Int) (bs : List Cell) (t : Cell) (y : Nat) : Option (List Cell) := match (rowF fl bs y 14 t).2 with
      | none => none
      | some b => if ((rowF fl bs y 14 t).1.length : Int) ≤ s then some (movedM bs t b) else none
theorem mvS_def (fl : List Cell) (s : Int) (bs : List Cell) (a : Cell) (y : Nat) : mvS fl s bs a y = match nb fl a y with
  | none => none
  | some t => if t ∈ bs then (match pushM fl s bs t y with | none => none | some cs => some (t, cs, true)) else some (t, bs, false) := by
  unfold mvS pushM
  cases nb fl a y with
  | none => rfl
  | some t =>
    by_cases h : t ∈ bs
    · simp only [if_pos h]
      cases (rowF fl bs y 14 t).2 with
      | none => rfl
      | some b => by_cases h2 : ((rowF fl bs y 14 t).1.length : Int) ≤ s <;> simp [h2]
    · simp only [if_neg h]
theorem Row.ne_nil {fl bs : List Cell} {y : Nat} {c : Cell} {r : List Cell} {o : Option Cell} (h : Row fl bs y c r o) (hc : c ∈ bs) : r ≠ [] := by
  cases h with
  | free h => exact absurd hc h
  | wall _ _ => simp
  | more _ _ _ => simp
theorem boxes_pushed_ok {R : List (List Nat)} {w : Nat} {s : Int} (g : Good R w) (hN : 20 < N) {bs : List Cell} (hl : bs.length ≤ 100) (hf : ∀ b ∈ bs, b ∈ flo R w) {y : Nat} (hy : y ∈ wayL) {c : Cell} (hc : c ∈ bs) :
    (run gam glo N (k + 2) "boxes_pushed" [] [yardX R w s, .tup (bs.map cD), cD c, cS y]).Ev fun f => f = (oB (pushM (flo R w) s bs c y), []) := by
  rw [r_boxes_pushed]
  refine sat_bodyE [some (yardX R w s), some (.tup (bs.map cD)), some (cD c), some (cS y), none, none] rfl rfl rfl rfl ?_
  have hr := row14 g (bs := bs) hy (hf c hc)
  unfold pushM
  generalize rowF (flo R w) bs y 14 c = p at hr
  obtain ⟨r, o⟩ := p
  simp only at hr ⊢
  refine sat_seq (sat_set (sat_call (xs := [yardX R w s, .tup (bs.map cD), cD c, cS y]) (by simp) (row_ok g hN hy hr (hf c hc)) ?_))
  rintro _ rfl
  simp only [setV_succ, setV_zero]
  obtain ⟨x, hx⟩ : ∃ x, r.getLast? = some x := ⟨_, List.getLast?_eq_some_getLast (hr.ne_nil hc)⟩
  obtain ⟨h1, h2⟩ := hr.last x hx
  refine sat_seq (sat_set (sat_eq (a := oD o) ?_ ?_))
  · simp only [evE_sub, evE_attr, evE_tup, evE_neg, evE_int, evL_cons, evL_nil, evE_var, getV_zero, getV_succ, bind_ok, at_nextsX, getLast_map hx, nx_subX (hf x (hr.sub x h2)) hy, h1]
  simp only [setV_succ, setV_zero]
  have el : evE glo (run gam glo N (k + 1)) [some (yardX R w s), some (.tup (bs.map cD)), some (cD c), some (cS y), some (.lst (r.map cD)), some (oD o)] (.op .gt (.bf .len (.econs (.var 4) .enil)) (.attr (.var 0) "strength")) = .ok (.bl (decide (s < (r.length : Int)))) := by
    simp only [evE_op, evE_bf, evL_cons, evL_nil, evE_var, evE_attr, getV_zero, getV_succ, bind_ok, bf_len, oneD_one, lenF_lst, at_strengthX, opE_gt, gt_int, List.length_map]
  cases o with
  | none =>
    refine sat_seq (sat_ifT (sat_or (sat_eq el (ev ?_))) (sat_ret ?_))
    · by_cases hs : s < (r.length : Int)
      · rw [decide_eq_true hs, if_pos rfl]
      · rw [decide_eq_false hs, if_neg Bool.false_ne_true]; simp
    · simp [oB]
  | some b =>
    by_cases hs : s < (r.length : Int)
    · refine sat_seq (sat_ifT (sat_orT (by rw [el, decide_eq_true hs]) rfl) (sat_ret ?_))
      have : ¬ (r.length : Int) ≤ s := by omega
      simp [oB, this]
    · have hs2 : (r.length : Int) ≤ s := by omega
      refine sat_seqN (sat_ifF (sat_orF (by rw [el, decide_eq_false hs]) (by simp)) (sat_skip rfl)) ?_
      refine sat_ret (sat_call (xs := [.tup (bs.map cD), cD c, cD b]) (by simp) (moved_ok hl) ?_)
      rintro _ rfl
      simp [oB, hs2]
theorem asgT_pair3 (a b : D) (e0 e1 e2 e3 e4 e5 e6 : Option D) : asgT (.cons (.var 3) (.cons (.var 4) .nil)) (.tup [a, b]) [e0, e1, e2, e3, e4, e5, e6] = .ok [e0, e1, e2, some a, some b, e5, e6] := (rfl)
theorem stepped_ok {R : List (List Nat)} {w : Nat} {s : Int} (g : Good R w) (hN : 20 < N) {a : Cell} {bs : List Cell} (S : Stand R w a bs) {y : Nat} (hy : y ∈ wayL) :
    (run gam glo N (k + 3) "stepped" [] [yardX R w s, standD a bs, cS y]).Ev fun f => f = (stpD (mvS (flo R w) s bs a y), []) := by
  rw [r_stepped]
  refine sat_bodyE [some (yardX R w s), some (standD a bs), some (cS y), none, none, none, none] rfl rfl rfl rfl ?_
  have hl : bs.length ≤ 100 := by
    have h1 := nodup_sub_len S.bx.asc.nodup S.bx.fl
    have h2 := g.f14
    have h3 : (flo R w).length = (cells R w [46, 120]).length := rfl
    omega
  refine sat_seq (sat_asg (sat_eq (a := (standD a bs, [some (yardX R w s), some (standD a bs), some (cS y), none, none, none, none])) (by simp) (sat_eq (a := [some (yardX R w s), some (standD a bs), some (cS y), some (cD a), some (.tup (bs.map cD)), none, none]) rfl ?_)))
  rw [mvS_def]
  refine sat_seq (sat_set (sat_eq (a := oD (nb (flo R w) a y)) ?_ ?_))
  · simp only [evE_sub, evE_attr, evE_tup, evL_cons, evL_nil, evE_var, getV_zero, getV_succ, bind_ok, at_nextsX, nx_subX S.hand hy]
  simp only [setV_succ, setV_zero]
  cases hb : nb (flo R w) a y with
  | none =>
    refine sat_seq (sat_ifT (by simp) (sat_ret ?_))
    simp [stpD]
  | some t =>
    refine sat_seqN (sat_ifF (by simp) (sat_skip rfl)) ?_
    by_cases ht : t ∈ bs
    · refine sat_seqN (sat_ifF (by simp [in_tup, ht]) (sat_skip rfl)) ?_
      refine sat_seq (sat_set (sat_call (xs := [yardX R w s, .tup (bs.map cD), cD t, cS y]) (by simp) (boxes_pushed_ok g hN hl S.bx.fl hy ht) ?_))
      rintro _ rfl
      simp only [setV_succ, setV_zero, if_pos ht]
      refine sat_ret (sat_ite ?_)
      cases pushM (flo R w) s bs t y with
      | none => simp [oB, stpD]
      | some cs => simp [oB, stpD, standD]
    · refine sat_seq (sat_ifT (by simp [in_tup, ht]) (sat_ret ?_))
      simp only [if_neg ht]
      simp [stpD, standD]
end
end Pv

set_option autoImplicit false
set_option linter.all false
set_option maxRecDepth 10000
namespace Pv
open Pl
open PySem (Str)
/-! the law's own step -/
def bD (c : Cell) (y : Nat) : D := .tup [.int ((c.1 : Int) + (stepI y).1), .int ((c.2 : Int) + (stepI y).2)]
theorem eqv_bD (c e : Cell) (y : Nat) : D.eqv (cD e) (bD c y) = isAt c y e := by
  show (((e.1 : Int) == ((c.1 : Int) + (stepI y).1)) && (((e.2 : Int) == ((c.2 : Int) + (stepI y).2)) && true)) = _
  unfold isAt
  rw [Bool.eq_iff_iff]
  simp only [Bool.and_eq_true, beq_iff_eq, and_true, decide_eq_true_eq]
theorem bD_nb {fl : List Cell} {c e : Cell} {y : Nat} (h : nb fl c y = some e) : bD c y = cD e := by
  have h := (nb_some.mp h).2
  unfold isAt at h
  simp only [Bool.and_eq_true, decide_eq_true_eq] at h
  unfold bD
  rw [← h.1, ← h.2]; rfl
theorem plain_bD (n : Nat) (c : Cell) (y : Nat) : D.plain (n + 1) (bD c y) = true := (rfl)
theorem in_bD (c : Cell) (y : Nat) (l : List Cell) : inD (bD c y) (.lst (l.map cD)) = .ok (nb l c y).isSome := by
  show (if D.plain 32 (bD c y) && D.plainL 32 (l.map cD) then R.ok ((l.map cD).any fun z => D.eqv z (bD c y)) else .bad) = _
  rw [plain_bD 31, plainL_map (plain_cD 31)]
  have e : ((l.map cD).any fun z => D.eqv z (bD c y)) = (nb l c y).isSome := by
    rw [List.any_map]
    have : ((fun z => D.eqv z (bD c y)) ∘ cD) = fun e => isAt c y e := by funext e; exact eqv_bD c e y
    rw [this]
    unfold nb
    rw [Bool.eq_iff_iff, List.any_eq_true, Option.isSome_iff_exists]
    constructor
    · rintro ⟨x, hx, h⟩
      cases hf : l.find? fun e => isAt c y e with
      | none => exact absurd h (by simpa using List.find?_eq_none.mp hf x hx)
      | some z => exact ⟨z, rfl⟩
    · rintro ⟨z, hz⟩
      exact ⟨z, List.mem_of_find?_eq_some hz, by simpa using List.find?_some hz⟩
  rw [e]; rfl
theorem nb_sub {fl bs : List Cell} {c : Cell} {y : Nat} (h : nb fl c y = none) (hs : ∀ b ∈ bs, b ∈ fl) : nb bs c y = none := nb_none.mpr fun e he => nb_none.mp h e (hs e he)
theorem Row.next {fl bs : List Cell} {y : Nat} {c : Cell} {r : List Cell} {o : Option Cell} (h : Row fl bs y c r o) : ∀ b, o = some b → r.map (fun x => bD x y) = ((r ++ [b]).tail).map cD := by
  induction h with
  | free _ => intro b _; simp
  | wall _ _ => intro b h; cases h
  | @more c e r o hc hb hr ih =>
    intro b h
    have := ih b h
    cases hr with
    | free _ => cases h; simp [bD_nb hb]
    | wall _ _ => cases h
    | more _ _ _ => simpa [bD_nb hb] using this
/-- the moved boxes are the same -/
theorem moved_same {fl bs : List Cell} {y : Nat} {c b : Cell} {r : List Cell} (hy : y ∈ wayL) (hA : Asc bs) (h : Row fl bs y c r (some b)) (hc : c ∈ bs) : sortC ((bs.filter fun x => !decide (x ∈ r)) ++ (r ++ [b]).tail) = movedM bs c b := by
  have nd := h.nodup hy
  have hb := h.endNot b rfl
  have hs := h.sub
  obtain ⟨r', rfl⟩ : ∃ r', r = c :: r' := by
    cases h with
    | free h => exact absurd hc h
    | more _ _ _ => exact ⟨_, rfl⟩
  rw [List.nodup_cons] at nd
  have hb' : b ∉ r' := fun z => hb (hs b (by simp [z]))
  refine asc_ext (asc_sortC ?_) (asc_sortC ?_) fun x => ?_
  · simp only [List.cons_append, List.tail_cons]
    rw [List.nodup_append]
    refine ⟨hA.nodup.filter _, ?_, ?_⟩
    · rw [List.nodup_append]
      exact ⟨nd.2, by simp, fun x hx z hz => by simp at hz; subst hz; rintro rfl; exact hb' hx⟩
    · intro x hx z hz e
      subst e
      obtain ⟨h1, h2⟩ := List.mem_filter.mp hx
      rcases List.mem_append.mp hz with hz | hz
      · simp [hz] at h2
      · simp at hz; subst hz; exact hb h1
  · rw [List.nodup_append]
    refine ⟨hA.nodup.filter _, by simp, ?_⟩
    intro x hx z hz
    simp at hz; subst hz
    rintro rfl
    exact hb (List.mem_filter.mp hx).1
  · rw [(sortC_perm _).mem_iff]
    show _ ↔ x ∈ movedM bs c b
    rw [mem_moved]
    simp only [List.mem_append, List.mem_filter, List.cons_append, List.tail_cons, List.mem_cons, List.not_mem_nil, or_false, Bool.not_eq_true', decide_eq_false_iff_not, not_or]
    by_cases hx : x ∈ r'
    · have h1 := hs x (by simp [hx])
      have h2 : x ≠ c := fun e => nd.1 (e ▸ hx)
      simp [hx, h1, h2]
    · simp [hx]
theorem sortC_asc {bs : List Cell} (h : Asc bs) : sortC bs = bs := asc_ext (asc_sortC h.nodup) h fun c => (sortC_perm bs).mem_iff
section
variable {N k : Nat}
theorem r_beyond : run gam glo N (k + 1) "_law_beyond" [] = fun ds => callFd glo (run gam glo N k) N f__law_beyond ds := by funext ds; exact run_fd rfl
theorem r_move : run gam glo N (k + 1) "_law_move" [] = fun ds => callFd glo (run gam glo N k) N f__law_move ds := by funext ds; exact run_fd rfl
theorem beyond_ok {c : Cell} {y : Nat} (hy : y ∈ wayL) : (run gam glo N (k + 1) "_law_beyond" [] [cD c, cS y]).Ev fun r => r = (bD c y, []) := by
  rw [r_beyond]
  refine sat_bodyE [some (cD c), some (cS y), none] rfl rfl rfl rfl ?_
  refine sat_seq (sat_set (sat_eq (a := .tup [.int (stepI y).1, .int (stepI y).2]) ?_ ?_))
  · simp only [wayL, List.mem_cons, List.not_mem_nil, or_false] at hy
    rcases hy with rfl | rfl | rfl | rfl <;> rfl
  simp only [setV_succ, setV_zero]
  refine sat_ret ?_
  simp [cD, bD]
theorem law_loop {fl bs : List Cell} {y : Nat} (hy : y ∈ wayL) (hs : ∀ b ∈ bs, b ∈ fl) {P S hD : D} {c : Cell} {r : List Cell} {o : Option Cell} (h : Row fl bs y c r o) : c ∈ fl → ∀ (acc : List Cell) (n : Nat), r.length < n → acc.length + r.length ≤ 100 →
    (whileN (fun ρ => testE glo (run gam glo N (k + 1)) ρ (.op .inn (.var 7) (.var 4))) (exS glo (run gam glo N (k + 1)) N (.seq (.mt .append 6 (.e (.var 7))) (.asg (.var 7) (.e (.call "_law_beyond" (.econs (.var 7) (.econs (.var 2) .enil))))))) n [some P, some S, some (cS y), some (.lst (fl.map cD)), some (.lst (bs.map cD)), some hD, some (.lst (acc.map cD)), some (cD c), none, none]).Ev fun f => ∃ d, f = .nx [some P, some S, some (cS y), some (.lst (fl.map cD)), some (.lst (bs.map cD)), some hD, some (.lst ((acc ++ r).map cD)), some d, none, none] ∧ inD d (.lst (fl.map cD)) = .ok o.isSome := by
  induction h with
  | @free c h =>
    intro hc acc n hn ha
    obtain ⟨n, rfl⟩ : ∃ m, n = m + 1 := ⟨n - 1, by simp at hn; omega⟩
    refine while_end (by simp [in_lst, h]) ⟨cD c, by simp, by simp [in_lst, hc]⟩
  | @wall c h hb =>
    intro hc acc n hn ha
    obtain ⟨n, rfl⟩ : ∃ m, n = m + 1 + 1 := ⟨n - 2, by simp at hn; omega⟩
    refine while_go (by simp [in_lst, h]) ?_
    refine sat_seq (sat_mt (sat_eq (a := cD c) (by simp) (sat_eq (a := .lst (acc.map cD)) (by simp) (sat_eq (app_ok (by simp at ha ⊢; omega)) ?_))))
    simp only [setV_succ, setV_zero]
    refine sat_set (sat_call (xs := [cD c, cS y]) (by simp) (beyond_ok hy) ?_)
    rintro _ rfl
    simp only [setV_succ, setV_zero]
    refine while_end ?_ ⟨bD c y, by simp, by rw [in_bD, hb]⟩
    simp [in_bD, nb_sub hb hs]
  | @more c e r o h hb hr ih =>
    intro hc acc n hn ha
    obtain ⟨n, rfl⟩ : ∃ m, n = m + 1 := ⟨n - 1, by simp at hn; omega⟩
    refine while_go (by simp [in_lst, h]) ?_
    refine sat_seq (sat_mt (sat_eq (a := cD c) (by simp) (sat_eq (a := .lst (acc.map cD)) (by simp) (sat_eq (app_ok (by simp at ha ⊢; omega)) ?_))))
    simp only [setV_succ, setV_zero]
    refine sat_set (sat_call (xs := [cD c, cS y]) (by simp) (beyond_ok hy) ?_)
    rintro _ rfl
    simp only [setV_succ, setV_zero, bD_nb hb]
    have := ih (nb_some.mp hb).1 (acc ++ [c]) n (by simp at hn; omega) (by simp at ha ⊢; omega)
    rw [List.append_assoc, List.map_append] at this
    exact this
theorem floor_okF {R : List (List Nat)} {w : Nat} {s : D} (g : Good R w) : (run gam glo N (k + 3) "_law_floor" [] [.tup [rowsD R, s]]).Ev fun r => r = (.lst ((flo R w).map cD), []) := floor_ok g
theorem marks_okF {R : List (List Nat)} {w : Nat} {s : D} (g : Good R w) : (run gam glo N (k + 3) "_law_marks" [] [.tup [rowsD R, s]]).Ev fun r => r = (.lst ((mks R w).map cD), []) := marks_ok g
theorem law_move_ok {R : List (List Nat)} {w : Nat} {s : Int} (g : Good R w) (hN : 20 < N) {a : Cell} {bs : List Cell} (S : Stand R w a bs) {y : Nat} (hy : y ∈ wayL) :
    (run gam glo N (k + 4) "_law_move" [] [partsD R s, standD a bs, cS y]).Ev fun f => f = (stpD (mvS (flo R w) s bs a y), []) := by
  rw [r_move]
  have hl : bs.length ≤ 14 := by
    have h1 := nodup_sub_len S.bx.asc.nodup S.bx.fl
    have h2 := g.f14
    have h3 : (flo R w).length = (cells R w [46, 120]).length := rfl
    omega
  refine sat_bodyE [some (partsD R s), some (standD a bs), some (cS y), none, none, none, none, none, none, none] rfl rfl rfl rfl ?_
  refine sat_seq (sat_par2 (sat_call (xs := [partsD R s]) (by simp) (floor_okF g) ?_))
  rintro _ rfl
  refine sat_eq (a := .lst (bs.map cD)) rfl ?_
  simp only [setV_succ, setV_zero]
  refine sat_seq (sat_par2 (sat_call (xs := [cD a, cS y]) rfl (beyond_ok hy) ?_))
  rintro _ rfl
  refine sat_eq (a := .lst []) (by simp) ?_
  simp only [setV_succ, setV_zero]
  unfold mvS
  cases hb : nb (flo R w) a y with
  | none =>
    refine sat_seq (sat_ifT ?_ (sat_ret ?_))
    · have := in_bD a y (flo R w)
      rw [hb] at this
      simp [this]
    · simp [stpD]
  | some t =>
    have ht := (nb_some.mp hb).1
    rw [bD_nb hb]
    have hr := row14 g (bs := bs) hy ht
    have hlen := hr.len g hy ht
    have hpos := posn_le g hy ht
    refine sat_seqN (sat_ifF ?_ (sat_skip rfl)) ?_
    · have := in_lst t (flo R w)
      simp [this, ht]
    refine sat_seq (sat_set (sat_eq (a := cD t) (by simp) ?_))
    simp only [setV_succ, setV_zero]
    refine sat_seq ?_
    rw [exS_whil]
    generalize rowF (flo R w) bs y 14 t = p at hr hlen
    obtain ⟨r, o⟩ := p
    simp only at hr hlen ⊢
    refine (law_loop (P := partsD R s) (S := standD a bs) (hD := cD t) hy S.bx.fl hr ht [] N (by omega) (by simp; omega)).mono ?_
    rintro _ ⟨d, rfl, hd⟩
    have hd' : inD d (.lst ((flo R w).map cD)) = .ok o.isSome := hd
    have e1 : ∀ x, evE glo (run gam glo N (k + 3)) [some (partsD R s), some (standD a bs), some (cS y), some (.lst ((flo R w).map cD)), some (.lst (bs.map cD)), some (cD t), some (.lst (([] ++ r).map cD)), some d, x, none] (.op .ne (.var 6) (.lst .enil)) = .ok (.bl (!r.isEmpty)) := fun x => by
      simp only [evE_op, evE_var, evE_lst, evL_nil, getV_zero, getV_succ, bind_ok, opE_ne, List.nil_append, ne_nil (plainL_map (plain_cD 30) r)]
      simp
    have e2 : evE glo (run gam glo N (k + 3)) [some (partsD R s), some (standD a bs), some (cS y), some (.lst ((flo R w).map cD)), some (.lst (bs.map cD)), some (cD t), some (.lst (([] ++ r).map cD)), some d, none, none] (.op .gt (.bf .len (.econs (.var 6) .enil)) (.sub (.var 0) (.int 1))) = .ok (.bl (decide (s < (r.length : Int)))) := by
      simp [partsD]
    have e3 : evE glo (run gam glo N (k + 3)) [some (partsD R s), some (standD a bs), some (cS y), some (.lst ((flo R w).map cD)), some (.lst (bs.map cD)), some (cD t), some (.lst (([] ++ r).map cD)), some d, none, none] (.op .notin (.var 7) (.var 3)) = .ok (.bl (!o.isSome)) := by
      simp [hd']
    -- behind the loop: what is moved
    have fin : ∀ (m : List Cell), sortC ((bs.filter fun x => !decide (x ∈ r)) ++ m) = m → True := fun _ _ => trivial
    have tail : ∀ (m : List Cell) (P' : Fl → Prop), r.map (fun x => bD x y) = m.map cD → m.length ≤ 100 → P' (.rt (.tup [standD t (sortC ((bs.filter fun x => !decide (x ∈ r)) ++ m)), .bl (!r.isEmpty)]) [some (partsD R s), some (standD a bs), some (cS y), some (.lst ((flo R w).map cD)), some (.lst (bs.map cD)), some (cD t), some (.lst (([] ++ r).map cD)), some d, some (.lst (((bs.filter fun x => !decide (x ∈ r)) ++ m).map cD)), none]) →
        (exS glo (run gam glo N (k + 3)) N (.seq (.asg (.var 8) (.e (.op .add (.comp (.var 9) (.var 9) (.over (.var 4)) (.op .notin (.var 9) (.var 6)) [9]) (.comp (.call "_law_beyond" (.econs (.var 9) (.econs (.var 2) .enil))) (.var 9) (.over (.var 6)) (.bl true) [9]))))
 (.ret (.e (.tup (.econs (.tup (.econs (.var 5) (.econs (.bf .tuple (.econs (.bf .sorted (.econs (.var 8) .enil)) .enil)) .enil))) (.econs (.op .ne (.var 6) (.lst .enil)) .enil)))))) [some (partsD R s), some (standD a bs), some (cS y), some (.lst ((flo R w).map cD)), some (.lst (bs.map cD)), some (cD t), some (.lst (([] ++ r).map cD)), some d, none, none]).Ev P' := by
      intro m P' hm hml hP
      refine sat_seq (sat_set (sat_op ((comp_ifS (xs := bs) (e := cD) (g := cD) (p := fun x => !decide (x ∈ r)) (over_ok (sat_eq (a := .lst (bs.map cD)) (by simp) (by simp))) ?_).mono ?_)))
      · intro x hx
        refine ⟨[some (partsD R s), some (standD a bs), some (cS y), some (.lst ((flo R w).map cD)), some (.lst (bs.map cD)), some (cD t), some (.lst (([] ++ r).map cD)), some d, none, some (cD x)], rfl, ?_, fun _ => by simp⟩
        simp only [evE_op, evE_var, getV_zero, getV_succ, bind_ok, opE_notin, List.nil_append, in_lst, truthy_bl]
      · rintro _ rfl
        refine (comp_mapE (xs := r) (e := cD) (g := fun x => bD x y) (over_ok (sat_eq (a := .lst (r.map cD)) (by simp) (by simp))) ?_).mono ?_
        · intro x hx
          simp only [wipe_cons, wipe_nil, asgT_var, bind_ok, List.set_cons_succ, List.set_cons_zero, setV_succ, setV_zero]
          refine sat_call (xs := [cD x, cS y]) (by simp) (beyond_ok hy) ?_
          rintro _ rfl
          rfl
        · rintro _ rfl
          have hle : (bs.filter fun x => !decide (x ∈ r)).length ≤ bs.length := List.length_filter_le _ _
          rw [hm, opE_add, add_lst, if_pos (by simp; unfold big; omega), ← List.map_append]
          refine ev ?_
          simp only [setV_succ, setV_zero]
          refine sat_ret ?_
          rw [evE_tup, evL_cons, evL_cons, e1]
          simp only [evE_tup, evE_bf, evL_cons, evL_nil, evE_var, getV_zero, getV_succ, bind_ok, bf_sorted, bf_tuple, oneD_one, sortF_cells, tupleF_lst]
          exact ev hP
    by_cases hm : t ∈ bs
    · have hne := hr.ne_nil hm
      have hie : r.isEmpty = false := by cases r with | nil => exact absurd rfl hne | cons _ _ => rfl
      simp only [if_pos hm]
      have e1' := e1 none
      rw [hie] at e1'
      cases o with
      | none =>
        refine sat_seq (sat_ifT (sat_andT e1' (sat_or (sat_eq e2 (ev ?_)))) (sat_ret (by simp [stpD])))
        by_cases hs : s < (r.length : Int)
        · rw [decide_eq_true hs, if_pos rfl]
        · rw [decide_eq_false hs, if_neg Bool.false_ne_true]; exact sat_eq e3 rfl
      | some b =>
        by_cases hs : s < (r.length : Int)
        · refine sat_seq (sat_ifT (sat_andT e1' (sat_orT (e2.trans (by rw [decide_eq_true hs])) rfl)) (sat_ret ?_))
          have : ¬ (r.length : Int) ≤ s := by omega
          simp [stpD, this]
        · refine sat_seqN (sat_ifF (sat_andT e1' (sat_orF (e2.trans (by rw [decide_eq_false hs])) (sat_eq e3 rfl))) (sat_skip rfl)) ?_
          have hs2 : (r.length : Int) ≤ s := by omega
          refine tail ((r ++ [b]).tail) _ (hr.next b rfl) (by simp; omega) ?_
          simp only [if_pos hs2]
          rw [moved_same hy S.bx.asc hr hm, hie]
          rfl
    · simp only [if_neg hm]
      cases hr with
      | free _ =>
        have e1' := e1 none
        refine sat_seqN (sat_ifF (sat_andF e1' rfl) (sat_skip rfl)) ?_
        refine tail [] _ rfl (by simp) ?_
        have : (bs.filter fun x => !decide (x ∈ ([] : List Cell))) = bs := List.filter_eq_self.mpr fun x _ => by simp
        rw [this, List.append_nil, sortC_asc S.bx.asc]
        rfl
      | wall h _ => exact absurd h hm
      | more h _ _ => exact absurd h hm
end
end Pv

set_option autoImplicit false
set_option linter.all false
set_option maxRecDepth 10000
namespace Pv
open Pl
open PySem (Str)
def stD : Stp → D
  | none => .non
  | some (a, bs, _) => standD a bs
theorem plain_st (m : Stp) (n : Nat) : D.plain (n + 3) (stD m) = true := by
  rcases m with _ | ⟨a, bs, p⟩
  · rfl
  · exact plain_stand a bs n
theorem eqv_st (m : Stp) : D.eqv (stD m) (stD m) = true := by
  rcases m with _ | ⟨a, bs, p⟩
  · rfl
  · show D.eqv (standD a bs) (standD a bs) = true
    rw [eqv_stand]; simp
section
variable {N k : Nat}
theorem r_is_one_of : run gam glo N (k + 1) "is_one_of" [] = fun ds => callFd glo (run gam glo N k) N f_is_one_of ds := by funext ds; exact run_fd rfl
theorem r_is_way : run gam glo N (k + 1) "is_way" [] = fun ds => callFd glo (run gam glo N k) N f_is_way ds := by funext ds; exact run_fd rfl
theorem r_check_way : run gam glo N (k + 1) "check_way" [] = fun ds => callFd glo (run gam glo N k) N f_check_way ds := by funext ds; exact run_fd rfl
theorem r_step : run gam glo N (k + 1) "step" [] = fun ds => callFd glo (run gam glo N k) N f_step ds := by funext ds; exact run_fd rfl
theorem is_way_ok {y : Nat} (hy : y ∈ wayL) : (run gam glo N (k + 2) "is_way" [] [cS y]).Ev fun r => r = (.bl true, []) := by
  rw [r_is_way]
  refine sat_bodyE [some (cS y)] rfl rfl rfl rfl ?_
  refine sat_ret (sat_call (xs := [cS y, .tup (wayL.map cS)]) (by simp [wayL]) (Q := fun r => r = (.bl true, [])) ?_ ?_)
  · rw [r_is_one_of]
    refine sat_bodyE [some (cS y), some (.tup (wayL.map cS))] rfl rfl rfl rfl ?_
    refine sat_ret (sat_andT ?_ ?_)
    · rw [evE_isi, evE_var, getV_zero, bind_ok]
      exact (if_pos rfl).trans (by rw [show ([Ty.str].any (tyIs (cS y))) = true from rfl])
    · simp only [evE_op, evE_var, getV_zero, getV_succ, bind_ok, opE_inn, in_signs, decide_eq_true hy]
      exact ev rfl
  · rintro _ rfl; rfl
theorem check_way_ok {y : Nat} (hy : y ∈ wayL) : (run gam glo N (k + 3) "check_way" [] [cS y]).Ev fun r => r = (.non, []) := by
  rw [r_check_way]
  refine sat_bodyE [some (cS y)] rfl rfl rfl rfl ?_
  refine sat_ifF (sat_notT (sat_call (xs := [cS y]) (by simp) (is_way_ok hy) ?_) rfl) (sat_skip rfl)
  rintro _ rfl; rfl
theorem step_ok {R : List (List Nat)} {w : Nat} {s : Int} (g : Good R w) (hN : 20 < N) {a : Cell} {bs : List Cell} (S : Stand R w a bs) {y : Nat} (hy : y ∈ wayL) :
    (run gam glo N (k + 12) "step" [] [yardX R w s, standD a bs, cS y]).Ev fun f => f = (stD (mvS (flo R w) s bs a y), []) := by
  rw [r_step]
  refine sat_bodyE [some (yardX R w s), some (standD a bs), some (cS y), none] rfl rfl rfl rfl ?_
  refine sat_seq (sat_expr (sat_call (xs := [yardX R w s, standD a bs]) (by simp) (check_both_ok g S) ?_))
  rintro _ rfl
  refine sat_seq (sat_expr (sat_call (xs := [cS y]) (by simp) (check_way_ok hy) ?_))
  rintro _ rfl
  refine sat_seq (sat_set (sat_call (xs := [yardX R w s, standD a bs, cS y]) (by simp) (stepped_ok g hN S hy) ?_))
  rintro _ rfl
  simp only [setV_succ, setV_zero]
  refine sat_ret (sat_ite ?_)
  rcases mvS (flo R w) s bs a y with _ | ⟨t, cs, p⟩
  · simp [stpD, stD]
  · simp [stpD, stD]
end
end Pv

set_option autoImplicit false
set_option linter.all false
set_option maxRecDepth 10000
namespace Pv
open Pl
open PySem (Str)
/-! walks -/
abbrev Gon := Cell × List Cell × Nat × Option Nat
def goM (fl : List Cell) (s : Int) : Cell → List Cell → Nat → Nat → List Nat → Gon
  | a, bs, p, _, [] => (a, bs, p, none)
  | a, bs, p, i, y :: ys => match mvS fl s bs a y with
    | none => (a, bs, p, some i)
    | some (t, cs, q) => goM fl s t cs (p + if q then 1 else 0) (i + 1) ys
def iO : Option Nat → D
  | none => .non
  | some i => .int (i : Int)
def gonD (r : Gon) : D := .tup [standD r.1 r.2.1, .int (r.2.2.1 : Int), iO r.2.2.2]
@[simp] theorem isNon_iO (o : Option Nat) : (iO o).isNon = o.isNone := by cases o <;> rfl
theorem stand_go {R : List (List Nat)} {w : Nat} {s : Int} (g : Good R w) : ∀ (ys : List Nat) (a : Cell) (bs : List Cell) (p i : Nat), (∀ y ∈ ys, y ∈ wayL) → Stand R w a bs → Stand R w (goM (flo R w) s a bs p i ys).1 (goM (flo R w) s a bs p i ys).2.1
  | [], a, bs, p, i, _, S => S
  | y :: ys, a, bs, p, i, hy, S => by
    unfold goM
    cases hm : mvS (flo R w) s bs a y with
    | none => exact S
    | some r =>
      obtain ⟨t, cs, q⟩ := r
      exact stand_go g ys t cs _ _ (fun z hz => hy z (by simp [hz])) (stand_mv g (hy y (by simp)) S hm)
theorem forL_go {t : Tg} {f : Env → R Fl} {x : D} {l : List D} {ρ : Env} {P : Fl → Prop} (h : ((asgT t x ρ).bind f).Ev fun r => match r with
      | .nx ρ' => (forL t f l ρ').Ev P
      | .ct ρ' => (forL t f l ρ').Ev P
      | .bk ρ' => P (.nx ρ')
      | .rt d ρ' => P (.rt d ρ')) : (forL t f (x :: l) ρ).Ev P := by
  show ((asgT t x ρ).bind fun ρ => (f ρ).bind fun r => match r with
        | .nx ρ => forL t f l ρ
        | .ct ρ => forL t f l ρ
        | .bk ρ => .ok (.nx ρ)
        | .rt d ρ => .ok (.rt d ρ)).Ev P
  have h := sat_unbind h
  refine sat_bind (h.mono fun ρ1 h1 => sat_bind (h1.mono fun r hr => ?_))
  cases r with
  | nx ρ' => exact hr
  | ct ρ' => exact hr
  | bk ρ' => exact ev hr
  | rt d ρ' => exact ev hr
theorem forL_nil {t : Tg} {f : Env → R Fl} {ρ : Env} {P : Fl → Prop} (h : P (.nx ρ)) : (forL t f [] ρ).Ev P := ev h
def enS (i : Nat) (ys : List Nat) : List D := match ys with
  | [] => []
  | y :: ys => .tup [.int (i : Int), cS y] :: enS (i + 1) ys
theorem enumL_cS : ∀ (ys : List Nat) (i : Nat), enumL i (ys.map cS) = enS i ys
  | [], _ => rfl
  | y :: ys, i => by
    show D.tup [.int i, cS y] :: enumL (i + 1) (ys.map cS) = _
    rw [enumL_cS ys (i + 1)]; rfl
theorem items_lS (l : List Nat) : itemsD (lS l) = .ok (l.map cS) := by
  show R.ok (chars (strOf l)) = _
  rw [chars_lS]
section
variable {N k : Nat}
theorem r_gone : run gam glo N (k + 1) "gone" [] = fun ds => callFd glo (run gam glo N k) N f_gone ds := by funext ds; exact run_fd rfl
theorem r_wrong_way : run gam glo N (k + 1) "wrong_way" [] = fun ds => callFd glo (run gam glo N k) N f_wrong_way ds := by funext ds; exact run_fd rfl
theorem r_check_walk : run gam glo N (k + 1) "check_walk" [] = fun ds => callFd glo (run gam glo N k) N f_check_walk ds := by funext ds; exact run_fd rfl
theorem r_check_going : run gam glo N (k + 1) "check_going" [] = fun ds => callFd glo (run gam glo N k) N f_check_going ds := by funext ds; exact run_fd rfl
@[simp] theorem g_MOST_WAYS {Φ : Phi} {ρ : Env} : evE glo Φ ρ (.glob "MOST_WAYS") = .ok (.int 200) := evE_glob _ _ _ rfl
theorem wrong_way_ok {ys : List Nat} (hy : ∀ y ∈ ys, y ∈ wayL) (hl : ys.length ≤ 200) : (run gam glo N (k + 1) "wrong_way" [] [lS ys]).Ev fun r => r = (.lst [], []) := by
  rw [r_wrong_way]
  refine sat_bodyE [some (lS ys), none, none] rfl rfl rfl rfl ?_
  refine sat_seqN (sat_ifF (sat_eq (a := .bl false) (by simp [lS]) rfl) (sat_skip rfl)) ?_
  have e : evI glo (run gam glo N k) [some (lS ys), none, none] (.enum (.var 0)) = .ok (enS 0 ys) := by
    simp only [evI_enum, evE_var, getV_zero, bind_ok, items_lS, enumL_cS]
  refine sat_seq (sat_forE e ?_)
  have main : ∀ (zs : List Nat) (i : Nat) (o1 o2 : Option D), (∀ y ∈ zs, y ∈ wayL) → i + zs.length ≤ 200 → (forL (.cons (.var 1) (.cons (.var 2) .nil)) (exS glo (run gam glo N k) N (.iff (.or (.op .eq (.var 1) (.glob "MOST_WAYS")) (.op .notin (.var 2) (.glob "WAYS"))) (.ret (.e (.lst (.econs (.var 1) .enil)))) .skip)) (enS i zs) [some (lS ys), o1, o2]).Ev fun f => ∃ o1 o2, f = .nx [some (lS ys), o1, o2] := fun zs => by
    induction zs with
    | nil => exact fun i o1 o2 _ _ => forL_nil ⟨o1, o2, rfl⟩
    | cons z zs ih =>
      intro i o1 o2 hz hi
      simp only [List.length_cons] at hi
      refine forL_go ?_
      simp only [asgT_pair, bind_ok, setV_succ, setV_zero]
      refine sat_ifF (sat_orF ?_ (sat_eq (a := .bl false) ?_ rfl)) (sat_skip (ih (i + 1) _ _ (fun y hy => hz y (by simp [hy])) (by omega)))
      · simp; omega
      · have hzw : z ∈ [101, 110, 115, 119] := hz z (by simp)
        simp only [evE_op, evE_var, getV_zero, getV_succ, bind_ok, g_WAYS, opE_notin, in_signs, decide_eq_true hzw]
        rfl
  refine (main ys 0 none none hy (by omega)).mono ?_
  rintro _ ⟨o1, o2, rfl⟩
  exact sat_ret (by simp)
theorem check_walk_ok {ys : List Nat} (hy : ∀ y ∈ ys, y ∈ wayL) (hl : ys.length ≤ 200) : (run gam glo N (k + 2) "check_walk" [] [lS ys]).Ev fun r => r = (.non, []) := by
  rw [r_check_walk]
  refine sat_bodyE [some (lS ys), none] rfl rfl rfl rfl ?_
  refine sat_seq (sat_set (sat_call (xs := [lS ys]) (by simp) (wrong_way_ok hy hl) ?_))
  rintro _ rfl
  simp only [setV_succ, setV_zero]
  refine sat_ifF ?_ (sat_skip (by first | rfl | trivial))
  simp [ne_nil (l := []) rfl]
theorem check_going_ok {R : List (List Nat)} {w : Nat} {s : Int} (g : Good R w) {a : Cell} {bs : List Cell} (S : Stand R w a bs) {ys : List Nat} (hy : ∀ y ∈ ys, y ∈ wayL) (hl : ys.length ≤ 200) : (run gam glo N (k + 12) "check_going" [] [yardX R w s, standD a bs, lS ys]).Ev fun r => r = (.non, []) := by
  rw [r_check_going]
  refine sat_bodyE [some (yardX R w s), some (standD a bs), some (lS ys)] rfl rfl rfl rfl ?_
  refine sat_seq (sat_expr (sat_call (xs := [yardX R w s, standD a bs]) (by simp) (check_both_ok g S) ?_))
  rintro _ rfl
  refine sat_expr (sat_call (xs := [lS ys]) (by simp) (check_walk_ok hy hl) ?_)
  rintro _ rfl
  rfl
theorem gone_ok {R : List (List Nat)} {w : Nat} {s : Int} (g : Good R w) (hN : 20 < N) {a : Cell} {bs : List Cell} (S : Stand R w a bs) {ys : List Nat} (hy : ∀ y ∈ ys, y ∈ wayL) :
    (run gam glo N (k + 4) "gone" [] [yardX R w s, standD a bs, lS ys]).Ev fun f => f = (gonD (goM (flo R w) s a bs 0 0 ys), []) := by
  rw [r_gone]
  refine sat_bodyE [some (yardX R w s), some (standD a bs), some (lS ys), none, none, none, none] rfl rfl rfl rfl ?_
  refine sat_seq (sat_set (sat_eq (a := .int 0) (by simp) ?_))
  simp only [setV_succ, setV_zero]
  have e : evI glo (run gam glo N (k + 3)) [some (yardX R w s), some (standD a bs), some (lS ys), some (.int 0), none, none, none] (.enum (.var 2)) = .ok (enS 0 ys) := by
    simp only [evI_enum, evE_var, getV_zero, getV_succ, bind_ok, items_lS, enumL_cS]
  refine sat_seq (sat_forE e ?_)
  have main : ∀ (zs : List Nat) (i p : Nat) (a : Cell) (bs : List Cell) (o4 o5 o6 : Option D), (∀ y ∈ zs, y ∈ wayL) → Stand R w a bs → (forL (.cons (.var 4) (.cons (.var 5) .nil)) (exS glo (run gam glo N (k + 3)) N (.seq (.asg (.var 6) (.e (.call "stepped" (.econs (.var 0) (.econs (.var 1) (.econs (.var 5) .enil))))))
 (.seq (.iff (.op .is (.var 6) .non) (.ret (.e (.tup (.econs (.var 1) (.econs (.var 3) (.econs (.var 4) .enil)))))) .skip)
 (.seq (.asg (.var 1) (.e (.sub (.var 6) (.int 0))))
 (.asg (.var 3) (.e (.op .add (.var 3) (.ite (.sub (.var 6) (.int 1)) (.int 1) (.int 0))))))))) (enS i zs) [some (yardX R w s), some (standD a bs), some (lS ys), some (.int (p : Int)), o4, o5, o6]).Ev fun f => match goM (flo R w) s a bs p i zs with
      | (a, bs, p, none) => ∃ o4 o5 o6, f = .nx [some (yardX R w s), some (standD a bs), some (lS ys), some (.int (p : Int)), o4, o5, o6]
      | (a, bs, p, some j) => ∃ ρ, f = .rt (.tup [standD a bs, .int (p : Int), .int (j : Int)]) ρ := fun zs => by
    induction zs with
    | nil => exact fun i p a bs o4 o5 o6 _ _ => forL_nil ⟨o4, o5, o6, rfl⟩
    | cons z zs ih =>
      intro i p a bs o4 o5 o6 hz S
      refine forL_go ?_
      simp only [asgT_pair, bind_ok, setV_succ, setV_zero]
      have hzw := hz z (by simp)
      refine sat_seq (sat_set (sat_call (xs := [yardX R w s, standD a bs, cS z]) (by simp) (stepped_ok g hN S hzw) ?_))
      rintro _ rfl
      simp only [setV_succ, setV_zero]
      unfold goM
      cases hm : mvS (flo R w) s bs a z with
      | none =>
        refine sat_seq (sat_ifT (by simp [stpD]) (sat_ret ?_))
        simp
      | some r =>
        obtain ⟨t, cs, q⟩ := r
        refine sat_seqN (sat_ifF (by simp [stpD]) (sat_skip rfl)) ?_
        refine sat_seq (sat_set (sat_eq (a := standD t cs) (by simp [stpD]) ?_))
        simp only [setV_succ, setV_zero]
        refine sat_set (sat_eq (a := .int ((p + if q then 1 else 0 : Nat) : Int)) ?_ ?_)
        · cases q <;> simp [stpD]
        · simp only [setV_succ, setV_zero]
          exact ih (i + 1) _ t cs _ _ _ (fun y hy => hz y (by simp [hy])) (stand_mv g hzw S hm)
  refine (main ys 0 0 a bs none none none hy S).mono ?_
  intro f hf
  rcases hr : goM (flo R w) s a bs 0 0 ys with ⟨a', bs', p', _ | j⟩
  · rw [hr] at hf
    obtain ⟨o4, o5, o6, rfl⟩ := hf
    refine sat_ret ?_
    simp [gonD, iO]
  · rw [hr] at hf
    obtain ⟨ρ, rfl⟩ := hf
    rfl
end
end Pv

set_option autoImplicit false
set_option linter.all false
set_option maxRecDepth 10000
namespace Pv
open Pl
open PySem (Str)
theorem strOf_app (a b : List Nat) : strOf a ++ strOf b = strOf (a ++ b) := by
  show (⟨a.toArray ++ b.toArray⟩ : Str) = ⟨(a ++ b).toArray⟩
  simp
theorem add_lS {a b : List Nat} (h : a.length + b.length ≤ 1000) : binD .add (lS a) (lS b) = .ok (lS (a ++ b)) := by
  show (if (strOf a).length + (strOf b).length ≤ big then R.ok (D.str (strOf a ++ strOf b)) else .bad) = _
  rw [len_lS, len_lS, if_pos (by unfold big; omega), strOf_app]; rfl
theorem lS_one (y : Nat) : lS [y] = cS y := (rfl)
theorem sub_lS {l : List Nat} {i : Nat} (h : i < l.length) : subD (lS l) (.int (i : Int)) = .ok (cS l[i]) := by
  have ha : atIx (strOf l).cps.toList (i : Int) = some l[i] := by
    unfold atIx
    rw [if_pos (by omega), Int.toNat_natCast]
    simp [strOf, h]
  show (match atIx (strOf l).cps.toList (i : Int) with | some c => Pv.R.ok (D.str (strOf [c])) | none => Pv.R.bad) = _
  rw [ha]; rfl
@[simp] theorem lenF_lS (l : List Nat) : lenF (lS l) = .ok (.int l.length) := by
  show R.ok (D.int (strOf l).length) = _
  rw [len_lS]
section
variable {N k : Nat}
theorem r_law_walk : run gam glo N (k + 1) "_law_walk" [] = fun ds => callFd glo (run gam glo N k) N f__law_walk ds := by funext ds; exact run_fd rfl
theorem of_str {l : List Nat} (h0 : 0 < l.length) (h1 : l.length < 1073741824) : (run gam glo N (k + 2) "_law_of" [] [.bowl, lS l]).Ev fun r => ∃ d ∈ l, r = (cS d, []) := by
  rw [r_of]
  refine sat_body rfl rfl rfl ?_
  refine sat_ret ?_
  simp
  refine sat_then (run_draw (Γ := gam) (G := glo) (N := N) (k := k) (f := "_law_draw") rfl (n := (l.length : Int)) (by omega) (by omega)) ?_
  rintro r ⟨i, hi, rfl⟩
  have hi : i < l.length := by omega
  simp [sub_lS hi]
  exact ⟨l[i], by simp, rfl⟩
def news : List Nat := [110, 101, 115, 119]
theorem news_way {y : Nat} : y ∈ news ↔ y ∈ wayL := by
  simp only [news, wayL, List.mem_cons, List.not_mem_nil, or_false]
  omega
theorem law_walk_ok {R : List (List Nat)} {w m : Nat} {s : Int} (g : Good R w) (hN : 20 < N) (hm : m ≤ 500) {a : Cell} {bs : List Cell} (S : Stand R w a bs) :
    (run gam glo N (k + 5) "_law_walk" [] [.bowl, partsD R s, standD a bs, .int (m : Int)]).Ev fun f => ∃ ys, (∀ y ∈ ys, y ∈ wayL) ∧ ys.length ≤ m ∧ f = (lS ys, []) := by
  rw [r_law_walk]
  refine sat_bodyE [some .bowl, some (partsD R s), some (standD a bs), some (.int (m : Int)), none, none, none, none, none] rfl rfl rfl rfl ?_
  refine sat_seq (sat_set (sat_eq (a := lS []) (by simp; rfl) ?_))
  simp only [setV_succ, setV_zero]
  refine sat_seq (sat_rangeE (sat_call (xs := [.bowl, .int (m + 1)]) (by simp) (draw_ok (by omega) (by omega)) ?_))
  rintro _ ⟨n, hn, rfl⟩
  refine ⟨n, rfl, by omega, forL_range (fun i ρ => ∃ ys a bs o5 o6 o7 o8, ρ = [some .bowl, some (partsD R s), some (standD a bs), some (.int (m : Int)), some (lS ys), o5, o6, o7, o8] ∧ (∀ y ∈ ys, y ∈ wayL) ∧ ys.length = i ∧ Stand R w a bs) ⟨[], a, bs, none, none, none, none, rfl, by simp, rfl, S⟩ ?_ ?_⟩
  · rintro i ρ hi ⟨ys, a, bs, o5, o6, o7, o8, rfl, hy, hl, S⟩
    simp only [asgT_var, bind_ok, setV_succ, setV_zero]
    refine sat_seq (sat_set ((comp_ifE (xs := news) (e := cS) (g := cS) (p := fun y => !(stpD (mvS (flo R w) s bs a y)).isNon) (over_ok (sat_eq (a := lS news) (by simp; rfl) (by rw [items_lS]; exact ev rfl))) ?_).mono ?_))
    · intro y hy
      have hy := news_way.mp hy
      refine ⟨[some .bowl, some (partsD R s), some (standD a bs), some (.int (m : Int)), some (lS ys), some (iD i), o6, some (cS y), o8], rfl, ?_, fun _ => by simp⟩
      refine sat_op (sat_call (xs := [partsD R s, standD a bs, cS y]) (by simp) (law_move_ok g hN S hy) ?_)
      rintro _ rfl
      simp
    · rintro _ rfl
      simp only [setV_succ, setV_zero]
      refine sat_seq (sat_set ?_)
      have hp : D.plainL 31 ((news.filter fun y => !(stpD (mvS (flo R w) s bs a y)).isNon).map cS) = true := plainL_map (f := cS) (fun _ => rfl) _
      -- whichever way
      have go : ∀ {y : Nat}, y ∈ wayL → (exS glo (run gam glo N (k + 4)) N (.seq (.asg (.var 8) (.e (.call "_law_move" (.econs (.var 1) (.econs (.var 2) (.econs (.var 7) .enil))))))
          (.par [4, 2] [(.e (.op .add (.var 4) (.var 7))), (.e (.ite (.op .isnot (.var 8) .non) (.sub (.var 8) (.int 0)) (.var 2)))])) [some .bowl, some (partsD R s), some (standD a bs), some (.int (m : Int)), some (lS ys), some (iD i), some (.lst ((news.filter fun y => !(stpD (mvS (flo R w) s bs a y)).isNon).map cS)), some (cS y), o8]).Ev fun r => match r with
          | .nx ρ' => ∃ ys a bs o5 o6 o7 o8, ρ' = [some .bowl, some (partsD R s), some (standD a bs), some (.int (m : Int)), some (lS ys), o5, o6, o7, o8] ∧ (∀ y ∈ ys, y ∈ wayL) ∧ ys.length = i + 1 ∧ Stand R w a bs
          | _ => False := by
        intro y hyw
        refine sat_seq (sat_set (sat_call (xs := [partsD R s, standD a bs, cS y]) (by simp) (law_move_ok g hN S hyw) ?_))
        rintro _ rfl
        simp only [setV_succ, setV_zero]
        have hys : ∀ z ∈ ys ++ [y], z ∈ wayL := by
          intro z hz
          rcases List.mem_append.mp hz with hz | hz
          · exact hy z hz
          · simp at hz; subst hz; exact hyw
        refine sat_par2 (sat_eq (a := lS (ys ++ [y])) ?_ ?_)
        · rw [← lS_one y]
          simp [add_lS (a := ys) (b := [y]) (by simp; omega)]
        · cases hm : mvS (flo R w) s bs a y with
          | none =>
            refine sat_eq (a := standD a bs) (by simp [stpD]) ?_
            simp only [setV_succ, setV_zero]
            exact ⟨ys ++ [y], a, bs, _, _, _, _, rfl, hys, by simp [hl], S⟩
          | some r =>
            obtain ⟨t, cs, q⟩ := r
            refine sat_eq (a := standD t cs) (by simp [stpD]) ?_
            simp only [setV_succ, setV_zero]
            exact ⟨ys ++ [y], t, cs, _, _, _, _, rfl, hys, by simp [hl], stand_mv g hyw S hm⟩
      have fin : ∀ {y : Nat} (P' : Fl → Prop), y ∈ wayL → (∀ ρ', (∃ ys a bs o5 o6 o7 o8, ρ' = [some .bowl, some (partsD R s), some (standD a bs), some (.int (m : Int)), some (lS ys), o5, o6, o7, o8] ∧ (∀ y ∈ ys, y ∈ wayL) ∧ ys.length = i + 1 ∧ Stand R w a bs) → P' (.nx ρ')) → (exS glo (run gam glo N (k + 4)) N (.seq (.asg (.var 8) (.e (.call "_law_move" (.econs (.var 1) (.econs (.var 2) (.econs (.var 7) .enil))))))
          (.par [4, 2] [(.e (.op .add (.var 4) (.var 7))), (.e (.ite (.op .isnot (.var 8) .non) (.sub (.var 8) (.int 0)) (.var 2)))])) [some .bowl, some (partsD R s), some (standD a bs), some (.int (m : Int)), some (lS ys), some (iD i), some (.lst ((news.filter fun y => !(stpD (mvS (flo R w) s bs a y)).isNon).map cS)), some (cS y), o8]).Ev P' := fun P' h hP => (go h).mono fun r hr => by
        cases r with
        | nx ρ' => exact hP ρ' hr
        | ct _ => exact hr.elim
        | bk _ => exact hr.elim
        | rt _ _ => exact hr.elim
      refine sat_ite (sat_and (sat_eq (a := .bl (!((news.filter fun y => !(stpD (mvS (flo R w) s bs a y)).isNon).map cS).isEmpty)) ?_ ?_))
      · simp only [evE_op, evE_var, evE_lst, evL_nil, getV_zero, getV_succ, bind_ok, opE_ne, ne_nil hp]
      have str : ∀ (P' : D → Prop), (∀ y ∈ wayL, P' (cS y)) → (evE glo (run gam glo N (k + 4)) [some .bowl, some (partsD R s), some (standD a bs), some (.int (m : Int)), some (lS ys), some (iD i), some (.lst ((news.filter fun y => !(stpD (mvS (flo R w) s bs a y)).isNon).map cS)), o7, o8] (.call "_law_of" (.econs (.var 0) (.econs (.str "nesw") .enil)))).Ev P' := by
        intro P' hP
        refine sat_call (xs := [.bowl, lS news]) (by simp; rfl) (of_str (by decide) (by decide)) ?_
        rintro _ ⟨y, hy, rfl⟩
        exact hP y (news_way.mp hy)
      by_cases he : ((news.filter fun y => !(stpD (mvS (flo R w) s bs a y)).isNon).map cS).isEmpty = true
      · rw [he]
        show (Pv.R.ok false).Ev _
        refine ev ?_
        rw [if_neg Bool.false_ne_true]
        show (Pv.R.ok false).Ev _
        refine ev ?_
        rw [if_neg Bool.false_ne_true]
        exact str _ fun y hy => fin _ hy fun ρ' h => h
      · have he2 := he
        rw [Bool.not_eq_true] at he
        rw [he]
        show (Pv.R.ok true).Ev _
        refine ev ?_
        rw [if_pos rfl]
        refine sat_op (sat_call (xs := [.bowl, .int 8]) (by simp) (draw_ok (by omega) (by omega)) ?_)
        rintro _ ⟨q, hq, rfl⟩
        refine sat_eq (a := .int 0) (by simp) ?_
        simp only [opE_gt, gt_int]
        refine ev (ev ?_)
        by_cases hq0 : (0 : Int) < q
        · rw [decide_eq_true hq0, if_pos rfl]
          refine sat_call (xs := [.bowl, .lst ((news.filter fun y => !(stpD (mvS (flo R w) s bs a y)).isNon).map cS)]) (by simp) (of_lst ?_ ?_) ?_
          · rw [List.isEmpty_iff] at he2
            exact List.length_pos_iff.mpr he2
          · have := List.length_filter_le (fun y => !(stpD (mvS (flo R w) s bs a y)).isNon) news
            rw [List.length_map]
            have h4 : news.length = 4 := rfl
            omega
          · rintro _ ⟨d, hd, rfl⟩
            obtain ⟨y, hy, rfl⟩ := List.mem_map.mp hd
            exact fin _ (news_way.mp (List.mem_filter.mp hy).1) fun ρ' h => h
        · rw [decide_eq_false hq0, if_neg Bool.false_ne_true]
          exact str _ fun y hy => fin _ hy fun ρ' h => h
  · rintro ρ ⟨ys, a, bs, o5, o6, o7, o8, rfl, hy, hl, S⟩
    refine sat_retMv ?_
    simp
    exact ⟨ys, hy, by omega, rfl⟩
end
end Pv

set_option autoImplicit false
set_option linter.all false
set_option maxRecDepth 10000
namespace Pv
open Pl
open PySem (Str)
def goesD (r : Gon) : D := match r.2.2.2 with
  | none => standD r.1 r.2.1
  | some _ => .non
def pushD (r : Gon) : D := match r.2.2.2 with
  | none => .int (r.2.2.1 : Int)
  | some _ => .non
theorem asgT_tri (e0 e1 e2 e3 e4 e5 : Option D) (a b c : D) : asgT (.cons (.var 3) (.cons (.var 4) (.cons (.var 5) .nil))) (.tup [a, b, c]) [e0, e1, e2, e3, e4, e5] = .ok [e0, e1, e2, some a, some b, some c] := (rfl)
section
variable {N k : Nat}
theorem r_leads_to : run gam glo N (k + 1) "leads_to" [] = fun ds => callFd glo (run gam glo N k) N f_leads_to ds := by funext ds; exact run_fd rfl
theorem r_goes : run gam glo N (k + 1) "goes" [] = fun ds => callFd glo (run gam glo N k) N f_goes ds := by funext ds; exact run_fd rfl
theorem leads_to_ok {R : List (List Nat)} {w : Nat} {s : Int} (g : Good R w) (hN : 20 < N) {a : Cell} {bs : List Cell} (S : Stand R w a bs) {ys : List Nat} (hy : ∀ y ∈ ys, y ∈ wayL) :
    (run gam glo N (k + 5) "leads_to" [] [yardX R w s, standD a bs, lS ys]).Ev fun f => f = (goesD (goM (flo R w) s a bs 0 0 ys), []) := by
  rw [r_leads_to]
  refine sat_bodyE [some (yardX R w s), some (standD a bs), some (lS ys), none, none, none] rfl rfl rfl rfl ?_
  refine sat_seq (sat_asg ?_)
  rw [evX_e]
  refine sat_bind (sat_call (xs := [yardX R w s, standD a bs, lS ys]) (by simp) (gone_ok g hN S hy) ?_)
  rintro _ rfl
  refine ev ?_
  rcases goM (flo R w) s a bs 0 0 ys with ⟨a', bs', p', o⟩
  refine sat_eq (asgT_tri _ _ _ _ _ _ _ _ _) ?_
  refine sat_ret (sat_ite ?_)
  cases o with
  | none => simp [goesD, iO]
  | some j => simp [goesD, iO]
theorem goes_ok {R : List (List Nat)} {w : Nat} {s : Int} (g : Good R w) (hN : 20 < N) {a : Cell} {bs : List Cell} (S : Stand R w a bs) {ys : List Nat} (hy : ∀ y ∈ ys, y ∈ wayL) (hl : ys.length ≤ 200) :
    (run gam glo N (k + 13) "goes" [] [yardX R w s, standD a bs, lS ys]).Ev fun f => f = (goesD (goM (flo R w) s a bs 0 0 ys), []) := by
  rw [r_goes]
  refine sat_bodyE [some (yardX R w s), some (standD a bs), some (lS ys)] rfl rfl rfl rfl ?_
  refine sat_seq (sat_expr (sat_call (xs := [yardX R w s, standD a bs, lS ys]) (by simp) (check_going_ok g S hy hl) ?_))
  rintro _ rfl
  refine sat_ret (sat_call (xs := [yardX R w s, standD a bs, lS ys]) (by simp) (leads_to_ok g hN S hy) ?_)
  rintro _ rfl
  rfl
theorem goes_k {R : List (List Nat)} {w : Nat} {s : Int} (g : Good R w) (hN : 20 < N) {a : Cell} {bs : List Cell} (S : Stand R w a bs) {ys : List Nat} (hy : ∀ y ∈ ys, y ∈ wayL) (hl : ys.length ≤ 200) :
    (run gam glo N (k + 13) "goes" ["walk", "standing", "yard"] [lS ys, standD a bs, yardX R w s]).Ev fun f => f = (goesD (goM (flo R w) s a bs 0 0 ys), []) := by
  have e : run gam glo N (k + 13) "goes" ["walk", "standing", "yard"] [lS ys, standD a bs, yardX R w s] = run gam glo N (k + 13) "goes" [] [yardX R w s, standD a bs, lS ys] := rfl
  rw [e]
  exact goes_ok g hN S hy hl
end
end Pv

set_option autoImplicit false
set_option linter.all false
set_option maxRecDepth 10000
namespace Pv
open Pl
open PySem (Str)
section
variable {N k : Nat}
theorem r_pushes_of : run gam glo N (k + 1) "pushes_of" [] = fun ds => callFd glo (run gam glo N k) N f_pushes_of ds := by funext ds; exact run_fd rfl
theorem pushes_ok {R : List (List Nat)} {w : Nat} {s : Int} (g : Good R w) (hN : 20 < N) {a : Cell} {bs : List Cell} (S : Stand R w a bs) {ys : List Nat} (hy : ∀ y ∈ ys, y ∈ wayL) (hl : ys.length ≤ 200) :
    (run gam glo N (k + 13) "pushes_of" [] [yardX R w s, standD a bs, lS ys]).Ev fun f => f = (pushD (goM (flo R w) s a bs 0 0 ys), []) := by
  rw [r_pushes_of]
  refine sat_bodyE [some (yardX R w s), some (standD a bs), some (lS ys), none, none, none] rfl rfl rfl rfl ?_
  refine sat_seq (sat_expr (sat_call (xs := [yardX R w s, standD a bs, lS ys]) (by simp) (check_going_ok g S hy hl) ?_))
  rintro _ rfl
  refine sat_seq (sat_asg ?_)
  rw [evX_e]
  refine sat_bind (sat_call (xs := [yardX R w s, standD a bs, lS ys]) (by simp) (gone_ok g hN S hy) ?_)
  rintro _ rfl
  refine ev ?_
  rcases goM (flo R w) s a bs 0 0 ys with ⟨a', bs', p', o⟩
  refine sat_eq (asgT_tri _ _ _ _ _ _ _ _ _) ?_
  refine sat_ret (sat_ite ?_)
  cases o with
  | none => simp [pushD, iO]
  | some j => simp [pushD, iO]
end
end Pv

set_option autoImplicit false
set_option linter.all false
set_option maxRecDepth 10000
namespace Pv
open Pl
open PySem (Str)
section
variable {N k : Nat}
theorem r_first_wrong : run gam glo N (k + 1) "first_wrong" [] = fun ds => callFd glo (run gam glo N k) N f_first_wrong ds := by funext ds; exact run_fd rfl
theorem subD_tup2 (a b c : D) (l : List D) : subD (.tup (a :: b :: c :: l)) (.int 2) = .ok c := (rfl)
theorem first_wrong_ok {R : List (List Nat)} {w : Nat} {s : Int} (g : Good R w) (hN : 20 < N) {a : Cell} {bs : List Cell} (S : Stand R w a bs) {ys : List Nat} (hy : ∀ y ∈ ys, y ∈ wayL) (hl : ys.length ≤ 200) :
    (run gam glo N (k + 13) "first_wrong" [] [yardX R w s, standD a bs, lS ys]).Ev fun f => f = (iO (goM (flo R w) s a bs 0 0 ys).2.2.2, []) := by
  rw [r_first_wrong]
  refine sat_bodyE [some (yardX R w s), some (standD a bs), some (lS ys)] rfl rfl rfl rfl ?_
  refine sat_seq (sat_expr (sat_call (xs := [yardX R w s, standD a bs, lS ys]) (by simp) (check_going_ok g S hy hl) ?_))
  rintro _ rfl
  refine sat_ret ?_
  rw [evE_sub]
  refine sat_bind (sat_call (xs := [yardX R w s, standD a bs, lS ys]) (by simp) (gone_ok g hN S hy) ?_)
  rintro _ rfl
  rw [evE_int, bind_ok]
  exact sat_eq (subD_tup2 _ _ _ _) rfl
end
end Pv

set_option autoImplicit false
set_option linter.all false
set_option maxRecDepth 10000
namespace Pv
open Pl
open PySem (Str)
theorem goM_cons (fl : List Cell) (s : Int) (a : Cell) (bs : List Cell) (p i y : Nat) (ys : List Nat) : goM fl s a bs p i (y :: ys) = match mvS fl s bs a y with
    | none => (a, bs, p, some i)
    | some (t, cs, q) => goM fl s t cs (p + if q then 1 else 0) (i + 1) ys := (rfl)
/-- where a walk is wrong -/
theorem goM_cut {fl : List Cell} {s : Int} : ∀ (ys : List Nat) (a : Cell) (bs : List Cell) (p i j : Nat), (goM fl s a bs p i ys).2.2.2 = some j → ∃ n, j = i + n ∧ n < ys.length ∧ (∀ p i, (goM fl s a bs p i (ys.take n)).2.2.2 = none) ∧ (∀ p i, (goM fl s a bs p i (ys.take (n + 1))).2.2.2 = some (i + n))
  | [], a, bs, p, i, j, h => by cases h
  | y :: ys, a, bs, p, i, j, h => by
    rw [goM_cons] at h
    cases hm : mvS fl s bs a y with
    | none =>
      rw [hm] at h
      have h : some i = some j := h
      cases h
      refine ⟨0, rfl, by simp, fun p i => rfl, fun p i => ?_⟩
      rw [List.take_succ_cons, goM_cons, hm]; rfl
    | some r =>
      obtain ⟨t, cs, q⟩ := r
      rw [hm] at h
      obtain ⟨n, h1, h2, h3, h4⟩ := goM_cut ys t cs _ _ j h
      refine ⟨n + 1, by omega, by simp; omega, fun p i => ?_, fun p i => ?_⟩
      · rw [List.take_succ_cons, goM_cons, hm]
        exact h3 _ _
      · rw [List.take_succ_cons, goM_cons, hm]
        have := h4 (p + if q then 1 else 0) (i + 1)
        rw [show i + (n + 1) = i + 1 + n by omega]
        exact this
theorem goM_shift {fl : List Cell} {s : Int} : ∀ (ys : List Nat) (a : Cell) (bs : List Cell) (p i : Nat), goM fl s a bs p i ys = ((goM fl s a bs 0 0 ys).1, (goM fl s a bs 0 0 ys).2.1, p + (goM fl s a bs 0 0 ys).2.2.1, (goM fl s a bs 0 0 ys).2.2.2.map (i + ·))
  | [], a, bs, p, i => rfl
  | y :: ys, a, bs, p, i => by
    rw [goM_cons, goM_cons]
    cases hm : mvS fl s bs a y with
    | none => rfl
    | some r =>
      obtain ⟨t, cs, q⟩ := r
      show goM fl s t cs _ _ ys = ((goM fl s t cs (0 + if q then 1 else 0) (0 + 1) ys).1, (goM fl s t cs (0 + if q then 1 else 0) (0 + 1) ys).2.1, p + (goM fl s t cs (0 + if q then 1 else 0) (0 + 1) ys).2.2.1, (goM fl s t cs (0 + if q then 1 else 0) (0 + 1) ys).2.2.2.map (i + ·))
      rw [goM_shift ys t cs (p + _), goM_shift ys t cs (0 + _)]
      simp only [Option.map_map]
      congr 2
      congr 1
      · omega
      · congr 1
        funext x
        simp; omega
theorem goM_app {fl : List Cell} {s : Int} : ∀ (ys : List Nat) (a : Cell) (bs : List Cell) (p i : Nat) (zs : List Nat), (goM fl s a bs p i ys).2.2.2 = none → goM fl s a bs p i (ys ++ zs) = goM fl s (goM fl s a bs p i ys).1 (goM fl s a bs p i ys).2.1 (goM fl s a bs p i ys).2.2.1 (i + ys.length) zs
  | [], a, bs, p, i, zs, h => rfl
  | y :: ys, a, bs, p, i, zs, h => by
    rw [goM_cons] at h
    rw [List.cons_append, goM_cons, goM_cons]
    cases hm : mvS fl s bs a y with
    | none => rw [hm] at h; cases h
    | some r =>
      obtain ⟨t, cs, q⟩ := r
      rw [hm] at h
      have := goM_app ys t cs _ _ zs h
      rw [List.length_cons, show i + (ys.length + 1) = i + 1 + ys.length by omega]
      exact this
theorem mvS_still {fl : List Cell} {s : Int} {a t : Cell} {bs cs : List Cell} {y : Nat} (h : mvS fl s bs a y = some (t, cs, false)) : cs = bs := by
  rw [mvS_def] at h
  cases hb : nb fl a y with
  | none => rw [hb] at h; cases h
  | some e =>
    rw [hb] at h
    by_cases he : e ∈ bs
    · simp only [if_pos he] at h
      cases hp : pushM fl s bs e y with
      | none => rw [hp] at h; cases h
      | some c => rw [hp] at h; simp at h
    · simp only [if_neg he] at h
      simp at h
      exact h.2.symm
theorem goM_pushes {fl : List Cell} {s : Int} : ∀ (ys : List Nat) (a : Cell) (bs : List Cell) (p i : Nat), p ≤ (goM fl s a bs p i ys).2.2.1 ∧ (goM fl s a bs p i ys).2.2.1 ≤ p + ys.length ∧ ((goM fl s a bs p i ys).2.2.1 = p → (goM fl s a bs p i ys).2.1 = bs)
  | [], a, bs, p, i => ⟨Nat.le_refl _, Nat.le_refl _, fun _ => rfl⟩
  | y :: ys, a, bs, p, i => by
    rw [goM_cons]
    cases hm : mvS fl s bs a y with
    | none => exact ⟨Nat.le_refl _, by simp, fun _ => rfl⟩
    | some r =>
      obtain ⟨t, cs, q⟩ := r
      obtain ⟨h1, h2, h3⟩ := goM_pushes (fl := fl) (s := s) ys t cs (p + if q then 1 else 0) (i + 1)
      show p ≤ (goM fl s t cs (p + if q then 1 else 0) (i + 1) ys).2.2.1 ∧ _ ∧ ((goM fl s t cs (p + if q then 1 else 0) (i + 1) ys).2.2.1 = p → (goM fl s t cs (p + if q then 1 else 0) (i + 1) ys).2.1 = bs)
      cases q with
      | true =>
        simp only [if_true] at *
        refine ⟨by omega, by simp; omega, fun h => by omega⟩
      | false =>
        simp only [Bool.false_eq_true, if_false, Nat.add_zero] at *
        refine ⟨h1, by simp; omega, fun h => (h3 h).trans (mvS_still hm)⟩
end Pv

set_option autoImplicit false
set_option linter.all false
set_option maxRecDepth 10000
namespace Pv
open Pl
open PySem (Str)
theorem mvS_more {fl : List Cell} {s s' : Int} (h : s ≤ s') {a : Cell} {bs : List Cell} {y : Nat} {r : Cell × List Cell × Bool} (hm : mvS fl s bs a y = some r) : mvS fl s' bs a y = some r := by
  unfold mvS at *
  cases hb : nb fl a y with
  | none => rw [hb] at hm; cases hm
  | some e =>
    rw [hb] at hm
    by_cases he : e ∈ bs
    · simp only [if_pos he] at hm ⊢
      cases ho : (rowF fl bs y 14 e).2 with
      | none => rw [ho] at hm; cases hm
      | some b =>
        rw [ho] at hm
        by_cases hl : ((rowF fl bs y 14 e).1.length : Int) ≤ s
        · simp only [if_pos hl] at hm
          have : ((rowF fl bs y 14 e).1.length : Int) ≤ s' := by omega
          simp only [if_pos this]
          exact hm
        · simp only [if_neg hl] at hm; cases hm
    · simp only [if_neg he] at hm ⊢
      exact hm
theorem goM_more {fl : List Cell} {s s' : Int} (h : s ≤ s') : ∀ (ys : List Nat) (a : Cell) (bs : List Cell) (p i : Nat), (goM fl s a bs p i ys).2.2.2 = none → goM fl s' a bs p i ys = goM fl s a bs p i ys
  | [], a, bs, p, i, _ => rfl
  | y :: ys, a, bs, p, i, hw => by
    rw [goM_cons] at hw
    rw [goM_cons, goM_cons]
    cases hm : mvS fl s bs a y with
    | none => rw [hm] at hw; cases hw
    | some r =>
      rw [mvS_more h hm]
      obtain ⟨t, cs, q⟩ := r
      rw [hm] at hw
      exact goM_more h ys t cs _ _ hw
theorem goM_later {fl : List Cell} {s s' : Int} (h : s ≤ s') : ∀ (ys : List Nat) (a : Cell) (bs : List Cell) (p i j' : Nat), (goM fl s' a bs p i ys).2.2.2 = some j' → ∃ j, (goM fl s a bs p i ys).2.2.2 = some j ∧ j ≤ j'
  | [], a, bs, p, i, j', hw => by cases hw
  | y :: ys, a, bs, p, i, j', hw => by
    cases hm : mvS fl s bs a y with
    | none =>
      obtain ⟨n, hn, _⟩ := goM_cut (y :: ys) a bs p i j' hw
      rw [goM_cons, hm]
      exact ⟨i, rfl, by omega⟩
    | some r =>
      rw [goM_cons, mvS_more h hm] at hw
      rw [goM_cons, hm]
      obtain ⟨t, cs, q⟩ := r
      exact goM_later h ys t cs _ _ j' hw
end Pv

set_option autoImplicit false
set_option linter.all false
set_option maxRecDepth 10000
namespace Pv
open Pl
open PySem (Str)
/-! a lane with boxes in a row -/
def laneL (m : Nat) : List Nat := [46] ++ List.replicate m 120 ++ [46, 46]
def laneB (m d : Nat) : List Cell := (List.range m).map fun k => (0, d + k)
theorem lane_good {m : Nat} (hm : m = 1 ∨ m = 2 ∨ m = 3) : Good [laneL m] (m + 3) := by
  rcases hm with rfl | rfl | rfl <;> exact ⟨by decide, by decide, by decide, by decide, by decide, by decide, by decide, by decide, by decide, by decide⟩
theorem lane_stand {m : Nat} (hm : m = 1 ∨ m = 2 ∨ m = 3) : Stand [laneL m] (m + 3) (0, 0) (laneB m 1) := by
  rcases hm with rfl | rfl | rfl <;> exact ⟨by decide, ⟨by unfold Asc; decide, by decide, by decide⟩, by decide⟩
theorem lane_mv {m : Nat} (hm : m = 1 ∨ m = 2 ∨ m = 3) (s : Int) : mvS (flo [laneL m] (m + 3)) s (laneB m 1) (0, 0) 101 = if (m : Int) ≤ s then some ((0, 1), laneB m 2, true) else none := by
  have key : nb (flo [laneL m] (m + 3)) (0, 0) 101 = some (0, 1) ∧ (0, 1) ∈ laneB m 1 ∧ rowF (flo [laneL m] (m + 3)) (laneB m 1) 101 14 (0, 1) = (laneB m 1, some (0, m + 1)) ∧ movedM (laneB m 1) (0, 1) (0, m + 1) = laneB m 2 ∧ (laneB m 1).length = m := by
    rcases hm with rfl | rfl | rfl
    · refine ⟨by decide, by decide, by decide, ?_, by decide⟩
      refine asc_ext (asc_sortC (by decide)) (by unfold Asc; decide) fun c => ?_
      show c ∈ movedM _ _ _ ↔ _
      rw [mem_moved]
      obtain ⟨i, j⟩ := c
      simp [laneB, List.range_succ]
      try omega
    · refine ⟨by decide, by decide, by decide, ?_, by decide⟩
      refine asc_ext (asc_sortC (by decide)) (by unfold Asc; decide) fun c => ?_
      show c ∈ movedM _ _ _ ↔ _
      rw [mem_moved]
      obtain ⟨i, j⟩ := c
      simp [laneB, List.range_succ]
      try omega
    · refine ⟨by decide, by decide, by decide, ?_, by decide⟩
      refine asc_ext (asc_sortC (by decide)) (by unfold Asc; decide) fun c => ?_
      show c ∈ movedM _ _ _ ↔ _
      rw [mem_moved]
      obtain ⟨i, j⟩ := c
      simp [laneB, List.range_succ]
      try omega
  obtain ⟨h1, h2, h3, h4, h5⟩ := key
  unfold mvS
  rw [h1]
  simp only [if_pos h2, h3, h4, h5]
end Pv

set_option autoImplicit false
set_option linter.all false
set_option maxRecDepth 10000
namespace Pv
open Pl
open PySem (Str)
theorem neD_same13 {d : D} (hp : D.plain 32 d = true) (he : D.eqv d d = true) : neD d d = .ok (.bl false) := by
  unfold neD
  rw [hp, he]; rfl
theorem plain_goes13 (r : Gon) (n : Nat) : D.plain (n + 3) (goesD r) = true := by
  obtain ⟨a, bs, p, o⟩ := r
  cases o with
  | none => exact plain_stand a bs n
  | some j => rfl
theorem eqv_goes13 (r : Gon) : D.eqv (goesD r) (goesD r) = true := by
  obtain ⟨a, bs, p, o⟩ := r
  cases o with
  | none => show D.eqv (standD a bs) (standD a bs) = true; rw [eqv_stand]; simp
  | some j => rfl
def xi (n : Nat) : D := .int (n : Int)
section
variable {N k : Nat}
theorem right13_ok (hN : 200 < N) : (run gam glo N (k + 14) "_law_right" [] [.bowl]).Ev fun r => r = (.bl true, []) := by
  rw [r_right]
  refine sat_bodyE [some .bowl, none, none, none, none, none, none, none, none, none, none, none, none, none, none] rfl rfl rfl rfl ?_
  refine sat_seq (sat_rangeI (n := 5) (fun i ρ => ∃ o1 o2 o3 o4 o5 o6 o7 o8 o9 o10 o11 o12 o13 o14, ρ = [some .bowl, o1, o2, o3, o4, o5, o6, o7, o8, o9, o10, o11, o12, o13, o14]) rfl (by omega) ⟨none, none, none, none, none, none, none, none, none, none, none, none, none, none, rfl⟩ ?_ ?_)
  · rintro i ρ hi ⟨o1, o2, o3, o4, o5, o6, o7, o8, o9, o10, o11, o12, o13, o14, rfl⟩
    simp only [asgT_var, bind_ok, setV_succ, setV_zero]
    refine sat_seq (sat_set (sat_call (xs := [.bowl, .int 9, .int 3]) (by simp) (rows_ok (m := 9) (q := 3) (by omega) (by omega) (by omega) (by omega) hN) ?_))
    rintro _ ⟨h, w, fl0, gs, dr, rfl⟩
    have g := drawn_good dr (by omega) (by omega)
    generalize rowsOf h w fl0 gs = R at g
    simp only [setV_succ, setV_zero]
    refine sat_seq (sat_set ((comp_mapE (xs := [1, 2, 3]) (e := xi) (g := fun n : Nat => yardX R w (n : Int)) (over_ok (sat_eq (a := .tup ([1, 2, 3].map xi)) (by simp [xi]) (by simp))) ?_).mono ?_))
    · intro n hn
      simp only [wipe_cons, wipe_nil, asgT_var, bind_ok, List.set_cons_succ, List.set_cons_zero, setV_succ, setV_zero]
      have h13 : 1 ≤ n ∧ n ≤ 3 := by simp at hn; omega
      refine sat_call (xs := [rowsD R, .int (n : Int)]) (by simp [xi]) (yard_okX g (by omega) (by omega)) ?_
      rintro _ rfl
      rfl
    rintro _ rfl
    simp only [setV_succ, setV_zero]
    refine sat_seq (sat_set (sat_call (xs := [.bowl, .tup [rowsD R, .int 1]]) (by simp) (standing_ok g) ?_))
    rintro _ ⟨a, bs, S, rfl⟩
    simp only [setV_succ, setV_zero]
    refine sat_seq (sat_set (sat_callS (evL_consS (sat_eq (a := .bowl) (by simp) (evL_consS (sat_tup (evL_consS (sat_eq (a := rowsD R) (by simp) (evL_consS (sat_call (xs := [.bowl, .tup ([1, 2, 3].map xi)]) (by simp [xi]) (of_tup (by simp) (by simp)) ?_))))))))))
    rintro _ ⟨d, hd, rfl⟩
    obtain ⟨n, hn, rfl⟩ := List.mem_map.mp hd
    refine evL_nilS (evL_consS (sat_eq (a := standD a bs) (by simp) (evL_consS (sat_eq (a := .int 10) (by simp) (evL_nilS ?_)))))
    refine (law_walk_ok (m := 10) (s := (n : Int)) g (by omega) (by omega) S).mono ?_
    rintro _ ⟨ys, hy, hl, rfl⟩
    simp only [setV_succ, setV_zero]
    refine sat_seq (sat_par2 ((comp_mapE (xs := [1, 2, 3]) (e := fun n : Nat => yardX R w (n : Int)) (g := fun n : Nat => goesD (goM (flo R w) (n : Int) a bs 0 0 ys)) (over_ok (sat_eq (a := .lst ([1, 2, 3].map fun n : Nat => yardX R w (n : Int))) (by simp) (by simp))) ?_).mono ?_))
    · intro n hn
      simp only [wipe_cons, wipe_nil, asgT_var, bind_ok, List.set_cons_succ, List.set_cons_zero, setV_succ, setV_zero]
      refine sat_call (xs := [yardX R w (n : Int), standD a bs, lS ys]) (by simp) (goes_ok g (by omega) S hy (by omega)) ?_
      rintro _ rfl
      rfl
    rintro _ rfl
    refine ((comp_mapE (xs := [1, 2, 3]) (e := fun n : Nat => yardX R w (n : Int)) (g := fun n : Nat => iO (goM (flo R w) (n : Int) a bs 0 0 ys).2.2.2) (over_ok (sat_eq (a := .lst ([1, 2, 3].map fun n : Nat => yardX R w (n : Int))) (by simp) (by simp))) ?_).mono ?_)
    · intro n hn
      simp only [wipe_cons, wipe_nil, asgT_var, bind_ok, List.set_cons_succ, List.set_cons_zero, setV_succ, setV_zero]
      refine sat_call (xs := [yardX R w (n : Int), standD a bs, lS ys]) (by simp) (first_wrong_ok g (by omega) S hy (by omega)) ?_
      rintro _ rfl
      rfl
    rintro _ rfl
    simp only [setV_succ, setV_zero]
    have hP : ∀ n : Int, (run gam glo N (k + 13) "pushes_of" [] [yardX R w n, standD a bs, lS ys]).Ev fun f => f = (pushD (goM (flo R w) n a bs 0 0 ys), []) := fun n => pushes_ok (N := N) (k := k) (s := n) g (by omega) S hy (by omega)
    have hM : ∀ n : Nat, (goM (flo R w) (n : Int) a bs 0 0 ys).2.2.2 = none → goM (flo R w) ((n + 1 : Nat) : Int) a bs 0 0 ys = goM (flo R w) (n : Int) a bs 0 0 ys := fun n => goM_more (by omega) ys a bs 0 0
    have hL : ∀ (n : Nat) (j' : Nat), (goM (flo R w) ((n + 1 : Nat) : Int) a bs 0 0 ys).2.2.2 = some j' → ∃ j, (goM (flo R w) (n : Int) a bs 0 0 ys).2.2.2 = some j ∧ j ≤ j' := fun n j' => goM_later (by omega) ys a bs 0 0 j'
    have hP : ∀ n : Nat, (run gam glo N (k + 13) "pushes_of" [] [yardX R w (n : Int), standD a bs, lS ys]).Ev fun f => f = (pushD (goM (flo R w) (n : Int) a bs 0 0 ys), []) := fun n => hP n
    generalize hG : (fun n : Nat => goM (flo R w) (n : Int) a bs 0 0 ys) = G
    have hG : ∀ n : Nat, goM (flo R w) (n : Int) a bs 0 0 ys = G n := fun n => by rw [← hG]
    simp only [hG] at hP hM hL ⊢
    refine sat_forE (l := [0, 1].map xi) (by simp [xi]) (forL_mapI (fun q ρ => ∃ o9 o10 o11 o12 o13 o14, ρ = [some .bowl, some (iD i), some (rowsD R), some (.lst ([1, 2, 3].map fun n : Nat => yardX R w (n : Int))), o4, some (standD a bs), some (lS ys), some (.lst ([1, 2, 3].map fun n : Nat => goesD (G n))), some (.lst ([1, 2, 3].map fun n : Nat => iO (G n).2.2.2)), o9, o10, o11, o12, o13, o14]) ⟨_, _, _, _, _, _, rfl⟩ ?_ ?_)
    · rintro q j sf ρ hq ⟨o9, o10, o11, o12, o13, o14, rfl⟩
      simp only [asgT_var, bind_ok, setV_succ, setV_zero]
      have hj : j = 0 ∨ j = 1 := by
        have : j ∈ [0, 1] := by rw [hq]; simp
        simpa using this
      have gy0 : subD (.lst ([1, 2, 3].map fun n : Nat => yardX R w (n : Int))) (xi j) = .ok (yardX R w ((j + 1 : Nat) : Int)) := by rcases hj with rfl | rfl <;> rfl
      have gy1 : subD (.lst ([1, 2, 3].map fun n : Nat => yardX R w (n : Int))) (.int ((j : Int) + 1)) = .ok (yardX R w ((j + 2 : Nat) : Int)) := by rcases hj with rfl | rfl <;> rfl
      have gt0 : subD (.lst ([1, 2, 3].map fun n : Nat => goesD (G n))) (xi j) = .ok (goesD (G (j + 1))) := by rcases hj with rfl | rfl <;> rfl
      have gt1 : subD (.lst ([1, 2, 3].map fun n : Nat => goesD (G n))) (.int ((j : Int) + 1)) = .ok (goesD (G (j + 2))) := by rcases hj with rfl | rfl <;> rfl
      have gw0 : subD (.lst ([1, 2, 3].map fun n : Nat => iO (G n).2.2.2)) (xi j) = .ok (iO (G (j + 1)).2.2.2) := by rcases hj with rfl | rfl <;> rfl
      have gw1 : subD (.lst ([1, 2, 3].map fun n : Nat => iO (G n).2.2.2)) (.int ((j : Int) + 1)) = .ok (iO (G (j + 2)).2.2.2) := by rcases hj with rfl | rfl <;> rfl
      have nG : ∀ r : Gon, (goesD r).isNon = !r.2.2.2.isNone := fun r => by
        obtain ⟨a, b, c, o⟩ := r
        cases o <;> rfl
      have mM := hM (j + 1)
      have lL := hL (j + 1)
      refine sat_seqN (sat_ifF ?_ (sat_skip rfl)) (sat_ifF ?_ (sat_skip ⟨_, _, _, _, _, _, rfl⟩))
      · have e1 : ∀ ρ', getV ρ' 7 = .ok (.lst ([1, 2, 3].map fun n : Nat => goesD (G n))) → getV ρ' 10 = .ok (xi j) → evE glo (run gam glo N (k + 13)) ρ' (.op .isnot (.sub (.var 7) (.var 10)) .non) = .ok (.bl (G (j + 1)).2.2.2.isNone) := fun ρ' h7 h10 => by
          simp only [evE_op, evE_sub, evE_var, h7, h10, bind_ok, gt0, evE_non, opE_isnot, isnot_non, nG, Bool.not_not]
        cases hw : (G (j + 1)).2.2.2 with
        | some v => exact sat_andF ((e1 _ rfl rfl).trans (by rw [hw]; rfl)) rfl
        | none =>
          have em := mM hw
          refine sat_andT ((e1 _ rfl rfl).trans (by rw [hw]; rfl)) (sat_orF ?_ ?_)
          · simp only [evE_op, evE_sub, evE_var, evE_int, getV_succ, getV_zero, bind_ok, gt0, xi, opE_add, add_int, gt1, opE_ne]
            have gt0' : subD (.lst ([1, 2, 3].map fun n : Nat => goesD (G n))) (.int (j : Int)) = .ok (goesD (G (j + 1))) := gt0
            rw [gt0', bind_ok, em]
            exact neD_same13 (plain_goes13 _ 29) (eqv_goes13 _)
          · refine sat_op (sat_call (xs := [yardX R w ((j + 1 : Nat) : Int), standD a bs, lS ys]) ?_ (hP (j + 1)) ?_)
            · simp only [evL_cons, evL_nil, evE_sub, evE_var, getV_succ, getV_zero, bind_ok, gy0]
            rintro _ rfl
            refine sat_call (xs := [yardX R w ((j + 2 : Nat) : Int), standD a bs, lS ys]) ?_ (hP (j + 2)) ?_
            · simp only [evL_cons, evL_nil, evE_op, evE_int, evE_sub, evE_var, getV_succ, getV_zero, bind_ok, xi, opE_add, add_int, gy1]
            rintro _ rfl
            rw [em]
            rcases G (j + 1) with ⟨a1, b1, c1, v1⟩
            cases v1 with
            | none => simp [pushD]
            | some _ => exact sat_eq (a := .bl false) rfl rfl
      · have e1 : ∀ ρ', getV ρ' 8 = .ok (.lst ([1, 2, 3].map fun n : Nat => iO (G n).2.2.2)) → getV ρ' 10 = .ok (xi j) → evE glo (run gam glo N (k + 13)) ρ' (.op .isnot (.sub (.var 8) (.op .add (.var 10) (.int 1))) .non) = .ok (.bl (!(G (j + 2)).2.2.2.isNone)) := fun ρ' h8 h10 => by
          simp only [evE_op, evE_sub, evE_var, evE_int, h8, h10, bind_ok, xi, opE_add, add_int, gw1, evE_non, opE_isnot, isnot_non, isNon_iO]
        cases hw : (G (j + 2)).2.2.2 with
        | none => exact sat_andF ((e1 _ rfl rfl).trans (by rw [hw]; rfl)) rfl
        | some v =>
          obtain ⟨u, hu, huv⟩ := lL v hw
          refine sat_andT ((e1 _ rfl rfl).trans (by rw [hw]; rfl)) (sat_orF ?_ (sat_eq (a := .bl false) ?_ rfl))
          · simp only [evE_op, evE_sub, evE_var, getV_succ, getV_zero, bind_ok, gw0, hu, evE_non, opE_is, is_non, isNon_iO]
            rfl
          · have gw0' : subD (.lst ([1, 2, 3].map fun n : Nat => iO (G n).2.2.2)) (.int (j : Int)) = .ok (iO (G (j + 1)).2.2.2) := gw0
            simp only [evE_op, evE_sub, evE_var, evE_int, getV_succ, getV_zero, bind_ok, xi, opE_add, add_int, gw1, gw0', hw, hu, opE_gt]
            show Pv.R.ok (D.bl (decide ((v : Int) < (u : Int)))) = _
            rw [decide_eq_false (by omega)]
    · rintro ρ ⟨o9, o10, o11, o12, o13, o14, rfl⟩
      exact ⟨_, _, _, _, _, _, _, _, _, _, _, _, _, _, rfl⟩
  · rintro ρ ⟨o1, o2, o3, o4, o5, o6, o7, o8, o9, o10, o11, o12, o13, o14, rfl⟩
    refine sat_seq (sat_set (sat_op (sat_eq (a := .int 1) (by simp) (sat_call (xs := [.bowl, .int 3]) (by simp) (draw_ok (by omega) (by omega)) ?_))))
    rintro _ ⟨m0, hm0, rfl⟩
    rw [opE_add, add_int]
    obtain ⟨m, hm, hm2⟩ : ∃ m : Nat, (1 : Int) + m0 = m ∧ (m = 1 ∨ m = 2 ∨ m = 3) := ⟨1 + m0, by omega, by omega⟩
    rw [hm]
    refine ev ?_
    simp only [setV_succ, setV_zero]
    refine sat_seq (sat_set (sat_eq (a := lS (laneL m)) ?_ ?_))
    · have h1 : mulD (.str "x") (.int (m : Int)) = .ok (lS (List.replicate m 120)) := by
        rcases hm2 with rfl | rfl | rfl <;> rfl
      have h2 : binD .add (.str ".") (lS (List.replicate m 120)) = .ok (lS ([46] ++ List.replicate m 120)) := add_lS (a := [46]) (by simp; omega)
      have h3 : binD .add (lS ([46] ++ List.replicate m 120)) (.str "..") = .ok (lS (([46] ++ List.replicate m 120) ++ [46, 46])) := add_lS (b := [46, 46]) (by simp; omega)
      simp only [evE_op, evE_str, evE_var, getV_succ, getV_zero, bind_ok, opE_add, opE_mul, h1, h2, h3]
      rfl
    simp only [setV_succ, setV_zero]
    have gl := lane_good hm2
    have SL := lane_stand hm2
    have rng : ∀ d : Nat, ((List.range m).map fun k => cD (0, d + k)) = (laneB m d).map cD := fun d => by unfold laneB; rw [List.map_map]; rfl
    refine sat_seq (sat_forE (l := [1, 2, 3].map xi) (by simp [xi]) (forL_mapI (fun q ρ => ∃ o1 o2 o3 o4 o5 o6 o7 o8 o9 o10 o13 o14, ρ = [some .bowl, o1, o2, o3, o4, o5, o6, o7, o8, o9, o10, some (.int (m : Int)), some (lS (laneL m)), o13, o14]) ⟨_, _, _, _, _, _, _, _, _, _, _, _, rfl⟩ ?_ ?_))
    · rintro q j sf ρ hq ⟨o1, o2, o3, o4, o5, o6, o7, o8, o9, o10, o13, o14, rfl⟩
      simp only [asgT_var, bind_ok, setV_succ, setV_zero]
      have hj : 1 ≤ j ∧ j ≤ 3 := by
        have : j ∈ [1, 2, 3] := by rw [hq]; simp
        simp at this; omega
      have c1 : ∀ (o3 o13 o14 : Option D) (d : Nat), (evE glo (run gam glo N (k + 13)) [some .bowl, o1, o2, o3, some (xi j), o5, o6, o7, o8, o9, o10, some (.int (m : Int)), some (lS (laneL m)), o13, o14] (.comp (.tup (.econs (.int 0) (.econs (.op .add (.int (d : Int)) (.var 10)) .enil))) (.var 10) (.range1 (.var 11)) (.bl true) [10])).Ev fun x => x = .lst ((laneB m d).map cD) := fun o3 o13 o14 d => by
        rw [← rng d]
        refine sat_eq (comp_true (xs := List.range m) (e := iD) (g := fun k => cD (0, d + k)) (range_ok (by simp) (by omega)) fun c hc => ?_) rfl
        simp only [wipe_cons, wipe_nil, asgT_var, bind_ok, List.set_cons_succ, List.set_cons_zero, setV_succ, setV_zero, evE_tup, evL_cons, evL_nil, evE_int, evE_op, evE_var, getV_succ, getV_zero, iD, opE_add, add_int]
        simp [cD]
      refine sat_seq (sat_set (sat_bf ((c1 _ _ _ 1).mono ?_)))
      rintro _ rfl
      rw [bf_tuple, oneD_one, tupleF_lst]
      refine ev ?_
      simp only [setV_succ, setV_zero]
      refine sat_seq (sat_set (Pv.R.Ev.mono (P := fun d => d = stD (mvS (flo [laneL m] (m + 3)) (j : Int) (laneB m 1) (0, 0) 101)) (sat_ite ?_) ?_))
      · refine sat_eq (a := .bl (decide ((m : Int) ≤ (j : Int)))) (by simp [xi]) ?_
        rw [truthy_bl, lane_mv hm2]
        refine ev ?_
        by_cases hmj : (m : Int) ≤ (j : Int)
        · rw [decide_eq_true hmj, if_pos rfl, if_pos hmj]
          refine sat_tup (evL_consS (sat_eq (a := cD (0, 1)) (by simp [cD]) (evL_consS (sat_bf ((c1 _ _ _ 2).mono ?_)))))
          rintro _ rfl
          rw [bf_tuple, oneD_one, tupleF_lst]
          exact ev (evL_nilS rfl)
        · rw [decide_eq_false hmj, if_neg Bool.false_ne_true, if_neg hmj]
          exact sat_eq (a := .non) (by simp) rfl
      rintro _ rfl
      simp only [setV_succ, setV_zero]
      have hst := step_ok (N := N) (k := k + 1) (s := (j : Int)) gl (by omega) SL (y := 101) (by decide)
      have hsame : Same N (k + 13) (stD (mvS (flo [laneL m] (m + 3)) (j : Int) (laneB m 1) (0, 0) 101)) := by
        cases hmv : mvS (flo [laneL m] (m + 3)) (j : Int) (laneB m 1) (0, 0) 101 with
        | none => exact same_non
        | some p =>
          obtain ⟨t, cs, p⟩ := p
          exact same_stand (k := k + 9) (by have := (stand_mv gl (y := 101) (by decide) SL hmv).len14 gl; omega)
      generalize mvS (flo [laneL m] (m + 3)) (j : Int) (laneB m 1) (0, 0) 101 = mv at hst hsame
      refine sat_ifF (sat_notT (sat_callS (evL_consS (sat_callS (evL_consS (sat_callS (evL_consS (sat_eq (a := rowsD [laneL m]) (by simp [rowsD]; rfl) (evL_consS (sat_eq (a := .int (j : Int)) (by simp [xi]) (evL_nilS ?_)))))))))) rfl) (sat_skip ⟨_, _, _, _, _, _, _, _, _, _, _, _, rfl⟩)
      refine (yard_okX (k := k + 5) gl (by omega) (by omega)).mono ?_
      rintro _ rfl
      refine evL_consS (sat_eq (a := standD (0, 0) (laneB m 1)) (by simp [standD, cD]) (evL_consS (sat_eq (a := cS 101) (by simp; rfl) (evL_nilS ?_))))
      refine hst.mono ?_
      rintro _ rfl
      refine evL_consS (sat_eq (a := stD mv) (by simp) (evL_nilS ?_))
      exact hsame.mono fun r e => by rw [e]
    · rintro ρ ⟨o1, o2, o3, o4, o5, o6, o7, o8, o9, o10, o13, o14, rfl⟩
      refine sat_ret ?_
      simp
end
theorem law_true : ∀ ns : List Int, ns.length ≤ 63 → (run gam glo 2000 (18 + 1) "law" [] [.lst (ns.map D.int)]).Ev fun r => r.1 = .bl true := fun ns hn =>
  law_of (K := 17) (right13_ok (k := 4) (by omega)) ns
end Pv

set_option autoImplicit false
set_option linter.all false
set_option maxRecDepth 100000
set_option Elab.async false
namespace Pv
open PySem L2
def sig : List (Str × (Nat × Bool)) := [(("is_whole" : Str), ((1 : Nat), false)), (("is_between" : Str), ((3 : Nat), false)), (("is_up_to" : Str), ((2 : Nat), false)), (("is_one_of" : Str), ((2 : Nat), false)), (("is_tuple_of" : Str), ((2 : Nat), false)), (("is_pair" : Str), ((1 : Nat), false)), (("are_below" : Str), ((2 : Nat), false)), (("wrong_in" : Str), ((4 : Nat), true)), (("are_all" : Str), ((4 : Nat), true)), (("is_row" : Str), ((1 : Nat), true)), (("is_row_beside" : Str), ((2 : Nat), false)), (("wrong_row" : Str), ((1 : Nat), true)), (("cells_with" : Str), ((2 : Nat), true)), (("are_enough" : Str), ((2 : Nat), false)), (("around" : Str), ((2 : Nat), true)), (("nexts_of" : Str), ((1 : Nat), true)), (("is_cell" : Str), ((2 : Nat), true)), (("are_cells" : Str), ((4 : Nat), true)), (("is_standing" : Str), ((2 : Nat), false)), (("is_way" : Str), ((1 : Nat), false)), (("row_of_boxes" : Str), ((4 : Nat), true)), (("moved" : Str), ((3 : Nat), true)), (("boxes_pushed" : Str), ((4 : Nat), true)), (("stepped" : Str), ((3 : Nat), true)), (("wrong_way" : Str), ((1 : Nat), true)), (("gone" : Str), ((3 : Nat), true)), (("leads_to" : Str), ((3 : Nat), false)), (("check_rows" : Str), ((1 : Nat), true)), (("check_strength" : Str), ((1 : Nat), true)), (("check_yard" : Str), ((1 : Nat), true)), (("check_standing" : Str), ((2 : Nat), true)), (("check_both" : Str), ((2 : Nat), true)), (("check_way" : Str), ((1 : Nat), true)), (("check_walk" : Str), ((1 : Nat), true)), (("check_going" : Str), ((3 : Nat), true)), (("step" : Str), ((3 : Nat), false)), (("goes" : Str), ((3 : Nat), false)), (("pushes_of" : Str), ((3 : Nat), false)), (("first_wrong" : Str), ((3 : Nat), false)), (("_law_bowl" : Str), ((2 : Nat), false)), (("_law_of" : Str), ((2 : Nat), false)), (("_law_same" : Str), ((2 : Nat), false)), (("_law_rows" : Str), ((3 : Nat), true)), (("_law_grid" : Str), ((2 : Nat), true)), (("_law_signs" : Str), ((2 : Nat), true)), (("_law_floor" : Str), ((1 : Nat), true)), (("_law_marks" : Str), ((1 : Nat), true)), (("_law_beyond" : Str), ((2 : Nat), true)), (("_law_move" : Str), ((3 : Nat), true)), (("_law_standing" : Str), ((2 : Nat), true)), (("_law_walk" : Str), ((4 : Nat), true)), (("_law_right" : Str), ((1 : Nat), true)), (("law" : Str), ((1 : Nat), true)), (("_law_draw" : Str), ((2 : Nat), true))]
def sigc : List (Str × Nat) := [("Yard", 2)]
def sigk : SigK := []
def sigf : SigF := []
abbrev N_are_cells__locals__is_right : List Str := ["ahead", "each", "yard"]
theorem ok_are_cells__locals__is_right {c : Cn} {B : Heap} {Φ : Phi} {k n j : Nat} (H : Fw c B glo Φ sig sigc sigk sigf k) (hk : k ≤ j) : ∀ X, Sx c B N_are_cells__locals__is_right (C8.fnScope st_are_cells__locals__is_right) (fun _ => false) j X → ESs X [] glo Φ n false (C8.fnBody st_are_cells__locals__is_right) f_are_cells__locals__is_right.body [false, false, false] [false, false, false] [] [] := fun X S =>
  (ss_one (s_ret (r_and (r_fz (r_call S (H.fns "is_cell" 2 true rfl) hk (r_acons (r_var S rfl (by kernel_rfl) rfl) (r_acons (r_var S rfl (by kernel_rfl) rfl) r_anil)) (by kernel_rfl))) (r_one (r_call S (H.fns "are_below" 2 false rfl) hk (r_acons (r_var S rfl (by kernel_rfl) rfl) (r_acons (r_var S rfl (by kernel_rfl) rfl) r_anil)) (by kernel_rfl))))))
theorem nsc_are_cells__locals__is_right : NdefX.NScope N_are_cells__locals__is_right ["ahead", "each"] n_are_cells__locals__is_right.fr (C8.fnScope st_are_cells__locals__is_right) := NdefX.nscope_by (by decide +kernel)
abbrev st_is_whole : Stmt := top 9
abbrev N_is_whole : List Str := ["value"]
theorem ok_is_whole {c : Cn} {B : Heap} {Φ : Phi} {k n j : Nat} (H : Fw c B glo Φ sig sigc sigk sigf k) (hk : k ≤ j) : ∀ X, Sx c B N_is_whole (C8.fnScope st_is_whole) (fun _ => true) j X → ESs X [] glo Φ n false (C8.fnBody st_is_whole) f_is_whole.body [false] [false] [] [] := fun X S =>
  (ss_one (s_ret (r_and (r_fz (r_isi S H.cls (T := .int) rfl (pe_tyB S (by simp) rfl (by kernel_rfl) (H.bl "int" rfl)) (r_varB S rfl (by kernel_rfl) rfl) (by kernel_rfl) (H.bl "isinstance" rfl))) (r_one (r_fz (r_not (r_eb (r_isi S H.cls (T := .bool) rfl (pe_tyB S (by simp) rfl (by kernel_rfl) (H.bl "bool" rfl)) (r_varB S rfl (by kernel_rfl) rfl) (by kernel_rfl) (H.bl "isinstance" rfl)))))))))
abbrev st_is_between : Stmt := top 10
abbrev N_is_between : List Str := ["value", "least", "most"]
theorem ok_is_between {c : Cn} {B : Heap} {Φ : Phi} {k n j : Nat} (H : Fw c B glo Φ sig sigc sigk sigf k) (hk : k ≤ j) : ∀ X, Sx c B N_is_between (C8.fnScope st_is_between) (fun _ => true) j X → ESs X [] glo Φ n false (C8.fnBody st_is_between) f_is_between.body [false, false, false] [false, false, false] [] [] := fun X S =>
  (ss_one (s_ret (r_and (r_call S (H.fns "is_whole" 1 false rfl) hk (r_acons (r_var S rfl (by kernel_rfl) rfl) r_anil) (by kernel_rfl)) (r_one (r_fz (r_chain S (o_le S) (o_le S) (r_varB S rfl (by kernel_rfl) rfl) (r_varB S rfl (by kernel_rfl) rfl) (r_varB S rfl (by kernel_rfl) rfl)))))))
abbrev st_is_up_to : Stmt := top 11
abbrev N_is_up_to : List Str := ["value", "most"]
theorem ok_is_up_to {c : Cn} {B : Heap} {Φ : Phi} {k n j : Nat} (H : Fw c B glo Φ sig sigc sigk sigf k) (hk : k ≤ j) : ∀ X, Sx c B N_is_up_to (C8.fnScope st_is_up_to) (fun _ => true) j X → ESs X [] glo Φ n false (C8.fnBody st_is_up_to) f_is_up_to.body [false, false] [false, false] [] [] := fun X S =>
  (ss_one (s_ret (r_call S (H.fns "is_between" 3 false rfl) hk (r_acons (r_var S rfl (by kernel_rfl) rfl) (r_acons r_int (r_acons (r_var S rfl (by kernel_rfl) rfl) r_anil))) (by kernel_rfl))))
abbrev st_is_one_of : Stmt := top 12
abbrev N_is_one_of : List Str := ["value", "words"]
theorem ok_is_one_of {c : Cn} {B : Heap} {Φ : Phi} {k n j : Nat} (H : Fw c B glo Φ sig sigc sigk sigf k) (hk : k ≤ j) : ∀ X, Sx c B N_is_one_of (C8.fnScope st_is_one_of) (fun _ => true) j X → ESs X [] glo Φ n false (C8.fnBody st_is_one_of) f_is_one_of.body [false, false] [false, false] [] [] := fun X S =>
  (ss_one (s_ret (r_and (r_fz (r_isi S H.cls (T := .str) rfl (pe_tyB S (by simp) rfl (by kernel_rfl) (H.bl "str" rfl)) (r_varB S rfl (by kernel_rfl) rfl) (by kernel_rfl) (H.bl "isinstance" rfl))) (r_one (r_fz (r_cmp (o_in S) (r_varB S rfl (by kernel_rfl) rfl) (r_varB S rfl (by kernel_rfl) rfl)))))))
abbrev st_is_tuple_of : Stmt := top 13
abbrev N_is_tuple_of : List Str := ["value", "many"]
theorem ok_is_tuple_of {c : Cn} {B : Heap} {Φ : Phi} {k n j : Nat} (H : Fw c B glo Φ sig sigc sigk sigf k) (hk : k ≤ j) : ∀ X, Sx c B N_is_tuple_of (C8.fnScope st_is_tuple_of) (fun _ => true) j X → ESs X [] glo Φ n false (C8.fnBody st_is_tuple_of) f_is_tuple_of.body [false, false] [false, false] [] [] := fun X S =>
  (ss_one (s_ret (r_and (r_fz (r_isi S H.cls (T := .tuple) rfl (pe_tyB S (by simp) rfl (by kernel_rfl) (H.bl "tuple" rfl)) (r_varB S rfl (by kernel_rfl) rfl) (by kernel_rfl) (H.bl "isinstance" rfl))) (r_one (r_fz (r_cmp (o_eq S) (r_eb (r_fn S f_len (r_aconsB (r_varB S rfl (by kernel_rfl) rfl) r_anilB) (by kernel_rfl) (H.bl "len" rfl) rfl rfl)) (r_varB S rfl (by kernel_rfl) rfl)))))))
abbrev st_is_pair : Stmt := top 14
abbrev N_is_pair : List Str := ["value"]
theorem ok_is_pair {c : Cn} {B : Heap} {Φ : Phi} {k n j : Nat} (H : Fw c B glo Φ sig sigc sigk sigf k) (hk : k ≤ j) : ∀ X, Sx c B N_is_pair (C8.fnScope st_is_pair) (fun _ => true) j X → ESs X [] glo Φ n false (C8.fnBody st_is_pair) f_is_pair.body [false] [false] [] [] := fun X S =>
  (ss_one (s_ret (r_call S (H.fns "is_tuple_of" 2 false rfl) hk (r_acons (r_var S rfl (by kernel_rfl) rfl) (r_acons r_int r_anil)) (by kernel_rfl))))
abbrev st_are_below : Stmt := top 15
abbrev N_are_below : List Str := ["ahead", "value"]
theorem ok_are_below {c : Cn} {B : Heap} {Φ : Phi} {k n j : Nat} (H : Fw c B glo Φ sig sigc sigk sigf k) (hk : k ≤ j) : ∀ X, Sx c B N_are_below (C8.fnScope st_are_below) (fun _ => true) j X → ESs X [] glo Φ n false (C8.fnBody st_are_below) f_are_below.body [false, false] [false, false] [] [] := fun X S =>
  (ss_one (s_ret (r_or (r_fz (r_cmp (o_eq S) (r_varB S rfl (by kernel_rfl) rfl) (r_eb (r_tup r_anil)))) (r_one (r_fz (r_cmp (o_lt S) (r_eb (r_sub S (r_varB S rfl (by kernel_rfl) rfl) (r_eb (r_neg (r_eb r_int))))) (r_varB S rfl (by kernel_rfl) rfl)))))))
abbrev st_wrong_in : Stmt := top 16
abbrev N_wrong_in : List Str := ["value", "least", "most", "is_right", "index", "each"]
theorem ok_wrong_in {c : Cn} {B : Heap} {Φ : Phi} {k n j : Nat} (H : Fw c B glo Φ sig sigc sigk sigf k) (hk : k ≤ j) : ∀ X, Sx c B N_wrong_in (C8.fnScope st_wrong_in) (fun _ => true) j X → ESs X [] glo Φ n true (C8.fnBody st_wrong_in) f_wrong_in.body [false, false, false, false, false, false] [false, false, false, false, false, false] [] [] := fun X S =>
  (ss_cons (s_low (F' := [false, false, false, false, false, false]) (s_if (r_tw (r_tor (r_tnot (r_tval (r_eb (r_isi S H.cls (T := .tuple) rfl (pe_tyB S (by simp) rfl (by kernel_rfl) (H.bl "tuple" rfl)) (r_varB S rfl (by kernel_rfl) rfl) (by kernel_rfl) (H.bl "isinstance" rfl))))) (r_tone (t_of_cmp (o_lt S) rfl (r_eb (r_fn S f_len (r_aconsB (r_varB S rfl (by kernel_rfl) rfl) r_anilB) (by kernel_rfl) (H.bl "len" rfl) rfl rfl)) (r_varB S rfl (by kernel_rfl) rfl))))) (ss_one (s_ret (r_lst (r_acons r_non r_anil)))) (ss_low (F' := [false, false, false, false, false, false]) ss_nil rfl)) rfl) (ss_cons (s_low (F' := [false, false, false, false, false, false]) (s_for S (i_low (F' := [false, false, false, false, false, false]) (i_enum S (r_var S rfl (by kernel_rfl) rfl) (by kernel_rfl) (H.bl "enumerate" rfl)) rfl) (g_tup S (gs_cons (g_name S rfl (by kernel_rfl) (by kernel_rfl) hio0) (gs_cons (g_name S rfl (by kernel_rfl) (by kernel_rfl) hio0) gs_nil))) (ss_low (F' := [false, false, false, false, false, false]) (ss_one (s_low (F' := [false, false, false, false, false, false]) (s_if (r_tw (r_tor (t_of_cmp (o_eq S) rfl (r_varB S rfl (by kernel_rfl) rfl) (r_varB S rfl (by kernel_rfl) rfl)) (r_tone (r_tnot (r_tval (r_eb (r_callv S H.val H.clo hk (r_acons (r_slice (r_varB S rfl (by kernel_rfl) rfl) r_onone (r_osome (r_varB S rfl (by kernel_rfl) rfl))) (r_acons (r_var S rfl (by kernel_rfl) rfl) r_anil)) rfl (by kernel_rfl) rfl))))))) (ss_one (s_ret (r_lst (r_acons (r_var S rfl (by kernel_rfl) rfl) r_anil)))) (ss_low (F' := [false, false, false, false, false, false]) ss_nil rfl)) rfl)) rfl)) rfl) (ss_one (s_ret (r_lst r_anil)))))
abbrev st_are_all : Stmt := top 17
abbrev N_are_all : List Str := ["value", "least", "most", "is_right"]
theorem ok_are_all {c : Cn} {B : Heap} {Φ : Phi} {k n j : Nat} (H : Fw c B glo Φ sig sigc sigk sigf k) (hk : k ≤ j) : ∀ X, Sx c B N_are_all (C8.fnScope st_are_all) (fun _ => true) j X → ESs X [] glo Φ n true (C8.fnBody st_are_all) f_are_all.body [false, false, false, false] [false, false, false, false] [] [] := fun X S =>
  (ss_one (s_ret (r_cmp (o_eq S) (r_eb (r_call S (H.fns "wrong_in" 4 true rfl) hk (r_acons (r_var S rfl (by kernel_rfl) rfl) (r_acons (r_var S rfl (by kernel_rfl) rfl) (r_acons (r_var S rfl (by kernel_rfl) rfl) (r_acons (r_var S rfl (by kernel_rfl) rfl) r_anil)))) (by kernel_rfl))) (r_eb (r_lst r_anil)))))
abbrev st_is_row : Stmt := top 35
abbrev N_is_row : List Str := ["value", "sign"]
theorem ok_is_row {c : Cn} {B : Heap} {Φ : Phi} {k n j : Nat} (H : Fw c B glo Φ sig sigc sigk sigf k) (hk : k ≤ j) : ∀ X, Sx c B N_is_row (C8.fnScope st_is_row) (fun _ => true) j X → ESs X [] glo Φ n true (C8.fnBody st_is_row) f_is_row.body [false, false] [false, false] [] [] := fun X S =>
  (ss_cons (s_low (F' := [false, false]) (s_if (r_tw (r_tor (r_tnot (r_tval (r_eb (r_isi S H.cls (T := .str) rfl (pe_tyB S (by simp) rfl (by kernel_rfl) (H.bl "str" rfl)) (r_varB S rfl (by kernel_rfl) rfl) (by kernel_rfl) (H.bl "isinstance" rfl))))) (r_tone (r_tnot (r_tval (r_eb (r_call S (H.fns "is_between" 3 false rfl) hk (r_acons (r_fn S f_len (r_aconsB (r_varB S rfl (by kernel_rfl) rfl) r_anilB) (by kernel_rfl) (H.bl "len" rfl) rfl rfl) (r_acons (r_glob S H.gl (by kernel_rfl) rfl rfl) (r_acons (r_glob S H.gl (by kernel_rfl) rfl rfl) r_anil))) (by kernel_rfl)))))))) (ss_one (s_ret r_bl)) (ss_low (F' := [false, false]) ss_nil rfl)) rfl) (ss_one (s_ret (r_fn S (f_all S.calm) (r_aconsB (r_eb (r_comp S (own := [("sign", 1)]) (i_lowB (F' := [false, false]) (i_overB (r_varB S rfl (by kernel_rfl) rfl)) rfl) (by kernel_rfl) rfl (fun X S => (g_name S rfl (by kernel_rfl) (by kernel_rfl) hio0)) (fun X S => ts_nil) (fun X S => (r_fz (r_cmp (o_in S) (r_varB S rfl (by kernel_rfl) rfl) (r_eb (r_glob S H.gl (by kernel_rfl) rfl rfl))))) hio0 rfl rfl rfl)) r_anilB) (by kernel_rfl) (H.bl "all" rfl) rfl rfl))))
abbrev st_is_row_beside : Stmt := top 36
abbrev N_is_row_beside : List Str := ["ahead", "value"]
theorem ok_is_row_beside {c : Cn} {B : Heap} {Φ : Phi} {k n j : Nat} (H : Fw c B glo Φ sig sigc sigk sigf k) (hk : k ≤ j) : ∀ X, Sx c B N_is_row_beside (C8.fnScope st_is_row_beside) (fun _ => true) j X → ESs X [] glo Φ n false (C8.fnBody st_is_row_beside) f_is_row_beside.body [false, false] [false, false] [] [] := fun X S =>
  (ss_one (s_ret (r_and (r_fz (r_call S (H.fns "is_row" 1 true rfl) hk (r_acons (r_var S rfl (by kernel_rfl) rfl) r_anil) (by kernel_rfl))) (r_one (r_or (r_fz (r_cmp (o_eq S) (r_varB S rfl (by kernel_rfl) rfl) (r_eb (r_tup r_anil)))) (r_one (r_fz (r_cmp (o_eq S) (r_eb (r_fn S f_len (r_aconsB (r_eb (r_sub S (r_varB S rfl (by kernel_rfl) rfl) (r_eb r_int))) r_anilB) (by kernel_rfl) (H.bl "len" rfl) rfl rfl)) (r_eb (r_fn S f_len (r_aconsB (r_varB S rfl (by kernel_rfl) rfl) r_anilB) (by kernel_rfl) (H.bl "len" rfl) rfl rfl))))))))))
abbrev st_wrong_row : Stmt := top 37
abbrev N_wrong_row : List Str := ["rows"]
theorem ok_wrong_row {c : Cn} {B : Heap} {Φ : Phi} {k n j : Nat} (H : Fw c B glo Φ sig sigc sigk sigf k) (hk : k ≤ j) : ∀ X, Sx c B N_wrong_row (C8.fnScope st_wrong_row) (fun _ => true) j X → ESs X [] glo Φ n true (C8.fnBody st_wrong_row) f_wrong_row.body [false] [false] [] [] := fun X S =>
  (ss_cons (s_low (F' := [false]) (s_if (r_tw (r_tand (r_tval (r_eb (r_isi S H.cls (T := .tuple) rfl (pe_tyB S (by simp) rfl (by kernel_rfl) (H.bl "tuple" rfl)) (r_varB S rfl (by kernel_rfl) rfl) (by kernel_rfl) (H.bl "isinstance" rfl)))) (r_tone (t_of_cmp (o_gt S) rfl (r_eb (r_fn S f_len (r_aconsB (r_varB S rfl (by kernel_rfl) rfl) r_anilB) (by kernel_rfl) (H.bl "len" rfl) rfl rfl)) (r_eb (r_glob S H.gl (by kernel_rfl) rfl rfl)))))) (ss_one (s_ret (r_lst (r_acons r_non r_anil)))) (ss_low (F' := [false]) ss_nil rfl)) rfl) (ss_one (s_ret (r_call S (H.fns "wrong_in" 4 true rfl) hk (r_acons (r_var S rfl (by kernel_rfl) rfl) (r_acons (r_glob S H.gl (by kernel_rfl) rfl rfl) (r_acons (r_glob S H.gl (by kernel_rfl) rfl rfl) (r_acons (r_glob S H.gl (by kernel_rfl) rfl rfl) r_anil)))) (by kernel_rfl)))))
abbrev st_cells_with : Stmt := top 38
abbrev N_cells_with : List Str := ["rows", "signs", "found", "row", "line", "column", "sign"]
theorem ok_cells_with {c : Cn} {B : Heap} {Φ : Phi} {k n j : Nat} (H : Fw c B glo Φ sig sigc sigk sigf k) (hk : k ≤ j) : ∀ X, Sx c B N_cells_with (C8.fnScope st_cells_with) (fun _ => true) j X → ESs X [] glo Φ n true (C8.fnBody st_cells_with) f_cells_with.body [false, false, false, false, false, false, false] [false, false, false, false, false, false, false] [] [] := fun X S =>
  (ss_cons (s_low (F' := [false, false, true, false, false, false, false]) (s_set S (r_lst r_anil) rfl (by kernel_rfl) (by kernel_rfl) hio0 rfl) rfl) (ss_cons (s_low (F' := [false, false, true, false, false, false, false]) (s_for S (i_low (F' := [false, false, true, false, false, false, false]) (i_enum S (r_var S rfl (by kernel_rfl) rfl) (by kernel_rfl) (H.bl "enumerate" rfl)) rfl) (g_tup S (gs_cons (g_name S rfl (by kernel_rfl) (by kernel_rfl) hio0) (gs_cons (g_name S rfl (by kernel_rfl) (by kernel_rfl) hio0) gs_nil))) (ss_low (F' := [false, false, true, false, false, false, false]) (ss_one (s_low (F' := [false, false, true, false, false, false, false]) (s_for S (i_low (F' := [false, false, true, false, false, false, false]) (i_enum S (r_var S rfl (by kernel_rfl) rfl) (by kernel_rfl) (H.bl "enumerate" rfl)) rfl) (g_tup S (gs_cons (g_name S rfl (by kernel_rfl) (by kernel_rfl) hio0) (gs_cons (g_name S rfl (by kernel_rfl) (by kernel_rfl) hio0) gs_nil))) (ss_low (F' := [false, false, true, false, false, false, false]) (ss_one (s_low (F' := [false, false, true, false, false, false, false]) (s_if (t_of_cmp (o_in S) rfl (r_varB S rfl (by kernel_rfl) rfl) (r_varB S rfl (by kernel_rfl) rfl)) (ss_low (F' := [false, false, true, false, false, false, false]) (ss_one (s_low (F' := [false, false, true, false, false, false, false]) (s_append S rfl (by kernel_rfl) rfl (r_tup (r_acons (r_var S rfl (by kernel_rfl) rfl) (r_acons (r_var S rfl (by kernel_rfl) rfl) r_anil))) rfl rfl) rfl)) rfl) (ss_low (F' := [false, false, true, false, false, false, false]) ss_nil rfl)) rfl)) rfl)) rfl)) rfl)) rfl) (ss_one (s_ret (r_fnT S f_tuple (r_aconsB (r_varB S rfl (by kernel_rfl) rfl) r_anilB) (by kernel_rfl) (H.bl "tuple" rfl) rfl rfl)))))
abbrev st_are_enough : Stmt := top 39
abbrev N_are_enough : List Str := ["floor", "marks"]
theorem ok_are_enough {c : Cn} {B : Heap} {Φ : Phi} {k n j : Nat} (H : Fw c B glo Φ sig sigc sigk sigf k) (hk : k ≤ j) : ∀ X, Sx c B N_are_enough (C8.fnScope st_are_enough) (fun _ => true) j X → ESs X [] glo Φ n false (C8.fnBody st_are_enough) f_are_enough.body [false, false] [false, false] [] [] := fun X S =>
  (ss_cons (s_low (F' := [false, false]) (s_if (r_tnot (r_tval (r_eb (r_call S (H.fns "is_between" 3 false rfl) hk (r_acons (r_fn S f_len (r_aconsB (r_varB S rfl (by kernel_rfl) rfl) r_anilB) (by kernel_rfl) (H.bl "len" rfl) rfl rfl) (r_acons (r_glob S H.gl (by kernel_rfl) rfl rfl) (r_acons (r_glob S H.gl (by kernel_rfl) rfl rfl) r_anil))) (by kernel_rfl))))) (ss_one (s_ret (r_fz r_bl))) (ss_low (F' := [false, false]) ss_nil rfl)) rfl) (ss_one (s_ret (r_and (r_call S (H.fns "is_between" 3 false rfl) hk (r_acons (r_fn S f_len (r_aconsB (r_varB S rfl (by kernel_rfl) rfl) r_anilB) (by kernel_rfl) (H.bl "len" rfl) rfl rfl) (r_acons (r_glob S H.gl (by kernel_rfl) rfl rfl) (r_acons (r_glob S H.gl (by kernel_rfl) rfl rfl) r_anil))) (by kernel_rfl)) (r_one (r_fz (r_cmp (o_lt S) (r_eb (r_fn S f_len (r_aconsB (r_varB S rfl (by kernel_rfl) rfl) r_anilB) (by kernel_rfl) (H.bl "len" rfl) rfl rfl)) (r_eb (r_fn S f_len (r_aconsB (r_varB S rfl (by kernel_rfl) rfl) r_anilB) (by kernel_rfl) (H.bl "len" rfl) rfl rfl)))))))))
abbrev st_around : Stmt := top 40
abbrev N_around : List Str := ["cell", "way", "away"]
theorem ok_around {c : Cn} {B : Heap} {Φ : Phi} {k n j : Nat} (H : Fw c B glo Φ sig sigc sigk sigf k) (hk : k ≤ j) : ∀ X, Sx c B N_around (C8.fnScope st_around) (fun _ => true) j X → ESs X [] glo Φ n true (C8.fnBody st_around) f_around.body [false, false, false] [false, false, false] [] [] := fun X S =>
  (ss_cons (s_low (F' := [false, false, false]) (s_set S (r_gsub S H.dic (by kernel_rfl) rfl rfl (r_varB S rfl (by kernel_rfl) rfl)) rfl (by kernel_rfl) (by kernel_rfl) hio0 rfl) rfl) (ss_one (s_ret (r_tup (r_acons (r_bin (o_add S) (r_eb (r_sub S (r_varB S rfl (by kernel_rfl) rfl) (r_eb r_int))) (r_eb (r_sub S (r_varB S rfl (by kernel_rfl) rfl) (r_eb r_int)))) (r_acons (r_bin (o_add S) (r_eb (r_sub S (r_varB S rfl (by kernel_rfl) rfl) (r_eb r_int))) (r_eb (r_sub S (r_varB S rfl (by kernel_rfl) rfl) (r_eb r_int)))) r_anil))))))
abbrev st_nexts_of : Stmt := top 41
abbrev N_nexts_of : List Str := ["floor", "known", "found", "cell", "way", "there"]
theorem ok_nexts_of {c : Cn} {B : Heap} {Φ : Phi} {k n j : Nat} (H : Fw c B glo Φ sig sigc sigk sigf k) (hk : k ≤ j) : ∀ X, Sx c B N_nexts_of (C8.fnScope st_nexts_of) (fun _ => true) j X → ESs X [] glo Φ n true (C8.fnBody st_nexts_of) f_nexts_of.body [false, false, false, false, false, false] [false, false, false, false, false, false] [] [] := fun X S =>
  (ss_cons (s_low (F' := [false, true, true, false, false, false]) (s_par2 S (r_fnT S (f_dict S.calm S.hu) (r_aconsB (r_eb (r_comp S (own := [("cell", 3)]) (i_lowB (F' := [false, false, false, false, false, false]) (i_overB (r_varB S rfl (by kernel_rfl) rfl)) rfl) (by kernel_rfl) rfl (fun X S => (g_name S rfl (by kernel_rfl) (by kernel_rfl) hio0)) (fun X S => ts_nil) (fun X S => (r_fz (r_tup (r_acons (r_var S rfl (by kernel_rfl) rfl) (r_acons r_bl r_anil))))) hio0 rfl rfl rfl)) r_anilB) (by kernel_rfl) (H.bl "dict" rfl) rfl rfl) r_dic0 rfl rfl rfl (by kernel_rfl) (by kernel_rfl) hio0 hio0 rfl (by kernel_rfl) (by kernel_rfl) (by kernel_rfl) (by kernel_rfl) (by kernel_rfl) (by kernel_rfl)) rfl) (ss_cons (s_low (F' := [false, true, true, false, false, false]) (s_for S (i_low (F' := [false, true, true, false, false, false]) (i_over (r_var S rfl (by kernel_rfl) rfl)) rfl) (g_name S rfl (by kernel_rfl) (by kernel_rfl) hio0) (ss_low (F' := [false, true, true, false, false, false]) (ss_one (s_low (F' := [false, true, true, false, false, false]) (s_for S (i_low (F' := [false, true, true, false, false, false]) (i_over (r_glob S H.gl (by kernel_rfl) rfl rfl)) rfl) (g_name S rfl (by kernel_rfl) (by kernel_rfl) hio0) (ss_low (F' := [false, true, true, false, false, false]) (ss_cons (s_low (F' := [false, true, true, false, false, true]) (s_set S (r_call S (H.fns "around" 2 true rfl) hk (r_acons (r_var S rfl (by kernel_rfl) rfl) (r_acons (r_var S rfl (by kernel_rfl) rfl) r_anil)) (by kernel_rfl)) rfl (by kernel_rfl) (by kernel_rfl) hio0 rfl) rfl) (ss_one (s_low (F' := [false, true, true, false, false, false]) (s_setItem S (r_ite (t_of_cmp (o_in S) rfl (r_varB S rfl (by kernel_rfl) rfl) (r_varB S rfl (by kernel_rfl) rfl)) (r_low (F2 := [false, true, true, false, false, false]) (r_var S rfl (by kernel_rfl) rfl) rfl) (r_low (F2 := [false, true, true, false, false, false]) (r_fz r_non) rfl)) rfl (by kernel_rfl) rfl (r_tup (r_acons (r_var S rfl (by kernel_rfl) rfl) (r_acons (r_var S rfl (by kernel_rfl) rfl) r_anil))) rfl rfl) rfl))) rfl)) rfl)) rfl)) rfl) (ss_one (s_retMv S rfl (by kernel_rfl) rfl rfl))))
abbrev st_is_cell : Stmt := top 42
abbrev N_is_cell : List Str := ["yard", "value"]
theorem ok_is_cell {c : Cn} {B : Heap} {Φ : Phi} {k n j : Nat} (H : Fw c B glo Φ sig sigc sigk sigf k) (hk : k ≤ j) : ∀ X, Sx c B N_is_cell (C8.fnScope st_is_cell) (fun _ => true) j X → ESs X [] glo Φ n true (C8.fnBody st_is_cell) f_is_cell.body [false, false] [false, false] [] [] := fun X S =>
  (ss_cons (s_low (F' := [false, false]) (s_if (r_tw (r_tor (r_tnot (r_tval (r_eb (r_call S (H.fns "is_pair" 1 false rfl) hk (r_acons (r_var S rfl (by kernel_rfl) rfl) r_anil) (by kernel_rfl))))) (r_tor (r_tnot (r_tval (r_eb (r_call S (H.fns "is_up_to" 2 false rfl) hk (r_acons (r_sub S (r_varB S rfl (by kernel_rfl) rfl) (r_eb r_int)) (r_acons (r_glob S H.gl (by kernel_rfl) rfl rfl) r_anil)) (by kernel_rfl))))) (r_tone (r_tnot (r_tval (r_eb (r_call S (H.fns "is_up_to" 2 false rfl) hk (r_acons (r_sub S (r_varB S rfl (by kernel_rfl) rfl) (r_eb r_int)) (r_acons (r_glob S H.gl (by kernel_rfl) rfl rfl) r_anil)) (by kernel_rfl))))))))) (ss_one (s_ret r_bl)) (ss_low (F' := [false, false]) ss_nil rfl)) rfl) (ss_one (s_ret (r_cmp (o_in S) (r_varB S rfl (by kernel_rfl) rfl) (r_eb (r_attr S H.cls (r_varB S rfl (by kernel_rfl) rfl)))))))
abbrev st_are_cells : Stmt := top 43
abbrev N_are_cells : List Str := ["yard", "value", "least", "most", "is_right"]
theorem ok_are_cells {c : Cn} {B : Heap} {Φ : Phi} {k n j : Nat} (H : Fw c B glo Φ sig sigc sigk sigf k) (hk : k ≤ j) : ∀ X, Sx c B N_are_cells (C8.fnScope st_are_cells) (fun _ => true) j X → Mkr c B "are_cells.<locals>." 265 X → ESs X [] glo Φ n true (C8.fnBody st_are_cells) f_are_cells.body [false, false, false, false, false] [false, false, false, false, false] [] [] := fun X S M =>
  (ss_defn S M (nn := n_are_cells__locals__is_right) rfl tab_m0 (tab_u tab_nd tab_m0) rfl rfl (by kernel_rfl) rfl rfl rfl rfl (by kernel_rfl) rfl hio0 (fun fa cc => (ss_one (s_ret (r_callc S (H.fns "are_all" 4 true rfl) hk (nn := n_are_cells__locals__is_right) rfl (.head _) (caps_ok S (by kernel_rfl) rfl) (c_cons (r_var S rfl (by kernel_rfl) rfl) (c_cons (r_var S rfl (by kernel_rfl) rfl) (c_cons (r_var S rfl (by kernel_rfl) rfl) (c_clo S (.head _) rfl (by kernel_rfl) rfl c_nil)))) rfl (by kernel_rfl))))))
abbrev st_is_standing : Stmt := top 44
abbrev N_is_standing : List Str := ["yard", "value"]
theorem ok_is_standing {c : Cn} {B : Heap} {Φ : Phi} {k n j : Nat} (H : Fw c B glo Φ sig sigc sigk sigf k) (hk : k ≤ j) : ∀ X, Sx c B N_is_standing (C8.fnScope st_is_standing) (fun _ => true) j X → ESs X [] glo Φ n false (C8.fnBody st_is_standing) f_is_standing.body [false, false] [false, false] [] [] := fun X S =>
  (ss_cons (s_low (F' := [false, false]) (s_if (r_tw (r_tor (r_tnot (r_tval (r_eb (r_call S (H.fns "is_pair" 1 false rfl) hk (r_acons (r_var S rfl (by kernel_rfl) rfl) r_anil) (by kernel_rfl))))) (r_tone (r_tnot (r_tval (r_eb (r_call S (H.fns "is_cell" 2 true rfl) hk (r_acons (r_var S rfl (by kernel_rfl) rfl) (r_acons (r_sub S (r_varB S rfl (by kernel_rfl) rfl) (r_eb r_int)) r_anil)) (by kernel_rfl)))))))) (ss_one (s_ret (r_fz r_bl))) (ss_low (F' := [false, false]) ss_nil rfl)) rfl) (ss_one (s_ret (r_and (r_fz (r_call S (H.fns "are_cells" 4 true rfl) hk (r_acons (r_var S rfl (by kernel_rfl) rfl) (r_acons (r_sub S (r_varB S rfl (by kernel_rfl) rfl) (r_eb r_int)) (r_acons (r_fn S f_len (r_aconsB (r_eb (r_attr S H.cls (r_varB S rfl (by kernel_rfl) rfl))) r_anilB) (by kernel_rfl) (H.bl "len" rfl) rfl rfl) (r_acons (r_fn S f_len (r_aconsB (r_eb (r_attr S H.cls (r_varB S rfl (by kernel_rfl) rfl))) r_anilB) (by kernel_rfl) (H.bl "len" rfl) rfl rfl) r_anil)))) (by kernel_rfl))) (r_one (r_fz (r_cmp (o_notin S) (r_eb (r_sub S (r_varB S rfl (by kernel_rfl) rfl) (r_eb r_int))) (r_eb (r_sub S (r_varB S rfl (by kernel_rfl) rfl) (r_eb r_int))))))))))
abbrev st_is_way : Stmt := top 45
abbrev N_is_way : List Str := ["value"]
theorem ok_is_way {c : Cn} {B : Heap} {Φ : Phi} {k n j : Nat} (H : Fw c B glo Φ sig sigc sigk sigf k) (hk : k ≤ j) : ∀ X, Sx c B N_is_way (C8.fnScope st_is_way) (fun _ => true) j X → ESs X [] glo Φ n false (C8.fnBody st_is_way) f_is_way.body [false] [false] [] [] := fun X S =>
  (ss_one (s_ret (r_call S (H.fns "is_one_of" 2 false rfl) hk (r_acons (r_var S rfl (by kernel_rfl) rfl) (r_acons (r_glob S H.gl (by kernel_rfl) rfl rfl) r_anil)) (by kernel_rfl))))
abbrev st_row_of_boxes : Stmt := top 48
abbrev N_row_of_boxes : List Str := ["yard", "boxes", "cell", "way", "found"]
theorem ok_row_of_boxes {c : Cn} {B : Heap} {Φ : Phi} {k n j : Nat} (H : Fw c B glo Φ sig sigc sigk sigf k) (hk : k ≤ j) : ∀ X, Sx c B N_row_of_boxes (C8.fnScope st_row_of_boxes) (fun _ => true) j X → ESs X [] glo Φ n true (C8.fnBody st_row_of_boxes) f_row_of_boxes.body [false, false, false, false, false] [false, false, false, false, false] [] [] := fun X S =>
  (ss_cons (s_low (F' := [false, false, false, false, true]) (s_set S (r_lst r_anil) rfl (by kernel_rfl) (by kernel_rfl) hio0 rfl) rfl) (ss_cons (s_low (F' := [false, false, false, false, true]) (s_pre (F' := [false, false, false, false, true]) (s_while S (r_tw (r_tand (t_of_cmp (o_isnot S) rfl (r_varB S rfl (by kernel_rfl) rfl) (r_eb r_non)) (r_tone (t_of_cmp (o_in S) rfl (r_varB S rfl (by kernel_rfl) rfl) (r_varB S rfl (by kernel_rfl) rfl))))) (ss_low (F' := [false, false, false, false, true]) (ss_cons (s_low (F' := [false, false, false, false, true]) (s_append S rfl (by kernel_rfl) rfl (r_var S rfl (by kernel_rfl) rfl) rfl rfl) rfl) (ss_one (s_low (F' := [false, false, false, false, true]) (s_set S (r_sub S (r_eb (r_attr S H.cls (r_varB S rfl (by kernel_rfl) rfl))) (r_eb (r_tup (r_acons (r_var S rfl (by kernel_rfl) rfl) (r_acons (r_var S rfl (by kernel_rfl) rfl) r_anil))))) rfl (by kernel_rfl) (by kernel_rfl) hio0 rfl) rfl))) rfl)) rfl) rfl) (ss_one (s_retMv S rfl (by kernel_rfl) rfl rfl))))
abbrev st_moved : Stmt := top 49
abbrev N_moved : List Str := ["boxes", "gone", "come", "box"]
theorem ok_moved {c : Cn} {B : Heap} {Φ : Phi} {k n j : Nat} (H : Fw c B glo Φ sig sigc sigk sigf k) (hk : k ≤ j) : ∀ X, Sx c B N_moved (C8.fnScope st_moved) (fun _ => true) j X → ESs X [] glo Φ n true (C8.fnBody st_moved) f_moved.body [false, false, false, false] [false, false, false, false] [] [] := fun X S =>
  (ss_one (s_ret (r_fnT S f_tuple (r_aconsB (r_eb (r_fn S (f_sorted S.hu) (r_aconsB (r_eb (r_bin (o_add S) (r_eb (r_comp S (own := [("box", 3)]) (i_lowB (F' := [false, false, false, false]) (i_overB (r_varB S rfl (by kernel_rfl) rfl)) rfl) (by kernel_rfl) rfl (fun X S => (g_name S rfl (by kernel_rfl) (by kernel_rfl) hio0)) (fun X S => (ts_one (t_of_cmp (o_ne S) rfl (r_varB S rfl (by kernel_rfl) rfl) (r_varB S rfl (by kernel_rfl) rfl)))) (fun X S => (r_var S rfl (by kernel_rfl) rfl)) hio0 rfl rfl rfl)) (r_eb (r_lst (r_acons (r_var S rfl (by kernel_rfl) rfl) r_anil))))) r_anilB) (by kernel_rfl) (H.bl "sorted" rfl) rfl rfl)) r_anilB) (by kernel_rfl) (H.bl "tuple" rfl) rfl rfl)))
abbrev st_boxes_pushed : Stmt := top 50
abbrev N_boxes_pushed : List Str := ["yard", "boxes", "cell", "way", "row", "behind"]
theorem ok_boxes_pushed {c : Cn} {B : Heap} {Φ : Phi} {k n j : Nat} (H : Fw c B glo Φ sig sigc sigk sigf k) (hk : k ≤ j) : ∀ X, Sx c B N_boxes_pushed (C8.fnScope st_boxes_pushed) (fun _ => true) j X → ESs X [] glo Φ n true (C8.fnBody st_boxes_pushed) f_boxes_pushed.body [false, false, false, false, false, false] [false, false, false, false, false, false] [] [] := fun X S =>
  (ss_cons (s_low (F' := [false, false, false, false, true, false]) (s_set S (r_call S (H.fns "row_of_boxes" 4 true rfl) hk (r_acons (r_var S rfl (by kernel_rfl) rfl) (r_acons (r_var S rfl (by kernel_rfl) rfl) (r_acons (r_var S rfl (by kernel_rfl) rfl) (r_acons (r_var S rfl (by kernel_rfl) rfl) r_anil)))) (by kernel_rfl)) rfl (by kernel_rfl) (by kernel_rfl) hio0 rfl) rfl) (ss_cons (s_low (F' := [false, false, false, false, true, false]) (s_set S (r_sub S (r_eb (r_attr S H.cls (r_varB S rfl (by kernel_rfl) rfl))) (r_eb (r_tup (r_acons (r_sub S (r_varB S rfl (by kernel_rfl) rfl) (r_eb (r_neg (r_eb r_int)))) (r_acons (r_var S rfl (by kernel_rfl) rfl) r_anil))))) rfl (by kernel_rfl) (by kernel_rfl) hio0 rfl) rfl) (ss_cons (s_low (F' := [false, false, false, false, true, false]) (s_if (r_tw (r_tor (t_of_cmp (o_gt S) rfl (r_eb (r_fn S f_len (r_aconsB (r_varB S rfl (by kernel_rfl) rfl) r_anilB) (by kernel_rfl) (H.bl "len" rfl) rfl rfl)) (r_eb (r_attr S H.cls (r_varB S rfl (by kernel_rfl) rfl)))) (r_tone (t_of_cmp (o_is S) rfl (r_varB S rfl (by kernel_rfl) rfl) (r_eb r_non))))) (ss_one (s_ret r_non)) (ss_low (F' := [false, false, false, false, true, false]) ss_nil rfl)) rfl) (ss_one (s_ret (r_call S (H.fns "moved" 3 true rfl) hk (r_acons (r_var S rfl (by kernel_rfl) rfl) (r_acons (r_var S rfl (by kernel_rfl) rfl) (r_acons (r_var S rfl (by kernel_rfl) rfl) r_anil))) (by kernel_rfl)))))))
abbrev st_stepped : Stmt := top 51
abbrev N_stepped : List Str := ["yard", "standing", "way", "hand", "boxes", "there", "pushed"]
theorem ok_stepped {c : Cn} {B : Heap} {Φ : Phi} {k n j : Nat} (H : Fw c B glo Φ sig sigc sigk sigf k) (hk : k ≤ j) : ∀ X, Sx c B N_stepped (C8.fnScope st_stepped) (fun _ => true) j X → ESs X [] glo Φ n true (C8.fnBody st_stepped) f_stepped.body [false, false, false, false, false, false, false] [false, false, false, false, false, false, false] [] [] := fun X S =>
  (ss_cons (s_low (F' := [false, false, false, false, false, false, false]) (s_asgT (r_var S rfl (by kernel_rfl) rfl) (g_tup S (gs_cons (g_name S rfl (by kernel_rfl) (by kernel_rfl) hio0) (gs_cons (g_name S rfl (by kernel_rfl) (by kernel_rfl) hio0) gs_nil)))) rfl) (ss_cons (s_low (F' := [false, false, false, false, false, false, false]) (s_set S (r_sub S (r_eb (r_attr S H.cls (r_varB S rfl (by kernel_rfl) rfl))) (r_eb (r_tup (r_acons (r_var S rfl (by kernel_rfl) rfl) (r_acons (r_var S rfl (by kernel_rfl) rfl) r_anil))))) rfl (by kernel_rfl) (by kernel_rfl) hio0 rfl) rfl) (ss_cons (s_low (F' := [false, false, false, false, false, false, false]) (s_if (t_of_cmp (o_is S) rfl (r_varB S rfl (by kernel_rfl) rfl) (r_eb r_non)) (ss_one (s_ret r_non)) (ss_low (F' := [false, false, false, false, false, false, false]) ss_nil rfl)) rfl) (ss_cons (s_low (F' := [false, false, false, false, false, false, false]) (s_if (t_of_cmp (o_notin S) rfl (r_varB S rfl (by kernel_rfl) rfl) (r_varB S rfl (by kernel_rfl) rfl)) (ss_one (s_ret (r_tup (r_acons (r_tup (r_acons (r_var S rfl (by kernel_rfl) rfl) (r_acons (r_var S rfl (by kernel_rfl) rfl) r_anil))) (r_acons r_bl r_anil))))) (ss_low (F' := [false, false, false, false, false, false, false]) ss_nil rfl)) rfl) (ss_cons (s_low (F' := [false, false, false, false, false, false, true]) (s_set S (r_call S (H.fns "boxes_pushed" 4 true rfl) hk (r_acons (r_var S rfl (by kernel_rfl) rfl) (r_acons (r_var S rfl (by kernel_rfl) rfl) (r_acons (r_var S rfl (by kernel_rfl) rfl) (r_acons (r_var S rfl (by kernel_rfl) rfl) r_anil)))) (by kernel_rfl)) rfl (by kernel_rfl) (by kernel_rfl) hio0 rfl) rfl) (ss_one (s_ret (r_ite (t_of_cmp (o_is S) rfl (r_varB S rfl (by kernel_rfl) rfl) (r_eb r_non)) (r_low (F2 := [false, false, false, false, false, false, false]) r_non rfl) (r_low (F2 := [false, false, false, false, false, false, false]) (r_tup (r_acons (r_tup (r_acons (r_var S rfl (by kernel_rfl) rfl) (r_acons (r_var S rfl (by kernel_rfl) rfl) r_anil))) (r_acons r_bl r_anil))) rfl)))))))))
abbrev st_wrong_way : Stmt := top 52
abbrev N_wrong_way : List Str := ["value", "index", "letter"]
theorem ok_wrong_way {c : Cn} {B : Heap} {Φ : Phi} {k n j : Nat} (H : Fw c B glo Φ sig sigc sigk sigf k) (hk : k ≤ j) : ∀ X, Sx c B N_wrong_way (C8.fnScope st_wrong_way) (fun _ => true) j X → ESs X [] glo Φ n true (C8.fnBody st_wrong_way) f_wrong_way.body [false, false, false] [false, false, false] [] [] := fun X S =>
  (ss_cons (s_low (F' := [false, false, false]) (s_if (r_tnot (r_tval (r_eb (r_isi S H.cls (T := .str) rfl (pe_tyB S (by simp) rfl (by kernel_rfl) (H.bl "str" rfl)) (r_varB S rfl (by kernel_rfl) rfl) (by kernel_rfl) (H.bl "isinstance" rfl))))) (ss_one (s_ret (r_lst (r_acons r_non r_anil)))) (ss_low (F' := [false, false, false]) ss_nil rfl)) rfl) (ss_cons (s_low (F' := [false, false, false]) (s_for S (i_low (F' := [false, false, false]) (i_enum S (r_var S rfl (by kernel_rfl) rfl) (by kernel_rfl) (H.bl "enumerate" rfl)) rfl) (g_tup S (gs_cons (g_name S rfl (by kernel_rfl) (by kernel_rfl) hio0) (gs_cons (g_name S rfl (by kernel_rfl) (by kernel_rfl) hio0) gs_nil))) (ss_low (F' := [false, false, false]) (ss_one (s_low (F' := [false, false, false]) (s_if (r_tw (r_tor (t_of_cmp (o_eq S) rfl (r_varB S rfl (by kernel_rfl) rfl) (r_eb (r_glob S H.gl (by kernel_rfl) rfl rfl))) (r_tone (t_of_cmp (o_notin S) rfl (r_varB S rfl (by kernel_rfl) rfl) (r_eb (r_glob S H.gl (by kernel_rfl) rfl rfl)))))) (ss_one (s_ret (r_lst (r_acons (r_var S rfl (by kernel_rfl) rfl) r_anil)))) (ss_low (F' := [false, false, false]) ss_nil rfl)) rfl)) rfl)) rfl) (ss_one (s_ret (r_lst r_anil)))))
abbrev st_gone : Stmt := top 53
abbrev N_gone : List Str := ["yard", "standing", "walk", "pushes", "index", "way", "step_here"]
theorem ok_gone {c : Cn} {B : Heap} {Φ : Phi} {k n j : Nat} (H : Fw c B glo Φ sig sigc sigk sigf k) (hk : k ≤ j) : ∀ X, Sx c B N_gone (C8.fnScope st_gone) (fun _ => true) j X → ESs X [] glo Φ n true (C8.fnBody st_gone) f_gone.body [false, false, false, false, false, false, false] [false, false, false, false, false, false, false] [] [] := fun X S =>
  (ss_cons (s_low (F' := [false, false, false, true, false, false, false]) (s_set S r_int rfl (by kernel_rfl) (by kernel_rfl) hio0 rfl) rfl) (ss_cons (s_low (F' := [false, false, false, true, false, false, false]) (s_for S (i_low (F' := [false, false, false, true, false, false, false]) (i_enum S (r_var S rfl (by kernel_rfl) rfl) (by kernel_rfl) (H.bl "enumerate" rfl)) rfl) (g_tup S (gs_cons (g_name S rfl (by kernel_rfl) (by kernel_rfl) hio0) (gs_cons (g_name S rfl (by kernel_rfl) (by kernel_rfl) hio0) gs_nil))) (ss_low (F' := [false, false, false, true, false, false, false]) (ss_cons (s_low (F' := [false, false, false, true, false, false, true]) (s_set S (r_call S (H.fns "stepped" 3 true rfl) hk (r_acons (r_var S rfl (by kernel_rfl) rfl) (r_acons (r_var S rfl (by kernel_rfl) rfl) (r_acons (r_var S rfl (by kernel_rfl) rfl) r_anil))) (by kernel_rfl)) rfl (by kernel_rfl) (by kernel_rfl) hio0 rfl) rfl) (ss_cons (s_low (F' := [false, false, false, true, false, false, true]) (s_if (t_of_cmp (o_is S) rfl (r_varB S rfl (by kernel_rfl) rfl) (r_eb r_non)) (ss_one (s_ret (r_tup (r_acons (r_var S rfl (by kernel_rfl) rfl) (r_acons (r_var S rfl (by kernel_rfl) rfl) (r_acons (r_var S rfl (by kernel_rfl) rfl) r_anil)))))) (ss_low (F' := [false, false, false, true, false, false, true]) ss_nil rfl)) rfl) (ss_cons (s_low (F' := [false, false, false, true, false, false, true]) (s_set S (r_sub S (r_varB S rfl (by kernel_rfl) rfl) (r_eb r_int)) rfl (by kernel_rfl) (by kernel_rfl) hio0 rfl) rfl) (ss_one (s_low (F' := [false, false, false, true, false, false, true]) (s_set S (r_bin (o_add S) (r_varB S rfl (by kernel_rfl) rfl) (r_eb (r_ite (r_tval (r_eb (r_sub S (r_varB S rfl (by kernel_rfl) rfl) (r_eb r_int)))) (r_low (F2 := [false, false, false, true, false, false, true]) r_int rfl) (r_low (F2 := [false, false, false, true, false, false, true]) r_int rfl)))) rfl (by kernel_rfl) (by kernel_rfl) hio0 rfl) rfl))))) rfl)) rfl) (ss_one (s_ret (r_tup (r_acons (r_var S rfl (by kernel_rfl) rfl) (r_acons (r_var S rfl (by kernel_rfl) rfl) (r_acons r_non r_anil))))))))
abbrev st_leads_to : Stmt := top 54
abbrev N_leads_to : List Str := ["yard", "standing", "walk", "last", "pushes", "wrong"]
theorem ok_leads_to {c : Cn} {B : Heap} {Φ : Phi} {k n j : Nat} (H : Fw c B glo Φ sig sigc sigk sigf k) (hk : k ≤ j) : ∀ X, Sx c B N_leads_to (C8.fnScope st_leads_to) (fun _ => true) j X → ESs X [] glo Φ n false (C8.fnBody st_leads_to) f_leads_to.body [false, false, false, false, false, false] [false, false, false, false, false, false] [] [] := fun X S =>
  (ss_cons (s_low (F' := [false, false, false, false, false, false]) (s_asgT (r_fz (r_call S (H.fns "gone" 3 true rfl) hk (r_acons (r_var S rfl (by kernel_rfl) rfl) (r_acons (r_var S rfl (by kernel_rfl) rfl) (r_acons (r_var S rfl (by kernel_rfl) rfl) r_anil))) (by kernel_rfl))) (g_tup S (gs_cons (g_name S rfl (by kernel_rfl) (by kernel_rfl) hio0) (gs_cons (g_name S rfl (by kernel_rfl) (by kernel_rfl) hio0) (gs_cons (g_name S rfl (by kernel_rfl) (by kernel_rfl) hio0) gs_nil))))) rfl) (ss_one (s_ret (r_ite (t_of_cmp (o_is S) rfl (r_varB S rfl (by kernel_rfl) rfl) (r_eb r_non)) (r_low (F2 := [false, false, false, false, false, false]) (r_var S rfl (by kernel_rfl) rfl) rfl) (r_low (F2 := [false, false, false, false, false, false]) (r_fz r_non) rfl)))))
abbrev st_check_rows : Stmt := top 56
abbrev N_check_rows : List Str := ["rows", "wrong", "floor", "marks"]
theorem ok_check_rows {c : Cn} {B : Heap} {Φ : Phi} {k n j : Nat} (H : Fw c B glo Φ sig sigc sigk sigf k) (hk : k ≤ j) : ∀ X, Sx c B N_check_rows (C8.fnScope st_check_rows) (fun _ => true) j X → ESs X [] glo Φ n true (C8.fnBody st_check_rows) f_check_rows.body [false, false, false, false] [false, true, false, false] [] [] := fun X S =>
  (ss_cons (s_low (F' := [false, true, false, false]) (s_set S (r_call S (H.fns "wrong_row" 1 true rfl) hk (r_acons (r_var S rfl (by kernel_rfl) rfl) r_anil) (by kernel_rfl)) rfl (by kernel_rfl) (by kernel_rfl) hio0 rfl) rfl) (ss_cons (s_low (F' := [false, true, false, false]) (s_if (t_of_cmp (o_ne S) rfl (r_varB S rfl (by kernel_rfl) rfl) (r_eb (r_lst r_anil))) (ss_one s_raise) (ss_low (F' := [false, true, false, false]) ss_nil rfl)) rfl) (ss_cons (s_low (F' := [false, true, true, false]) (s_set S (r_call S (H.fns "cells_with" 2 true rfl) hk (r_acons (r_var S rfl (by kernel_rfl) rfl) (r_acons (r_tup (r_acons (r_glob S H.gl (by kernel_rfl) rfl rfl) (r_acons (r_glob S H.gl (by kernel_rfl) rfl rfl) r_anil))) r_anil)) (by kernel_rfl)) rfl (by kernel_rfl) (by kernel_rfl) hio0 rfl) rfl) (ss_cons (s_low (F' := [false, true, true, true]) (s_set S (r_call S (H.fns "cells_with" 2 true rfl) hk (r_acons (r_var S rfl (by kernel_rfl) rfl) (r_acons (r_tup (r_acons (r_glob S H.gl (by kernel_rfl) rfl rfl) r_anil)) r_anil)) (by kernel_rfl)) rfl (by kernel_rfl) (by kernel_rfl) hio0 rfl) rfl) (ss_one (s_low (F' := [false, true, false, false]) (s_if (r_tnot (r_tval (r_eb (r_call S (H.fns "are_enough" 2 false rfl) hk (r_acons (r_var S rfl (by kernel_rfl) rfl) (r_acons (r_var S rfl (by kernel_rfl) rfl) r_anil)) (by kernel_rfl))))) (ss_one s_raise) (ss_low (F' := [false, true, false, false]) ss_nil rfl)) rfl))))))
abbrev st_check_strength : Stmt := top 57
abbrev N_check_strength : List Str := ["strength"]
theorem ok_check_strength {c : Cn} {B : Heap} {Φ : Phi} {k n j : Nat} (H : Fw c B glo Φ sig sigc sigk sigf k) (hk : k ≤ j) : ∀ X, Sx c B N_check_strength (C8.fnScope st_check_strength) (fun _ => true) j X → ESs X [] glo Φ n true (C8.fnBody st_check_strength) f_check_strength.body [false] [false] [] [] := fun X S =>
  (ss_one (s_low (F' := [false]) (s_if (r_tnot (r_tval (r_eb (r_call S (H.fns "is_between" 3 false rfl) hk (r_acons (r_var S rfl (by kernel_rfl) rfl) (r_acons (r_glob S H.gl (by kernel_rfl) rfl rfl) (r_acons (r_glob S H.gl (by kernel_rfl) rfl rfl) r_anil))) (by kernel_rfl))))) (ss_one s_raise) (ss_low (F' := [false]) ss_nil rfl)) rfl))
abbrev st_check_yard : Stmt := top 59
abbrev N_check_yard : List Str := ["yard"]
theorem ok_check_yard {c : Cn} {B : Heap} {Φ : Phi} {k n j : Nat} (H : Fw c B glo Φ sig sigc sigk sigf k) (hk : k ≤ j) : ∀ X, Sx c B N_check_yard (C8.fnScope st_check_yard) (fun _ => true) j X → ESs X [] glo Φ n true (C8.fnBody st_check_yard) f_check_yard.body [false] [false] [] [] := fun X S =>
  (ss_one (s_low (F' := [false]) (s_if (r_tnot (r_tval (r_eb (r_isiC S H.cls rfl (by kernel_rfl) rfl (r_varB S rfl (by kernel_rfl) rfl) (by kernel_rfl) (H.bl "isinstance" rfl))))) (ss_one s_raise) (ss_low (F' := [false]) ss_nil rfl)) rfl))
abbrev st_check_standing : Stmt := top 60
abbrev N_check_standing : List Str := ["yard", "standing"]
theorem ok_check_standing {c : Cn} {B : Heap} {Φ : Phi} {k n j : Nat} (H : Fw c B glo Φ sig sigc sigk sigf k) (hk : k ≤ j) : ∀ X, Sx c B N_check_standing (C8.fnScope st_check_standing) (fun _ => true) j X → ESs X [] glo Φ n true (C8.fnBody st_check_standing) f_check_standing.body [false, false] [false, false] [] [] := fun X S =>
  (ss_one (s_low (F' := [false, false]) (s_if (r_tnot (r_tval (r_eb (r_call S (H.fns "is_standing" 2 false rfl) hk (r_acons (r_var S rfl (by kernel_rfl) rfl) (r_acons (r_var S rfl (by kernel_rfl) rfl) r_anil)) (by kernel_rfl))))) (ss_one s_raise) (ss_low (F' := [false, false]) ss_nil rfl)) rfl))
abbrev st_check_both : Stmt := top 61
abbrev N_check_both : List Str := ["yard", "standing"]
theorem ok_check_both {c : Cn} {B : Heap} {Φ : Phi} {k n j : Nat} (H : Fw c B glo Φ sig sigc sigk sigf k) (hk : k ≤ j) : ∀ X, Sx c B N_check_both (C8.fnScope st_check_both) (fun _ => true) j X → ESs X [] glo Φ n true (C8.fnBody st_check_both) f_check_both.body [false, false] [false, false] [] [] := fun X S =>
  (ss_cons (s_low (F' := [false, false]) (s_expr (r_call S (H.fns "check_yard" 1 true rfl) hk (r_acons (r_var S rfl (by kernel_rfl) rfl) r_anil) (by kernel_rfl))) rfl) (ss_one (s_low (F' := [false, false]) (s_expr (r_call S (H.fns "check_standing" 2 true rfl) hk (r_acons (r_var S rfl (by kernel_rfl) rfl) (r_acons (r_var S rfl (by kernel_rfl) rfl) r_anil)) (by kernel_rfl))) rfl)))
abbrev st_check_way : Stmt := top 63
abbrev N_check_way : List Str := ["way"]
theorem ok_check_way {c : Cn} {B : Heap} {Φ : Phi} {k n j : Nat} (H : Fw c B glo Φ sig sigc sigk sigf k) (hk : k ≤ j) : ∀ X, Sx c B N_check_way (C8.fnScope st_check_way) (fun _ => true) j X → ESs X [] glo Φ n true (C8.fnBody st_check_way) f_check_way.body [false] [false] [] [] := fun X S =>
  (ss_one (s_low (F' := [false]) (s_if (r_tnot (r_tval (r_eb (r_call S (H.fns "is_way" 1 false rfl) hk (r_acons (r_var S rfl (by kernel_rfl) rfl) r_anil) (by kernel_rfl))))) (ss_one s_raise) (ss_low (F' := [false]) ss_nil rfl)) rfl))
abbrev st_check_walk : Stmt := top 64
abbrev N_check_walk : List Str := ["walk", "wrong"]
theorem ok_check_walk {c : Cn} {B : Heap} {Φ : Phi} {k n j : Nat} (H : Fw c B glo Φ sig sigc sigk sigf k) (hk : k ≤ j) : ∀ X, Sx c B N_check_walk (C8.fnScope st_check_walk) (fun _ => true) j X → ESs X [] glo Φ n true (C8.fnBody st_check_walk) f_check_walk.body [false, false] [false, true] [] [] := fun X S =>
  (ss_cons (s_low (F' := [false, true]) (s_set S (r_call S (H.fns "wrong_way" 1 true rfl) hk (r_acons (r_var S rfl (by kernel_rfl) rfl) r_anil) (by kernel_rfl)) rfl (by kernel_rfl) (by kernel_rfl) hio0 rfl) rfl) (ss_one (s_low (F' := [false, true]) (s_if (t_of_cmp (o_ne S) rfl (r_varB S rfl (by kernel_rfl) rfl) (r_eb (r_lst r_anil))) (ss_one s_raise) (ss_low (F' := [false, true]) ss_nil rfl)) rfl)))
abbrev st_check_going : Stmt := top 65
abbrev N_check_going : List Str := ["yard", "standing", "walk"]
theorem ok_check_going {c : Cn} {B : Heap} {Φ : Phi} {k n j : Nat} (H : Fw c B glo Φ sig sigc sigk sigf k) (hk : k ≤ j) : ∀ X, Sx c B N_check_going (C8.fnScope st_check_going) (fun _ => true) j X → ESs X [] glo Φ n true (C8.fnBody st_check_going) f_check_going.body [false, false, false] [false, false, false] [] [] := fun X S =>
  (ss_cons (s_low (F' := [false, false, false]) (s_expr (r_call S (H.fns "check_both" 2 true rfl) hk (r_acons (r_var S rfl (by kernel_rfl) rfl) (r_acons (r_var S rfl (by kernel_rfl) rfl) r_anil)) (by kernel_rfl))) rfl) (ss_one (s_low (F' := [false, false, false]) (s_expr (r_call S (H.fns "check_walk" 1 true rfl) hk (r_acons (r_var S rfl (by kernel_rfl) rfl) r_anil) (by kernel_rfl))) rfl)))
abbrev st_step : Stmt := top 66
abbrev N_step : List Str := ["yard", "standing", "way", "found"]
theorem ok_step {c : Cn} {B : Heap} {Φ : Phi} {k n j : Nat} (H : Fw c B glo Φ sig sigc sigk sigf k) (hk : k ≤ j) : ∀ X, Sx c B N_step (C8.fnScope st_step) (fun _ => true) j X → ESs X [] glo Φ n false (C8.fnBody st_step) f_step.body [false, false, false, false] [false, false, false, false] [] [] := fun X S =>
  (ss_cons (s_low (F' := [false, false, false, false]) (s_expr (r_call S (H.fns "check_both" 2 true rfl) hk (r_acons (r_var S rfl (by kernel_rfl) rfl) (r_acons (r_var S rfl (by kernel_rfl) rfl) r_anil)) (by kernel_rfl))) rfl) (ss_cons (s_low (F' := [false, false, false, false]) (s_expr (r_call S (H.fns "check_way" 1 true rfl) hk (r_acons (r_var S rfl (by kernel_rfl) rfl) r_anil) (by kernel_rfl))) rfl) (ss_cons (s_low (F' := [false, false, false, true]) (s_set S (r_call S (H.fns "stepped" 3 true rfl) hk (r_acons (r_var S rfl (by kernel_rfl) rfl) (r_acons (r_var S rfl (by kernel_rfl) rfl) (r_acons (r_var S rfl (by kernel_rfl) rfl) r_anil))) (by kernel_rfl)) rfl (by kernel_rfl) (by kernel_rfl) hio0 rfl) rfl) (ss_one (s_ret (r_ite (t_of_cmp (o_is S) rfl (r_varB S rfl (by kernel_rfl) rfl) (r_eb r_non)) (r_low (F2 := [false, false, false, true]) (r_fz r_non) rfl) (r_low (F2 := [false, false, false, true]) (r_sub S (r_varB S rfl (by kernel_rfl) rfl) (r_eb r_int)) rfl)))))))
abbrev st_goes : Stmt := top 67
abbrev N_goes : List Str := ["yard", "standing", "walk"]
theorem ok_goes {c : Cn} {B : Heap} {Φ : Phi} {k n j : Nat} (H : Fw c B glo Φ sig sigc sigk sigf k) (hk : k ≤ j) : ∀ X, Sx c B N_goes (C8.fnScope st_goes) (fun _ => true) j X → ESs X [] glo Φ n false (C8.fnBody st_goes) f_goes.body [false, false, false] [false, false, false] [] [] := fun X S =>
  (ss_cons (s_low (F' := [false, false, false]) (s_expr (r_call S (H.fns "check_going" 3 true rfl) hk (r_acons (r_var S rfl (by kernel_rfl) rfl) (r_acons (r_var S rfl (by kernel_rfl) rfl) (r_acons (r_var S rfl (by kernel_rfl) rfl) r_anil))) (by kernel_rfl))) rfl) (ss_one (s_ret (r_call S (H.fns "leads_to" 3 false rfl) hk (r_acons (r_var S rfl (by kernel_rfl) rfl) (r_acons (r_var S rfl (by kernel_rfl) rfl) (r_acons (r_var S rfl (by kernel_rfl) rfl) r_anil))) (by kernel_rfl)))))
abbrev st_pushes_of : Stmt := top 68
abbrev N_pushes_of : List Str := ["yard", "standing", "walk", "last", "pushes", "wrong"]
theorem ok_pushes_of {c : Cn} {B : Heap} {Φ : Phi} {k n j : Nat} (H : Fw c B glo Φ sig sigc sigk sigf k) (hk : k ≤ j) : ∀ X, Sx c B N_pushes_of (C8.fnScope st_pushes_of) (fun _ => true) j X → ESs X [] glo Φ n false (C8.fnBody st_pushes_of) f_pushes_of.body [false, false, false, false, false, false] [false, false, false, false, false, false] [] [] := fun X S =>
  (ss_cons (s_low (F' := [false, false, false, false, false, false]) (s_expr (r_call S (H.fns "check_going" 3 true rfl) hk (r_acons (r_var S rfl (by kernel_rfl) rfl) (r_acons (r_var S rfl (by kernel_rfl) rfl) (r_acons (r_var S rfl (by kernel_rfl) rfl) r_anil))) (by kernel_rfl))) rfl) (ss_cons (s_low (F' := [false, false, false, false, false, false]) (s_asgT (r_fz (r_call S (H.fns "gone" 3 true rfl) hk (r_acons (r_var S rfl (by kernel_rfl) rfl) (r_acons (r_var S rfl (by kernel_rfl) rfl) (r_acons (r_var S rfl (by kernel_rfl) rfl) r_anil))) (by kernel_rfl))) (g_tup S (gs_cons (g_name S rfl (by kernel_rfl) (by kernel_rfl) hio0) (gs_cons (g_name S rfl (by kernel_rfl) (by kernel_rfl) hio0) (gs_cons (g_name S rfl (by kernel_rfl) (by kernel_rfl) hio0) gs_nil))))) rfl) (ss_one (s_ret (r_ite (t_of_cmp (o_is S) rfl (r_varB S rfl (by kernel_rfl) rfl) (r_eb r_non)) (r_low (F2 := [false, false, false, false, false, false]) (r_var S rfl (by kernel_rfl) rfl) rfl) (r_low (F2 := [false, false, false, false, false, false]) (r_fz r_non) rfl))))))
abbrev st_first_wrong : Stmt := top 69
abbrev N_first_wrong : List Str := ["yard", "standing", "walk"]
theorem ok_first_wrong {c : Cn} {B : Heap} {Φ : Phi} {k n j : Nat} (H : Fw c B glo Φ sig sigc sigk sigf k) (hk : k ≤ j) : ∀ X, Sx c B N_first_wrong (C8.fnScope st_first_wrong) (fun _ => true) j X → ESs X [] glo Φ n false (C8.fnBody st_first_wrong) f_first_wrong.body [false, false, false] [false, false, false] [] [] := fun X S =>
  (ss_cons (s_low (F' := [false, false, false]) (s_expr (r_call S (H.fns "check_going" 3 true rfl) hk (r_acons (r_var S rfl (by kernel_rfl) rfl) (r_acons (r_var S rfl (by kernel_rfl) rfl) (r_acons (r_var S rfl (by kernel_rfl) rfl) r_anil))) (by kernel_rfl))) rfl) (ss_one (s_ret (r_sub S (r_eb (r_call S (H.fns "gone" 3 true rfl) hk (r_acons (r_var S rfl (by kernel_rfl) rfl) (r_acons (r_var S rfl (by kernel_rfl) rfl) (r_acons (r_var S rfl (by kernel_rfl) rfl) r_anil))) (by kernel_rfl))) (r_eb r_int)))))
abbrev st__law_bowl : Stmt := top 71
abbrev N__law_bowl : List Str := ["script", "lap", "stir", "cell", "own"]
theorem ok__law_bowl {c : Cn} {B : Heap} {Φ : Phi} {k n j : Nat} (H : Fw c B glo Φ sig sigc sigk sigf k) (hk : k ≤ j) : ∀ X, Sx c B N__law_bowl (C8.fnScope st__law_bowl) (fun _ => true) j X → ESs X [] glo Φ n true (C8.fnBody st__law_bowl) f__law_bowl.body [false, false, false, false, false] [false, false, false, false, false] [] [] := fun X S =>
  (ss_cons (s_low (F' := [false, false, true, false, false]) (s_set S (r_bin (o_add S) (r_eb r_int) (r_eb (r_bin (o_mul S) (r_eb r_int) (r_varB S rfl (by kernel_rfl) rfl)))) rfl (by kernel_rfl) (by kernel_rfl) hio0 rfl) rfl) (ss_cons (s_low (F' := [false, false, true, false, false]) (s_for S (i_low (F' := [false, false, true, false, false]) (i_over (r_slice (r_varB S rfl (by kernel_rfl) rfl) r_onone (r_osome (r_eb r_int)))) rfl) (g_name S rfl (by kernel_rfl) (by kernel_rfl) hio0) (ss_low (F' := [false, false, true, false, false]) (ss_one (s_low (F' := [false, false, true, false, false]) (s_set S (r_bin (o_mod S) (r_eb (r_fnT S f_int (r_aconsB (r_eb (r_bin (o_add S) (r_eb (r_bin (o_add S) (r_eb (r_bin (o_mul S) (r_varB S rfl (by kernel_rfl) rfl) (r_eb r_int))) (r_eb (r_bin (o_mul S) (r_eb (r_bin (o_mod S) (r_eb (r_fnT S f_int (r_aconsB (r_varB S rfl (by kernel_rfl) rfl) r_anilB) (by kernel_rfl) (H.bl "int" rfl) rfl rfl)) (r_eb r_int))) (r_eb r_int))))) (r_eb r_int))) r_anilB) (by kernel_rfl) (H.bl "int" rfl) rfl rfl)) (r_eb r_int)) rfl (by kernel_rfl) (by kernel_rfl) hio0 rfl) rfl)) rfl)) rfl) (ss_cons (s_low (F' := [false, false, true, false, true]) (s_set S (r_ite (t_of_cmp (o_lt S) rfl (r_varB S rfl (by kernel_rfl) rfl) (r_eb (r_fn S f_len (r_aconsB (r_varB S rfl (by kernel_rfl) rfl) r_anilB) (by kernel_rfl) (H.bl "len" rfl) rfl rfl))) (r_low (F2 := [false, false, true, false, false]) (r_fnT S f_int (r_aconsB (r_eb (r_sub S (r_varB S rfl (by kernel_rfl) rfl) (r_varB S rfl (by kernel_rfl) rfl))) r_anilB) (by kernel_rfl) (H.bl "int" rfl) rfl rfl) rfl) (r_low (F2 := [false, false, true, false, false]) r_int rfl)) rfl (by kernel_rfl) (by kernel_rfl) hio0 rfl) rfl) (ss_cons (s_low (F' := [false, false, true, false, true]) (s_set S (r_bin (o_mod S) (r_eb (r_fnT S f_int (r_aconsB (r_eb (r_bin (o_add S) (r_eb (r_bin (o_add S) (r_eb (r_bin (o_mul S) (r_varB S rfl (by kernel_rfl) rfl) (r_eb r_int))) (r_eb (r_bin (o_mul S) (r_eb (r_bin (o_mod S) (r_varB S rfl (by kernel_rfl) rfl) (r_eb r_int))) (r_eb r_int))))) (r_eb r_int))) r_anilB) (by kernel_rfl) (H.bl "int" rfl) rfl rfl)) (r_eb r_int)) rfl (by kernel_rfl) (by kernel_rfl) hio0 rfl) rfl) (ss_one (s_ret (r_lst (r_acons (r_ite (r_tw (r_tor (t_of_cmp (o_lt S) rfl (r_varB S rfl (by kernel_rfl) rfl) (r_eb r_int)) (r_tone (t_of_cmp (o_ge S) rfl (r_varB S rfl (by kernel_rfl) rfl) (r_eb (r_bin (o_pow S) (r_eb r_int) (r_eb r_int))))))) (r_low (F2 := [false, false, true, false, true]) (r_fn S f_abs (r_aconsB (r_varB S rfl (by kernel_rfl) rfl) r_anilB) (by kernel_rfl) (H.bl "abs" rfl) rfl rfl) rfl) (r_low (F2 := [false, false, true, false, true]) r_int rfl)) (r_acons (r_var S rfl (by kernel_rfl) rfl) (r_acons r_int r_anil))))))))))
abbrev st__law_of : Stmt := top 73
abbrev N__law_of : List Str := ["bowl", "some"]
theorem ok__law_of {c : Cn} {B : Heap} {Φ : Phi} {k n j : Nat} (H : Fw c B glo Φ sig sigc sigk sigf k) (hk : k ≤ j) : ∀ X, Sx c B N__law_of (C8.fnScope st__law_of) (fun _ => true) j X → ESs X [] glo Φ n false (C8.fnBody st__law_of) f__law_of.body [false, false] [false, false] [] [] := fun X S =>
  (ss_one (s_ret (r_sub S (r_varB S rfl (by kernel_rfl) rfl) (r_eb (r_call S (H.fns "_law_draw" 2 true rfl) hk (r_acons (r_var S rfl (by kernel_rfl) rfl) (r_acons (r_fn S f_len (r_aconsB (r_varB S rfl (by kernel_rfl) rfl) r_anilB) (by kernel_rfl) (H.bl "len" rfl) rfl rfl) r_anil)) (by kernel_rfl))))))
abbrev st__law_same : Stmt := top 74
abbrev N__law_same : List Str := ["told", "due", "k"]
theorem ok__law_same {c : Cn} {B : Heap} {Φ : Phi} {k n j : Nat} (H : Fw c B glo Φ sig sigc sigk sigf k) (hk : k ≤ j) : ∀ X, Sx c B N__law_same (C8.fnScope st__law_same) (fun _ => true) j X → ESs X [] glo Φ n false (C8.fnBody st__law_same) f__law_same.body [false, false, false] [false, false, false] [] [] := fun X S =>
  (ss_cons (s_low (F' := [false, false, false]) (s_if (r_tval (r_eb (r_isi S H.cls (T := .tuple) rfl (pe_tyB S (by simp) rfl (by kernel_rfl) (H.bl "tuple" rfl)) (r_varB S rfl (by kernel_rfl) rfl) (by kernel_rfl) (H.bl "isinstance" rfl)))) (ss_cons (s_low (F' := [false, false, false]) (s_if (r_tw (r_tor (r_tnot (r_tval (r_eb (r_isi S H.cls (T := .tuple) rfl (pe_tyB S (by simp) rfl (by kernel_rfl) (H.bl "tuple" rfl)) (r_varB S rfl (by kernel_rfl) rfl) (by kernel_rfl) (H.bl "isinstance" rfl))))) (r_tone (t_of_cmp (o_ne S) rfl (r_eb (r_fn S f_len (r_aconsB (r_varB S rfl (by kernel_rfl) rfl) r_anilB) (by kernel_rfl) (H.bl "len" rfl) rfl rfl)) (r_eb (r_fn S f_len (r_aconsB (r_varB S rfl (by kernel_rfl) rfl) r_anilB) (by kernel_rfl) (H.bl "len" rfl) rfl rfl)))))) (ss_one (s_ret (r_fz r_bl))) (ss_low (F' := [false, false, false]) ss_nil rfl)) rfl) (ss_one (s_ret (r_fz (r_fn S (f_all S.calm) (r_aconsB (r_eb (r_comp S (own := [("k", 2)]) (i_lowB (F' := [false, false, false]) (i_toB (i_range1 S (r_eb (r_fn S f_len (r_aconsB (r_varB S rfl (by kernel_rfl) rfl) r_anilB) (by kernel_rfl) (H.bl "len" rfl) rfl rfl)) (by kernel_rfl) (H.bl "range" rfl))) rfl) (by kernel_rfl) rfl (fun X S => (g_name S rfl (by kernel_rfl) (by kernel_rfl) hio0)) (fun X S => ts_nil) (fun X S => (r_call S (H.fns "_law_same" 2 false rfl) hk (r_acons (r_sub S (r_varB S rfl (by kernel_rfl) rfl) (r_varB S rfl (by kernel_rfl) rfl)) (r_acons (r_sub S (r_varB S rfl (by kernel_rfl) rfl) (r_varB S rfl (by kernel_rfl) rfl)) r_anil)) (by kernel_rfl))) hio0 rfl rfl rfl)) r_anilB) (by kernel_rfl) (H.bl "all" rfl) rfl rfl))))) (ss_low (F' := [false, false, false]) ss_nil rfl)) rfl) (ss_cons (s_low (F' := [false, false, false]) (s_if (t_of_cmp (o_is S) rfl (r_varB S rfl (by kernel_rfl) rfl) (r_eb r_non)) (ss_one (s_ret (r_fz (r_cmp (o_is S) (r_varB S rfl (by kernel_rfl) rfl) (r_eb r_non))))) (ss_low (F' := [false, false, false]) ss_nil rfl)) rfl) (ss_cons (s_low (F' := [false, false, false]) (s_if (r_tval (r_eb (r_isi S H.cls (T := .bool) rfl (pe_tyB S (by simp) rfl (by kernel_rfl) (H.bl "bool" rfl)) (r_varB S rfl (by kernel_rfl) rfl) (by kernel_rfl) (H.bl "isinstance" rfl)))) (ss_one (s_ret (r_and (r_fz (r_isi S H.cls (T := .bool) rfl (pe_tyB S (by simp) rfl (by kernel_rfl) (H.bl "bool" rfl)) (r_varB S rfl (by kernel_rfl) rfl) (by kernel_rfl) (H.bl "isinstance" rfl))) (r_one (r_fz (r_cmp (o_eq S) (r_varB S rfl (by kernel_rfl) rfl) (r_varB S rfl (by kernel_rfl) rfl))))))) (ss_low (F' := [false, false, false]) ss_nil rfl)) rfl) (ss_cons (s_low (F' := [false, false, false]) (s_if (r_tval (r_eb (r_isi S H.cls (T := .int) rfl (pe_tyB S (by simp) rfl (by kernel_rfl) (H.bl "int" rfl)) (r_varB S rfl (by kernel_rfl) rfl) (by kernel_rfl) (H.bl "isinstance" rfl)))) (ss_one (s_ret (r_and (r_fz (r_isi S H.cls (T := .int) rfl (pe_tyB S (by simp) rfl (by kernel_rfl) (H.bl "int" rfl)) (r_varB S rfl (by kernel_rfl) rfl) (by kernel_rfl) (H.bl "isinstance" rfl))) (r_and (r_fz (r_not (r_eb (r_isi S H.cls (T := .bool) rfl (pe_tyB S (by simp) rfl (by kernel_rfl) (H.bl "bool" rfl)) (r_varB S rfl (by kernel_rfl) rfl) (by kernel_rfl) (H.bl "isinstance" rfl))))) (r_one (r_fz (r_cmp (o_eq S) (r_varB S rfl (by kernel_rfl) rfl) (r_varB S rfl (by kernel_rfl) rfl)))))))) (ss_low (F' := [false, false, false]) ss_nil rfl)) rfl) (ss_cons (s_low (F' := [false, false, false]) (s_if (r_tval (r_eb (r_isi S H.cls (T := .str) rfl (pe_tyB S (by simp) rfl (by kernel_rfl) (H.bl "str" rfl)) (r_varB S rfl (by kernel_rfl) rfl) (by kernel_rfl) (H.bl "isinstance" rfl)))) (ss_one (s_ret (r_and (r_fz (r_isi S H.cls (T := .str) rfl (pe_tyB S (by simp) rfl (by kernel_rfl) (H.bl "str" rfl)) (r_varB S rfl (by kernel_rfl) rfl) (by kernel_rfl) (H.bl "isinstance" rfl))) (r_one (r_fz (r_cmp (o_eq S) (r_varB S rfl (by kernel_rfl) rfl) (r_varB S rfl (by kernel_rfl) rfl))))))) (ss_low (F' := [false, false, false]) ss_nil rfl)) rfl) (ss_one (s_ret (r_fz (r_cmp (o_eq S) (r_varB S rfl (by kernel_rfl) rfl) (r_varB S rfl (by kernel_rfl) rfl))))))))))
abbrev st__law_rows : Stmt := top 75
abbrev N__law_rows : List Str := ["bowl", "most", "marks", "high", "wide", "cells", "many", "floor", "loose", "beside", "cell", "each", "left", "given", "turn", "i", "j"]
theorem ok__law_rows {c : Cn} {B : Heap} {Φ : Phi} {k n j : Nat} (H : Fw c B glo Φ sig sigc sigk sigf k) (hk : k ≤ j) : ∀ X, Sx c B N__law_rows (C8.fnScope st__law_rows) (fun _ => true) j X → ESs X [] glo Φ n true (C8.fnBody st__law_rows) f__law_rows.body [false, false, false, false, false, false, false, false, false, false, false, false, false, false, false, false, false] [false, false, false, false, false, false, false, false, false, false, false, false, false, false, false, false, false] [] [] := fun X S =>
  (ss_cons (s_low (F' := [false, false, false, false, false, false, false, false, false, false, false, false, false, false, false, false, false]) (s_parC S (r_call S (H.fns "_law_of" 2 false rfl) hk (r_acons (r_var S rfl (by kernel_rfl) rfl) (r_acons (r_tup (r_acons r_int (r_acons r_int (r_acons r_int (r_acons r_int (r_acons r_int (r_acons r_int r_anil))))))) r_anil)) (by kernel_rfl)) (r_call S (H.fns "_law_of" 2 false rfl) hk (r_acons (r_var S rfl (by kernel_rfl) rfl) (r_acons (r_tup (r_acons r_int (r_acons r_int (r_acons r_int (r_acons r_int (r_acons r_int (r_acons r_int r_anil))))))) r_anil)) (by kernel_rfl)) rfl rfl rfl (by kernel_rfl) (by kernel_rfl) rfl hio0 hio0 rfl (by kernel_rfl) (by kernel_rfl) (by kernel_rfl)) rfl) (ss_cons (s_low (F' := [false, false, false, false, false, true, true, false, false, false, false, false, false, false, false, false, false]) (s_par2 S (r_call S (H.fns "_law_grid" 2 true rfl) hk (r_acons (r_var S rfl (by kernel_rfl) rfl) (r_acons (r_var S rfl (by kernel_rfl) rfl) r_anil)) (by kernel_rfl)) (r_bin (o_add S) (r_eb r_int) (r_eb (r_call S (H.fns "_law_draw" 2 true rfl) hk (r_acons (r_var S rfl (by kernel_rfl) rfl) (r_acons (r_bin (o_sub S) (r_varB S rfl (by kernel_rfl) rfl) (r_eb r_int)) r_anil)) (by kernel_rfl)))) rfl rfl rfl (by kernel_rfl) (by kernel_rfl) hio0 hio0 rfl (by kernel_rfl) (by kernel_rfl) (by kernel_rfl) (by kernel_rfl) (by kernel_rfl) (by kernel_rfl)) rfl) (ss_cons (s_low (F' := [false, false, false, false, false, false, true, true, true, false, false, false, false, false, false, false, false]) (s_parC S (r_lst (r_acons (r_call S (H.fns "_law_of" 2 false rfl) hk (r_acons (r_var S rfl (by kernel_rfl) rfl) (r_acons (r_var S rfl (by kernel_rfl) rfl) r_anil)) (by kernel_rfl)) r_anil)) (r_cmp (o_eq S) (r_eb (r_call S (H.fns "_law_draw" 2 true rfl) hk (r_acons (r_var S rfl (by kernel_rfl) rfl) (r_acons r_int r_anil)) (by kernel_rfl))) (r_eb r_int)) rfl rfl rfl (by kernel_rfl) (by kernel_rfl) rfl hio0 hio0 rfl (by kernel_rfl) (by kernel_rfl) (by kernel_rfl)) rfl) (ss_cons (s_low (F' := [false, false, false, false, false, false, true, true, true, false, false, false, false, false, false, false, false]) (s_pre (F' := [false, false, false, false, false, false, true, true, true, false, false, false, false, false, false, false, false]) (s_while S (t_of_cmp (o_lt S) rfl (r_eb (r_fn S f_len (r_aconsB (r_varB S rfl (by kernel_rfl) rfl) r_anilB) (by kernel_rfl) (H.bl "len" rfl) rfl rfl)) (r_eb (r_fn S (f_min2 S.calm) (r_aconsB (r_varB S rfl (by kernel_rfl) rfl) (r_aconsB (r_eb (r_fn S f_len (r_aconsB (r_varB S rfl (by kernel_rfl) rfl) r_anilB) (by kernel_rfl) (H.bl "len" rfl) rfl rfl)) r_anilB)) (by kernel_rfl) (H.bl "min" rfl) rfl rfl))) (ss_low (F' := [false, false, false, false, false, false, true, true, true, false, false, false, false, false, false, false, false]) (ss_cons (s_low (F' := [false, false, false, false, false, false, true, true, true, true, false, false, false, false, false, false, false]) (s_setLc S (own := [("cell", 10)]) (i_lowB (F' := [false, false, false, false, false, false, true, true, true, false, false, false, false, false, false, false, false]) (i_overB (r_varB S rfl (by kernel_rfl) rfl)) rfl) (by kernel_rfl) rfl (fun X S => (g_name S rfl (by kernel_rfl) (by kernel_rfl) hio0)) (fun X S => (ts_one (r_tw (r_tand (t_of_cmp (o_notin S) rfl (r_varB S rfl (by kernel_rfl) rfl) (r_varB S rfl (by kernel_rfl) rfl)) (r_tone (t_of_cmp (o_ne S) rfl (r_eb (r_comp S (own := [("each", 11)]) (i_lowB (F' := [false, false, false, false, false, false, true, true, true, false, false, false, false, false, false, false, false]) (i_overB (r_varB S rfl (by kernel_rfl) rfl)) rfl) (by kernel_rfl) rfl (fun X S => (g_name S rfl (by kernel_rfl) (by kernel_rfl) hio0)) (fun X S => (ts_one (t_of_cmp (o_eq S) rfl (r_eb (r_bin (o_add S) (r_eb (r_fn S f_abs (r_aconsB (r_eb (r_bin (o_sub S) (r_eb (r_sub S (r_varB S rfl (by kernel_rfl) rfl) (r_eb r_int))) (r_eb (r_sub S (r_varB S rfl (by kernel_rfl) rfl) (r_eb r_int))))) r_anilB) (by kernel_rfl) (H.bl "abs" rfl) rfl rfl)) (r_eb (r_fn S f_abs (r_aconsB (r_eb (r_bin (o_sub S) (r_eb (r_sub S (r_varB S rfl (by kernel_rfl) rfl) (r_eb r_int))) (r_eb (r_sub S (r_varB S rfl (by kernel_rfl) rfl) (r_eb r_int))))) r_anilB) (by kernel_rfl) (H.bl "abs" rfl) rfl rfl)))) (r_eb r_int)))) (fun X S => (r_var S rfl (by kernel_rfl) rfl)) hio0 rfl rfl rfl)) (r_eb (r_lst r_anil)))))))) (fun X S => (r_var S rfl (by kernel_rfl) rfl)) hio0 rfl rfl rfl rfl (by kernel_rfl) hio0 rfl rfl rfl rfl) rfl) (ss_one (s_low (F' := [false, false, false, false, false, false, true, true, true, false, false, false, false, false, false, false, false]) (s_append S rfl (by kernel_rfl) rfl (r_call S (H.fns "_law_of" 2 false rfl) hk (r_acons (r_var S rfl (by kernel_rfl) rfl) (r_acons (r_ite (r_tval (r_varB S rfl (by kernel_rfl) rfl)) (r_low (F2 := [false, false, false, false, false, false, true, true, true, false, false, false, false, false, false, false, false]) (r_fz (r_comp S (own := [("cell", 10)]) (i_lowB (F' := [false, false, false, false, false, false, true, true, true, true, false, false, false, false, false, false, false]) (i_overB (r_varB S rfl (by kernel_rfl) rfl)) rfl) (by kernel_rfl) rfl (fun X S => (g_name S rfl (by kernel_rfl) (by kernel_rfl) hio0)) (fun X S => (ts_one (t_of_cmp (o_notin S) rfl (r_varB S rfl (by kernel_rfl) rfl) (r_varB S rfl (by kernel_rfl) rfl)))) (fun X S => (r_var S rfl (by kernel_rfl) rfl)) hio0 rfl rfl rfl)) rfl) (r_low (F2 := [false, false, false, false, false, false, true, true, true, false, false, false, false, false, false, false, false]) (r_var S rfl (by kernel_rfl) rfl) rfl)) r_anil)) (by kernel_rfl)) rfl rfl) rfl))) rfl)) rfl) rfl) (ss_cons (s_low (F' := [false, false, false, false, false, false, true, true, true, false, false, false, true, true, false, false, false]) (s_parC S (r_fn S (f_sorted S.hu) (r_aconsB (r_varB S rfl (by kernel_rfl) rfl) r_anilB) (by kernel_rfl) (H.bl "sorted" rfl) rfl rfl) (r_lst r_anil) rfl rfl rfl (by kernel_rfl) (by kernel_rfl) rfl hio0 hio0 rfl (by kernel_rfl) (by kernel_rfl) (by kernel_rfl)) rfl) (ss_cons (s_low (F' := [false, false, false, false, false, false, true, true, true, false, false, false, true, true, false, false, false]) (s_for S (i_low (F' := [false, false, false, false, false, false, true, true, true, false, false, false, true, true, false, false, false]) (i_range1 S (r_eb (r_bin (o_add S) (r_eb r_int) (r_eb (r_call S (H.fns "_law_draw" 2 true rfl) hk (r_acons (r_var S rfl (by kernel_rfl) rfl) (r_acons (r_fn S (f_min2 S.calm) (r_aconsB (r_varB S rfl (by kernel_rfl) rfl) (r_aconsB (r_eb (r_bin (o_sub S) (r_eb (r_fn S f_len (r_aconsB (r_varB S rfl (by kernel_rfl) rfl) r_anilB) (by kernel_rfl) (H.bl "len" rfl) rfl rfl)) (r_eb r_int))) r_anilB)) (by kernel_rfl) (H.bl "min" rfl) rfl rfl) r_anil)) (by kernel_rfl))))) (by kernel_rfl) (H.bl "range" rfl)) rfl) (g_name S rfl (by kernel_rfl) (by kernel_rfl) hio0) (ss_low (F' := [false, false, false, false, false, false, true, true, true, false, false, false, true, true, false, false, false]) (ss_one (s_low (F' := [false, false, false, false, false, false, true, true, true, false, false, false, true, true, false, false, false]) (s_appendX S rfl (by kernel_rfl) rfl (x_popK S rfl (by kernel_rfl) rfl (r_eb (r_call S (H.fns "_law_draw" 2 true rfl) hk (r_acons (r_var S rfl (by kernel_rfl) rfl) (r_acons (r_fn S f_len (r_aconsB (r_varB S rfl (by kernel_rfl) rfl) r_anilB) (by kernel_rfl) (H.bl "len" rfl) rfl rfl) r_anil)) (by kernel_rfl))) rfl rfl) (keepX_pop rfl) rfl rfl) rfl)) rfl)) rfl) (ss_one (s_ret (r_fnT S f_tuple (r_aconsB (r_eb (r_comp S (own := [("i", 15)]) (i_lowB (F' := [false, false, false, false, false, false, true, true, true, false, false, false, true, true, false, false, false]) (i_toB (i_range1 S (r_varB S rfl (by kernel_rfl) rfl) (by kernel_rfl) (H.bl "range" rfl))) rfl) (by kernel_rfl) rfl (fun X S => (g_name S rfl (by kernel_rfl) (by kernel_rfl) hio0)) (fun X S => ts_nil) (fun X S => (r_fz (r_join S (r_eb (r_str (by decide))) (r_eb (r_comp S (own := [("j", 16)]) (i_lowB (F' := [false, false, false, false, false, false, true, true, true, false, false, false, true, true, false, false, false]) (i_toB (i_range1 S (r_varB S rfl (by kernel_rfl) rfl) (by kernel_rfl) (H.bl "range" rfl))) rfl) (by kernel_rfl) rfl (fun X S => (g_name S rfl (by kernel_rfl) (by kernel_rfl) hio0)) (fun X S => ts_nil) (fun X S => (r_fz (r_ite (t_of_cmp (o_in S) rfl (r_eb (r_tup (r_acons (r_var S rfl (by kernel_rfl) rfl) (r_acons (r_var S rfl (by kernel_rfl) rfl) r_anil)))) (r_varB S rfl (by kernel_rfl) rfl)) (r_low (F2 := [false, false, false, false, false, false, true, true, true, false, false, false, true, true, false, false, false]) (r_str (by decide)) rfl) (r_low (F2 := [false, false, false, false, false, false, true, true, true, false, false, false, true, true, false, false, false]) (r_ite (t_of_cmp (o_in S) rfl (r_eb (r_tup (r_acons (r_var S rfl (by kernel_rfl) rfl) (r_acons (r_var S rfl (by kernel_rfl) rfl) r_anil)))) (r_varB S rfl (by kernel_rfl) rfl)) (r_low (F2 := [false, false, false, false, false, false, true, true, true, false, false, false, true, true, false, false, false]) (r_str (by decide)) rfl) (r_low (F2 := [false, false, false, false, false, false, true, true, true, false, false, false, true, true, false, false, false]) (r_str (by decide)) rfl)) rfl)))) hio0 rfl rfl rfl))))) hio0 rfl rfl rfl)) r_anilB) (by kernel_rfl) (H.bl "tuple" rfl) rfl rfl)))))))))
abbrev st__law_grid : Stmt := top 76
abbrev N__law_grid : List Str := ["high", "wide", "found", "i", "j"]
theorem ok__law_grid {c : Cn} {B : Heap} {Φ : Phi} {k n j : Nat} (H : Fw c B glo Φ sig sigc sigk sigf k) (hk : k ≤ j) : ∀ X, Sx c B N__law_grid (C8.fnScope st__law_grid) (fun _ => true) j X → ESs X [] glo Φ n true (C8.fnBody st__law_grid) f__law_grid.body [false, false, false, false, false] [false, false, false, false, false] [] [] := fun X S =>
  (ss_cons (s_low (F' := [false, false, true, false, false]) (s_set S (r_lst r_anil) rfl (by kernel_rfl) (by kernel_rfl) hio0 rfl) rfl) (ss_cons (s_low (F' := [false, false, true, false, false]) (s_for S (i_low (F' := [false, false, true, false, false]) (i_range1 S (r_varB S rfl (by kernel_rfl) rfl) (by kernel_rfl) (H.bl "range" rfl)) rfl) (g_name S rfl (by kernel_rfl) (by kernel_rfl) hio0) (ss_low (F' := [false, false, true, false, false]) (ss_one (s_low (F' := [false, false, true, false, false]) (s_set S (r_bin (o_add S) (r_varB S rfl (by kernel_rfl) rfl) (r_eb (r_comp S (own := [("j", 4)]) (i_lowB (F' := [false, false, true, false, false]) (i_toB (i_range1 S (r_varB S rfl (by kernel_rfl) rfl) (by kernel_rfl) (H.bl "range" rfl))) rfl) (by kernel_rfl) rfl (fun X S => (g_name S rfl (by kernel_rfl) (by kernel_rfl) hio0)) (fun X S => ts_nil) (fun X S => (r_fz (r_tup (r_acons (r_var S rfl (by kernel_rfl) rfl) (r_acons (r_var S rfl (by kernel_rfl) rfl) r_anil))))) hio0 rfl rfl rfl))) rfl (by kernel_rfl) (by kernel_rfl) hio0 rfl) rfl)) rfl)) rfl) (ss_one (s_retMv S rfl (by kernel_rfl) rfl rfl))))
abbrev st__law_signs : Stmt := top 77
abbrev N__law_signs : List Str := ["yard", "signs", "i", "j"]
theorem ok__law_signs {c : Cn} {B : Heap} {Φ : Phi} {k n j : Nat} (H : Fw c B glo Φ sig sigc sigk sigf k) (hk : k ≤ j) : ∀ X, Sx c B N__law_signs (C8.fnScope st__law_signs) (fun _ => true) j X → ESs X [] glo Φ n true (C8.fnBody st__law_signs) f__law_signs.body [false, false, false, false] [false, false, false, false] [] [] := fun X S =>
  (ss_one (s_ret (r_comp S (own := [("i", 2), ("j", 3)]) (i_lowB (F' := [false, false, false, false]) (i_toB (i_over (r_call S (H.fns "_law_grid" 2 true rfl) hk (r_acons (r_fn S f_len (r_aconsB (r_eb (r_sub S (r_varB S rfl (by kernel_rfl) rfl) (r_eb r_int))) r_anilB) (by kernel_rfl) (H.bl "len" rfl) rfl rfl) (r_acons (r_fn S f_len (r_aconsB (r_eb (r_sub S (r_eb (r_sub S (r_varB S rfl (by kernel_rfl) rfl) (r_eb r_int))) (r_eb r_int))) r_anilB) (by kernel_rfl) (H.bl "len" rfl) rfl rfl) r_anil)) (by kernel_rfl)))) rfl) (by kernel_rfl) rfl (fun X S => (g_tup S (gs_cons (g_name S rfl (by kernel_rfl) (by kernel_rfl) hio0) (gs_cons (g_name S rfl (by kernel_rfl) (by kernel_rfl) hio0) gs_nil)))) (fun X S => (ts_one (t_of_cmp (o_in S) rfl (r_eb (r_sub S (r_eb (r_sub S (r_eb (r_sub S (r_varB S rfl (by kernel_rfl) rfl) (r_eb r_int))) (r_varB S rfl (by kernel_rfl) rfl))) (r_varB S rfl (by kernel_rfl) rfl))) (r_varB S rfl (by kernel_rfl) rfl)))) (fun X S => (r_fz (r_tup (r_acons (r_var S rfl (by kernel_rfl) rfl) (r_acons (r_var S rfl (by kernel_rfl) rfl) r_anil))))) hio0 rfl rfl rfl)))
abbrev st__law_floor : Stmt := top 78
abbrev N__law_floor : List Str := ["yard"]
theorem ok__law_floor {c : Cn} {B : Heap} {Φ : Phi} {k n j : Nat} (H : Fw c B glo Φ sig sigc sigk sigf k) (hk : k ≤ j) : ∀ X, Sx c B N__law_floor (C8.fnScope st__law_floor) (fun _ => true) j X → ESs X [] glo Φ n true (C8.fnBody st__law_floor) f__law_floor.body [false] [false] [] [] := fun X S =>
  (ss_one (s_ret (r_call S (H.fns "_law_signs" 2 true rfl) hk (r_acons (r_var S rfl (by kernel_rfl) rfl) (r_acons (r_str (by decide)) r_anil)) (by kernel_rfl))))
abbrev st__law_marks : Stmt := top 79
abbrev N__law_marks : List Str := ["yard"]
theorem ok__law_marks {c : Cn} {B : Heap} {Φ : Phi} {k n j : Nat} (H : Fw c B glo Φ sig sigc sigk sigf k) (hk : k ≤ j) : ∀ X, Sx c B N__law_marks (C8.fnScope st__law_marks) (fun _ => true) j X → ESs X [] glo Φ n true (C8.fnBody st__law_marks) f__law_marks.body [false] [false] [] [] := fun X S =>
  (ss_one (s_ret (r_call S (H.fns "_law_signs" 2 true rfl) hk (r_acons (r_var S rfl (by kernel_rfl) rfl) (r_acons (r_str (by decide)) r_anil)) (by kernel_rfl))))
abbrev st__law_beyond : Stmt := top 80
abbrev N__law_beyond : List Str := ["cell", "way", "gap"]
theorem ok__law_beyond {c : Cn} {B : Heap} {Φ : Phi} {k n j : Nat} (H : Fw c B glo Φ sig sigc sigk sigf k) (hk : k ≤ j) : ∀ X, Sx c B N__law_beyond (C8.fnScope st__law_beyond) (fun _ => true) j X → ESs X [] glo Φ n true (C8.fnBody st__law_beyond) f__law_beyond.body [false, false, false] [false, false, false] [] [] := fun X S =>
  (ss_cons (s_low (F' := [false, false, false]) (s_set S (r_sub S (r_eb (r_disp S (p_cons (r_tup (r_acons (r_bin (o_sub S) (r_eb r_int) (r_eb r_int)) (r_acons r_int r_anil))) (p_cons (r_tup (r_acons r_int (r_acons r_int r_anil))) (p_cons (r_tup (r_acons r_int (r_acons r_int r_anil))) (p_cons (r_tup (r_acons r_int (r_acons (r_bin (o_sub S) (r_eb r_int) (r_eb r_int)) r_anil))) p_nil)))) (fun _ => rfl) rfl rfl rfl rfl rfl rfl)) (r_varB S rfl (by kernel_rfl) rfl)) rfl (by kernel_rfl) (by kernel_rfl) hio0 rfl) rfl) (ss_one (s_ret (r_tup (r_acons (r_bin (o_add S) (r_eb (r_sub S (r_varB S rfl (by kernel_rfl) rfl) (r_eb r_int))) (r_eb (r_sub S (r_varB S rfl (by kernel_rfl) rfl) (r_eb r_int)))) (r_acons (r_bin (o_add S) (r_eb (r_sub S (r_varB S rfl (by kernel_rfl) rfl) (r_eb r_int))) (r_eb (r_sub S (r_varB S rfl (by kernel_rfl) rfl) (r_eb r_int)))) r_anil))))))
abbrev st__law_move : Stmt := top 81
abbrev N__law_move : List Str := ["yard", "standing", "way", "floor", "boxes", "hand", "row", "here", "moved_v", "box"]
theorem ok__law_move {c : Cn} {B : Heap} {Φ : Phi} {k n j : Nat} (H : Fw c B glo Φ sig sigc sigk sigf k) (hk : k ≤ j) : ∀ X, Sx c B N__law_move (C8.fnScope st__law_move) (fun _ => true) j X → ESs X [] glo Φ n true (C8.fnBody st__law_move) f__law_move.body [false, false, false, false, false, false, false, false, false, false] [false, false, false, false, false, false, false, false, false, false] [] [] := fun X S =>
  (ss_cons (s_low (F' := [false, false, false, true, true, false, false, false, false, false]) (s_par2 S (r_call S (H.fns "_law_floor" 1 true rfl) hk (r_acons (r_var S rfl (by kernel_rfl) rfl) r_anil) (by kernel_rfl)) (r_fnT S f_list (r_aconsB (r_eb (r_sub S (r_varB S rfl (by kernel_rfl) rfl) (r_eb r_int))) r_anilB) (by kernel_rfl) (H.bl "list" rfl) rfl rfl) rfl rfl rfl (by kernel_rfl) (by kernel_rfl) hio0 hio0 rfl (by kernel_rfl) (by kernel_rfl) (by kernel_rfl) (by kernel_rfl) (by kernel_rfl) (by kernel_rfl)) rfl) (ss_cons (s_low (F' := [false, false, false, true, true, true, true, false, false, false]) (s_parC S (r_call S (H.fns "_law_beyond" 2 true rfl) hk (r_acons (r_sub S (r_varB S rfl (by kernel_rfl) rfl) (r_eb r_int)) (r_acons (r_var S rfl (by kernel_rfl) rfl) r_anil)) (by kernel_rfl)) (r_lst r_anil) rfl rfl rfl (by kernel_rfl) (by kernel_rfl) rfl hio0 hio0 rfl (by kernel_rfl) (by kernel_rfl) (by kernel_rfl)) rfl) (ss_cons (s_low (F' := [false, false, false, true, true, true, true, false, false, false]) (s_if (t_of_cmp (o_notin S) rfl (r_varB S rfl (by kernel_rfl) rfl) (r_varB S rfl (by kernel_rfl) rfl)) (ss_one (s_ret r_non)) (ss_low (F' := [false, false, false, true, true, true, true, false, false, false]) ss_nil rfl)) rfl) (ss_cons (s_low (F' := [false, false, false, true, true, false, true, false, false, false]) (s_set S (r_var S rfl (by kernel_rfl) rfl) rfl (by kernel_rfl) (by kernel_rfl) hio0 rfl) rfl) (ss_cons (s_low (F' := [false, false, false, true, true, false, true, false, false, false]) (s_pre (F' := [false, false, false, true, true, false, true, false, false, false]) (s_while S (t_of_cmp (o_in S) rfl (r_varB S rfl (by kernel_rfl) rfl) (r_varB S rfl (by kernel_rfl) rfl)) (ss_low (F' := [false, false, false, true, true, false, true, false, false, false]) (ss_cons (s_low (F' := [false, false, false, true, true, false, true, false, false, false]) (s_append S rfl (by kernel_rfl) rfl (r_var S rfl (by kernel_rfl) rfl) rfl rfl) rfl) (ss_one (s_low (F' := [false, false, false, true, true, false, true, true, false, false]) (s_set S (r_call S (H.fns "_law_beyond" 2 true rfl) hk (r_acons (r_var S rfl (by kernel_rfl) rfl) (r_acons (r_var S rfl (by kernel_rfl) rfl) r_anil)) (by kernel_rfl)) rfl (by kernel_rfl) (by kernel_rfl) hio0 rfl) rfl))) rfl)) rfl) rfl) (ss_cons (s_low (F' := [false, false, false, true, true, false, true, false, false, false]) (s_if (r_tw (r_tand (t_of_cmp (o_ne S) rfl (r_varB S rfl (by kernel_rfl) rfl) (r_eb (r_lst r_anil))) (r_tone (r_tw (r_tor (t_of_cmp (o_gt S) rfl (r_eb (r_fn S f_len (r_aconsB (r_varB S rfl (by kernel_rfl) rfl) r_anilB) (by kernel_rfl) (H.bl "len" rfl) rfl rfl)) (r_eb (r_sub S (r_varB S rfl (by kernel_rfl) rfl) (r_eb r_int)))) (r_tone (t_of_cmp (o_notin S) rfl (r_varB S rfl (by kernel_rfl) rfl) (r_varB S rfl (by kernel_rfl) rfl)))))))) (ss_one (s_ret r_non)) (ss_low (F' := [false, false, false, true, true, false, true, false, false, false]) ss_nil rfl)) rfl) (ss_cons (s_low (F' := [false, false, false, true, true, false, true, false, true, false]) (s_set S (r_bin (o_add S) (r_eb (r_comp S (own := [("box", 9)]) (i_lowB (F' := [false, false, false, true, true, false, true, false, false, false]) (i_overB (r_varB S rfl (by kernel_rfl) rfl)) rfl) (by kernel_rfl) rfl (fun X S => (g_name S rfl (by kernel_rfl) (by kernel_rfl) hio0)) (fun X S => (ts_one (t_of_cmp (o_notin S) rfl (r_varB S rfl (by kernel_rfl) rfl) (r_varB S rfl (by kernel_rfl) rfl)))) (fun X S => (r_var S rfl (by kernel_rfl) rfl)) hio0 rfl rfl rfl)) (r_eb (r_comp S (own := [("box", 9)]) (i_lowB (F' := [false, false, false, true, true, false, true, false, false, false]) (i_overB (r_varB S rfl (by kernel_rfl) rfl)) rfl) (by kernel_rfl) rfl (fun X S => (g_name S rfl (by kernel_rfl) (by kernel_rfl) hio0)) (fun X S => ts_nil) (fun X S => (r_fz (r_call S (H.fns "_law_beyond" 2 true rfl) hk (r_acons (r_var S rfl (by kernel_rfl) rfl) (r_acons (r_var S rfl (by kernel_rfl) rfl) r_anil)) (by kernel_rfl)))) hio0 rfl rfl rfl))) rfl (by kernel_rfl) (by kernel_rfl) hio0 rfl) rfl) (ss_one (s_ret (r_tup (r_acons (r_tup (r_acons (r_var S rfl (by kernel_rfl) rfl) (r_acons (r_fnT S f_tuple (r_aconsB (r_eb (r_fn S (f_sorted S.hu) (r_aconsB (r_varB S rfl (by kernel_rfl) rfl) r_anilB) (by kernel_rfl) (H.bl "sorted" rfl) rfl rfl)) r_anilB) (by kernel_rfl) (H.bl "tuple" rfl) rfl rfl) r_anil))) (r_acons (r_cmp (o_ne S) (r_varB S rfl (by kernel_rfl) rfl) (r_eb (r_lst r_anil))) r_anil))))))))))))
abbrev st__law_standing : Stmt := top 82
abbrev N__law_standing : List Str := ["bowl", "yard", "left", "boxes", "mark"]
theorem ok__law_standing {c : Cn} {B : Heap} {Φ : Phi} {k n j : Nat} (H : Fw c B glo Φ sig sigc sigk sigf k) (hk : k ≤ j) : ∀ X, Sx c B N__law_standing (C8.fnScope st__law_standing) (fun _ => true) j X → ESs X [] glo Φ n true (C8.fnBody st__law_standing) f__law_standing.body [false, false, false, false, false] [false, false, false, false, false] [] [] := fun X S =>
  (ss_cons (s_low (F' := [false, false, true, true, false]) (s_par2 S (r_call S (H.fns "_law_floor" 1 true rfl) hk (r_acons (r_var S rfl (by kernel_rfl) rfl) r_anil) (by kernel_rfl)) (r_lst r_anil) rfl rfl rfl (by kernel_rfl) (by kernel_rfl) hio0 hio0 rfl (by kernel_rfl) (by kernel_rfl) (by kernel_rfl) (by kernel_rfl) (by kernel_rfl) (by kernel_rfl)) rfl) (ss_cons (s_low (F' := [false, false, true, true, false]) (s_for S (i_low (F' := [false, false, true, true, false]) (i_over (r_call S (H.fns "_law_marks" 1 true rfl) hk (r_acons (r_var S rfl (by kernel_rfl) rfl) r_anil) (by kernel_rfl))) rfl) (g_name S rfl (by kernel_rfl) (by kernel_rfl) hio0) (ss_low (F' := [false, false, true, true, false]) (ss_one (s_low (F' := [false, false, true, true, false]) (s_appendX S rfl (by kernel_rfl) rfl (x_popK S rfl (by kernel_rfl) rfl (r_eb (r_call S (H.fns "_law_draw" 2 true rfl) hk (r_acons (r_var S rfl (by kernel_rfl) rfl) (r_acons (r_fn S f_len (r_aconsB (r_varB S rfl (by kernel_rfl) rfl) r_anilB) (by kernel_rfl) (H.bl "len" rfl) rfl rfl) r_anil)) (by kernel_rfl))) rfl rfl) (keepX_pop rfl) rfl rfl) rfl)) rfl)) rfl) (ss_one (s_ret (r_tup (r_acons (r_call S (H.fns "_law_of" 2 false rfl) hk (r_acons (r_var S rfl (by kernel_rfl) rfl) (r_acons (r_var S rfl (by kernel_rfl) rfl) r_anil)) (by kernel_rfl)) (r_acons (r_fnT S f_tuple (r_aconsB (r_eb (r_fn S (f_sorted S.hu) (r_aconsB (r_varB S rfl (by kernel_rfl) rfl) r_anilB) (by kernel_rfl) (H.bl "sorted" rfl) rfl rfl)) r_anilB) (by kernel_rfl) (H.bl "tuple" rfl) rfl rfl) r_anil)))))))
abbrev st__law_walk : Stmt := top 83
abbrev N__law_walk : List Str := ["bowl", "yard", "standing", "most", "walk", "turn", "ways", "way", "told"]
theorem ok__law_walk {c : Cn} {B : Heap} {Φ : Phi} {k n j : Nat} (H : Fw c B glo Φ sig sigc sigk sigf k) (hk : k ≤ j) : ∀ X, Sx c B N__law_walk (C8.fnScope st__law_walk) (fun _ => true) j X → ESs X [] glo Φ n true (C8.fnBody st__law_walk) f__law_walk.body [false, false, false, false, false, false, false, false, false] [false, false, false, false, false, false, false, false, false] [] [] := fun X S =>
  (ss_cons (s_low (F' := [false, false, false, false, true, false, false, false, false]) (s_set S (r_str (by decide)) rfl (by kernel_rfl) (by kernel_rfl) hio0 rfl) rfl) (ss_cons (s_low (F' := [false, false, false, false, true, false, false, false, false]) (s_for S (i_low (F' := [false, false, false, false, true, false, false, false, false]) (i_range1 S (r_eb (r_call S (H.fns "_law_draw" 2 true rfl) hk (r_acons (r_var S rfl (by kernel_rfl) rfl) (r_acons (r_bin (o_add S) (r_varB S rfl (by kernel_rfl) rfl) (r_eb r_int)) r_anil)) (by kernel_rfl))) (by kernel_rfl) (H.bl "range" rfl)) rfl) (g_name S rfl (by kernel_rfl) (by kernel_rfl) hio0) (ss_low (F' := [false, false, false, false, true, false, false, false, false]) (ss_cons (s_low (F' := [false, false, false, false, true, false, true, false, false]) (s_setLc S (own := [("way", 7)]) (i_lowB (F' := [false, false, false, false, true, false, false, false, false]) (i_toB (i_over (r_str (by decide)))) rfl) (by kernel_rfl) rfl (fun X S => (g_name S rfl (by kernel_rfl) (by kernel_rfl) hio0)) (fun X S => (ts_one (t_of_cmp (o_isnot S) rfl (r_eb (r_call S (H.fns "_law_move" 3 true rfl) hk (r_acons (r_var S rfl (by kernel_rfl) rfl) (r_acons (r_var S rfl (by kernel_rfl) rfl) (r_acons (r_var S rfl (by kernel_rfl) rfl) r_anil))) (by kernel_rfl))) (r_eb r_non)))) (fun X S => (r_var S rfl (by kernel_rfl) rfl)) hio0 rfl rfl rfl rfl (by kernel_rfl) hio0 rfl rfl rfl rfl) rfl) (ss_cons (s_low (F' := [false, false, false, false, true, false, false, false, false]) (s_set S (r_ite (r_tw (r_tand (t_of_cmp (o_ne S) rfl (r_varB S rfl (by kernel_rfl) rfl) (r_eb (r_lst r_anil))) (r_tone (t_of_cmp (o_gt S) rfl (r_eb (r_call S (H.fns "_law_draw" 2 true rfl) hk (r_acons (r_var S rfl (by kernel_rfl) rfl) (r_acons r_int r_anil)) (by kernel_rfl))) (r_eb r_int))))) (r_low (F2 := [false, false, false, false, true, false, false, false, false]) (r_call S (H.fns "_law_of" 2 false rfl) hk (r_acons (r_var S rfl (by kernel_rfl) rfl) (r_acons (r_var S rfl (by kernel_rfl) rfl) r_anil)) (by kernel_rfl)) rfl) (r_low (F2 := [false, false, false, false, true, false, false, false, false]) (r_call S (H.fns "_law_of" 2 false rfl) hk (r_acons (r_var S rfl (by kernel_rfl) rfl) (r_acons (r_str (by decide)) r_anil)) (by kernel_rfl)) rfl)) rfl (by kernel_rfl) (by kernel_rfl) hio0 rfl) rfl) (ss_cons (s_low (F' := [false, false, false, false, true, false, false, false, true]) (s_set S (r_call S (H.fns "_law_move" 3 true rfl) hk (r_acons (r_var S rfl (by kernel_rfl) rfl) (r_acons (r_var S rfl (by kernel_rfl) rfl) (r_acons (r_var S rfl (by kernel_rfl) rfl) r_anil))) (by kernel_rfl)) rfl (by kernel_rfl) (by kernel_rfl) hio0 rfl) rfl) (ss_one (s_low (F' := [false, false, false, false, true, false, false, false, true]) (s_parC S (r_bin (o_add S) (r_varB S rfl (by kernel_rfl) rfl) (r_varB S rfl (by kernel_rfl) rfl)) (r_ite (t_of_cmp (o_isnot S) rfl (r_varB S rfl (by kernel_rfl) rfl) (r_eb r_non)) (r_low (F2 := [false, false, false, false, true, false, false, false, true]) (r_sub S (r_varB S rfl (by kernel_rfl) rfl) (r_eb r_int)) rfl) (r_low (F2 := [false, false, false, false, true, false, false, false, true]) (r_var S rfl (by kernel_rfl) rfl) rfl)) rfl rfl rfl (by kernel_rfl) (by kernel_rfl) rfl hio0 hio0 rfl (by kernel_rfl) (by kernel_rfl) (by kernel_rfl)) rfl))))) rfl)) rfl) (ss_one (s_retMv S rfl (by kernel_rfl) rfl rfl))))
abbrev st__law_right : Stmt := top 84
abbrev N__law_right : List Str := ["bowl", "lap", "rows", "yards", "strength", "standing", "walk", "told", "wrong", "yard", "k", "many", "lane", "boxes", "due"]
theorem ok__law_right {c : Cn} {B : Heap} {Φ : Phi} {k n j : Nat} (H : Fw c B glo Φ sig sigc sigk sigf k) (hk : k ≤ j) : ∀ X, Sx c B N__law_right (C8.fnScope st__law_right) (fun _ => true) j X → ESs X [] glo Φ n true (C8.fnBody st__law_right) f__law_right.body [false, false, false, false, false, false, false, false, false, false, false, false, false, false, false] [false, false, false, false, false, false, false, false, false, false, false, false, false, false, false] [] [] := fun X S =>
  (ss_cons (s_low (F' := [false, false, false, false, false, false, false, false, false, false, false, false, false, false, false]) (s_for S (i_low (F' := [false, false, false, false, false, false, false, false, false, false, false, false, false, false, false]) (i_range1 S (r_eb r_int) (by kernel_rfl) (H.bl "range" rfl)) rfl) (g_name S rfl (by kernel_rfl) (by kernel_rfl) hio0) (ss_low (F' := [false, false, false, false, false, false, false, false, false, false, false, false, false, false, false]) (ss_cons (s_low (F' := [false, false, true, false, false, false, false, false, false, false, false, false, false, false, false]) (s_set S (r_call S (H.fns "_law_rows" 3 true rfl) hk (r_acons (r_var S rfl (by kernel_rfl) rfl) (r_acons r_int (r_acons r_int r_anil))) (by kernel_rfl)) rfl (by kernel_rfl) (by kernel_rfl) hio0 rfl) rfl) (ss_cons (s_low (F' := [false, false, false, true, false, false, false, false, false, false, false, false, false, false, false]) (s_setLc S (own := [("strength", 4)]) (i_lowB (F' := [false, false, false, false, false, false, false, false, false, false, false, false, false, false, false]) (i_toB (i_over (r_tup (r_acons r_int (r_acons r_int (r_acons r_int r_anil)))))) rfl) (by kernel_rfl) rfl (fun X S => (g_name S rfl (by kernel_rfl) (by kernel_rfl) hio0)) (fun X S => ts_nil) (fun X S => (r_mk S (H.mks "Yard" 2 rfl) hk (r_acons (r_var S rfl (by kernel_rfl) rfl) (r_acons (r_var S rfl (by kernel_rfl) rfl) r_anil)) (by kernel_rfl))) hio0 rfl rfl rfl rfl (by kernel_rfl) hio0 rfl rfl rfl rfl) rfl) (ss_cons (s_low (F' := [false, false, false, true, false, true, false, false, false, false, false, false, false, false, false]) (s_set S (r_call S (H.fns "_law_standing" 2 true rfl) hk (r_acons (r_var S rfl (by kernel_rfl) rfl) (r_acons (r_tup (r_acons (r_var S rfl (by kernel_rfl) rfl) (r_acons r_int r_anil))) r_anil)) (by kernel_rfl)) rfl (by kernel_rfl) (by kernel_rfl) hio0 rfl) rfl) (ss_cons (s_low (F' := [false, false, false, true, false, false, true, false, false, false, false, false, false, false, false]) (s_set S (r_call S (H.fns "_law_walk" 4 true rfl) hk (r_acons (r_var S rfl (by kernel_rfl) rfl) (r_acons (r_tup (r_acons (r_var S rfl (by kernel_rfl) rfl) (r_acons (r_call S (H.fns "_law_of" 2 false rfl) hk (r_acons (r_var S rfl (by kernel_rfl) rfl) (r_acons (r_tup (r_acons r_int (r_acons r_int (r_acons r_int r_anil)))) r_anil)) (by kernel_rfl)) r_anil))) (r_acons (r_var S rfl (by kernel_rfl) rfl) (r_acons r_int r_anil)))) (by kernel_rfl)) rfl (by kernel_rfl) (by kernel_rfl) hio0 rfl) rfl) (ss_cons (s_low (F' := [false, false, false, true, false, false, false, true, true, false, false, false, false, false, false]) (s_par2 S (r_comp S (own := [("yard", 9)]) (i_lowB (F' := [false, false, false, true, false, false, false, false, false, false, false, false, false, false, false]) (i_overB (r_varB S rfl (by kernel_rfl) rfl)) rfl) (by kernel_rfl) rfl (fun X S => (g_name S rfl (by kernel_rfl) (by kernel_rfl) hio0)) (fun X S => ts_nil) (fun X S => (r_call S (H.fns "goes" 3 false rfl) hk (r_acons (r_var S rfl (by kernel_rfl) rfl) (r_acons (r_var S rfl (by kernel_rfl) rfl) (r_acons (r_var S rfl (by kernel_rfl) rfl) r_anil))) (by kernel_rfl))) hio0 rfl rfl rfl) (r_comp S (own := [("yard", 9)]) (i_lowB (F' := [false, false, false, true, false, false, false, false, false, false, false, false, false, false, false]) (i_overB (r_varB S rfl (by kernel_rfl) rfl)) rfl) (by kernel_rfl) rfl (fun X S => (g_name S rfl (by kernel_rfl) (by kernel_rfl) hio0)) (fun X S => ts_nil) (fun X S => (r_call S (H.fns "first_wrong" 3 false rfl) hk (r_acons (r_var S rfl (by kernel_rfl) rfl) (r_acons (r_var S rfl (by kernel_rfl) rfl) (r_acons (r_var S rfl (by kernel_rfl) rfl) r_anil))) (by kernel_rfl))) hio0 rfl rfl rfl) rfl rfl rfl (by kernel_rfl) (by kernel_rfl) hio0 hio0 rfl (by kernel_rfl) (by kernel_rfl) (by kernel_rfl) (by kernel_rfl) (by kernel_rfl) (by kernel_rfl)) rfl) (ss_one (s_low (F' := [false, false, false, true, false, false, false, true, true, false, false, false, false, false, false]) (s_for S (i_low (F' := [false, false, false, true, false, false, false, true, true, false, false, false, false, false, false]) (i_over (r_tup (r_acons r_int (r_acons r_int r_anil)))) rfl) (g_name S rfl (by kernel_rfl) (by kernel_rfl) hio0) (ss_low (F' := [false, false, false, true, false, false, false, true, true, false, false, false, false, false, false]) (ss_cons (s_low (F' := [false, false, false, true, false, false, false, true, true, false, false, false, false, false, false]) (s_if (r_tw (r_tand (t_of_cmp (o_isnot S) rfl (r_eb (r_sub S (r_varB S rfl (by kernel_rfl) rfl) (r_varB S rfl (by kernel_rfl) rfl))) (r_eb r_non)) (r_tone (r_tw (r_tor (t_of_cmp (o_ne S) rfl (r_eb (r_sub S (r_varB S rfl (by kernel_rfl) rfl) (r_eb (r_bin (o_add S) (r_varB S rfl (by kernel_rfl) rfl) (r_eb r_int))))) (r_eb (r_sub S (r_varB S rfl (by kernel_rfl) rfl) (r_varB S rfl (by kernel_rfl) rfl)))) (r_tone (t_of_cmp (o_ne S) rfl (r_eb (r_call S (H.fns "pushes_of" 3 false rfl) hk (r_acons (r_sub S (r_varB S rfl (by kernel_rfl) rfl) (r_varB S rfl (by kernel_rfl) rfl)) (r_acons (r_var S rfl (by kernel_rfl) rfl) (r_acons (r_var S rfl (by kernel_rfl) rfl) r_anil))) (by kernel_rfl))) (r_eb (r_call S (H.fns "pushes_of" 3 false rfl) hk (r_acons (r_sub S (r_varB S rfl (by kernel_rfl) rfl) (r_eb (r_bin (o_add S) (r_varB S rfl (by kernel_rfl) rfl) (r_eb r_int)))) (r_acons (r_var S rfl (by kernel_rfl) rfl) (r_acons (r_var S rfl (by kernel_rfl) rfl) r_anil))) (by kernel_rfl)))))))))) (ss_one (s_ret r_bl)) (ss_low (F' := [false, false, false, true, false, false, false, true, true, false, false, false, false, false, false]) ss_nil rfl)) rfl) (ss_one (s_low (F' := [false, false, false, true, false, false, false, true, true, false, false, false, false, false, false]) (s_if (r_tw (r_tand (t_of_cmp (o_isnot S) rfl (r_eb (r_sub S (r_varB S rfl (by kernel_rfl) rfl) (r_eb (r_bin (o_add S) (r_varB S rfl (by kernel_rfl) rfl) (r_eb r_int))))) (r_eb r_non)) (r_tone (r_tw (r_tor (t_of_cmp (o_is S) rfl (r_eb (r_sub S (r_varB S rfl (by kernel_rfl) rfl) (r_varB S rfl (by kernel_rfl) rfl))) (r_eb r_non)) (r_tone (t_of_cmp (o_gt S) rfl (r_eb (r_sub S (r_varB S rfl (by kernel_rfl) rfl) (r_varB S rfl (by kernel_rfl) rfl))) (r_eb (r_sub S (r_varB S rfl (by kernel_rfl) rfl) (r_eb (r_bin (o_add S) (r_varB S rfl (by kernel_rfl) rfl) (r_eb r_int)))))))))))) (ss_one (s_ret r_bl)) (ss_low (F' := [false, false, false, true, false, false, false, true, true, false, false, false, false, false, false]) ss_nil rfl)) rfl))) rfl)) rfl))))))) rfl)) rfl) (ss_cons (s_low (F' := [false, false, false, false, false, false, false, false, false, false, false, true, false, false, false]) (s_set S (r_bin (o_add S) (r_eb r_int) (r_eb (r_call S (H.fns "_law_draw" 2 true rfl) hk (r_acons (r_var S rfl (by kernel_rfl) rfl) (r_acons r_int r_anil)) (by kernel_rfl)))) rfl (by kernel_rfl) (by kernel_rfl) hio0 rfl) rfl) (ss_cons (s_low (F' := [false, false, false, false, false, false, false, false, false, false, false, true, true, false, false]) (s_set S (r_bin (o_add S) (r_eb (r_bin (o_add S) (r_eb (r_str (by decide))) (r_eb (r_bin (o_mul S) (r_eb (r_str (by decide))) (r_varB S rfl (by kernel_rfl) rfl))))) (r_eb (r_str (by decide)))) rfl (by kernel_rfl) (by kernel_rfl) hio0 rfl) rfl) (ss_cons (s_low (F' := [false, false, false, false, false, false, false, false, false, false, false, true, false, false, false]) (s_for S (i_low (F' := [false, false, false, false, false, false, false, false, false, false, false, true, false, false, false]) (i_over (r_tup (r_acons r_int (r_acons r_int (r_acons r_int r_anil))))) rfl) (g_name S rfl (by kernel_rfl) (by kernel_rfl) hio0) (ss_low (F' := [false, false, false, false, false, false, false, false, false, false, false, true, false, false, false]) (ss_cons (s_low (F' := [false, false, false, false, false, false, false, false, false, false, false, true, false, true, false]) (s_set S (r_fnT S f_tuple (r_aconsB (r_eb (r_comp S (own := [("k", 10)]) (i_lowB (F' := [false, false, false, false, false, false, false, false, false, false, false, true, false, false, false]) (i_toB (i_range1 S (r_varB S rfl (by kernel_rfl) rfl) (by kernel_rfl) (H.bl "range" rfl))) rfl) (by kernel_rfl) rfl (fun X S => (g_name S rfl (by kernel_rfl) (by kernel_rfl) hio0)) (fun X S => ts_nil) (fun X S => (r_fz (r_tup (r_acons r_int (r_acons (r_bin (o_add S) (r_eb r_int) (r_varB S rfl (by kernel_rfl) rfl)) r_anil))))) hio0 rfl rfl rfl)) r_anilB) (by kernel_rfl) (H.bl "tuple" rfl) rfl rfl) rfl (by kernel_rfl) (by kernel_rfl) hio0 rfl) rfl) (ss_cons (s_low (F' := [false, false, false, false, false, false, false, false, false, false, false, true, false, true, true]) (s_set S (r_ite (t_of_cmp (o_le S) rfl (r_varB S rfl (by kernel_rfl) rfl) (r_varB S rfl (by kernel_rfl) rfl)) (r_low (F2 := [false, false, false, false, false, false, false, false, false, false, false, true, false, true, false]) (r_tup (r_acons (r_tup (r_acons r_int (r_acons r_int r_anil))) (r_acons (r_fnT S f_tuple (r_aconsB (r_eb (r_comp S (own := [("k", 10)]) (i_lowB (F' := [false, false, false, false, false, false, false, false, false, false, false, true, false, true, false]) (i_toB (i_range1 S (r_varB S rfl (by kernel_rfl) rfl) (by kernel_rfl) (H.bl "range" rfl))) rfl) (by kernel_rfl) rfl (fun X S => (g_name S rfl (by kernel_rfl) (by kernel_rfl) hio0)) (fun X S => ts_nil) (fun X S => (r_fz (r_tup (r_acons r_int (r_acons (r_bin (o_add S) (r_eb r_int) (r_varB S rfl (by kernel_rfl) rfl)) r_anil))))) hio0 rfl rfl rfl)) r_anilB) (by kernel_rfl) (H.bl "tuple" rfl) rfl rfl) r_anil))) rfl) (r_low (F2 := [false, false, false, false, false, false, false, false, false, false, false, true, false, true, false]) r_non rfl)) rfl (by kernel_rfl) (by kernel_rfl) hio0 rfl) rfl) (ss_one (s_low (F' := [false, false, false, false, false, false, false, false, false, false, false, true, false, false, false]) (s_if (r_tnot (r_tval (r_eb (r_call S (H.fns "_law_same" 2 false rfl) hk (r_acons (r_call S (H.fns "step" 3 false rfl) hk (r_acons (r_mk S (H.mks "Yard" 2 rfl) hk (r_acons (r_tup (r_acons (r_var S rfl (by kernel_rfl) rfl) r_anil)) (r_acons (r_var S rfl (by kernel_rfl) rfl) r_anil)) (by kernel_rfl)) (r_acons (r_tup (r_acons (r_tup (r_acons r_int (r_acons r_int r_anil))) (r_acons (r_var S rfl (by kernel_rfl) rfl) r_anil))) (r_acons (r_str (by decide)) r_anil))) (by kernel_rfl)) (r_acons (r_var S rfl (by kernel_rfl) rfl) r_anil)) (by kernel_rfl))))) (ss_one (s_ret r_bl)) (ss_low (F' := [false, false, false, false, false, false, false, false, false, false, false, true, false, false, false]) ss_nil rfl)) rfl)))) rfl)) rfl) (ss_one (s_ret r_bl))))))
abbrev st_law : Stmt := top 85
abbrev N_law : List Str := ["script", "lap"]
theorem ok_law {c : Cn} {B : Heap} {Φ : Phi} {k n j : Nat} (H : Fw c B glo Φ sig sigc sigk sigf k) (hk : k ≤ j) : ∀ X, Sx c B N_law (C8.fnScope st_law) (fun _ => true) j X → ESs X [] glo Φ n true (C8.fnBody st_law) f_law.body [false, false] [false, false] [] [] := fun X S =>
  (ss_one (s_ret (r_fn S (f_all S.calm) (r_aconsB (r_eb (r_comp S (own := [("lap", 1)]) (i_lowB (F' := [false, false]) (i_toB (i_range1 S (r_eb (r_fn S (f_max2 S.calm) (r_aconsB (r_eb r_int) (r_aconsB (r_eb (r_fn S (f_min2 S.calm) (r_aconsB (r_eb (r_fn S f_len (r_aconsB (r_varB S rfl (by kernel_rfl) rfl) r_anilB) (by kernel_rfl) (H.bl "len" rfl) rfl rfl)) (r_aconsB (r_eb r_int) r_anilB)) (by kernel_rfl) (H.bl "min" rfl) rfl rfl)) r_anilB)) (by kernel_rfl) (H.bl "max" rfl) rfl rfl)) (by kernel_rfl) (H.bl "range" rfl))) rfl) (by kernel_rfl) rfl (fun X S => (g_name S rfl (by kernel_rfl) (by kernel_rfl) hio0)) (fun X S => ts_nil) (fun X S => (r_fz (r_call S (H.fns "_law_right" 1 true rfl) hk (r_acons (r_call S (H.fns "_law_bowl" 2 false rfl) hk (r_acons (r_var S rfl (by kernel_rfl) rfl) (r_acons (r_var S rfl (by kernel_rfl) rfl) r_anil)) (by kernel_rfl)) r_anil) (by kernel_rfl)))) hio0 rfl rfl rfl)) r_anilB) (by kernel_rfl) (H.bl "all" rfl) rfl rfl)))
abbrev st_Yard___init__ : Stmt := inClass (top 58) 0
abbrev N_Yard___init__ : List Str := ["self", "rows", "strength"]
theorem ok_Yard___init__ {c : Cn} {B : Heap} {Φ : Phi} {k n j : Nat} (H : Fw c B glo Φ sig sigc sigk sigf k) (hk : k ≤ j) : ∀ v X, Sx c B N_Yard___init__ (C8.fnScope st_Yard___init__) (fun _ => true) j X → ESs X [(0, v, [])] glo Φ n false (C8.fnBody st_Yard___init__) f_Yard___init__.body [true, false, false] [true, false, false] [] [] := fun v X S =>
  (ss_cons (s_low (F' := [true, false, false]) (s_expr (r_call S (H.fns "check_rows" 1 true rfl) hk (r_acons (r_var S rfl (by kernel_rfl) rfl) r_anil) (by kernel_rfl))) rfl) (ss_cons (s_low (F' := [true, false, false]) (s_expr (r_call S (H.fns "check_strength" 1 true rfl) hk (r_acons (r_var S rfl (by kernel_rfl) rfl) r_anil) (by kernel_rfl))) rfl) (ss_cons (s_low (F' := [true, false, false]) (s_setAttr S H.cls (r_var S rfl (by kernel_rfl) rfl) rfl (by kernel_rfl) rfl rfl rfl rfl) rfl) (ss_cons (s_low (F' := [true, false, false]) (s_setAttr S H.cls (r_var S rfl (by kernel_rfl) rfl) rfl (by kernel_rfl) rfl rfl rfl rfl) rfl) (ss_cons (s_low (F' := [true, false, false]) (s_setAttr S H.cls (r_tup (r_acons (r_var S rfl (by kernel_rfl) rfl) (r_acons (r_var S rfl (by kernel_rfl) rfl) r_anil))) rfl (by kernel_rfl) rfl rfl rfl rfl) rfl) (ss_cons (s_low (F' := [true, false, false]) (s_setAttr S H.cls (r_call S (H.fns "cells_with" 2 true rfl) hk (r_acons (r_var S rfl (by kernel_rfl) rfl) (r_acons (r_tup (r_acons (r_glob S H.gl (by kernel_rfl) rfl rfl) (r_acons (r_glob S H.gl (by kernel_rfl) rfl rfl) r_anil))) r_anil)) (by kernel_rfl)) rfl (by kernel_rfl) rfl rfl rfl rfl) rfl) (ss_cons (s_low (F' := [true, false, false]) (s_setAttr S H.cls (r_call S (H.fns "cells_with" 2 true rfl) hk (r_acons (r_var S rfl (by kernel_rfl) rfl) (r_acons (r_tup (r_acons (r_glob S H.gl (by kernel_rfl) rfl rfl) r_anil)) r_anil)) (by kernel_rfl)) rfl (by kernel_rfl) rfl rfl rfl rfl) rfl) (ss_one (s_low (F' := [true, false, false]) (s_setAttr S H.cls (r_call S (H.fns "nexts_of" 1 true rfl) hk (r_acons (r_attr S H.cls (r_varB S rfl (by kernel_rfl) rfl)) r_anil) (by kernel_rfl)) rfl (by kernel_rfl) rfl rfl rfl rfl) rfl)))))))))
abbrev st_Yard___eq__ : Stmt := inClass (top 58) 1
abbrev N_Yard___eq__ : List Str := ["self", "other"]
theorem ok_Yard___eq__ {c : Cn} {B : Heap} {Φ : Phi} {k n j : Nat} (H : Fw c B glo Φ sig sigc sigk sigf k) (hk : k ≤ j) : ∀ X, Sx c B N_Yard___eq__ (C8.fnScope st_Yard___eq__) (fun _ => true) j X → ESs X [] glo Φ n false (C8.fnBody st_Yard___eq__) f_Yard___eq__.body [false, false] [false, false] [] [] := fun X S =>
  (ss_one (s_ret (r_and (r_fz (r_isiC S H.cls rfl (by kernel_rfl) rfl (r_varB S rfl (by kernel_rfl) rfl) (by kernel_rfl) (H.bl "isinstance" rfl))) (r_one (r_fz (r_cmp (o_eq S) (r_eb (r_attr S H.cls (r_varB S rfl (by kernel_rfl) rfl))) (r_eb (r_attr S H.cls (r_varB S rfl (by kernel_rfl) rfl)))))))))
abbrev st__law_draw : Stmt := top 72
abbrev N__law_draw : List Str := ["bowl", "many", "figure", "turn"]
theorem ok__law_draw {c : Cn} {B : Heap} {k : Nat} (bl : ∀ x, bltN.contains x = true → c.mg x = none) : DrawBody c B N__law_draw (C8.fnScope st__law_draw) k (C8.fnBody st__law_draw) := fun X S => by
  have V0 : ∀ {pos : Pos}, PE X (.Name "bowl" pos) (tVar 0) := pe_var (by rw [S.nN]; rfl) (S.vis (by kernel_rfl))
  have V1 : ∀ {pos : Pos}, PE X (.Name "many" pos) (tVar 1) := pe_var (by rw [S.nN]; rfl) (S.vis (by kernel_rfl))
  have V2 : ∀ {pos : Pos}, PE X (.Name "figure" pos) (tVar 2) := pe_var (by rw [S.nN]; rfl) (S.vis (by kernel_rfl))
  have V3 : ∀ {pos : Pos}, PE X (.Name "turn" pos) (tVar 3) := pe_var (by rw [S.nN]; rfl) (S.vis (by kernel_rfl))
  have gi : Gl X "int" := S.gl (by kernel_rfl)
  have mi : X.mg "int" = none := by rw [S.mg]; exact bl "int" rfl
  have gd : Gl X "divmod" := S.gl (by kernel_rfl)
  have md : X.mg "divmod" = none := by rw [S.mg]; exact bl "divmod" rfl
  refine ⟨_, pss_cons (ps_if (pt_cmpR op_gt (pe_ix ix_list V0 pe_int (by intro _ _; rfl)) pe_int rfl)
    (pss_cons (ps_asg (pe_callB call_divmod gd md rfl (pa_cons (pe_ix ix_list V0 pe_int (by intro _ _; rfl)) (pa_cons V1 pa_nil))) (pg_tup S.calm (pgs_cons (pg_sub V0 pe_int set_list) (pgs_cons (pg_name (i := 2) S.xnd (by rw [S.nN]; rfl) (S.loc (by kernel_rfl)) (.inl (S.fn _ rfl))) pgs_nil)))) (pss_one (ps_ret V2))) pss_nil)
    (pss_cons (ps_asg (pe_op op_add (pe_ix ix_list V0 pe_int (by intro _ _; rfl)) pe_int) (pg_sub V0 pe_int set_list))
    (pss_cons (ps_set (i := 3) S.xnd (by rw [S.nN]; rfl) (S.loc (by kernel_rfl)) (pe_op op_mod (pe_callTy call_int1 gi mi rfl (pa_cons (pe_op op_add (pe_op op_mul (pe_ix ix_list V0 pe_int (by intro _ _; rfl)) pe_int) (pe_op op_mul pe_int (pe_ix ix_list V0 pe_int (by intro _ _; rfl)))) pa_nil)) pe_int) (hf := .inl (S.fn _ rfl)))
    (pss_cons (ps_asg (pe_op op_mod (pe_callTy call_int1 gi mi rfl (pa_cons (pe_op op_add (pe_op op_mul V3 (pe_op op_add (pe_op op_mod (pe_callTy call_int1 gi mi rfl (pa_cons V3 pa_nil)) pe_int) pe_int)) (pe_op op_mul pe_int (pe_ix ix_list V0 pe_int (by intro _ _; rfl)))) pa_nil)) pe_int) (pg_sub V0 pe_int set_list))
    (pss_one (ps_ret (pe_op op_mod (pe_callTy call_int1 gi mi rfl (pa_cons (pe_op op_fdiv (pe_ix ix_list V0 pe_int (by intro _ _; rfl)) pe_int) pa_nil)) V1)))))), fun H a n i j l D e h0 h1 q => ?_⟩
  refine ⟨_, rfl, a, _, 0, .int i, rfl, rfl, .inl (.inl e), rfl, i, 0, rfl, rfl, _, rfl, ?_⟩
  refine ite2 (fun hi => ?_) (fun hi => ?_)
  · refine ⟨_, rfl, a, _, 0, .int i, rfl, rfl, .inl (.inl e), rfl, _, rfl, i, n, rfl, ⟨h0, h1⟩, fun p hp => ⟨p, [.int (i / n), .int (i % n)], rfl, .inl (.inl upd_same), rfl, ?_⟩⟩
    have npa : a ≠ p := ne_of_none e hp
    have e1 : upd H p (.tup [.int (i / n), .int (i % n)]) a = some (.lst [.int i, .int j, .int l]) := by rw [upd_ne npa]; exact e
    refine ⟨_, _, rfl, ⟨_, rfl, a, _, 0, 0, rfl, rfl, e1, rfl, ?_⟩⟩
    refine ⟨_, _, rfl, ⟨rfl, _, rfl, ?_⟩⟩
    exact q (i % n) (i / n) j l _ (Int.emod_nonneg _ (by omega)) (Int.emod_lt_of_pos _ h0) upd_same fun b hb => by
      by_cases z : b = p
      · subst z
        exact .inr ⟨hp, _, by rw [upd_ne hb]; exact upd_same⟩
      · exact .inl (by rw [upd_ne hb, upd_ne z])
  · refine ⟨_, rfl, a, _, 2, .int l, rfl, rfl, .inl (.inl e), rfl, l, 1, rfl, rfl, _, rfl, a, _, 2, 2, rfl, rfl, e, rfl, ?_⟩
    have e1 : upd H a (.lst ([V.int i, .int j, .int l].set 2 (.int (l + 1)))) a = some (.lst [.int i, .int j, .int (l + 1)]) := upd_same
    have k1 : ∀ b, b ≠ a → upd H a (.lst ([V.int i, .int j, .int l].set 2 (.int (l + 1)))) b = H b := fun b hb => upd_ne hb
    generalize upd H a (.lst ([V.int i, .int j, .int l].set 2 (.int (l + 1)))) = H1 at e1 k1 ⊢
    generalize l + 1 = l1 at e1 ⊢
    refine ⟨_, rfl, a, _, 1, .int j, rfl, rfl, .inl (.inl e1), rfl, j, _, rfl, rfl, .inr ⟨by decide, by decide⟩, _, rfl, a, _, 2, .int l1, rfl, rfl, .inl (.inl e1), rfl, _, l1, rfl, rfl, .inl ⟨by decide, by decide⟩, _, _, rfl, rfl, .inl ⟨_, rfl, _, _, rfl, rfl, (show (0 : Int) < _ by decide), ?_⟩⟩
    refine ⟨_, rfl, _, rfl, .inl ⟨_, rfl, _, _, rfl, rfl, (show (0 : Int) < _ by decide), _, _, rfl, rfl, _, _, rfl, rfl, .inr ?_, ?_⟩⟩
    · constructor <;> omega
    · refine ⟨_, rfl, a, _, 2, .int l1, rfl, rfl, .inl (.inl e1), rfl, _, l1, rfl, rfl, .inl ⟨by decide, by decide⟩, _, _, rfl, rfl, .inl ⟨_, rfl, _, _, rfl, rfl, (show (0 : Int) < _ by decide), ?_⟩⟩
      refine ⟨_, rfl, a, _, 1, 1, rfl, rfl, e1, rfl, ?_⟩
      refine ⟨_, rfl, a, _, 1, .int _, rfl, rfl, .inl (.inl upd_same), rfl, _, _, rfl, rfl, ⟨by decide, by decide⟩, .inl ⟨_, rfl, _, rfl, _, n, rfl, rfl, h0, ?_⟩⟩
      exact q _ i _ l1 _ (Int.emod_nonneg _ (by omega)) (Int.emod_lt_of_pos _ h0) upd_same fun b hb => .inl (by rw [upd_ne hb]; exact k1 b hb)

structure Tx (c : Cn) : Prop where
  d_is_whole : DefF c "is_whole" st_is_whole ["value"]
  d_is_between : DefF c "is_between" st_is_between ["value", "least", "most"]
  d_is_up_to : DefF c "is_up_to" st_is_up_to ["value", "most"]
  d_is_one_of : DefF c "is_one_of" st_is_one_of ["value", "words"]
  d_is_tuple_of : DefF c "is_tuple_of" st_is_tuple_of ["value", "many"]
  d_is_pair : DefF c "is_pair" st_is_pair ["value"]
  d_are_below : DefF c "are_below" st_are_below ["ahead", "value"]
  d_wrong_in : DefF c "wrong_in" st_wrong_in ["value", "least", "most", "is_right"]
  d_are_all : DefF c "are_all" st_are_all ["value", "least", "most", "is_right"]
  d_is_row : DefF c "is_row" st_is_row ["value"]
  d_is_row_beside : DefF c "is_row_beside" st_is_row_beside ["ahead", "value"]
  d_wrong_row : DefF c "wrong_row" st_wrong_row ["rows"]
  d_cells_with : DefF c "cells_with" st_cells_with ["rows", "signs"]
  d_are_enough : DefF c "are_enough" st_are_enough ["floor", "marks"]
  d_around : DefF c "around" st_around ["cell", "way"]
  d_nexts_of : DefF c "nexts_of" st_nexts_of ["floor"]
  d_is_cell : DefF c "is_cell" st_is_cell ["yard", "value"]
  d_are_cells : DefM c "are_cells" st_are_cells ["yard", "value", "least", "most"] 265
  d_is_standing : DefF c "is_standing" st_is_standing ["yard", "value"]
  d_is_way : DefF c "is_way" st_is_way ["value"]
  d_row_of_boxes : DefF c "row_of_boxes" st_row_of_boxes ["yard", "boxes", "cell", "way"]
  d_moved : DefF c "moved" st_moved ["boxes", "gone", "come"]
  d_boxes_pushed : DefF c "boxes_pushed" st_boxes_pushed ["yard", "boxes", "cell", "way"]
  d_stepped : DefF c "stepped" st_stepped ["yard", "standing", "way"]
  d_wrong_way : DefF c "wrong_way" st_wrong_way ["value"]
  d_gone : DefF c "gone" st_gone ["yard", "standing", "walk"]
  d_leads_to : DefF c "leads_to" st_leads_to ["yard", "standing", "walk"]
  d_check_rows : DefF c "check_rows" st_check_rows ["rows"]
  d_check_strength : DefF c "check_strength" st_check_strength ["strength"]
  d_check_yard : DefF c "check_yard" st_check_yard ["yard"]
  d_check_standing : DefF c "check_standing" st_check_standing ["yard", "standing"]
  d_check_both : DefF c "check_both" st_check_both ["yard", "standing"]
  d_check_way : DefF c "check_way" st_check_way ["way"]
  d_check_walk : DefF c "check_walk" st_check_walk ["walk"]
  d_check_going : DefF c "check_going" st_check_going ["yard", "standing", "walk"]
  d_step : DefF c "step" st_step ["yard", "standing", "way"]
  d_goes : DefF c "goes" st_goes ["yard", "standing", "walk"]
  d_pushes_of : DefF c "pushes_of" st_pushes_of ["yard", "standing", "walk"]
  d_first_wrong : DefF c "first_wrong" st_first_wrong ["yard", "standing", "walk"]
  d__law_bowl : DefF c "_law_bowl" st__law_bowl ["script", "lap"]
  d__law_of : DefF c "_law_of" st__law_of ["bowl", "some"]
  d__law_same : DefF c "_law_same" st__law_same ["told", "due"]
  d__law_rows : DefF c "_law_rows" st__law_rows ["bowl", "most", "marks"]
  d__law_grid : DefF c "_law_grid" st__law_grid ["high", "wide"]
  d__law_signs : DefF c "_law_signs" st__law_signs ["yard", "signs"]
  d__law_floor : DefF c "_law_floor" st__law_floor ["yard"]
  d__law_marks : DefF c "_law_marks" st__law_marks ["yard"]
  d__law_beyond : DefF c "_law_beyond" st__law_beyond ["cell", "way"]
  d__law_move : DefF c "_law_move" st__law_move ["yard", "standing", "way"]
  d__law_standing : DefF c "_law_standing" st__law_standing ["bowl", "yard"]
  d__law_walk : DefF c "_law_walk" st__law_walk ["bowl", "yard", "standing", "most"]
  d__law_right : DefF c "_law_right" st__law_right ["bowl"]
  d_law : DefF c "law" st_law ["script"]
  d__law_draw : DefF c "_law_draw" st__law_draw ["bowl", "many"]
  c_Yard___init__ : ClsF c "Yard" "Yard.__init__" st_Yard___init__ ["self", "rows", "strength"]
  e_Yard___eq__ : EqF c "Yard" "Yard.__eq__" st_Yard___eq__ ["self", "other"]
  g_WALL : GlOne c "WALL" (.str "#")
  g_FLOOR : GlOne c "FLOOR" (.str ".")
  g_MARK : GlOne c "MARK" (.str "x")
  g_SIGNS : GlOne c "SIGNS" (.tup [(.str "#"), (.str "."), (.str "x")])
  g_LEAST_ROWS : GlOne c "LEAST_ROWS" (.int 1)
  g_MOST_ROWS : GlOne c "MOST_ROWS" (.int 6)
  g_LEAST_SIGNS : GlOne c "LEAST_SIGNS" (.int 1)
  g_MOST_SIGNS : GlOne c "MOST_SIGNS" (.int 6)
  g_LEAST_FLOOR : GlOne c "LEAST_FLOOR" (.int 2)
  g_MOST_FLOOR : GlOne c "MOST_FLOOR" (.int 14)
  g_LEAST_MARKS : GlOne c "LEAST_MARKS" (.int 1)
  g_MOST_MARKS : GlOne c "MOST_MARKS" (.int 3)
  g_LEAST_STRENGTH : GlOne c "LEAST_STRENGTH" (.int 1)
  g_MOST_STRENGTH : GlOne c "MOST_STRENGTH" (.int 3)
  g_WAYS : GlOne c "WAYS" (.tup [(.str "e"), (.str "n"), (.str "s"), (.str "w")])
  g_MOST_WAYS : GlOne c "MOST_WAYS" (.int 200)
  g_gone : GlOne c "gone" (.fn "gone")
  g_is_row_beside : GlOne c "is_row_beside" (.fn "is_row_beside")
  k_AWAY : ∃ a, c.mg "AWAY" = some (.ref a) ∧ ∀ y d, dlook [(.str "e"), (.str "n"), (.str "s"), (.str "w")] [(.tup [(.int 0), (.int 1)]), (.tup [(.int (-1)), (.int 0)]), (.tup [(.int 1), (.int 0)]), (.tup [(.int 0), (.int (-1))])] y = some d → ∃ z v, y = .str z ∧ KDct c.K c.w a z v ∧ ∀ W, Rep c W d v
  b_len : c.mg "len" = none
  b_tuple : c.mg "tuple" = none
  b_list : c.mg "list" = none
  b_sorted : c.mg "sorted" = none
  b_int : c.mg "int" = none
  b_abs : c.mg "abs" = none
  b_all : c.mg "all" = none
  b_any : c.mg "any" = none
  b_sum : c.mg "sum" = none
  b_dict : c.mg "dict" = none
  b_divmod : c.mg "divmod" = none
  b_str : c.mg "str" = none
  b_set : c.mg "set" = none
  b_bool : c.mg "bool" = none
  b_min : c.mg "min" = none
  b_max : c.mg "max" = none
  b_isinstance : c.mg "isinstance" = none
  b_range : c.mg "range" = none
  b_enumerate : c.mg "enumerate" = none
  b_zip : c.mg "zip" = none
  b_reversed : c.mg "reversed" = none
  cls : ClsOk c glo.attrs
  noL : ∀ (a : Addr) (o : Obj), c.K.lookup a = some o → o.cls ≠ .type "list"
theorem Tx.gl {c : Cn} (T : Tx c) : GlOk c glo := glok_of (fun _ => rfl) (fa_cons T.g_WALL
    (fa_cons T.g_FLOOR
    (fa_cons T.g_MARK
    (fa_cons T.g_SIGNS
    (fa_cons T.g_LEAST_ROWS
    (fa_cons T.g_MOST_ROWS
    (fa_cons T.g_LEAST_SIGNS
    (fa_cons T.g_MOST_SIGNS
    (fa_cons T.g_LEAST_FLOOR
    (fa_cons T.g_MOST_FLOOR
    (fa_cons T.g_LEAST_MARKS
    (fa_cons T.g_MOST_MARKS
    (fa_cons T.g_LEAST_STRENGTH
    (fa_cons T.g_MOST_STRENGTH
    (fa_cons T.g_WAYS
    (fa_cons T.g_MOST_WAYS
    (fa_cons T.g_is_row_beside
    (fa_cons T.g_gone
    fa_nil))))))))))))))))))
theorem Tx.dic {c : Cn} (T : Tx c) : DicOk c glo := dicok_of (fun _ => rfl) (fa_cons T.k_AWAY
    fa_nil)
theorem Tx.bl {c : Cn} (T : Tx c) : ∀ x, bltN.contains x = true → c.mg x = none := fun x h => (show ∀ x ∈ bltN, c.mg x = none from (fa_cons T.b_len
    (fa_cons T.b_tuple
    (fa_cons T.b_list
    (fa_cons T.b_sorted
    (fa_cons T.b_int
    (fa_cons T.b_abs
    (fa_cons T.b_all
    (fa_cons T.b_any
    (fa_cons T.b_sum
    (fa_cons T.b_dict
    (fa_cons T.b_divmod
    (fa_cons T.b_str
    (fa_cons T.b_set
    (fa_cons T.b_bool
    (fa_cons T.b_min
    (fa_cons T.b_max
    (fa_cons T.b_isinstance
    (fa_cons T.b_range
    (fa_cons T.b_enumerate
    (fa_cons T.b_zip
    (fa_cons T.b_reversed
    fa_nil)))))))))))))))))))))) x (List.contains_iff_mem.mp h)
theorem sc_is_whole : FnScope N_is_whole ["value"] (C8.fnScope st_is_whole) := C8.fnScope_by (by decide +kernel)
theorem sc_is_between : FnScope N_is_between ["value", "least", "most"] (C8.fnScope st_is_between) := C8.fnScope_by (by decide +kernel)
theorem sc_is_up_to : FnScope N_is_up_to ["value", "most"] (C8.fnScope st_is_up_to) := C8.fnScope_by (by decide +kernel)
theorem sc_is_one_of : FnScope N_is_one_of ["value", "words"] (C8.fnScope st_is_one_of) := C8.fnScope_by (by decide +kernel)
theorem sc_is_tuple_of : FnScope N_is_tuple_of ["value", "many"] (C8.fnScope st_is_tuple_of) := C8.fnScope_by (by decide +kernel)
theorem sc_is_pair : FnScope N_is_pair ["value"] (C8.fnScope st_is_pair) := C8.fnScope_by (by decide +kernel)
theorem sc_are_below : FnScope N_are_below ["ahead", "value"] (C8.fnScope st_are_below) := C8.fnScope_by (by decide +kernel)
theorem sc_wrong_in : FnScope N_wrong_in ["value", "least", "most", "is_right"] (C8.fnScope st_wrong_in) := C8.fnScope_by (by decide +kernel)
theorem sc_are_all : FnScope N_are_all ["value", "least", "most", "is_right"] (C8.fnScope st_are_all) := C8.fnScope_by (by decide +kernel)
theorem sc_is_row : FnScope N_is_row ["value"] (C8.fnScope st_is_row) := C8.fnScope_by (by decide +kernel)
theorem sc_is_row_beside : FnScope N_is_row_beside ["ahead", "value"] (C8.fnScope st_is_row_beside) := C8.fnScope_by (by decide +kernel)
theorem sc_wrong_row : FnScope N_wrong_row ["rows"] (C8.fnScope st_wrong_row) := C8.fnScope_by (by decide +kernel)
theorem sc_cells_with : FnScope N_cells_with ["rows", "signs"] (C8.fnScope st_cells_with) := C8.fnScope_by (by decide +kernel)
theorem sc_are_enough : FnScope N_are_enough ["floor", "marks"] (C8.fnScope st_are_enough) := C8.fnScope_by (by decide +kernel)
theorem sc_around : FnScope N_around ["cell", "way"] (C8.fnScope st_around) := C8.fnScope_by (by decide +kernel)
theorem sc_nexts_of : FnScope N_nexts_of ["floor"] (C8.fnScope st_nexts_of) := C8.fnScope_by (by decide +kernel)
theorem sc_is_cell : FnScope N_is_cell ["yard", "value"] (C8.fnScope st_is_cell) := C8.fnScope_by (by decide +kernel)
theorem sc_are_cells : FnScope N_are_cells ["yard", "value", "least", "most"] (C8.fnScope st_are_cells) := C8.fnScope_by (by decide +kernel)
theorem sc_is_standing : FnScope N_is_standing ["yard", "value"] (C8.fnScope st_is_standing) := C8.fnScope_by (by decide +kernel)
theorem sc_is_way : FnScope N_is_way ["value"] (C8.fnScope st_is_way) := C8.fnScope_by (by decide +kernel)
theorem sc_row_of_boxes : FnScope N_row_of_boxes ["yard", "boxes", "cell", "way"] (C8.fnScope st_row_of_boxes) := C8.fnScope_by (by decide +kernel)
theorem sc_moved : FnScope N_moved ["boxes", "gone", "come"] (C8.fnScope st_moved) := C8.fnScope_by (by decide +kernel)
theorem sc_boxes_pushed : FnScope N_boxes_pushed ["yard", "boxes", "cell", "way"] (C8.fnScope st_boxes_pushed) := C8.fnScope_by (by decide +kernel)
theorem sc_stepped : FnScope N_stepped ["yard", "standing", "way"] (C8.fnScope st_stepped) := C8.fnScope_by (by decide +kernel)
theorem sc_wrong_way : FnScope N_wrong_way ["value"] (C8.fnScope st_wrong_way) := C8.fnScope_by (by decide +kernel)
theorem sc_gone : FnScope N_gone ["yard", "standing", "walk"] (C8.fnScope st_gone) := C8.fnScope_by (by decide +kernel)
theorem sc_leads_to : FnScope N_leads_to ["yard", "standing", "walk"] (C8.fnScope st_leads_to) := C8.fnScope_by (by decide +kernel)
theorem sc_check_rows : FnScope N_check_rows ["rows"] (C8.fnScope st_check_rows) := C8.fnScope_by (by decide +kernel)
theorem sc_check_strength : FnScope N_check_strength ["strength"] (C8.fnScope st_check_strength) := C8.fnScope_by (by decide +kernel)
theorem sc_check_yard : FnScope N_check_yard ["yard"] (C8.fnScope st_check_yard) := C8.fnScope_by (by decide +kernel)
theorem sc_check_standing : FnScope N_check_standing ["yard", "standing"] (C8.fnScope st_check_standing) := C8.fnScope_by (by decide +kernel)
theorem sc_check_both : FnScope N_check_both ["yard", "standing"] (C8.fnScope st_check_both) := C8.fnScope_by (by decide +kernel)
theorem sc_check_way : FnScope N_check_way ["way"] (C8.fnScope st_check_way) := C8.fnScope_by (by decide +kernel)
theorem sc_check_walk : FnScope N_check_walk ["walk"] (C8.fnScope st_check_walk) := C8.fnScope_by (by decide +kernel)
theorem sc_check_going : FnScope N_check_going ["yard", "standing", "walk"] (C8.fnScope st_check_going) := C8.fnScope_by (by decide +kernel)
theorem sc_step : FnScope N_step ["yard", "standing", "way"] (C8.fnScope st_step) := C8.fnScope_by (by decide +kernel)
theorem sc_goes : FnScope N_goes ["yard", "standing", "walk"] (C8.fnScope st_goes) := C8.fnScope_by (by decide +kernel)
theorem sc_pushes_of : FnScope N_pushes_of ["yard", "standing", "walk"] (C8.fnScope st_pushes_of) := C8.fnScope_by (by decide +kernel)
theorem sc_first_wrong : FnScope N_first_wrong ["yard", "standing", "walk"] (C8.fnScope st_first_wrong) := C8.fnScope_by (by decide +kernel)
theorem sc__law_bowl : FnScope N__law_bowl ["script", "lap"] (C8.fnScope st__law_bowl) := C8.fnScope_by (by decide +kernel)
theorem sc__law_of : FnScope N__law_of ["bowl", "some"] (C8.fnScope st__law_of) := C8.fnScope_by (by decide +kernel)
theorem sc__law_same : FnScope N__law_same ["told", "due"] (C8.fnScope st__law_same) := C8.fnScope_by (by decide +kernel)
theorem sc__law_rows : FnScope N__law_rows ["bowl", "most", "marks"] (C8.fnScope st__law_rows) := C8.fnScope_by (by decide +kernel)
theorem sc__law_grid : FnScope N__law_grid ["high", "wide"] (C8.fnScope st__law_grid) := C8.fnScope_by (by decide +kernel)
theorem sc__law_signs : FnScope N__law_signs ["yard", "signs"] (C8.fnScope st__law_signs) := C8.fnScope_by (by decide +kernel)
theorem sc__law_floor : FnScope N__law_floor ["yard"] (C8.fnScope st__law_floor) := C8.fnScope_by (by decide +kernel)
theorem sc__law_marks : FnScope N__law_marks ["yard"] (C8.fnScope st__law_marks) := C8.fnScope_by (by decide +kernel)
theorem sc__law_beyond : FnScope N__law_beyond ["cell", "way"] (C8.fnScope st__law_beyond) := C8.fnScope_by (by decide +kernel)
theorem sc__law_move : FnScope N__law_move ["yard", "standing", "way"] (C8.fnScope st__law_move) := C8.fnScope_by (by decide +kernel)
theorem sc__law_standing : FnScope N__law_standing ["bowl", "yard"] (C8.fnScope st__law_standing) := C8.fnScope_by (by decide +kernel)
theorem sc__law_walk : FnScope N__law_walk ["bowl", "yard", "standing", "most"] (C8.fnScope st__law_walk) := C8.fnScope_by (by decide +kernel)
theorem sc__law_right : FnScope N__law_right ["bowl"] (C8.fnScope st__law_right) := C8.fnScope_by (by decide +kernel)
theorem sc_law : FnScope N_law ["script"] (C8.fnScope st_law) := C8.fnScope_by (by decide +kernel)
theorem sc__law_draw : FnScope N__law_draw ["bowl", "many"] (C8.fnScope st__law_draw) := C8.fnScope_by (by decide +kernel)
theorem sc_Yard___init__ : FnScope N_Yard___init__ ["self", "rows", "strength"] (C8.fnScope st_Yard___init__) := C8.fnScope_by (by decide +kernel)
theorem sc_Yard___eq__ : FnScope N_Yard___eq__ ["self", "other"] (C8.fnScope st_Yard___eq__) := C8.fnScope_by (by decide +kernel)
def lv : Nat → Nat
  | 0 => 1
  | k + 1 => lv k + 2
section
variable {c : Cn} {B : Heap} (T : Tx c) (HT : TabK c B) (M k : Nat)
include T HT
theorem fn0 : ∀ p ∈ sig, C8.Cal c.P c.w c.K c.mg B (lv 0) p.1 (spF c p.2.2 (run gam glo M 0 p.1 []) p.2.1) [] := (fa_cons (c_0 T.d_is_whole)
    (fa_cons (c_0 T.d_is_between)
    (fa_cons (c_0 T.d_is_up_to)
    (fa_cons (c_0 T.d_is_one_of)
    (fa_cons (c_0 T.d_is_tuple_of)
    (fa_cons (c_0 T.d_is_pair)
    (fa_cons (c_0 T.d_are_below)
    (fa_cons (c_0 T.d_wrong_in)
    (fa_cons (c_0 T.d_are_all)
    (fa_cons (c_0 T.d_is_row)
    (fa_cons (c_0 T.d_is_row_beside)
    (fa_cons (c_0 T.d_wrong_row)
    (fa_cons (c_0 T.d_cells_with)
    (fa_cons (c_0 T.d_are_enough)
    (fa_cons (c_0 T.d_around)
    (fa_cons (c_0 T.d_nexts_of)
    (fa_cons (c_0 T.d_is_cell)
    (fa_cons (c_0 T.d_are_cells.f)
    (fa_cons (c_0 T.d_is_standing)
    (fa_cons (c_0 T.d_is_way)
    (fa_cons (c_0 T.d_row_of_boxes)
    (fa_cons (c_0 T.d_moved)
    (fa_cons (c_0 T.d_boxes_pushed)
    (fa_cons (c_0 T.d_stepped)
    (fa_cons (c_0 T.d_wrong_way)
    (fa_cons (c_0 T.d_gone)
    (fa_cons (c_0 T.d_leads_to)
    (fa_cons (c_0 T.d_check_rows)
    (fa_cons (c_0 T.d_check_strength)
    (fa_cons (c_0 T.d_check_yard)
    (fa_cons (c_0 T.d_check_standing)
    (fa_cons (c_0 T.d_check_both)
    (fa_cons (c_0 T.d_check_way)
    (fa_cons (c_0 T.d_check_walk)
    (fa_cons (c_0 T.d_check_going)
    (fa_cons (c_0 T.d_step)
    (fa_cons (c_0 T.d_goes)
    (fa_cons (c_0 T.d_pushes_of)
    (fa_cons (c_0 T.d_first_wrong)
    (fa_cons (c_0 T.d__law_bowl)
    (fa_cons (c_0 T.d__law_of)
    (fa_cons (c_0 T.d__law_same)
    (fa_cons (c_0 T.d__law_rows)
    (fa_cons (c_0 T.d__law_grid)
    (fa_cons (c_0 T.d__law_signs)
    (fa_cons (c_0 T.d__law_floor)
    (fa_cons (c_0 T.d__law_marks)
    (fa_cons (c_0 T.d__law_beyond)
    (fa_cons (c_0 T.d__law_move)
    (fa_cons (c_0 T.d__law_standing)
    (fa_cons (c_0 T.d__law_walk)
    (fa_cons (c_0 T.d__law_right)
    (fa_cons (c_0 T.d_law)
    (fa_cons (c_0 T.d__law_draw)
    fa_nil))))))))))))))))))))))))))))))))))))))))))))))))))))))
theorem lvl0 : Fw c B glo (run gam glo M 0) sig sigc sigk sigf (lv 0) where
  cls := T.cls
  gl := T.gl
  dic := T.dic
  bl := T.bl
  val := val_of (cons := cons) (names := [("gone" : Str), ("is_row_beside" : Str)]) (fun _ => rfl) (by decide +kernel) (fa_cons ⟨true, 3, fn0 T HT M _ (lookup_mem (l := sig) (a := "gone") rfl), fun _ _ s => s.elim⟩
    (fa_cons ⟨false, 2, fn0 T HT M _ (lookup_mem (l := sig) (a := "is_row_beside") rfl), fun _ _ s => s.elim⟩
    fa_nil))
  clo := clo_of (fa_cons ⟨["ahead", "each"], fun _ _ s => s.elim, fun _ _ _ => nok_0⟩
    fa_nil)
  fns := fun f n b h => fn0 T HT M _ (lookup_mem h)
  mks := fun cl n h => (show ∀ p ∈ sigc, MkE c B (run gam glo M 0) (lv 0) p.2 p.1 from (fa_cons (m_0 T.c_Yard___init__)
    fa_nil)) (cl, n) (lookup_mem h)
  eqs := e_0 []
  mkn := fun cl ks n p h => (show ∀ p ∈ sigk, MkK c B (run gam glo M 0) (lv 0) p.2.1 p.1.1 p.1.2 p.2.2 from fa_nil) ((cl, ks), (n, p)) (lookup_mem h)
  fnk := fun f ks n b p h => (show ∀ p ∈ sigf, ∃ φ2 : List D → R (D × List D), CalN c B (lv 0) p.1.1 (spF c p.2.2.1 (fun ds => φ2 ds) p.2.1) p.1.2 p.2.2.2 ∧ (∀ ds : List D, ds.length = p.1.2.length → run gam glo M 0 p.1.1 p.1.2 ds = φ2 (pick .non p.2.2.2 ds)) ∧ p.2.2.2.length = p.2.1 from fa_nil) ((f, ks), (n, b, p)) (lookup_mem h)
variable (H : Fw c B glo (run gam glo M k) sig sigc sigk sigf (lv k))
include H
theorem fnS : ∀ p ∈ sig, C8.Cal c.P c.w c.K c.mg B (lv (k + 1)) p.1 (spF c p.2.2 (run gam glo M (k + 1) p.1 []) p.2.1) [] := (fa_cons (c_s T.d_is_whole rfl sc_is_whole rfl rfl rfl rfl rfl rfl (ok_is_whole H (Nat.le_succ _)))
    (fa_cons (c_s T.d_is_between rfl sc_is_between rfl rfl rfl rfl rfl rfl (ok_is_between H (Nat.le_succ _)))
    (fa_cons (c_s T.d_is_up_to rfl sc_is_up_to rfl rfl rfl rfl rfl rfl (ok_is_up_to H (Nat.le_succ _)))
    (fa_cons (c_s T.d_is_one_of rfl sc_is_one_of rfl rfl rfl rfl rfl rfl (ok_is_one_of H (Nat.le_succ _)))
    (fa_cons (c_s T.d_is_tuple_of rfl sc_is_tuple_of rfl rfl rfl rfl rfl rfl (ok_is_tuple_of H (Nat.le_succ _)))
    (fa_cons (c_s T.d_is_pair rfl sc_is_pair rfl rfl rfl rfl rfl rfl (ok_is_pair H (Nat.le_succ _)))
    (fa_cons (c_s T.d_are_below rfl sc_are_below rfl rfl rfl rfl rfl rfl (ok_are_below H (Nat.le_succ _)))
    (fa_cons (c_s T.d_wrong_in rfl sc_wrong_in rfl rfl rfl rfl rfl rfl (ok_wrong_in H (Nat.le_succ _)))
    (fa_cons (c_s T.d_are_all rfl sc_are_all rfl rfl rfl rfl rfl rfl (ok_are_all H (Nat.le_succ _)))
    (fa_cons (c_s T.d_is_row rfl sc_is_row rfl rfl rfl rfl rfl rfl (ok_is_row H (Nat.le_succ _)))
    (fa_cons (c_s T.d_is_row_beside rfl sc_is_row_beside rfl rfl rfl rfl rfl rfl (ok_is_row_beside H (Nat.le_succ _)))
    (fa_cons (c_s T.d_wrong_row rfl sc_wrong_row rfl rfl rfl rfl rfl rfl (ok_wrong_row H (Nat.le_succ _)))
    (fa_cons (c_s T.d_cells_with rfl sc_cells_with rfl rfl rfl rfl rfl rfl (ok_cells_with H (Nat.le_succ _)))
    (fa_cons (c_s T.d_are_enough rfl sc_are_enough rfl rfl rfl rfl rfl rfl (ok_are_enough H (Nat.le_succ _)))
    (fa_cons (c_s T.d_around rfl sc_around rfl rfl rfl rfl rfl rfl (ok_around H (Nat.le_succ _)))
    (fa_cons (c_s T.d_nexts_of rfl sc_nexts_of rfl rfl rfl rfl rfl rfl (ok_nexts_of H (Nat.le_succ _)))
    (fa_cons (c_s T.d_is_cell rfl sc_is_cell rfl rfl rfl rfl rfl rfl (ok_is_cell H (Nat.le_succ _)))
    (fa_cons (c_sM T.d_are_cells HT tab_m0 rfl sc_are_cells rfl rfl rfl rfl rfl rfl (ok_are_cells H (Nat.le_succ _)))
    (fa_cons (c_s T.d_is_standing rfl sc_is_standing rfl rfl rfl rfl rfl rfl (ok_is_standing H (Nat.le_succ _)))
    (fa_cons (c_s T.d_is_way rfl sc_is_way rfl rfl rfl rfl rfl rfl (ok_is_way H (Nat.le_succ _)))
    (fa_cons (c_s T.d_row_of_boxes rfl sc_row_of_boxes rfl rfl rfl rfl rfl rfl (ok_row_of_boxes H (Nat.le_succ _)))
    (fa_cons (c_s T.d_moved rfl sc_moved rfl rfl rfl rfl rfl rfl (ok_moved H (Nat.le_succ _)))
    (fa_cons (c_s T.d_boxes_pushed rfl sc_boxes_pushed rfl rfl rfl rfl rfl rfl (ok_boxes_pushed H (Nat.le_succ _)))
    (fa_cons (c_s T.d_stepped rfl sc_stepped rfl rfl rfl rfl rfl rfl (ok_stepped H (Nat.le_succ _)))
    (fa_cons (c_s T.d_wrong_way rfl sc_wrong_way rfl rfl rfl rfl rfl rfl (ok_wrong_way H (Nat.le_succ _)))
    (fa_cons (c_s T.d_gone rfl sc_gone rfl rfl rfl rfl rfl rfl (ok_gone H (Nat.le_succ _)))
    (fa_cons (c_s T.d_leads_to rfl sc_leads_to rfl rfl rfl rfl rfl rfl (ok_leads_to H (Nat.le_succ _)))
    (fa_cons (c_s T.d_check_rows rfl sc_check_rows rfl rfl rfl rfl rfl rfl (ok_check_rows H (Nat.le_succ _)))
    (fa_cons (c_s T.d_check_strength rfl sc_check_strength rfl rfl rfl rfl rfl rfl (ok_check_strength H (Nat.le_succ _)))
    (fa_cons (c_s T.d_check_yard rfl sc_check_yard rfl rfl rfl rfl rfl rfl (ok_check_yard H (Nat.le_succ _)))
    (fa_cons (c_s T.d_check_standing rfl sc_check_standing rfl rfl rfl rfl rfl rfl (ok_check_standing H (Nat.le_succ _)))
    (fa_cons (c_s T.d_check_both rfl sc_check_both rfl rfl rfl rfl rfl rfl (ok_check_both H (Nat.le_succ _)))
    (fa_cons (c_s T.d_check_way rfl sc_check_way rfl rfl rfl rfl rfl rfl (ok_check_way H (Nat.le_succ _)))
    (fa_cons (c_s T.d_check_walk rfl sc_check_walk rfl rfl rfl rfl rfl rfl (ok_check_walk H (Nat.le_succ _)))
    (fa_cons (c_s T.d_check_going rfl sc_check_going rfl rfl rfl rfl rfl rfl (ok_check_going H (Nat.le_succ _)))
    (fa_cons (c_s T.d_step rfl sc_step rfl rfl rfl rfl rfl rfl (ok_step H (Nat.le_succ _)))
    (fa_cons (c_s T.d_goes rfl sc_goes rfl rfl rfl rfl rfl rfl (ok_goes H (Nat.le_succ _)))
    (fa_cons (c_s T.d_pushes_of rfl sc_pushes_of rfl rfl rfl rfl rfl rfl (ok_pushes_of H (Nat.le_succ _)))
    (fa_cons (c_s T.d_first_wrong rfl sc_first_wrong rfl rfl rfl rfl rfl rfl (ok_first_wrong H (Nat.le_succ _)))
    (fa_cons (b_s T.d__law_bowl rfl sc__law_bowl rfl rfl rfl rfl rfl rfl (fun Φ l i => bowl_ok Φ M l i) (ok__law_bowl H (Nat.le_succ _)))
    (fa_cons (c_s T.d__law_of rfl sc__law_of rfl rfl rfl rfl rfl rfl (ok__law_of H (Nat.le_succ _)))
    (fa_cons (c_s T.d__law_same rfl sc__law_same rfl rfl rfl rfl rfl rfl (ok__law_same H (Nat.le_succ _)))
    (fa_cons (c_s T.d__law_rows rfl sc__law_rows rfl rfl rfl rfl rfl rfl (ok__law_rows H (Nat.le_succ _)))
    (fa_cons (c_s T.d__law_grid rfl sc__law_grid rfl rfl rfl rfl rfl rfl (ok__law_grid H (Nat.le_succ _)))
    (fa_cons (c_s T.d__law_signs rfl sc__law_signs rfl rfl rfl rfl rfl rfl (ok__law_signs H (Nat.le_succ _)))
    (fa_cons (c_s T.d__law_floor rfl sc__law_floor rfl rfl rfl rfl rfl rfl (ok__law_floor H (Nat.le_succ _)))
    (fa_cons (c_s T.d__law_marks rfl sc__law_marks rfl rfl rfl rfl rfl rfl (ok__law_marks H (Nat.le_succ _)))
    (fa_cons (c_s T.d__law_beyond rfl sc__law_beyond rfl rfl rfl rfl rfl rfl (ok__law_beyond H (Nat.le_succ _)))
    (fa_cons (c_s T.d__law_move rfl sc__law_move rfl rfl rfl rfl rfl rfl (ok__law_move H (Nat.le_succ _)))
    (fa_cons (c_s T.d__law_standing rfl sc__law_standing rfl rfl rfl rfl rfl rfl (ok__law_standing H (Nat.le_succ _)))
    (fa_cons (c_s T.d__law_walk rfl sc__law_walk rfl rfl rfl rfl rfl rfl (ok__law_walk H (Nat.le_succ _)))
    (fa_cons (c_s T.d__law_right rfl sc__law_right rfl rfl rfl rfl rfl rfl (ok__law_right H (Nat.le_succ _)))
    (fa_cons (c_s T.d_law rfl sc_law rfl rfl rfl rfl rfl rfl (ok_law H (Nat.le_succ _)))
    (fa_cons (d_s T.d__law_draw rfl sc__law_draw rfl (ok__law_draw T.bl))
    fa_nil))))))))))))))))))))))))))))))))))))))))))))))))))))))
theorem lvlS : Fw c B glo (run gam glo M (k + 1)) sig sigc sigk sigf (lv (k + 1)) where
  cls := T.cls
  gl := T.gl
  dic := T.dic
  bl := T.bl
  val := val_of (cons := cons) (names := [("gone" : Str), ("is_row_beside" : Str)]) (fun _ => rfl) (by decide +kernel) (fa_cons ⟨true, 3, fnS T HT M k H _ (lookup_mem (l := sig) (a := "gone") rfl), len_s (d := f_gone) rfl rfl rfl rfl⟩
    (fa_cons ⟨false, 2, fnS T HT M k H _ (lookup_mem (l := sig) (a := "is_row_beside") rfl), len_s (d := f_is_row_beside) rfl rfl rfl rfl⟩
    fa_nil))
  clo := clo_of (fa_cons ⟨["ahead", "each"], len_s (d := f_are_cells__locals__is_right) rfl rfl rfl rfl, nok_s (g := "are_cells.<locals>.is_right") (d := f_are_cells__locals__is_right) rfl nsc_are_cells__locals__is_right rfl rfl rfl rfl rfl (fun _ _ _ _ _ us hl => match us, hl with | [_, _], _ => rfl) (ok_are_cells__locals__is_right H (Nat.le_succ _))⟩
    fa_nil)
  fns := fun f n b h => fnS T HT M k H _ (lookup_mem h)
  mks := fun cl n h => (show ∀ p ∈ sigc, MkE c B (run gam glo M (k + 1)) (lv (k + 1)) p.2 p.1 from (fa_cons (m_s T.c_Yard___init__ rfl sc_Yard___init__ rfl rfl rfl rfl rfl rfl rfl rfl (ok_Yard___init__ H (Nat.le_refl _)))
    fa_nil)) (cl, n) (lookup_mem h)
  eqs := eqs_of (tbl := tbl) (names := [("Yard" : Str)]) (fun f ds P s => run_some (tbl := tbl) f ds P s) (by decide +kernel) (fa_cons (e_s T.e_Yard___eq__ rfl sc_Yard___eq__ rfl rfl rfl rfl rfl rfl (ok_Yard___eq__ H (Nat.le_succ _)))
    fa_nil)
  mkn := fun cl ks n p h => (show ∀ p ∈ sigk, MkK c B (run gam glo M (k + 1)) (lv (k + 1)) p.2.1 p.1.1 p.1.2 p.2.2 from fa_nil) ((cl, ks), (n, p)) (lookup_mem h)
  fnk := fun f ks n b p h => (show ∀ p ∈ sigf, ∃ φ2 : List D → R (D × List D), CalN c B (lv (k + 1)) p.1.1 (spF c p.2.2.1 (fun ds => φ2 ds) p.2.1) p.1.2 p.2.2.2 ∧ (∀ ds : List D, ds.length = p.1.2.length → run gam glo M (k + 1) p.1.1 p.1.2 ds = φ2 (pick .non p.2.2.2 ds)) ∧ p.2.2.2.length = p.2.1 from fa_nil) ((f, ks), (n, b, p)) (lookup_mem h)
end
theorem lvl {c : Cn} {B : Heap} (T : Tx c) (HT : TabK c B) (M : Nat) : ∀ k, Fw c B glo (run gam glo M k) sig sigc sigk sigf (lv k)
  | 0 => lvl0 T HT M
  | k + 1 => lvlS T HT M k (lvl T HT M k)
theorem fin {P : Program} {w : World} {K : PySem.W.Frag} {h : Heap} {mg : Str → Option Value} {fa : Addr} (M k : Nat) (X : K.In h) (G : h.Ns mainGlobals mg) (hmg : mg "law" = some (.ref fa)) (law : ∀ ns : List Int, ns.length ≤ 63 → (run gam glo M (k + 1) "law" [] [.lst (ns.map D.int)]).Ev fun r => r.1 = .bl true) (T : Tx ⟨P, w, K, mg⟩) :
    ∃ fd : FuncData, (∀ (s : Shared) (u : Value), BindsTo s fd ⟨[u], []⟩ [("script", u)]) ∧ (∀ p ∈ tabL, ∃ cc, PySem.W.codeHdIn K cc p.1 = true) ∧ ∀ base : Heap, TabK ⟨P, w, K, mg⟩ base → base.Ns mainGlobals mg → FnOk P w K mg base C8.CX0 (lv (k + 1)) fa fd ["script"] (spLaw K) := by
  obtain ⟨f, fd, D, bb, hd⟩ := T.d_law.ex
  have e : mg "law" = some (.ref f) := D.mgf
  rw [hmg] at e; cases e
  refine ⟨fd, ?_, (fa_cons T.d_are_cells.tab     fa_nil), fun base HT _ => ?_⟩
  · obtain ⟨oc, od, dV, kV, doc, pm, an, cdv, ct, osl, rfl, lk, hcd⟩ := D.fn.ex
    have e : dV = .none := hd
    subst e
    exact fun s u => .of_eq rfl
  · have H := lvl (c := ⟨P, w, K, mg⟩) (B := base) T HT M k
    have FF := f_s (c := ⟨P, w, K, mg⟩) (B := base) (G := glo) (Γ := gam) (M := M) (k := k) (j := lv k + 1) (d := f_law) (n := 1) D rfl sc_law rfl rfl rfl rfl rfl rfl (ok_law H (Nat.le_succ _))
    exact law_ok (c := ⟨P, w, K, mg⟩) FF T.noL law
end Pv
open PySem PySem.W PyProof.Rows
set_option maxHeartbeats 0 in
theorem PySem.Challenge.cw_pushyards_k13_walks_of_stronger_hands_holds : PySem.Challenge.rw_pushyards_k13_walks_of_stronger_hands.Holds := by
  w_on; o_law; k_head; (case hw => w_witness2)
  k_fill
  refine Pv.walk (k := Pv.lv (18 + 1)) (l := PySem.Challenge.rw_pushyards_k13_walks_of_stronger_hands) rfl rfl ⟨rfl, by decide, by decide⟩ (fun w h Y => PySem.W.km_in_of Y) (fun w h Y => (Pv.fa_cons (PySem.W.km_tabs_of Y 265 (by simp))     Pv.fa_nil)) (fun w => (Pv.fa_cons (by kernel_rfl)     Pv.fa_nil)) ?F
  case F =>
    intro w mg fa h KX G hmg
    refine Pv.fin 2000 18 KX G hmg Pv.law_true ?T
    case T =>
    constructor
    case d_are_cells => refine' Pv.defM_of KX G ?qa ?ql ?qc ?qk ?qh (fun _ _ _ _ _ _ us hl => match us, hl with | [_, _, _, _], _ => rfl); (case qa => k_is); (case ql => k_is); (case qc => k_is); (case qk => k_is); (case qh => kernel_rfl)
    case d_is_whole => refine' Pv.defF_of KX G ?qa ?ql ?qc ?qk (fun _ _ _ _ _ _ us hl => match us, hl with | [_], _ => rfl); (case qa => k_is); (case ql => k_is); (case qc => k_is); (case qk => k_is)
    case d_is_between => refine' Pv.defF_of KX G ?qa ?ql ?qc ?qk (fun _ _ _ _ _ _ us hl => match us, hl with | [_, _, _], _ => rfl); (case qa => k_is); (case ql => k_is); (case qc => k_is); (case qk => k_is)
    case d_is_up_to => refine' Pv.defF_of KX G ?qa ?ql ?qc ?qk (fun _ _ _ _ _ _ us hl => match us, hl with | [_, _], _ => rfl); (case qa => k_is); (case ql => k_is); (case qc => k_is); (case qk => k_is)
    case d_is_one_of => refine' Pv.defF_of KX G ?qa ?ql ?qc ?qk (fun _ _ _ _ _ _ us hl => match us, hl with | [_, _], _ => rfl); (case qa => k_is); (case ql => k_is); (case qc => k_is); (case qk => k_is)
    case d_is_tuple_of => refine' Pv.defF_of KX G ?qa ?ql ?qc ?qk (fun _ _ _ _ _ _ us hl => match us, hl with | [_, _], _ => rfl); (case qa => k_is); (case ql => k_is); (case qc => k_is); (case qk => k_is)
    case d_is_pair => refine' Pv.defF_of KX G ?qa ?ql ?qc ?qk (fun _ _ _ _ _ _ us hl => match us, hl with | [_], _ => rfl); (case qa => k_is); (case ql => k_is); (case qc => k_is); (case qk => k_is)
    case d_are_below => refine' Pv.defF_of KX G ?qa ?ql ?qc ?qk (fun _ _ _ _ _ _ us hl => match us, hl with | [_, _], _ => rfl); (case qa => k_is); (case ql => k_is); (case qc => k_is); (case qk => k_is)
    case d_wrong_in => refine' Pv.defF_of KX G ?qa ?ql ?qc ?qk (fun _ _ _ _ _ _ us hl => match us, hl with | [_, _, _, _], _ => rfl); (case qa => k_is); (case ql => k_is); (case qc => k_is); (case qk => k_is)
    case d_are_all => refine' Pv.defF_of KX G ?qa ?ql ?qc ?qk (fun _ _ _ _ _ _ us hl => match us, hl with | [_, _, _, _], _ => rfl); (case qa => k_is); (case ql => k_is); (case qc => k_is); (case qk => k_is)
    case d_is_row => refine' Pv.defF_of KX G ?qa ?ql ?qc ?qk (fun _ _ _ _ _ _ us hl => match us, hl with | [_], _ => rfl); (case qa => k_is); (case ql => k_is); (case qc => k_is); (case qk => k_is)
    case d_is_row_beside => refine' Pv.defF_of KX G ?qa ?ql ?qc ?qk (fun _ _ _ _ _ _ us hl => match us, hl with | [_, _], _ => rfl); (case qa => k_is); (case ql => k_is); (case qc => k_is); (case qk => k_is)
    case d_wrong_row => refine' Pv.defF_of KX G ?qa ?ql ?qc ?qk (fun _ _ _ _ _ _ us hl => match us, hl with | [_], _ => rfl); (case qa => k_is); (case ql => k_is); (case qc => k_is); (case qk => k_is)
    case d_cells_with => refine' Pv.defF_of KX G ?qa ?ql ?qc ?qk (fun _ _ _ _ _ _ us hl => match us, hl with | [_, _], _ => rfl); (case qa => k_is); (case ql => k_is); (case qc => k_is); (case qk => k_is)
    case d_are_enough => refine' Pv.defF_of KX G ?qa ?ql ?qc ?qk (fun _ _ _ _ _ _ us hl => match us, hl with | [_, _], _ => rfl); (case qa => k_is); (case ql => k_is); (case qc => k_is); (case qk => k_is)
    case d_around => refine' Pv.defF_of KX G ?qa ?ql ?qc ?qk (fun _ _ _ _ _ _ us hl => match us, hl with | [_, _], _ => rfl); (case qa => k_is); (case ql => k_is); (case qc => k_is); (case qk => k_is)
    case d_nexts_of => refine' Pv.defF_of KX G ?qa ?ql ?qc ?qk (fun _ _ _ _ _ _ us hl => match us, hl with | [_], _ => rfl); (case qa => k_is); (case ql => k_is); (case qc => k_is); (case qk => k_is)
    case d_is_cell => refine' Pv.defF_of KX G ?qa ?ql ?qc ?qk (fun _ _ _ _ _ _ us hl => match us, hl with | [_, _], _ => rfl); (case qa => k_is); (case ql => k_is); (case qc => k_is); (case qk => k_is)
    case d_is_standing => refine' Pv.defF_of KX G ?qa ?ql ?qc ?qk (fun _ _ _ _ _ _ us hl => match us, hl with | [_, _], _ => rfl); (case qa => k_is); (case ql => k_is); (case qc => k_is); (case qk => k_is)
    case d_is_way => refine' Pv.defF_of KX G ?qa ?ql ?qc ?qk (fun _ _ _ _ _ _ us hl => match us, hl with | [_], _ => rfl); (case qa => k_is); (case ql => k_is); (case qc => k_is); (case qk => k_is)
    case d_row_of_boxes => refine' Pv.defF_of KX G ?qa ?ql ?qc ?qk (fun _ _ _ _ _ _ us hl => match us, hl with | [_, _, _, _], _ => rfl); (case qa => k_is); (case ql => k_is); (case qc => k_is); (case qk => k_is)
    case d_moved => refine' Pv.defF_of KX G ?qa ?ql ?qc ?qk (fun _ _ _ _ _ _ us hl => match us, hl with | [_, _, _], _ => rfl); (case qa => k_is); (case ql => k_is); (case qc => k_is); (case qk => k_is)
    case d_boxes_pushed => refine' Pv.defF_of KX G ?qa ?ql ?qc ?qk (fun _ _ _ _ _ _ us hl => match us, hl with | [_, _, _, _], _ => rfl); (case qa => k_is); (case ql => k_is); (case qc => k_is); (case qk => k_is)
    case d_stepped => refine' Pv.defF_of KX G ?qa ?ql ?qc ?qk (fun _ _ _ _ _ _ us hl => match us, hl with | [_, _, _], _ => rfl); (case qa => k_is); (case ql => k_is); (case qc => k_is); (case qk => k_is)
    case d_wrong_way => refine' Pv.defF_of KX G ?qa ?ql ?qc ?qk (fun _ _ _ _ _ _ us hl => match us, hl with | [_], _ => rfl); (case qa => k_is); (case ql => k_is); (case qc => k_is); (case qk => k_is)
    case d_gone => refine' Pv.defF_of KX G ?qa ?ql ?qc ?qk (fun _ _ _ _ _ _ us hl => match us, hl with | [_, _, _], _ => rfl); (case qa => k_is); (case ql => k_is); (case qc => k_is); (case qk => k_is)
    case d_leads_to => refine' Pv.defF_of KX G ?qa ?ql ?qc ?qk (fun _ _ _ _ _ _ us hl => match us, hl with | [_, _, _], _ => rfl); (case qa => k_is); (case ql => k_is); (case qc => k_is); (case qk => k_is)
    case d_check_rows => refine' Pv.defF_of KX G ?qa ?ql ?qc ?qk (fun _ _ _ _ _ _ us hl => match us, hl with | [_], _ => rfl); (case qa => k_is); (case ql => k_is); (case qc => k_is); (case qk => k_is)
    case d_check_strength => refine' Pv.defF_of KX G ?qa ?ql ?qc ?qk (fun _ _ _ _ _ _ us hl => match us, hl with | [_], _ => rfl); (case qa => k_is); (case ql => k_is); (case qc => k_is); (case qk => k_is)
    case d_check_yard => refine' Pv.defF_of KX G ?qa ?ql ?qc ?qk (fun _ _ _ _ _ _ us hl => match us, hl with | [_], _ => rfl); (case qa => k_is); (case ql => k_is); (case qc => k_is); (case qk => k_is)
    case d_check_standing => refine' Pv.defF_of KX G ?qa ?ql ?qc ?qk (fun _ _ _ _ _ _ us hl => match us, hl with | [_, _], _ => rfl); (case qa => k_is); (case ql => k_is); (case qc => k_is); (case qk => k_is)
    case d_check_both => refine' Pv.defF_of KX G ?qa ?ql ?qc ?qk (fun _ _ _ _ _ _ us hl => match us, hl with | [_, _], _ => rfl); (case qa => k_is); (case ql => k_is); (case qc => k_is); (case qk => k_is)
    case d_check_way => refine' Pv.defF_of KX G ?qa ?ql ?qc ?qk (fun _ _ _ _ _ _ us hl => match us, hl with | [_], _ => rfl); (case qa => k_is); (case ql => k_is); (case qc => k_is); (case qk => k_is)
    case d_check_walk => refine' Pv.defF_of KX G ?qa ?ql ?qc ?qk (fun _ _ _ _ _ _ us hl => match us, hl with | [_], _ => rfl); (case qa => k_is); (case ql => k_is); (case qc => k_is); (case qk => k_is)
    case d_check_going => refine' Pv.defF_of KX G ?qa ?ql ?qc ?qk (fun _ _ _ _ _ _ us hl => match us, hl with | [_, _, _], _ => rfl); (case qa => k_is); (case ql => k_is); (case qc => k_is); (case qk => k_is)
    case d_step => refine' Pv.defF_of KX G ?qa ?ql ?qc ?qk (fun _ _ _ _ _ _ us hl => match us, hl with | [_, _, _], _ => rfl); (case qa => k_is); (case ql => k_is); (case qc => k_is); (case qk => k_is)
    case d_goes => refine' Pv.defF_of KX G ?qa ?ql ?qc ?qk (fun _ _ _ _ _ _ us hl => match us, hl with | [_, _, _], _ => rfl); (case qa => k_is); (case ql => k_is); (case qc => k_is); (case qk => k_is)
    case d_pushes_of => refine' Pv.defF_of KX G ?qa ?ql ?qc ?qk (fun _ _ _ _ _ _ us hl => match us, hl with | [_, _, _], _ => rfl); (case qa => k_is); (case ql => k_is); (case qc => k_is); (case qk => k_is)
    case d_first_wrong => refine' Pv.defF_of KX G ?qa ?ql ?qc ?qk (fun _ _ _ _ _ _ us hl => match us, hl with | [_, _, _], _ => rfl); (case qa => k_is); (case ql => k_is); (case qc => k_is); (case qk => k_is)
    case d__law_bowl => refine' Pv.defF_of KX G ?qa ?ql ?qc ?qk (fun _ _ _ _ _ _ us hl => match us, hl with | [_, _], _ => rfl); (case qa => k_is); (case ql => k_is); (case qc => k_is); (case qk => k_is)
    case d__law_of => refine' Pv.defF_of KX G ?qa ?ql ?qc ?qk (fun _ _ _ _ _ _ us hl => match us, hl with | [_, _], _ => rfl); (case qa => k_is); (case ql => k_is); (case qc => k_is); (case qk => k_is)
    case d__law_same => refine' Pv.defF_of KX G ?qa ?ql ?qc ?qk (fun _ _ _ _ _ _ us hl => match us, hl with | [_, _], _ => rfl); (case qa => k_is); (case ql => k_is); (case qc => k_is); (case qk => k_is)
    case d__law_rows => refine' Pv.defF_of KX G ?qa ?ql ?qc ?qk (fun _ _ _ _ _ _ us hl => match us, hl with | [_, _, _], _ => rfl); (case qa => k_is); (case ql => k_is); (case qc => k_is); (case qk => k_is)
    case d__law_grid => refine' Pv.defF_of KX G ?qa ?ql ?qc ?qk (fun _ _ _ _ _ _ us hl => match us, hl with | [_, _], _ => rfl); (case qa => k_is); (case ql => k_is); (case qc => k_is); (case qk => k_is)
    case d__law_signs => refine' Pv.defF_of KX G ?qa ?ql ?qc ?qk (fun _ _ _ _ _ _ us hl => match us, hl with | [_, _], _ => rfl); (case qa => k_is); (case ql => k_is); (case qc => k_is); (case qk => k_is)
    case d__law_floor => refine' Pv.defF_of KX G ?qa ?ql ?qc ?qk (fun _ _ _ _ _ _ us hl => match us, hl with | [_], _ => rfl); (case qa => k_is); (case ql => k_is); (case qc => k_is); (case qk => k_is)
    case d__law_marks => refine' Pv.defF_of KX G ?qa ?ql ?qc ?qk (fun _ _ _ _ _ _ us hl => match us, hl with | [_], _ => rfl); (case qa => k_is); (case ql => k_is); (case qc => k_is); (case qk => k_is)
    case d__law_beyond => refine' Pv.defF_of KX G ?qa ?ql ?qc ?qk (fun _ _ _ _ _ _ us hl => match us, hl with | [_, _], _ => rfl); (case qa => k_is); (case ql => k_is); (case qc => k_is); (case qk => k_is)
    case d__law_move => refine' Pv.defF_of KX G ?qa ?ql ?qc ?qk (fun _ _ _ _ _ _ us hl => match us, hl with | [_, _, _], _ => rfl); (case qa => k_is); (case ql => k_is); (case qc => k_is); (case qk => k_is)
    case d__law_standing => refine' Pv.defF_of KX G ?qa ?ql ?qc ?qk (fun _ _ _ _ _ _ us hl => match us, hl with | [_, _], _ => rfl); (case qa => k_is); (case ql => k_is); (case qc => k_is); (case qk => k_is)
    case d__law_walk => refine' Pv.defF_of KX G ?qa ?ql ?qc ?qk (fun _ _ _ _ _ _ us hl => match us, hl with | [_, _, _, _], _ => rfl); (case qa => k_is); (case ql => k_is); (case qc => k_is); (case qk => k_is)
    case d__law_right => refine' Pv.defF_of KX G ?qa ?ql ?qc ?qk (fun _ _ _ _ _ _ us hl => match us, hl with | [_], _ => rfl); (case qa => k_is); (case ql => k_is); (case qc => k_is); (case qk => k_is)
    case d_law => refine' Pv.defF_of KX G ?qa ?ql ?qc ?qk (fun _ _ _ _ _ _ us hl => match us, hl with | [_], _ => rfl); (case qa => k_is); (case ql => k_is); (case qc => k_is); (case qk => k_is)
    case d__law_draw => refine' Pv.defF_of KX G ?qa ?ql ?qc ?qk (fun _ _ _ _ _ _ us hl => match us, hl with | [_, _], _ => rfl); (case qa => k_is); (case ql => k_is); (case qc => k_is); (case qk => k_is)
    case c_Yard___init__ => refine' Pv.clsF_of KX G ?qa ?qb ?qi ?ql ?qc ?qm ?qk (fun _ _ _ _ _ _ us hl => match us, hl with | [_, _, _], _ => rfl); (case qa => k_is); (case qb => k_is); (case qi => k_is); (case ql => k_is); (case qc => k_is); (case qm => k_is); (case qk => k_is)
    case e_Yard___eq__ => refine' Pv.eqF_of KX G ?qa ?qb ?qi ?ql ?qc (fun _ _ _ _ _ _ us hl => match us, hl with | [_, _], _ => rfl); (case qa => k_is); (case qb => k_is); (case qi => k_is); (case ql => k_is); (case qc => k_is)
    case g_WALL => refine' Pv.glo_str KX G ?qa rfl; (case qa => k_is)
    case g_FLOOR => refine' Pv.glo_str KX G ?qa rfl; (case qa => k_is)
    case g_MARK => refine' Pv.glo_str KX G ?qa rfl; (case qa => k_is)
    case g_SIGNS => refine' Pv.glo_k KX G ?qa (Pv.kv_tup (its := [(.str _ _), (.str _ _), (.str _ _)]) ?qt1 ?qt1c ?qt1d (Pv.kvs_cons (.str _ _ rfl) (Pv.kvs_cons (.str _ _ rfl) (Pv.kvs_cons (.str _ _ rfl) Pv.kvs_nil))) ?qt1z) (fun z => nomatch z); (case qa => k_is); (case qt1 => k_is); (case qt1c => exact rfl); (case qt1d => exact rfl); (case qt1z => exact rfl)
    case g_LEAST_ROWS => refine' Pv.glo_int KX G ?qa; (case qa => k_is)
    case g_MOST_ROWS => refine' Pv.glo_int KX G ?qa; (case qa => k_is)
    case g_LEAST_SIGNS => refine' Pv.glo_int KX G ?qa; (case qa => k_is)
    case g_MOST_SIGNS => refine' Pv.glo_int KX G ?qa; (case qa => k_is)
    case g_LEAST_FLOOR => refine' Pv.glo_int KX G ?qa; (case qa => k_is)
    case g_MOST_FLOOR => refine' Pv.glo_int KX G ?qa; (case qa => k_is)
    case g_LEAST_MARKS => refine' Pv.glo_int KX G ?qa; (case qa => k_is)
    case g_MOST_MARKS => refine' Pv.glo_int KX G ?qa; (case qa => k_is)
    case g_LEAST_STRENGTH => refine' Pv.glo_int KX G ?qa; (case qa => k_is)
    case g_MOST_STRENGTH => refine' Pv.glo_int KX G ?qa; (case qa => k_is)
    case g_WAYS => refine' Pv.glo_k KX G ?qa (Pv.kv_tup (its := [(.str _ _), (.str _ _), (.str _ _), (.str _ _)]) ?qt1 ?qt1c ?qt1d (Pv.kvs_cons (.str _ _ rfl) (Pv.kvs_cons (.str _ _ rfl) (Pv.kvs_cons (.str _ _ rfl) (Pv.kvs_cons (.str _ _ rfl) Pv.kvs_nil)))) ?qt1z) (fun z => nomatch z); (case qa => k_is); (case qt1 => k_is); (case qt1c => exact rfl); (case qt1d => exact rfl); (case qt1z => exact rfl)
    case g_MOST_WAYS => refine' Pv.glo_int KX G ?qa; (case qa => k_is)
    case g_gone => refine' Pv.glo_fn KX G ?qa; (case qa => k_is)
    case g_is_row_beside => refine' Pv.glo_fn KX G ?qa; (case qa => k_is)
    case k_AWAY => refine' Pv.dic_of KX G ?qa ?ql ?qk (Pv.dent_cons ?qd1 (Pv.kv_tup (its := [(.int _ _), (.int _ _)]) ?qt2 ?qt2c ?qt2d (Pv.kvs_cons (.int _ _) (Pv.kvs_cons (.int _ _) Pv.kvs_nil)) ?qt2z) (Pv.dent_cons ?qd3 (Pv.kv_tup (its := [(.int _ _), (.int _ _)]) ?qt4 ?qt4c ?qt4d (Pv.kvs_cons (.int _ _) (Pv.kvs_cons (.int _ _) Pv.kvs_nil)) ?qt4z) (Pv.dent_cons ?qd5 (Pv.kv_tup (its := [(.int _ _), (.int _ _)]) ?qt6 ?qt6c ?qt6d (Pv.kvs_cons (.int _ _) (Pv.kvs_cons (.int _ _) Pv.kvs_nil)) ?qt6z) (Pv.dent_cons ?qd7 (Pv.kv_tup (its := [(.int _ _), (.int _ _)]) ?qt8 ?qt8c ?qt8d (Pv.kvs_cons (.int _ _) (Pv.kvs_cons (.int _ _) Pv.kvs_nil)) ?qt8z) Pv.dent_nil)))); (case qa => k_is); (case ql => k_is); (case qk => exact ⟨⟨_, _, rfl, rfl⟩, ⟨_, _, rfl, rfl⟩, ⟨_, _, rfl, rfl⟩, ⟨_, _, rfl, rfl⟩, trivial⟩); (case qd1 => k_is); (case qt2 => k_is); (case qt2c => exact rfl); (case qt2d => exact rfl); (case qt2z => exact rfl); (case qd3 => k_is); (case qt4 => k_is); (case qt4c => exact rfl); (case qt4d => exact rfl); (case qt4z => exact rfl); (case qd5 => k_is); (case qt6 => k_is); (case qt6c => exact rfl); (case qt6d => exact rfl); (case qt6z => exact rfl); (case qd7 => k_is); (case qt8 => k_is); (case qt8c => exact rfl); (case qt8d => exact rfl); (case qt8z => exact rfl)
    case b_len => refine' PySem.W.mg_none_of KX G ?qa; (case qa => k_is)
    case b_tuple => refine' PySem.W.mg_none_of KX G ?qa; (case qa => k_is)
    case b_list => refine' PySem.W.mg_none_of KX G ?qa; (case qa => k_is)
    case b_sorted => refine' PySem.W.mg_none_of KX G ?qa; (case qa => k_is)
    case b_int => refine' PySem.W.mg_none_of KX G ?qa; (case qa => k_is)
    case b_abs => refine' PySem.W.mg_none_of KX G ?qa; (case qa => k_is)
    case b_all => refine' PySem.W.mg_none_of KX G ?qa; (case qa => k_is)
    case b_any => refine' PySem.W.mg_none_of KX G ?qa; (case qa => k_is)
    case b_sum => refine' PySem.W.mg_none_of KX G ?qa; (case qa => k_is)
    case b_dict => refine' PySem.W.mg_none_of KX G ?qa; (case qa => k_is)
    case b_divmod => refine' PySem.W.mg_none_of KX G ?qa; (case qa => k_is)
    case b_str => refine' PySem.W.mg_none_of KX G ?qa; (case qa => k_is)
    case b_set => refine' PySem.W.mg_none_of KX G ?qa; (case qa => k_is)
    case b_bool => refine' PySem.W.mg_none_of KX G ?qa; (case qa => k_is)
    case b_min => refine' PySem.W.mg_none_of KX G ?qa; (case qa => k_is)
    case b_max => refine' PySem.W.mg_none_of KX G ?qa; (case qa => k_is)
    case b_isinstance => refine' PySem.W.mg_none_of KX G ?qa; (case qa => k_is)
    case b_range => refine' PySem.W.mg_none_of KX G ?qa; (case qa => k_is)
    case b_enumerate => refine' PySem.W.mg_none_of KX G ?qa; (case qa => k_is)
    case b_zip => refine' PySem.W.mg_none_of KX G ?qa; (case qa => k_is)
    case b_reversed => refine' PySem.W.mg_none_of KX G ?qa; (case qa => k_is)
    case cls =>
      refine' Pv.cls_1 (cl := "Yard") (as := ["rows", "strength", "parts", "floor", "marks", "nexts"]) (fun cl x h => Pv.attr_1 cl x h) (Pv.clsG_of KX G ?qa ?qc1 ?qc2 ?qc3 ?qc4 ?qi1 ?qi2 ?qi3 ?qi4 ?qi5 ?qt ?qf ?qn)
      (case qa => k_is); (case qc1 => k_is); (case qc2 => k_is); (case qc3 => k_is); (case qc4 => k_is); (case qi1 => k_is); (case qi2 => k_is); (case qi3 => k_is); (case qi4 => k_is); (case qi5 => kernel_rfl)
      case qt => refine Pv.fa_cons ?_ (Pv.fa_cons ?_ (Pv.fa_cons ?_ (Pv.fa_cons ?_ (Pv.fa_cons ?_ (Pv.fa_cons ?_ Pv.fa_nil))))) <;> kernel_rfl
      case qf => refine Pv.fa_cons ?_ (Pv.fa_cons ?_ (Pv.fa_cons ?_ (Pv.fa_cons ?_ (Pv.fa_cons ?_ (Pv.fa_cons ?_ (Pv.fa_cons ?_ Pv.fa_nil)))))) <;> kernel_rfl
      case qn => refine (Pv.fa_cons ?_ (Pv.fa_cons ?_ (Pv.fa_cons ?_ (Pv.fa_cons ?_ (Pv.fa_cons ?_ (Pv.fa_cons ?_ Pv.fa_nil)))))) <;> k_is
    case noL => exact Pv.noL_of (by kernel_rfl)

